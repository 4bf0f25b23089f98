import PyProof.Rows.All
import Wide.All
import OpenK.AllK
import Wide.FinOn
import PyProof.ListNew
import PyProof.ListStr
import PySem.Challenge.RW_on0261_01
open PySem PySem.W PyProof.Rows
set_option Elab.async false
set_option maxRecDepth 100000
set_option maxHeartbeats 8000000
set_option linter.unusedVariables false
section
open PySem.Calls
namespace Mine
noncomputable def holder : Code → Bool
  | .builtin id _ => Builtin.Bytes.decodersThatHold.contains id || ["bytearray.__contains__", "bytearray.__mod__", "bytearray.__rmod__", "_struct.pack_into.held", "bytearray.find.held"].contains id
  | _ => false
noncomputable def Clean (Γ : PySem.Ctx) : Prop := holder Γ.code = false ∧ ∀ x ∈ Γ.below, holder x.1 = false
theorem Clean.enter {Γ : PySem.Ctx} (h : Clean Γ) {c : Code} (hc : holder c = false) (hd : Option Value) (p : Pos) : Clean (Γ.enter c hd p) :=
  ⟨hc, fun x hx => by rcases List.mem_cons.mp hx with rfl | hx <;> first | exact h.1 | exact h.2 x hx⟩
theorem Clean.goto {Γ : PySem.Ctx} (h : Clean Γ) {c : Code} (hc : holder c = false) : Clean (Γ.goto c) := ⟨hc, h.2⟩
noncomputable def wpC {α : Type} (M : Model) (A : Around) (t : Sem α) (Q : α → Shared → Prop) (E : Value → Shared → Prop) (s : Shared) : Prop :=
  ∀ Γ p, Γ.In A → Clean Γ → Sem.wp M Γ t (fun a _ s' => Q a s') (fun e _ s' => E e s') p s
noncomputable def codeC (M : Model) (A : Around) (c : Code) (R : Result → Shared → Prop) (s : Shared) : Prop :=
  ∀ Γ p, Γ.code = c → Γ.Below A → Clean Γ → wpCode M Γ R p s
section
variable {α β : Type} {M : Model} {A : Around} {E : Value → Shared → Prop} {s : Shared}
theorem wpC_of_any {t : Sem α} {Q : α → Shared → Prop} (h : wpAny M A t Q E s) : wpC M A t Q E s := fun Γ p hΓ _ => h Γ p hΓ
theorem wpC_mono {t : Sem α} {Q Q' : α → Shared → Prop} {E' : Value → Shared → Prop} (h : wpC M A t Q E s) (hQ : ∀ a s, Q a s → Q' a s) (hE : ∀ e s, E e s → E' e s) : wpC M A t Q' E' s :=
  fun Γ p hΓ hc => Sem.wp_mono M Γ t (fun a _ s' h' => hQ a s' h') (fun e _ s' h' => hE e s' h') p s (h Γ p hΓ hc)
theorem wpC_bind {m : Sem α} {f : α → Sem β} {Q : β → Shared → Prop} (h : wpC M A m (fun a s' => wpC M A (f a) Q E s') E s) : wpC M A (m >>= f) Q E s := fun Γ p hΓ hc => by
  rw [Sem.wp_bind']
  exact Sem.wp_mono M Γ m (fun a p' s' h' => h' Γ p' hΓ hc) (fun _ _ _ h' => h') p s (h Γ p hΓ hc)
theorem wpC_pure {a : α} {Q : α → Shared → Prop} (h : Q a s) : wpC M A (pure a) Q E s := fun _ _ _ _ => h
theorem wpC_eq {t t' : Sem α} {Q : α → Shared → Prop} (e : t = t') (h : wpC M A t' Q E s) : wpC M A t Q E s := e ▸ h
theorem codeC_of_any {c : Code} {R : Result → Shared → Prop} (h : codeAny M A c R s) : codeC M A c R s := fun Γ p hc hΓ _ => h Γ p hc hΓ
theorem codeC_mono {c : Code} {R R' : Result → Shared → Prop} (h : codeC M A c R s) (hR : ∀ r s, R r s → R' r s) : codeC M A c R' s :=
  fun Γ p hc hΓ hl => wpCode_mono hR (h Γ p hc hΓ hl)
theorem codeC_of_tree {c : Code} {R : Result → Shared → Prop}
    (h : wpC M (A.under c) (M.den c) (fun fin s' => match fin with | .done f => R (.ok f) s' | .again c' => c'.quiet = true ∧ holder c' = false ∧ codeC M A c' R s')
      (fun e s' => R (.error e) s') s) : codeC M A c R s := fun Γ p hc hΓ hl => by
  rw [wpCode_iff_wp, hc]
  refine Sem.wp_mono M Γ _ (fun fin p' s' h' => ?_) (fun _ _ _ h' => h') p s (h Γ p (hc ▸ hΓ.in) hl)
  cases fin with
  | done f => exact h'
  | again c' => exact ⟨h'.1, h'.2.2 (Γ.goto c') p' rfl (hΓ.goto c') (hl.goto h'.2.1)⟩
theorem wpC_runValue {c : Code} {Q : Value → Shared → Prop} (hn : holder c = false)
    (hc : codeC M A c (fun r s' => match r with | .ok (.ret v) => Q v s' | .ok _ => False | .error e => E e s') s) :
    wpC M A (runValue c) Q E s := fun Γ p hΓ hl => by rw [Sem.wp_runValue]; exact hc _ p rfl (hΓ.enter c none p (by intro x; cases x)) (hl.enter hn none p)
theorem wpC_call {f : Value} {pos : List Value} {kw : List (PySem.Str × Value)} {Q : Value → Shared → Prop}
    (hc : codeC M A (.call f ⟨pos, kw⟩) (fun r s' => match r with | .ok (.ret v) => Q v s' | .ok _ => False | .error e => E e s') s) :
    wpC M A (call f pos kw) Q E s := wpC_runValue rfl hc
theorem wpC_execs_cons {st : Stmt} {rest : List Stmt} {env : Env} {Q : Flow → Shared → Prop}
    (h : wpC M A (exec st env) (fun f s' => match f with | .next => wpC M A (execs rest env) Q E s' | f => Q f s') E s) : wpC M A (execs (st :: rest) env) Q E s := fun Γ p hΓ hl => by
  rw [execs_cons, Sem.wp_bind']
  refine Sem.wp_mono M Γ _ (fun f p' s' h' => ?_) (fun _ _ _ h' => h') _ _ (h Γ p hΓ hl)
  cases f <;> first | exact h' Γ p' hΓ hl | exact h'
end
noncomputable def ctx0 : PySem.Ctx := ⟨.builtin "claim.caller" {}, none, none, [], none⟩
theorem clean0 : Clean ctx0 := ⟨by decide +kernel, fun _ h => nomatch h⟩
theorem done_C {M : Model} {t : Sem Fin} {R : Result → Shared → Prop} {s : Shared} (h : wpC M callerA t (fun fin s' => ∃ f, fin = .done f ∧ R (.ok f) s') (fun e s' => R (.error e) s') s) :
    Sem.wp M ctx0 t (Sem.finPost M ctx0 R) (fun e _ s' => R (.error e) s') default s :=
  Sem.wp_mono M ctx0 t (fun fin p' s' h' => by obtain ⟨f, rfl, hf⟩ := h'; exact hf) (fun _ _ _ h' => h') default s (h ctx0 default caller_in clean0)
noncomputable abbrev WalkC (q : Program) (loose : List Str) (XP : (Str → Option Value) → Heap → Prop) (YP : World → Heap → Prop) (r : RowW) (d : DefRec) (kwd : List (Str × Expr)) : Prop :=
  ∀ (w : World) (s₀ s₁ : Shared) (mg mb : Str → Option Value), Ground q loose r.records XP w s₀ mg mb s₁.heap → YP w s₁.heap → ∀ (a : Addr) (o : Obj) (pm cd doc dV kV : Value), s₁.heap.get? a = some o →
    o.data = .func { docDef d.name d.params d.body d.scope pm cd doc with defaults := dV, kwdefaults := kV } → s₁.heap.CodeRec cd d.name → Dflts mg s₁.heap d.params kwd dV kV → mg d.name = some (.ref a) → s₁.gens = #[] →
    ∀ (args : List WData) (vals : List Value) (as : List Addr), r.claim.pre args = true → WData.layableAll args = true → ReadsAllW r.records (classAt s₀.heap) s₁.heap vals args as → WellAll w.params s₁.heap vals args → (∀ a ∈ as, (a == sysModules) = false) →
      wpC (model r.prog w) callerA (PySem.call (.ref a) vals) (fun v s' => GoodWG r.claim (classAt s₀.heap) (ExcName.means s₀.heap) args s₁ (.ok (.ret v)) s')
        (fun e s' => GoodWG r.claim (classAt s₀.heap) (ExcName.means s₀.heap) args s₁ (.error e) s') s₁
theorem PySem.W.holds_open {r : OpenRow} {q : Program} {loose : List Str} {Xt : Shared → Bool} {XP : (Str → Option Value) → Heap → Prop} {α : Type} {Yf : Shared → α} {Ya : World → α} {YP : World → Heap → Prop} {d : DefRec} {kwd : List (Str × Expr)} {N : Nat}
    (left : LeftO r.prog q loose Xt Yf Ya N) (hY : ∀ w s, Yf s = Ya w → YP w s.heap) (hYk : ∀ w h h', YP w h → (∀ b o, h.get? b = some o → h'.get? b = some o) → YP w h')
    (hX : ∀ s, Xt s = true → XP (s.heap.nsMap mainGlobals) s.heap) (hXk : ∀ mg h h', XP mg h → (∀ b o, h.get? b = some o → h'.get? b = some o) → XP mg h')
    (hdef : defOf q r.name = some (d, kwd)) (hp : r.prog.theDef r.name = some (d.params, d.body, d.scope)) (hk : kwWritten? d.params.kwonlyargs d.params.kw_defaults = some kwd) (hRf : ∀ s, Xt s = true → RecFacts r.records s.heap) (hwr : (!r.writes || r.records.isEmpty) = true)
    (k1 : r.wellSaid = true) (ok : (chainsOk q && opensWell r.prog && (frees r.toRowW && r.within.isEmpty)) = true) (hb : r.prog.bare) (hw : r.toRowW.promised)
    (call : WalkC q loose XP YP r.toRowW d kwd) : r.Holds := by
  have ok1 := (Bool.and_eq_true_iff.mp ok).1
  have ok2 := (Bool.and_eq_true_iff.mp ok).2
  have hch := (Bool.and_eq_true_iff.mp ok1).1
  obtain ⟨hsame, hu, ha, hap, hm⟩ := frees_parts (Bool.and_eq_true_iff.mp ok2).1
  have hwi : r.toRowW.claim.within = [] := List.isEmpty_iff.mp (Bool.and_eq_true_iff.mp ok2).2
  refine ⟨k1, hw, ⟨hb, (Bool.and_eq_true_iff.mp ok1).2, by show r.makers.map _ = []; rw [hm]; rfl⟩, hw.witness, fun w => ⟨(left.behind hX hch w).1, fun s' hs' => ?_⟩⟩
  refine Classical.byContradiction fun hno => ?_
  obtain ⟨s₀, hf, hg0, s, hT, hz, hgens, hg, G00, y⟩ := (left.behind (XP := fun mg h => XP mg h ∧ RecFacts r.records h) (fun s hs => ⟨hX s hs, hRf s hs⟩) hch w).2 s' hs'
  have G0 : Ground q loose [] XP w s (s.heap.nsMap mainGlobals) (s.heap.nsMap builtinsNs) s.heap := ⟨G00.T, G00.B, G00.D, G00.TE, G00.TD, G00.W, G00.X.1, G00.cls, G00.has, G00.apart, G00.once, G00.K⟩
  refine hno ⟨s₀, hf, hg0, s, hT, fun n hn => ?_, G00.X.2.1, G00.X.2.2.1, fun args hpre hlay ord hord => ?_⟩
  · obtain rfl : n = r.name := by split at hn <;> simp_all
    exact pinned_of_view hg G0 hdef hp hk
  · refine Classical.byContradiction fun hno2 => ?_
    have hgens : s.gens = #[] := Array.eq_empty_of_size_eq_zero (beq_iff_eq.mp hgens)
    have G : Ground q loose r.records XP w s _ _ s.heap := G00.X.2.ground G0
    obtain ⟨⟨vs, s₁⟩, hlaid⟩ := Option.isSome_iff_exists.mp (layAllW_isSome (P := w.params) (ord := ord) G.has args r.args s (pre_splitW hpre).1)
    have keeps := layAllW_keeps _ _ _ hlaid
    have hal := layAllW_rest _ _ _ hlaid
    obtain ⟨as, hrd, hin, hold⟩ := reads_layAllW hord _ _ _ hlaid hlay s₁.heap (fun _ _ e => e)
    have L : Laid r.records w s s₁ args vs as := ⟨⟨ord, hord, hlaid⟩, hrd, hin, hold, keeps, hal.1.trans hgens, hal.2.2.1⟩
    have G₁ := G.keeps hXk keeps
    obtain ⟨a, o, pm, cd, doc, dV, kV, h1, h2, h3, h4, h5⟩ := G₁.fn hdef
    have W := call w s s₁ _ _ G₁ (hYk _ _ _ (hY w s y) keeps) a o pm cd doc dV kV h2 h3 h4 h5 (defOf_name hdef ▸ h1) L.gens args vs as hpre hlay L.reads L.well (L.low G.low)
    have hi := ident_freeW hu ha hap
    have fin : ∀ res s', GoodWG r.toRowW.claim (classAt s.heap) (ExcName.means s.heap) args s₁ res s' →
        ((r.toRowW.claim).Ends s args vs s₁ res s' ∧ s'.os = s.os ∧ (r.writes = true → namesKept r.prog r.keeps s.heap s'.heap ∧ ∀ x ∈ r.records, ∀ a, classAt s.heap x.1 = some a → recordClass s'.heap a x.1 (x.2.map (·.1)) = true)) ∧ leftWithCleanup s'.gens = false :=
      fun res s' g => have z := g.laid (c := r.toRowW.claim) hsame hwi hi L
        ⟨⟨z.1, z.2.1, fun q => ⟨namesKept_of hT hg r.keeps keeps g.2.1.old, noTable hwr q⟩⟩, leftWithCleanup_false_of_bare z.2.2⟩
    have T : wpC (model r.prog w) callerA (do match ← nsGet mainNs r.name with
        | some f => do ret (← PySem.call f vs)
        | none => unsupported "claim.caller:no-such-global") (fun fin' s' => ∃ f, fin' = .done f ∧ (((r.toRowW.claim).Ends s args vs s₁ (.ok f) s' ∧ s'.os = s.os ∧ (r.writes = true → namesKept r.prog r.keeps s.heap s'.heap ∧ ∀ x ∈ r.records, ∀ a, classAt s.heap x.1 = some a → recordClass s'.heap a x.1 (x.2.map (·.1)) = true)) ∧ leftWithCleanup s'.gens = false))
        (fun e s' => ((r.toRowW.claim).Ends s args vs s₁ (.error e) s' ∧ s'.os = s.os ∧ (r.writes = true → namesKept r.prog r.keeps s.heap s'.heap ∧ ∀ x ∈ r.records, ∀ a, classAt s.heap x.1 = some a → recordClass s'.heap a x.1 (x.2.map (·.1)) = true)) ∧ leftWithCleanup s'.gens = false) s₁ := by
      refine wpC_bind (wpC_of_any (wpAny_nsGet G₁.T.g ?_))
      rw [h1]
      exact wpC_bind (wpC_mono W (fun v s' g => wpC_pure ⟨_, rfl, fin _ _ g⟩) fun e s' g => fin _ _ g)
    obtain ⟨k, res, s', s'', hsched, hrun, hfo, hcase, hos, hkp⟩ := wp_halts_full (M := model r.prog w) (c := .builtin "claim.caller" {})
      (R := fun res s' => (r.toRowW.claim).Ends s args vs s₁ res s' ∧ s'.os = s.os ∧ (r.writes = true → namesKept r.prog r.keeps s.heap s'.heap ∧ ∀ x ∈ r.records, ∀ a, classAt s.heap x.1 = some a → recordClass s'.heap a x.1 (x.2.map (·.1)) = true))
      (Shared.asleep_of_life hal.2.2.2 hz) (done_C (R := fun res s' => ((r.toRowW.claim).Ends s args vs s₁ res s' ∧ s'.os = s.os ∧ (r.writes = true → namesKept r.prog r.keeps s.heap s'.heap ∧ ∀ x ∈ r.records, ∀ a, classAt s.heap x.1 = some a → recordClass s'.heap a x.1 (x.2.map (·.1)) = true)) ∧ leftWithCleanup s'.gens = false) T)
    obtain ⟨eh, _, _, eo, _⟩ := Shared.forget_eq hfo
    have hcase := hcase.congr eh
    rw [← eh] at hkp
    rw [← eo] at hos
    refine hno2 ⟨vs, s₁, hlaid, k, _, s'', hsched, ?_, (fun _ i x hx => by rw [hgens] at hx; simp at hx), hkp, by rw [(runN_life _ _ _ hrun).trans hal.2.2.2], Shared.rest_eq hos⟩
    rcases hcase with ⟨v, rfl, d1, d2, d3, d4, d5⟩ | ⟨e, ob, cls, rfl, d1, d2, d3, d4, d5⟩
    · exact .inl ⟨v, rfl, d1, d2, d3, fun b o y _ => d4 b o y, d5⟩
    · exact .inr ⟨e, ob, cls, rfl, d1, d2, d3, d4, fun b o y _ => d5 b o y⟩
end Mine
end
section
open PySem.Calls
namespace Mine
section
variable {α β : Type} {M : Model} {A : Around} {E : Value → Shared → Prop} {s : Shared}
theorem wpC_holding {vs : List Value} {m : Sem α} {Q : α → Shared → Prop} (h : wpC M A m Q E s) : wpC M A (holding vs m) Q E s := fun Γ p hΓ hc => by rw [Sem.wp_holding]; exact h Γ p hΓ hc
theorem wpC_onRaise {m : Sem α} {k : Value → Sem Unit} {Q : α → Shared → Prop} (h : wpC M A m Q (fun e s' => wpC M A (k e) (fun _ s'' => E e s'') E s') s) : wpC M A (m.onRaise k) Q E s := fun Γ p hΓ hc => by
  rw [Sem.wp_onRaise]
  exact Sem.wp_mono M Γ m (fun _ _ _ h' => h') (fun e p' s' h' => h' Γ p' hΓ hc) p s (h Γ p hΓ hc)
end
section
variable {prog : Program} {w : World} {A : Around} {E : Value → Shared → Prop} {s : Shared}
theorem codeC_func {body : List Stmt} {env : Env} {R : Result → Shared → Prop}
    (h : wpC (model prog w) (A.deeper env) (execs body env) (fun f s' => R (.ok (.ret (match f with | .ret v => v | _ => .none))) s')
      (fun e s' => wpAny (model prog w) (A.deeper env) (leaving env e) (fun _ s'' => R (.error e) s'') (fun e' s'' => R (.error e') s'') s') s) :
    codeC (model prog w) A (.func body env) R s := by
  refine codeC_of_tree ?_
  show wpC _ (A.deeper env) (do point; match ← (execs body env).onRaise (leaving env) with | .ret v => ret v | _ => ret .none) _ _ s
  refine wpC_bind (wpC_of_any (wpAny_point (wpC_bind (wpC_onRaise (wpC_mono h (fun f s' h' => ?_) fun _ _ h' => wpC_of_any h')))))
  cases f <;> exact wpC_pure h'
theorem codeC_call_def {R : Result → Shared → Prop} {a : Addr} {o : Obj} {fd : FuncData} {body : List Stmt} {args : Args} {binds : List (PySem.Str × Value)}
    (hroom : A.depth < recursionLimit) (ho : s.heap.get? a = some o) (hdata : o.data = .func fd) (hlim : s.heap.NoLimit) (hcd : s.heap.CodeRec fd.code fd.qualname)
    (hbody : fd.body = .stmts body) (hbind : BindsTo s fd args binds)
    (hcell : ∀ x ∈ fd.scope.names, x.2 ≠ .cell) (hloc : ∀ x ∈ binds, fd.scope.names.lookup x.1 = some .local)
    (h : ∀ h₀, h₀.Ns s.heap.objs.size (fun x => binds.reverse.lookup x) → (∀ b o, s.heap.get? b = some o → h₀.get? b = some o) →
      wpC (model prog w) (A.deeper (callEnv fd s.heap.objs.size a)) (execs body (callEnv fd s.heap.objs.size a)) (fun f s' => R (.ok (.ret (match f with | .ret v => v | _ => .none))) s')
        (fun e s' => wpAny (model prog w) (A.deeper (callEnv fd s.heap.objs.size a)) (leaving (callEnv fd s.heap.objs.size a) e) (fun _ s'' => R (.error e) s'') (fun e' s'' => R (.error e') s'') s')
        { s with heap := h₀, toks := s.toks + binds.length })
    (hco : fd.scope.isCoroutine = false := by rfl) (hgen : fd.scope.isGenerator = false := by rfl) (hk : fd.scope.kind = .function := by rfl) :
    codeC (model prog w) A (.call (.ref a) args) R s := by
  refine codeC_of_tree (wpC_of_any ?_)
  show wpAny _ A.in1 (callAny (.ref a) args) _ _ s
  simp only [callAny]
  refine wpAny_bind (wpAny_load ho ?_)
  obtain ⟨c, oc, vs, tq, hc, hoc, hdc, hq⟩ := hcd
  simp only [hdata, callFunction, hco, hgen, hbody]
  rw [hc]
  refine wpAny_bind (m := field (.ref c) 1) (wpAny_field hoc hdc hq (wpAny_bind (wpAny_pure ?_)))
  rw [← hc]
  refine wpAny_bind (hbind _ _ _ _ (wpAny_bind (wpAny_newFunctionEnv hcell hloc (fun h₀ hns₀ hsb₀ => wpAny_bind (wpAny_enterFrame (hlim.fresh _ hsb₀) hroom (wpAny_pure (And.intro rfl ⟨rfl, codeC_func (h h₀ hns₀ fun b o e => ?_)⟩)))) hk)))
  exact hsb₀.extBut b o (Nat.ne_of_lt (Heap.lt_size e)) (Heap.get?_push_of_some _ e)
end
namespace BA
theorem mro : mroOf (.type "bytearray") = pure [.type "bytearray", .type "object"] := by rw [mroOf_type]; kernel_rfl
theorem lookup_new : typeLookup (.type "bytearray") "__new__" = pure (some (.builtin "bytearray.__new__")) := by rw [typeLookup_type, builtinLookup_eq_fast]; kernel_rfl
theorem slot_init : Slot "bytearray" "__init__" "bytearray.__init__" :=
  .of (owner := "bytearray") (n := "__init__") (by rw [typeLookup_type, builtinLookup_eq_fast]; kernel_rfl) (by decide +kernel) (by decide +kernel) (by decide +kernel)
    (by first | exact .inl (by decide +kernel) | exact .inr (by decide +kernel)) (by rw [isSubtype_type]; kernel_rfl)
theorem called : TypeCalled "bytearray" "bytearray.__new__" "bytearray.__init__" :=
  ⟨by decide +kernel, by decide +kernel, ⟨_, _, mro⟩, madeBy_type mro lookup_new (by decide +kernel), by decide +kernel, by rw [isSubtype_type]; kernel_rfl, slot_init⟩
theorem typeCall (a : Value) : checkTypeCall "bytearray" ⟨[a], []⟩ = pure () := by kernel_rfl
theorem newCall (a : Value) : checkBuiltinCall "bytearray.__new__" ⟨[.type "bytearray", a], []⟩ = pure () := by kernel_rfl
theorem entry_new : entryFor table "bytearray.__new__" = some Builtin.«list.__new__» := entryFor_alias (id' := "list.__new__") (by kernel_rfl) (by decide +kernel) (by decide +kernel) (by kernel_rfl)
theorem entry_init : entryFor table "bytearray.__init__" = some Builtin.«bytearray.__init__» := by first | exact entryFor_of_fast (by kernel_rfl) | exact entryFor_of_tree (by kernel_rfl)
theorem plain_new : plainId "bytearray.__new__" = true := by decide +kernel
theorem sub_self : isSubtype (.type "bytearray") (.type "bytearray") = pure true := by rw [isSubtype_type]; kernel_rfl
theorem args_init (a b : Value) : argsOk "bytearray.__init__" ⟨[a, b], []⟩ := by unfold argsOk; kernel_rfl
set_option maxRecDepth 1000000 in
set_option maxHeartbeats 4000000 in
theorem owner_new : ("bytearray.__new__".splitOn ".__new__").headD "" = "bytearray" := by simp +decide [String.splitOn, String.splitOnAux]
theorem buf_b : typeLookup (.type "bytes") "__buffer__" = pure (some (.builtin "bytes.__buffer__")) := by rw [typeLookup_type, builtinLookup_eq_fast]; kernel_rfl
theorem buf_a : typeLookup (.type "bytearray") "__buffer__" = pure (some (.builtin "bytearray.__buffer__")) := by rw [typeLookup_type, builtinLookup_eq_fast]; kernel_rfl
theorem rel_b : typeLookup (.type "bytes") "__release_buffer__" = pure none := by rw [typeLookup_type, builtinLookup_eq_fast]; kernel_rfl
theorem rel_a : typeLookup (.type "bytearray") "__release_buffer__" = pure (some (.builtin "bytearray.__release_buffer__")) := by rw [typeLookup_type, builtinLookup_eq_fast]; kernel_rfl
theorem idx_b : typeLookup (.type "bytes") "__index__" = pure none := by rw [typeLookup_type, builtinLookup_eq_fast]; kernel_rfl
theorem idx_a : typeLookup (.type "bytearray") "__index__" = pure none := by rw [typeLookup_type, builtinLookup_eq_fast]; kernel_rfl
theorem bind_init (v : Value) : Builtin.Bytes.bindOptional "bytearray.__init__" "bytearray" ["source", "encoding", "errors"] [v] [] = pure [some v, none, none] := by kernel_rfl
theorem sub_bb : isSubtype (.type "bytes") (.type "bytes") = pure true := by rw [isSubtype_type]; kernel_rfl
end BA
section
variable {prog : Program} {w : World} {A : Around} {E : Value → Shared → Prop} {s : Shared}
theorem wpC_if_false {α : Type} {M : Model} {c : Bool} {a b : Sem α} {Q : α → Shared → Prop} (hc : c = false) (h : wpC M A b Q E s) : wpC M A (if c = true then a else b) Q E s := by subst hc; exact h
theorem wpC_if_true {α : Type} {M : Model} {c : Bool} {a b : Sem α} {Q : α → Shared → Prop} (hc : c = true) (h : wpC M A a Q E s) : wpC M A (if c = true then a else b) Q E s := by subst hc; exact h
theorem noHolder {id : String} (h : (Builtin.Bytes.decodersThatHold.contains id || ["bytearray.__contains__", "bytearray.__mod__", "bytearray.__rmod__", "_struct.pack_into.held", "bytearray.find.held"].contains id) = false) (args : Args) : holder (.builtin id args) = false := h
theorem codeC_builtin {id : String} {args : Args} {b : Builtin} {R : Result → Shared → Prop} (hb : entryFor table id = some b)
    (h : wpC (model prog w) (A.under (.builtin id args)) (b args)
      (fun fin s' => match fin with | .done f => R (.ok f) s' | .again c' => c'.quiet = true ∧ holder c' = false ∧ codeC (model prog w) A c' R s') (fun e s' => R (.error e) s') s) :
    codeC (model prog w) A (.builtin id args) R s := by
  refine codeC_of_tree ?_
  show wpC _ _ (match entryFor table id with | some b => b args | none => unsupported ((withoutEnding? id "#data").getD id)) _ _ s
  rw [hb]; exact h
theorem ba_new (a : Value) {Q₁ : Value → Shared → Prop}
    (h : Q₁ (.ref s.heap.objs.size) { s with heap := s.heap.push { cls := .type "bytearray", data := .bytearray #[] } }) :
    codeAny (model prog w) A (.call (.builtin "bytearray.__new__") ⟨[.type "bytearray", a], []⟩) (wants Q₁ E) s := by
  refine codeAny_of_tree ?_
  show wpAny _ A.in1 (do checkBuiltinCall "bytearray.__new__" ⟨[.type "bytearray", a], []⟩; again (.builtin "bytearray.__new__" ⟨[.type "bytearray", a], []⟩)) _ _ s
  refine wpAny_bind (wpAny_of_eq (BA.newCall a) (wpAny_pure ⟨plainId_quiet BA.plain_new _, codeAny_builtin_stack BA.entry_new rfl fun p st => ?_⟩))
  rw [Around.under_plainId BA.plain_new _]
  have hsub := BA.sub_self
  have hown := BA.owner_new
  obtain ⟨hp, g, d, tk, os⟩ := s
  simp only [hown]
  wp_walk
  exact h
theorem ba_call {v : Value} {Q : Value → Shared → Prop}
    (h : codeC (model prog w) A.in1 (.builtin "bytearray.__init__" ⟨[.ref s.heap.objs.size, v], []⟩) (wants (fun r s₂ => r = .none ∧ Q (.ref s.heap.objs.size) s₂) E) { s with heap := s.heap.push { cls := .type "bytearray", data := .bytearray #[] } }) :
    wpC (model prog w) A (call (.type "bytearray") [v]) Q E s := by
  refine wpC_call (codeC_of_tree (wpC_of_any ?_))
  show wpAny _ _ (callAny (.type "bytearray") _) _ _ _
  refine wpAny_pure ⟨Code.quiet_builtin _ (by decide +kernel), noHolder (by decide +kernel) _, codeC_builtin F.entry_type_call ?_⟩
  rw [Around.under_plain (weight_type_call_type "bytearray" [v] []) rfl]
  unfold Builtin.«type.__call__»
  dsimp only
  refine wpC_if_false BA.called.notType ?_
  refine wpC_if_false BA.called.canCreate ?_
  refine wpC_bind (wpC_of_any (wpAny_of_eq (BA.typeCall v) ?_))
  refine wpC_bind (wpC_of_any (wpAny_of_eq BA.mro ?_))
  refine wpC_if_false rfl ?_
  refine wpC_bind (wpC_of_any (wpAny_of_eq BA.called.made ?_))
  dsimp only
  refine wpC_bind (wpC_of_any (wpAny_pure ?_))
  refine wpC_bind (wpC_holding (wpC_of_any (wpAny_call (codeAny_mono (ba_new (E := E) v (Q₁ := fun r s' => r = .ref s.heap.objs.size ∧ s' = { s with heap := s.heap.push { cls := .type "bytearray", data := .bytearray #[] } }) ⟨rfl, rfl⟩) fun r s₁ hr => ?_))))
  cases r with
  | error e => exact hr
  | ok fl =>
    cases fl with
    | ret obj =>
      obtain ⟨rfl, rfl⟩ := hr
      dsimp only
      have hT : ({ s with heap := s.heap.push { cls := .type "bytearray", data := .bytearray #[] } } : Shared).TypeIs (.ref s.heap.objs.size) "bytearray" := ⟨_, Heap.get?_push_size _ rfl, rfl⟩
      refine wpC_bind (wpC_of_any (wpAny_isInstance hT BA.sub_self ?_))
      refine wpC_if_false rfl ?_
      refine wpC_bind (wpC_holding ?_)
      unfold callSpecial?
      refine wpC_bind (wpC_of_any (wpAny_specialOf hT BA.slot_init.lookup ?_))
      dsimp only
      refine wpC_holding ?_
      refine wpC_bind (wpC_of_any (wpAny_of_eq (BA.slot_init.bind _) ?_))
      dsimp only
      refine wpC_bind (wpC_call (codeC_of_tree (wpC_of_any ?_)))
      show wpAny _ _ (do checkBuiltinCall "bytearray.__init__" ⟨[.ref s.heap.objs.size, v], []⟩; again (.builtin "bytearray.__init__" ⟨[.ref s.heap.objs.size, v], []⟩)) _ _ _
      refine wpAny_bind (BA.slot_init.check _ _ _ _ _ _ _ _ hT (BA.args_init _ _) (wpAny_pure ⟨plainId_quiet BA.slot_init.plain _, noHolder (by decide +kernel) _, codeC_mono h fun r₂ s₂ hr₂ => ?_⟩))
      cases r₂ with
      | error e => exact hr₂
      | ok fl₂ =>
        cases fl₂ with
        | ret r =>
          obtain ⟨rfl, hq⟩ := hr₂
          refine wpC_pure ?_
          dsimp only
          exact wpC_if_false rfl (wpC_pure hq)
        | _ => exact hr₂.elim
    | _ => exact hr.elim
end
end Mine
end
section
open PySem.Calls
namespace Mine
section
variable {prog : Program} {w : World} {A : Around} {E : Value → Shared → Prop} {s : Shared}
theorem any_quiet {f : Code × Pos → Bool} (hf : ∀ c p, holder c = false → f (c, p) = false) {l : List (Code × Pos)} (hl : ∀ x ∈ l, holder x.1 = false) : l.any f = false :=
  List.any_eq_false.mpr fun x hx => by rw [hf x.1 x.2 (hl x hx)]; exact Bool.false_ne_true
theorem any_q2 (id : String) (pos : List Value) (kw : List (Str × Value)) (p : Pos) (v : Value) (hc : holder (.builtin id ⟨pos, kw⟩) = false) :
    Builtin.Bytes.exported.match_1 (fun _ => Bool) (Code.builtin id ⟨pos, kw⟩, p) (fun a _ _ _ => Builtin.Bytes.sameRef a v) (fun a _ _ _ => Builtin.Bytes.sameRef a v) (fun _ a _ _ _ => Builtin.Bytes.sameRef a v) (fun a _ _ _ => Builtin.Bytes.sameRef a v) (fun _ _ held _ _ => held.any (Builtin.Bytes.sameRef v)) (fun id a _ _ _ => Builtin.Bytes.sameRef a v && Builtin.Bytes.decodersThatHold.contains id) (fun _ => false) = false := by
  obtain ⟨ha, hb⟩ := Bool.or_eq_false_iff.mp hc
  have hn : ∀ s, (["bytearray.__contains__", "bytearray.__mod__", "bytearray.__rmod__", "_struct.pack_into.held", "bytearray.find.held"].contains s) = true → id ≠ s := fun s e z => by rw [z, e] at hb; cases hb
  delta Builtin.Bytes.exported.match_1
  refine (dif_neg (hn _ (by decide))).trans ((dif_neg (hn _ (by decide))).trans ((dif_neg (hn _ (by decide))).trans ((dif_neg (hn _ (by decide))).trans ((dif_neg (hn _ (by decide))).trans ?_))))
  cases pos with
  | nil => rfl
  | cons a r => exact (congrArg (Builtin.Bytes.sameRef a v && ·) ha).trans (Bool.and_false _)
theorem exported_C {M : Model} {v : Value} {Q : Bool → Shared → Prop} (h : Q false s) : wpC M A (Builtin.Bytes.exported v) Q E s := by
  unfold Builtin.Bytes.exported
  refine wpC_bind (fun Γ p hΓ hc => ?_)
  show wpC M A (pure (List.any ((Γ.code, p) :: Γ.below) _)) Q E s
  rw [any_quiet ?_ ?_]
  · exact wpC_pure h
  · intro c p hc
    cases c <;> try rfl
    rename_i id args
    obtain ⟨pos, kw⟩ := args
    exact any_q2 id pos kw p v hc
  · intro x hx
    rcases List.mem_cons.mp hx with rfl | hx <;> first | exact hc.1 | exact hc.2 x hx
end
namespace BA
theorem ends_rel : ("bytearray.__release_buffer__".endsWith ("." ++ "__release_buffer__")) = true := by decide +kernel
theorem drop_rel : "bytearray.__release_buffer__".dropRight ("__release_buffer__".length + 1) = "bytearray" := by decide +kernel
theorem ends_buf : ("bytearray.__buffer__".endsWith ("." ++ "__buffer__")) = true := by decide +kernel
theorem drop_buf : "bytearray.__buffer__".dropRight ("__buffer__".length + 1) = "bytearray" := by decide +kernel
theorem ends_bufb : ("bytes.__buffer__".endsWith ("." ++ "__buffer__")) = true := by decide +kernel
theorem drop_bufb : "bytes.__buffer__".dropRight ("__buffer__".length + 1) = "bytes" := by decide +kernel
end BA
section
variable {prog : Program} {w : World} {A : Around} {E : Value → Shared → Prop} {s : Shared}
theorem own_a {M : Model} {a : Addr} {Q : Bool → Shared → Prop} (hT : s.TypeIs (.ref a) "bytearray") (h : Q false s) : wpAny M A (Builtin.Bytes.ownRelease (.ref a)) Q E s := by
  unfold Builtin.Bytes.ownRelease Builtin.Bytes.slotIsOwn
  refine wpAny_bind (wpAny_bind (wpAny_specialOf hT BA.rel_a ?_))
  dsimp only
  rw [BA.ends_rel, BA.drop_rel]
  refine wpAny_isInstance hT BA.sub_self (wpAny_pure h)
theorem own_b {M : Model} {b : Array UInt8} {t : Tok} {Q : Bool → Shared → Prop} (h : Q false s) : wpAny M A (Builtin.Bytes.ownRelease (.bytes b t)) Q E s := by
  unfold Builtin.Bytes.ownRelease Builtin.Bytes.slotIsOwn
  refine wpAny_bind (wpAny_bind (wpAny_specialOf (PySem.W.typeIs_bytes s b t) BA.rel_b ?_))
  dsimp only
  exact wpAny_pure (wpAny_pure h)
theorem buf_a {M : Model} {a : Addr} {o : Obj} {b : Array UInt8} {n : Nat} {id : String} {f : Bool} {Q : Option (Array UInt8) → Shared → Prop} (ho : s.heap.get? a = some o) (hc : o.cls = .type "bytearray") (hd : o.data = .bytearray b n) (h : Q (some b) s) :
    wpAny M A (Builtin.Bytes.buffer? id (.ref a) f) Q E s := by
  have hT : s.TypeIs (.ref a) "bytearray" := ⟨o, ho, hc⟩
  unfold Builtin.Bytes.buffer?
  refine wpAny_bind (wpAny_specialOf hT BA.buf_a ?_)
  dsimp only
  unfold Builtin.Bytes.slotIsOwn
  refine wpAny_bind (wpAny_bind (wpAny_specialOf hT BA.buf_a ?_))
  dsimp only
  rw [BA.ends_buf, BA.drop_buf]
  refine wpAny_isInstance hT BA.sub_self ?_
  refine bm_if_false rfl ?_
  refine wpAny_bind (wpAny_specialOf hT BA.buf_a ?_)
  refine wpAny_bind (own_a hT ?_)
  refine bm_if_false rfl ?_
  unfold Builtin.Bytes.payload Builtin.Bytes.payload?
  refine wpAny_bind (wpAny_bind (wpAny_bind (wpAny_load ho ?_)))
  rw [hd]
  exact wpAny_pure (wpAny_pure (wpAny_pure h))
theorem buf_b {M : Model} {b : Array UInt8} {t : Tok} {id : String} {f : Bool} {Q : Option (Array UInt8) → Shared → Prop} (h : Q (some b) s) :
    wpAny M A (Builtin.Bytes.buffer? id (.bytes b t) f) Q E s := by
  have hT := PySem.W.typeIs_bytes s b t
  unfold Builtin.Bytes.buffer?
  refine wpAny_bind (wpAny_specialOf hT BA.buf_b ?_)
  dsimp only
  unfold Builtin.Bytes.slotIsOwn
  refine wpAny_bind (wpAny_bind (wpAny_specialOf hT BA.buf_b ?_))
  dsimp only
  rw [BA.ends_bufb, BA.drop_bufb]
  refine wpAny_isInstance hT BA.sub_bb ?_
  refine bm_if_false rfl ?_
  refine wpAny_bind (wpAny_specialOf hT BA.buf_b ?_)
  refine wpAny_bind (own_b ?_)
  refine bm_if_false rfl ?_
  exact wpAny_bind (wpAny_pure (wpAny_pure h))
theorem ba_init {H : Heap} {a : Addr} {v : Value} {b : Array UInt8} {Q : Value → Shared → Prop} (ha : H.get? a = none) (hH : H.StaysIn s.heap) (hs : s.heap.get? a = some { cls := .type "bytearray", data := .bytearray #[] })
    (l1 : Looks (model prog w) H (asStr? v) none) (l2 : Looks (model prog w) H (specialOf v "__index__") none) (l3 : Looks (model prog w) H (Builtin.Bytes.buffer? "bytearray.__init__" v true) (some b)) (hsz : b.size ≤ sizeLine)
    (h : ∀ h', (∀ c o, c ≠ a → s.heap.get? c = some o → h'.get? c = some o) → h'.get? a = some { cls := .type "bytearray", data := .bytearray b } → s.heap.objs.size ≤ h'.objs.size → Q .none { s with heap := h' }) :
    codeC (model prog w) A (.builtin "bytearray.__init__" ⟨[.ref a, v], []⟩) (wants (fun r s₂ => r = .none ∧ Q r s₂) E) s := by
  refine codeC_builtin BA.entry_init ?_
  rw [Around.under_plainId BA.slot_init.plain _]
  have hT : s.TypeIs (.ref a) "bytearray" := ⟨_, hs, rfl⟩
  unfold Builtin.«bytearray.__init__»
  dsimp only
  refine wpC_bind (wpC_of_any (own_a hT ?_))
  refine wpC_if_false rfl ?_
  refine wpC_bind (wpC_of_any (wpAny_of_eq (BA.bind_init v) ?_))
  dsimp only
  refine wpC_bind (wpC_of_any (wpAny_of_eq (a := ()) rfl ?_))
  refine wpC_bind (wpC_of_any (wpAny_of_eq (a := ()) rfl ?_))
  refine wpC_bind ?_
  show wpC _ _ (Builtin.Bytes.exported (.ref a) >>= _) _ _ _
  refine wpC_bind (exported_C ?_)
  dsimp only [toBool]
  refine wpC_bind (wpC_of_any ?_)
  show wpAny _ _ (load a >>= _) _ _ _
  refine wpAny_bind (wpAny_load hs (wpAny_pure ?_))
  refine wpC_pure ?_
  refine wpC_if_false rfl ?_
  have up : ∀ {s : Shared} {c : Array UInt8} (d : Array UInt8) {Q : Unit → Shared → Prop} {E : Value → Shared → Prop}, s.heap.get? a = some { cls := .type "bytearray", data := .bytearray c } → d.size ≤ sizeLine →
      (∀ h', (∀ c o, c ≠ a → s.heap.get? c = some o → h'.get? c = some o) → h'.get? a = some { cls := .type "bytearray", data := .bytearray d } → s.heap.objs.size ≤ h'.objs.size → Q () { s with heap := h' }) →
      wpAny (model prog w) A.in1 (Builtin.Bytes.write (.ref a) fun _ => d) Q E s := by
    intro s c d Q E hs hd h
    show wpAny _ _ (updateBytearray a fun _ => d) _ _ _
    unfold updateBytearray
    refine wpAny_bind (wpAny_load hs ?_)
    dsimp only
    refine wpAny_bind (wpAny_update hs ?_)
    have hn := Heap.get?_update_self (Obj.mapBytearray fun _ => d) hs rfl
    refine wpAny_lookBehind hn ?_ (h _ (fun c o hc e => (Heap.get?_update_other _ _ (Ne.symm hc)).trans e) hn (Nat.le_of_eq (Heap.size_update ..).symm))
    show (if d.size > sizeLine then some "bytearray:memory" else none) = none
    rw [if_neg (by omega)]
  refine wpC_of_any (wpAny_bind (up #[] hs (Nat.zero_le _) fun h1 k1 g1 z1 => ?_))
  have keep : ∀ h2 : Heap, (∀ c o, c ≠ a → s.heap.get? c = some o → h2.get? c = some o) → ∀ c o, H.get? c = some o → h2.get? c = some o := fun h2 k c o e => k c o (fun z => by rw [z, ha] at e; cases e) (hH _ _ e)
  refine wpAny_bind (l1 _ _ _ _ (keep _ k1) ?_)
  refine bm_if_false rfl ?_
  refine wpAny_bind (bm_if_false rfl (bm_if_false rfl (wpAny_pure ?_)))
  refine wpAny_bind (l2 _ _ _ _ (keep _ k1) ?_)
  refine bm_if_false rfl ?_
  refine wpAny_bind (l3 _ _ _ _ (keep _ k1) ?_)
  refine wpAny_bind (wpAny_rule ?_)
  refine wpAny_bind (up b g1 hsz fun h2 k2 g2 z2 => ?_)
  exact wpAny_pure ⟨rfl, h _ (fun c o hc e => k2 c o hc (k1 c o hc e)) g2 (Nat.le_trans z1 z2)⟩
theorem ba_made {v : Value} {b : Array UInt8} {Q : Value → Shared → Prop}
    (l1 : Looks (model prog w) s.heap (asStr? v) none) (l2 : Looks (model prog w) s.heap (specialOf v "__index__") none) (l3 : Looks (model prog w) s.heap (Builtin.Bytes.buffer? "bytearray.__init__" v true) (some b)) (hsz : b.size ≤ sizeLine)
    (h : ∀ h', s.heap.StaysIn h' → h'.get? s.heap.objs.size = some { cls := .type "bytearray", data := .bytearray b } → s.heap.objs.size + 1 ≤ h'.objs.size → Q (.ref s.heap.objs.size) { s with heap := h' }) :
    wpC (model prog w) A (call (.type "bytearray") [v]) Q E s := by
  refine ba_call (codeC_mono (ba_init (H := s.heap) (Q := fun r s' => Q (.ref s.heap.objs.size) s') (E := E) (Heap.get?_none_of_le (Nat.le_refl _)) (fun b o e => Heap.get?_push_of_some _ e) (Heap.get?_push_size _ rfl) l1 l2 l3 hsz fun h' k g z => ?_) fun r s' hr => ?_)
  · refine h h' (fun c o e => k c o (Nat.ne_of_lt (Heap.lt_size e)) (Heap.get?_push_of_some _ e)) g ?_
    rw [Heap.size_push] at z
    exact z
  · exact hr
theorem looks_b1 {M : Model} {h : Heap} {b : Array UInt8} {t : Tok} : Looks M h (asStr? (.bytes b t)) none := fun _ _ _ _ _ q => wpAny_bind (wpAny_of_eq (a := ()) rfl (wpAny_pure q))
theorem looks_b2 {M : Model} {h : Heap} {b : Array UInt8} {t : Tok} : Looks M h (specialOf (.bytes b t) "__index__") none := fun _ _ _ _ _ q => wpAny_specialOf (PySem.W.typeIs_bytes _ b t) BA.idx_b q
theorem looks_b3 {M : Model} {h : Heap} {b : Array UInt8} {t : Tok} {id : String} : Looks M h (Builtin.Bytes.buffer? id (.bytes b t) true) (some b) := fun _ _ _ _ _ q => buf_b q
section
variable {M : Model} {h : Heap} {a : Addr} {o : Obj} {b : Array UInt8} {n : Nat}
theorem looks_a1 (ho : h.get? a = some o) (hd : o.data = .bytearray b n) : Looks M h (asStr? (.ref a)) none := fun _ _ _ _ k q => wpAny_bind (wpAny_load (k _ _ ho) (by rw [hd]; exact wpAny_pure q))
theorem looks_a2 (ho : h.get? a = some o) (hc : o.cls = .type "bytearray") : Looks M h (specialOf (.ref a) "__index__") none := fun _ _ _ _ k q => wpAny_specialOf ⟨o, k _ _ ho, hc⟩ BA.idx_a q
theorem looks_a3 {id : String} (ho : h.get? a = some o) (hc : o.cls = .type "bytearray") (hd : o.data = .bytearray b n) : Looks M h (Builtin.Bytes.buffer? id (.ref a) true) (some b) := fun _ _ _ _ k q => buf_a (k _ _ ho) hc hd q
end
theorem ba_of_bytes {b : Array UInt8} {t : Tok} {Q : Value → Shared → Prop} (hsz : b.size ≤ sizeLine)
    (h : ∀ h', s.heap.StaysIn h' → h'.get? s.heap.objs.size = some { cls := .type "bytearray", data := .bytearray b } → s.heap.objs.size + 1 ≤ h'.objs.size → Q (.ref s.heap.objs.size) { s with heap := h' }) :
    wpC (model prog w) A (call (.type "bytearray") [.bytes b t]) Q E s := ba_made looks_b1 looks_b2 looks_b3 hsz h
theorem ba_of_ba {a : Addr} {o : Obj} {b : Array UInt8} {n : Nat} {Q : Value → Shared → Prop} (ho : s.heap.get? a = some o) (hc : o.cls = .type "bytearray") (hd : o.data = .bytearray b n) (hsz : b.size ≤ sizeLine)
    (h : ∀ h', s.heap.StaysIn h' → h'.get? s.heap.objs.size = some { cls := .type "bytearray", data := .bytearray b } → s.heap.objs.size + 1 ≤ h'.objs.size → Q (.ref s.heap.objs.size) { s with heap := h' }) :
    wpC (model prog w) A (call (.type "bytearray") [.ref a]) Q E s := ba_made (looks_a1 ho hd) (looks_a2 ho hc) (looks_a3 ho hc hd) hsz h
end
end Mine
end
section
open PySem.Calls
namespace Mine
namespace BA
theorem byt_a : typeLookup (.type "bytearray") "__bytes__" = pure none := by rw [typeLookup_type, builtinLookup_eq_fast]; kernel_rfl
theorem slot_item : Slot "bytearray" "__getitem__" "bytearray.__getitem__" :=
  .of (owner := "bytearray") (n := "__getitem__") (by rw [typeLookup_type, builtinLookup_eq_fast]; kernel_rfl) (by decide +kernel) (by decide +kernel) (by decide +kernel)
    (by first | exact .inl (by decide +kernel) | exact .inr (by decide +kernel)) (by rw [isSubtype_type]; kernel_rfl)
theorem entry_item : entryFor table "bytearray.__getitem__" = some Builtin.«bytearray.__getitem__» := by first | exact entryFor_of_fast (by kernel_rfl) | exact entryFor_of_tree (by kernel_rfl)
theorem args_item (a b : Value) : argsOk "bytearray.__getitem__" ⟨[a, b], []⟩ := by unfold argsOk; kernel_rfl
end BA
section
variable {prog : Program} {w : World} {A : Around} {E : Value → Shared → Prop} {s : Shared}
theorem bytes_new_ba {a : Addr} {o : Obj} {b : Array UInt8} {n : Nat} {Q : Value → Shared → Prop} (ho : s.heap.get? a = some o) (hc : o.cls = .type "bytearray") (hd : o.data = .bytearray b n) (hsz : b.size ≤ sizeLine)
    (h : ∀ t k, Q (.bytes b t) { s with toks := k }) :
    codeAny (model prog w) A (.call (.builtin "bytes.__new__") ⟨[.type "bytes", .ref a], []⟩) (wants Q E) s := by
  refine codeAny_of_tree ?_
  show wpAny _ A.in1 (do checkBuiltinCall "bytes.__new__" ⟨[.type "bytes", .ref a], []⟩; again (.builtin "bytes.__new__" ⟨[.type "bytes", .ref a], []⟩)) _ _ s
  refine wpAny_bind (wpAny_of_eq (F.bm_newCall _) (wpAny_pure ⟨plainId_quiet F.bm_plain _, codeAny_builtin F.bm_entry ?_⟩))
  rw [Around.under_plainId F.bm_plain _]
  have hT : s.TypeIs (.ref a) "bytearray" := ⟨o, ho, hc⟩
  unfold Builtin.«bytes.__new__»
  refine wpAny_bind (wpAny_of_eq (a := true) rfl ?_)
  refine bm_if_false rfl ?_
  refine wpAny_bind (wpAny_of_eq F.bm_sub ?_)
  refine bm_if_false rfl ?_
  refine wpAny_bind (wpAny_of_eq (F.bm_bind _) ?_)
  refine wpAny_bind (wpAny_of_eq (a := ()) rfl ?_)
  refine wpAny_bind (wpAny_of_eq (a := ()) rfl ?_)
  refine bm_if_false rfl ?_
  refine wpAny_bind (wpAny_specialOf hT BA.byt_a ?_)
  refine wpAny_bind (wpAny_bind ?_)
  show wpAny _ _ (load a >>= _) _ _ _
  refine wpAny_bind (wpAny_load ho ?_)
  rw [hd]
  refine wpAny_pure (wpAny_pure ?_)
  refine bm_if_false rfl ?_
  refine wpAny_bind (wpAny_specialOf hT BA.idx_a ?_)
  refine bm_if_true rfl ?_
  first
    | show wpAny _ _ (Builtin.Bytes.buffer? "bytes.__new__" (.ref a) true >>= _) _ _ _
    | (refine wpAny_bind ?_; show wpAny _ _ (Builtin.Bytes.buffer? "bytes.__new__" (.ref a) true >>= _) _ _ _)
  refine wpAny_bind (buf_a ho hc hd ?_)
  refine wpAny_bind (wpAny_rule ?_)
  refine wpAny_bind (wpAny_mkBytes ?_ hsz)
  show wpAny _ _ (if (Value.type "bytes" == Value.type "bytes") = true then _ else _) _ _ _
  refine bm_if_true (by decide) ?_
  first
    | exact wpAny_pure (h _ _)
    | exact wpAny_bind (wpAny_pure (wpAny_pure (h _ _)))
theorem bytes_of_ba {a : Addr} {o : Obj} {b : Array UInt8} {n : Nat} {Q : Value → Shared → Prop} (ho : s.heap.get? a = some o) (hc : o.cls = .type "bytearray") (hd : o.data = .bytearray b n) (hsz : b.size ≤ sizeLine)
    (h : ∀ t k, Q (.bytes b t) { s with toks := k }) : wpAny (model prog w) A (call (.type "bytes") [.ref a]) Q E s := by
  refine callType_codes (Q₁ := fun obj s₁ => s₁.TypeIs obj "bytes" ∧ Q obj s₁) F.bm_called (F.bm_typeCall _) F.entry_object_init
    (bytes_new_ba ho hc hd hsz fun t k => ⟨PySem.W.typeIs_bytes _ _ _, h t k⟩) fun obj s₁ h₁ => ?_
  exact ⟨h₁.1, F.args_object_init_2 obj _, object_init_meets F.bm_called.init.lookup F.bm_called.made (by decide) prog w A.in1 _ s₁ ⟨h₁.1, rfl, h₁.2⟩⟩
theorem meets_item_ba (a : Addr) (i : Int) (u : Tok) (b : Array UInt8) (n : Nat) (c : UInt8) (hr : Builtin.Bytes.fitsIndex i = true) (hi : (seqIndex? i b.size).bind (b[·]?) = some c) :
    Meets (Builtin.«bytearray.__getitem__» ⟨[.ref a, .int i u], []⟩) (fun _ R s => (∃ o, s.heap.get? a = some o ∧ o.data = .bytearray b n) ∧ ∀ t k, R (.ok (.ret (.int c.toNat t))) { s with toks := k }) := by
  refine .of_wp fun prog w A R s hS => ?_
  obtain ⟨⟨o, ho, hd⟩, h⟩ := hS
  unfold Builtin.«bytearray.__getitem__»
  refine wpAny_bind (wpAny_of_eq (a := (.ref a, [.int i u])) rfl ?_)
  dsimp only
  refine wpAny_bind ?_
  unfold Builtin.Bytes.subscript?
  refine wpAny_bind (wpAny_specialOf (typeIs_int s i u) F.slot_int_index.lookup ?_)
  show wpAny _ _ (if (!Builtin.Bytes.fitsIndex i) = true then _ else pure (some i)) _ _ s
  rw [hr]
  refine wpAny_pure ?_
  dsimp only
  unfold Builtin.Bytes.payload Builtin.Bytes.payload?
  refine wpAny_bind (wpAny_bind (wpAny_bind (wpAny_load ho ?_)))
  rw [hd]
  refine wpAny_pure (wpAny_pure ?_)
  show wpAny _ _ (match (seqIndex? i b.size).bind (b[·]?) with | some x => retInt x.toNat | none => _) _ _ s
  rw [hi]
  exact wpAny_bind (wpAny_mkInt (wpAny_pure ⟨_, rfl, h _ _⟩))
theorem meets_slice_ba (a sl : Addr) {l u : Value} {lo hi : Option Int} (hl : IsPart l lo) (hu : IsPart u hi) (b : Array UInt8) (n : Nat) :
    Meets (Builtin.«bytearray.__getitem__» ⟨[.ref a, .ref sl], []⟩) (fun _ R s => (∃ o, s.heap.get? a = some o ∧ o.data = .bytearray b n) ∧ s.heap.IsSliceOf sl l u .none ∧ (KBy.picked b lo hi).size ≤ sizeLine ∧
      R (.ok (.ret (.ref s.heap.objs.size))) { s with heap := s.heap.push { cls := .type "bytearray", data := .bytearray (KBy.picked b lo hi) } }) := by
  refine .of_wp fun prog w A R s hS => ?_
  obtain ⟨⟨oa, hoa, hda⟩, ⟨o, ho, hc, hd⟩, hsz, h⟩ := hS
  have hT : s.TypeIs (.ref sl) "slice" := ⟨o, ho, hc⟩
  unfold Builtin.«bytearray.__getitem__»
  refine wpAny_bind (wpAny_of_eq (a := (.ref a, [.ref sl])) rfl ?_)
  dsimp only
  refine wpAny_bind ?_
  unfold Builtin.Bytes.subscript?
  refine wpAny_bind (wpAny_specialOf hT slice_no_index (wpAny_pure ?_))
  refine wpAny_bind (wpAny_typeOf hT ?_)
  refine bm_if_false rfl ?_
  refine wpAny_bind ?_
  unfold Builtin.Bytes.sliceParts
  refine wpAny_bind (wpAny_field (x := .none) ho hd rfl ?_)
  kby_none
  refine wpAny_ite (KBy.ite_no (show ¬ ((Value.none == rawInt 0) = true) from Bool.false_ne_true) ?_)
  refine wpAny_bind (wpAny_field (x := l) ho hd rfl ?_)
  have go : wpAny (model prog w) A.in1 (sliceIndices (rawPart lo) (rawPart hi) (rawPart none) b.size) (fun r s' => r = sliceBounds lo hi none b.size ∧ s' = s) (fun _ _ => False) s :=
    wpAny_of_eq (sliceIndices_raw lo hi none b.size (fun e => nomatch e)) ⟨rfl, rfl⟩
  have fin : wpAny (model prog w) A.in1 (do
      let b ← Builtin.Bytes.payload (.ref a)
      let __x ← sliceIndices (rawPart lo) (rawPart hi) (rawPart none) b.size
      match __x with
        | (start, stop, step) => do
          let r ← Builtin.Bytes.newBytearray (Builtin.Bytes.sliced b start stop step)
          ret r) (fun fin s' => ∃ v, fin = Fin.done (Flow.ret v) ∧ R (Except.ok (Flow.ret v)) s') (fun e s' => R (Except.error e) s') s := by
    unfold Builtin.Bytes.payload Builtin.Bytes.payload?
    refine wpAny_bind (wpAny_bind (wpAny_bind (wpAny_load hoa ?_)))
    rw [hda]
    refine wpAny_pure (wpAny_pure ?_)
    refine wpAny_bind (wpAny_mono go (fun r s' hr => ?_) fun _ _ e => e.elim)
    obtain ⟨hr1, hr2⟩ := hr
    subst hr1 hr2
    dsimp only
    refine wpAny_bind ?_
    unfold Builtin.Bytes.newBytearray
    refine wpAny_newObj_type ?_ hsz
    exact wpAny_pure ⟨_, rfl, h⟩
  cases hl <;> cases hu <;> (first
    | (kby_none; (refine wpAny_bind (wpAny_field (x := .none) ho hd rfl ?_)); kby_none)
    | (kby_none; (refine wpAny_bind (wpAny_field (x := .int _ _) ho hd rfl ?_)); kby_int)
    | (kby_int; (refine wpAny_bind (wpAny_field (x := .none) ho hd rfl ?_)); kby_none)
    | (kby_int; (refine wpAny_bind (wpAny_field (x := .int _ _) ho hd rfl ?_)); kby_int)) <;> refine wpAny_pure ?_
  all_goals exact fin
theorem item_ba {value slice : PySem.Expr} {a : Addr} {o : Obj} {b : Array UInt8} {n : Nat} {i : Int} {ui : Tok} {Q : Value → Shared → Prop} (ho : s.heap.get? a = some o) (hc : o.cls = .type "bytearray") (hd : o.data = .bytearray b n)
    (h0 : 0 ≤ i) (h1 : i < b.size) (hz : b.size ≤ 1099511627776) (h : ∀ t k, Q (.int (b.toList.getD i.toNat 0).toNat t) { s with toks := k })
    (hs : subscripted slice false (.ref a) (.int i ui) = operate [.ref a, .int i ui] (getItem (.ref a) (.int i ui)) := by with_unfolding_all rfl) (ht : ∀ r, letTemporaryGo value (.ref a) r = pure () := by intro _; with_unfolding_all rfl) :
    wpAny (model prog w) A (subscriptTail value slice (.ref a) (.int i ui)) Q E s := by
  have hT : s.TypeIs (.ref a) "bytearray" := ⟨o, ho, hc⟩
  refine tail_of_ItemOn ⟨"bytearray", _, BA.slot_item.lookup, hT, getItem_meets hT (by decide) BA.slot_item BA.entry_item (BA.args_item _ _) (meets_item_ba a i ui b n (b.toList.getD i.toNat 0) ?_ ?_) ⟨⟨o, ho, hd⟩, h⟩⟩ hs ht
  · simp only [Builtin.Bytes.fitsIndex, Bool.and_eq_true, decide_eq_true_eq]; omega
  · have hl : i.toNat < b.size := by omega
    have e : seqIndex? i b.size = some i.toNat := by
      have h2 : ¬ i < 0 := by omega
      simp [seqIndex?, h2, h1]
    rw [e]; simp [hl]
theorem slice_ba {value slice : PySem.Expr} {a : Addr} {o : Obj} {b : Array UInt8} {n : Nat} {l u : Value} {lo hi : Option Int} {h₀ : Heap} {L : Addr} {m : PySem.Str → Option Value} {Q : Value → Shared → Prop} (F : Fr h₀ L s.heap m) (ho : s.heap.get? a = some o) (hc : o.cls = .type "bytearray") (hd : o.data = .bytearray b n)
    (pl : IsPart l lo) (pu : IsPart u hi) (hz : b.size ≤ sizeLine)
    (h : ∀ D h', Fr h₀ L h' m → s.heap.StaysIn h' → s.heap.get? D = none → h'.get? D = some { cls := .type "bytearray", data := .bytearray (KBy.picked b lo hi) } → Q (.ref D) { s with heap := h' })
    (hs : subscripted slice false (.ref a) (.ref s.heap.objs.size) = operate [.ref s.heap.objs.size, .ref a] (getItem (.ref a) (.ref s.heap.objs.size)) := by with_unfolding_all rfl) (ht : ∀ r, letTemporaryGo value (.ref a) r = pure () := by intro _; with_unfolding_all rfl) :
    wpAny (model prog w) A (subscriptTail value slice (.ref a) (.ref s.heap.objs.size)) Q E { s with heap := s.heap.push { cls := .type "slice", data := .fields #[l, u, .none] } } := by
  have hT : ({ s with heap := s.heap.push { cls := .type "slice", data := .fields #[l, u, .none] } } : Shared).TypeIs (.ref a) "bytearray" := ⟨o, Heap.get?_push_of_some _ ho, hc⟩
  refine tail_of_ItemOn ⟨"bytearray", _, BA.slot_item.lookup, hT, getItem_meets hT (by decide) BA.slot_item BA.entry_item (BA.args_item _ _) (meets_slice_ba a _ pl pu b n)
    ⟨⟨o, Heap.get?_push_of_some _ ho, hd⟩, Heap.IsSliceOf.new _ _ _ _, Nat.le_trans (KBc.size_picked_le b lo hi) hz, ?_⟩⟩ hs ht
  exact h _ _ ((F.push _).push _) (fun b o e => Heap.get?_push_of_some _ (Heap.get?_push_of_some _ e)) (Heap.get?_none_of_le (by show s.heap.objs.size ≤ (s.heap.push _).objs.size; rw [Heap.size_push]; exact Nat.le_succ _)) (Heap.get?_push_size _ rfl)
end
end Mine
end
section
open PySem.SeqAt PySem.MeetsSeq
open AutoSeq1 (wpAny_loadPart')
namespace Mine
namespace FQ
theorem slot_eq_refl : Slot "bytes" (cmpInfo .Eq).2.2 "bytes.__eq__" :=
  .of (owner := "bytes") (n := "__eq__") (by rw [typeLookup_type, builtinLookup_eq_fast]; kernel_rfl) (by decide +kernel) (by decide +kernel) (by decide +kernel)
    (by first | exact .inl (by decide +kernel) | exact .inr (by decide +kernel)) (by rw [isSubtype_type]; kernel_rfl)
theorem sub_int_bytes : isSubtype (.type "int") (.type "bytes") = pure false := by rw [isSubtype_type]; kernel_rfl
theorem sub_bytes_int : isSubtype (.type "bytes") (.type "int") = pure false := by rw [isSubtype_type]; kernel_rfl
theorem sub_bool_bytes : isSubtype (.type "bool") (.type "bytes") = pure false := by rw [isSubtype_type]; kernel_rfl
theorem sub_bytes_bool : isSubtype (.type "bytes") (.type "bool") = pure false := by rw [isSubtype_type]; kernel_rfl
theorem sub_str_bytes : isSubtype (.type "str") (.type "bytes") = pure false := by rw [isSubtype_type]; kernel_rfl
theorem sub_bytes_str : isSubtype (.type "bytes") (.type "str") = pure false := by rw [isSubtype_type]; kernel_rfl
theorem sub_NoneType_bytes : isSubtype (.type "NoneType") (.type "bytes") = pure false := by rw [isSubtype_type]; kernel_rfl
theorem sub_bytes_NoneType : isSubtype (.type "bytes") (.type "NoneType") = pure false := by rw [isSubtype_type]; kernel_rfl
theorem sub_tuple_bytes : isSubtype (.type "tuple") (.type "bytes") = pure false := by rw [isSubtype_type]; kernel_rfl
theorem sub_bytes_tuple : isSubtype (.type "bytes") (.type "tuple") = pure false := by rw [isSubtype_type]; kernel_rfl
theorem sub_list_bytes : isSubtype (.type "list") (.type "bytes") = pure false := by rw [isSubtype_type]; kernel_rfl
theorem sub_bytes_list : isSubtype (.type "bytes") (.type "list") = pure false := by rw [isSubtype_type]; kernel_rfl
theorem bytes_declines (b : Array UInt8) (t : Tok) (v : Value) (T : String) (hsub : isSubtype (.type T) (.type "bytes") = pure false) :
    Meets (Builtin.«bytes.__eq__» ⟨[.bytes b t, v], []⟩) (fun _ R s => s.TypeIs v T ∧ R (.ok (.ret .notImplemented)) s) :=
  .of_wp fun prog w A R s h => by
    show wpAny _ _ (isInstance v (.type "bytes") >>= _) _ _ _
    refine wpAny_bind (wpAny_isInstance h.1 hsub ?_)
    refine bm_if_true rfl ?_
    exact wpAny_bind (wpAny_rule (wpAny_pure ⟨_, rfl, h.2⟩))
theorem int_declines (a : Int) (t : Tok) (b : Array UInt8) (u : Tok) : Gives (Builtin.«int.__eq__» ⟨[.int a t, .bytes b u], []⟩) (.val (Value.notImplemented)) :=
  .of_wp fun M A E s Q h => by obtain ⟨hp, g, d, tk, os⟩ := s; have f1 := sub_bytes_int; wp_walk; exact ⟨_, rfl, h⟩
theorem bool_declines (a : Bool) (b : Array UInt8) (u : Tok) : Gives (Builtin.«int.__eq__» ⟨[.bool a, .bytes b u], []⟩) (.val (Value.notImplemented)) :=
  .of_wp fun M A E s Q h => by obtain ⟨hp, g, d, tk, os⟩ := s; have f1 := sub_bytes_int; wp_walk; exact ⟨_, rfl, h⟩
theorem str_declines (a : Str) (t : Tok) (b : Array UInt8) (u : Tok) : Gives (Builtin.«str.__eq__» ⟨[.str a t, .bytes b u], []⟩) (.val (Value.notImplemented)) :=
  .of_wp fun M A E s Q h => by obtain ⟨hp, g, d, tk, os⟩ := s; have f1 := sub_bytes_str; wp_walk; exact ⟨_, rfl, h⟩
theorem none_declines (b : Array UInt8) (u : Tok) : Gives (Builtin.«NoneType.__eq__» ⟨[.none, .bytes b u], []⟩) (.val (Value.notImplemented)) :=
  .of_wp fun M A E s Q h => by obtain ⟨hp, g, d, tk, os⟩ := s; wp_walk; exact ⟨_, rfl, h⟩
theorem tuple_declines (l : Addr) (items : Array Value) (n : Nat) (dd : Option Addr) (sl : Array (Option Value)) (b : Array UInt8) (u : Tok) :
    Meets (Builtin.«tuple.__eq__» ⟨[.ref l, .bytes b u], []⟩) (fun _ R s => s.heap.get? l = some { cls := .type "tuple", dict := dd, data := .seq items n, slots := sl } ∧ R (.ok (.ret .notImplemented)) s) :=
  .of_wp fun prog w A R s h => by obtain ⟨hp, g, d, tk, os⟩ := s; obtain ⟨hl, h⟩ := h; have f1 := sub_bytes_tuple; wp_walk using wpAny_loadPart' hl; exact ⟨_, rfl, h⟩
theorem list_declines (l : Addr) (items : Array Value) (n : Nat) (dd : Option Addr) (sl : Array (Option Value)) (b : Array UInt8) (u : Tok) :
    Meets (Builtin.«list.__eq__» ⟨[.ref l, .bytes b u], []⟩) (fun _ R s => s.heap.get? l = some { cls := .type "list", dict := dd, data := .seq items n, slots := sl } ∧ R (.ok (.ret .notImplemented)) s) :=
  .of_wp fun prog w A R s h => by obtain ⟨hp, g, d, tk, os⟩ := s; obtain ⟨hl, h⟩ := h; have f1 := sub_bytes_list; wp_walk using wpAny_loadPart' hl; exact ⟨_, rfl, h⟩
end FQ
section
variable {A : Around} {s : Shared}
theorem rc_int_b (a : Int) (t : Tok) (b : Array UInt8) (u : Tok) : RcAt A s (.int a t) (.bytes b u) false := fun prog w E Q h =>
  rc_eq_decline_or (k := false) (PySem.typeIs_int s a t) (PySem.W.typeIs_bytes s b u) (by decide) FQ.sub_bytes_int F.slot_int_eq FQ.slot_eq_refl
    (fun _ hq => call_gives F.slot_int_eq (PySem.typeIs_int s a t) F.entry_int_eq (F.args_int_eq_2 _ _) (FQ.int_declines a t b u) hq)
    (fun _ hq => call_meets FQ.slot_eq_refl (PySem.W.typeIs_bytes s b u) FB.entry_bytes_eq (FB.args_bytes_eq_2 _ _) (FQ.bytes_declines b u (.int a t) "int" FQ.sub_int_bytes) ⟨PySem.typeIs_int s a t, hq⟩)
    (fun _ hq => wpAny_of_eq (rfl : isSame (.int a t) (.bytes b u) = pure false) hq) (.inl rfl) h
theorem eq_int_b (a : Int) (t : Tok) (b : Array UInt8) (u : Tok) : EqAt A s (.int a t) (.bytes b u) false := fun prog w E Q h => by
  unfold eqBool
  refine wpAny_holding ?_
  refine wpAny_ite_split (fun hab => absurd (eq_of_beq hab) nofun) (fun _ => ?_)
  exact wpAny_bind (rc_int_b a t b u prog w E _ (wpAny_truthy_bool h))
theorem rc_b_int (a : Int) (t : Tok) (b : Array UInt8) (u : Tok) : RcAt A s (.bytes b u) (.int a t) false := fun prog w E Q h =>
  rc_eq_decline_or (k := false) (PySem.W.typeIs_bytes s b u) (PySem.typeIs_int s a t) (by decide) FQ.sub_int_bytes FB.slot_bytes_eq F.slot_int_eq_refl
    (fun _ hq => call_meets FB.slot_bytes_eq (PySem.W.typeIs_bytes s b u) FB.entry_bytes_eq (FB.args_bytes_eq_2 _ _) (FQ.bytes_declines b u (.int a t) "int" FQ.sub_int_bytes) ⟨PySem.typeIs_int s a t, hq⟩)
    (fun _ hq => call_gives F.slot_int_eq_refl (PySem.typeIs_int s a t) F.entry_int_eq (F.args_int_eq_2 _ _) (FQ.int_declines a t b u) hq)
    (fun _ hq => wpAny_of_eq (rfl : isSame (.bytes b u) (.int a t) = pure false) hq) (.inl rfl) h
theorem eq_b_int (a : Int) (t : Tok) (b : Array UInt8) (u : Tok) : EqAt A s (.bytes b u) (.int a t) false := fun prog w E Q h => by
  unfold eqBool
  refine wpAny_holding ?_
  refine wpAny_ite_split (fun hab => absurd (eq_of_beq hab) nofun) (fun _ => ?_)
  exact wpAny_bind (rc_b_int a t b u prog w E _ (wpAny_truthy_bool h))
theorem rc_bool_b (a : Bool) (b : Array UInt8) (u : Tok) : RcAt A s (.bool a) (.bytes b u) false := fun prog w E Q h =>
  rc_eq_decline_or (k := false) (rfl) (PySem.W.typeIs_bytes s b u) (by decide) FQ.sub_bytes_bool F.slot_bool_eq FQ.slot_eq_refl
    (fun _ hq => call_gives F.slot_bool_eq (rfl) F.entry_int_eq (F.args_int_eq_2 _ _) (FQ.bool_declines a b u) hq)
    (fun _ hq => call_meets FQ.slot_eq_refl (PySem.W.typeIs_bytes s b u) FB.entry_bytes_eq (FB.args_bytes_eq_2 _ _) (FQ.bytes_declines b u (.bool a) "bool" FQ.sub_bool_bytes) ⟨rfl, hq⟩)
    (fun _ hq => wpAny_of_eq (rfl : isSame (.bool a) (.bytes b u) = pure false) hq) (.inl rfl) h
theorem eq_bool_b (a : Bool) (b : Array UInt8) (u : Tok) : EqAt A s (.bool a) (.bytes b u) false := fun prog w E Q h => by
  unfold eqBool
  refine wpAny_holding ?_
  refine wpAny_ite_split (fun hab => absurd (eq_of_beq hab) nofun) (fun _ => ?_)
  exact wpAny_bind (rc_bool_b a b u prog w E _ (wpAny_truthy_bool h))
theorem rc_b_bool (a : Bool) (b : Array UInt8) (u : Tok) : RcAt A s (.bytes b u) (.bool a) false := fun prog w E Q h =>
  rc_eq_decline_or (k := false) (PySem.W.typeIs_bytes s b u) (rfl) (by decide) FQ.sub_bool_bytes FB.slot_bytes_eq F.slot_bool_eq_refl
    (fun _ hq => call_meets FB.slot_bytes_eq (PySem.W.typeIs_bytes s b u) FB.entry_bytes_eq (FB.args_bytes_eq_2 _ _) (FQ.bytes_declines b u (.bool a) "bool" FQ.sub_bool_bytes) ⟨rfl, hq⟩)
    (fun _ hq => call_gives F.slot_bool_eq_refl (rfl) F.entry_int_eq (F.args_int_eq_2 _ _) (FQ.bool_declines a b u) hq)
    (fun _ hq => wpAny_of_eq (rfl : isSame (.bytes b u) (.bool a) = pure false) hq) (.inl rfl) h
theorem eq_b_bool (a : Bool) (b : Array UInt8) (u : Tok) : EqAt A s (.bytes b u) (.bool a) false := fun prog w E Q h => by
  unfold eqBool
  refine wpAny_holding ?_
  refine wpAny_ite_split (fun hab => absurd (eq_of_beq hab) nofun) (fun _ => ?_)
  exact wpAny_bind (rc_b_bool a b u prog w E _ (wpAny_truthy_bool h))
theorem rc_str_b (a : Str) (t : Tok) (b : Array UInt8) (u : Tok) : RcAt A s (.str a t) (.bytes b u) false := fun prog w E Q h =>
  rc_eq_decline_or (k := false) (PySem.typeIs_str s a t) (PySem.W.typeIs_bytes s b u) (by decide) FQ.sub_bytes_str F.slot_str_eq FQ.slot_eq_refl
    (fun _ hq => call_gives F.slot_str_eq (PySem.typeIs_str s a t) F.entry_str_eq (F.args_str_eq_2 _ _) (FQ.str_declines a t b u) hq)
    (fun _ hq => call_meets FQ.slot_eq_refl (PySem.W.typeIs_bytes s b u) FB.entry_bytes_eq (FB.args_bytes_eq_2 _ _) (FQ.bytes_declines b u (.str a t) "str" FQ.sub_str_bytes) ⟨PySem.typeIs_str s a t, hq⟩)
    (fun _ hq => wpAny_of_eq (rfl : isSame (.str a t) (.bytes b u) = pure false) hq) (.inl rfl) h
theorem eq_str_b (a : Str) (t : Tok) (b : Array UInt8) (u : Tok) : EqAt A s (.str a t) (.bytes b u) false := fun prog w E Q h => by
  unfold eqBool
  refine wpAny_holding ?_
  refine wpAny_ite_split (fun hab => absurd (eq_of_beq hab) nofun) (fun _ => ?_)
  exact wpAny_bind (rc_str_b a t b u prog w E _ (wpAny_truthy_bool h))
theorem rc_b_str (a : Str) (t : Tok) (b : Array UInt8) (u : Tok) : RcAt A s (.bytes b u) (.str a t) false := fun prog w E Q h =>
  rc_eq_decline_or (k := false) (PySem.W.typeIs_bytes s b u) (PySem.typeIs_str s a t) (by decide) FQ.sub_str_bytes FB.slot_bytes_eq F.slot_str_eq_refl
    (fun _ hq => call_meets FB.slot_bytes_eq (PySem.W.typeIs_bytes s b u) FB.entry_bytes_eq (FB.args_bytes_eq_2 _ _) (FQ.bytes_declines b u (.str a t) "str" FQ.sub_str_bytes) ⟨PySem.typeIs_str s a t, hq⟩)
    (fun _ hq => call_gives F.slot_str_eq_refl (PySem.typeIs_str s a t) F.entry_str_eq (F.args_str_eq_2 _ _) (FQ.str_declines a t b u) hq)
    (fun _ hq => wpAny_of_eq (rfl : isSame (.bytes b u) (.str a t) = pure false) hq) (.inl rfl) h
theorem eq_b_str (a : Str) (t : Tok) (b : Array UInt8) (u : Tok) : EqAt A s (.bytes b u) (.str a t) false := fun prog w E Q h => by
  unfold eqBool
  refine wpAny_holding ?_
  refine wpAny_ite_split (fun hab => absurd (eq_of_beq hab) nofun) (fun _ => ?_)
  exact wpAny_bind (rc_b_str a t b u prog w E _ (wpAny_truthy_bool h))
theorem rc_none_b  (b : Array UInt8) (u : Tok) : RcAt A s (.none) (.bytes b u) false := fun prog w E Q h =>
  rc_eq_decline_or (k := false) (rfl) (PySem.W.typeIs_bytes s b u) (by decide) FQ.sub_bytes_NoneType F.slot_NoneType_eq FQ.slot_eq_refl
    (fun _ hq => call_gives F.slot_NoneType_eq (rfl) F.entry_NoneType_eq (F.args_NoneType_eq_2 _ _) (FQ.none_declines b u) hq)
    (fun _ hq => call_meets FQ.slot_eq_refl (PySem.W.typeIs_bytes s b u) FB.entry_bytes_eq (FB.args_bytes_eq_2 _ _) (FQ.bytes_declines b u (.none) "NoneType" FQ.sub_NoneType_bytes) ⟨rfl, hq⟩)
    (fun _ hq => wpAny_of_eq (rfl : isSame (.none) (.bytes b u) = pure false) hq) (.inl rfl) h
theorem eq_none_b  (b : Array UInt8) (u : Tok) : EqAt A s (.none) (.bytes b u) false := fun prog w E Q h => by
  unfold eqBool
  refine wpAny_holding ?_
  refine wpAny_ite_split (fun hab => absurd (eq_of_beq hab) nofun) (fun _ => ?_)
  exact wpAny_bind (rc_none_b  b u prog w E _ (wpAny_truthy_bool h))
theorem rc_b_none  (b : Array UInt8) (u : Tok) : RcAt A s (.bytes b u) (.none) false := fun prog w E Q h =>
  rc_eq_decline_or (k := false) (PySem.W.typeIs_bytes s b u) (rfl) (by decide) FQ.sub_NoneType_bytes FB.slot_bytes_eq F.slot_NoneType_eq_refl
    (fun _ hq => call_meets FB.slot_bytes_eq (PySem.W.typeIs_bytes s b u) FB.entry_bytes_eq (FB.args_bytes_eq_2 _ _) (FQ.bytes_declines b u (.none) "NoneType" FQ.sub_NoneType_bytes) ⟨rfl, hq⟩)
    (fun _ hq => call_gives F.slot_NoneType_eq_refl (rfl) F.entry_NoneType_eq (F.args_NoneType_eq_2 _ _) (FQ.none_declines b u) hq)
    (fun _ hq => wpAny_of_eq (rfl : isSame (.bytes b u) (.none) = pure false) hq) (.inl rfl) h
theorem eq_b_none  (b : Array UInt8) (u : Tok) : EqAt A s (.bytes b u) (.none) false := fun prog w E Q h => by
  unfold eqBool
  refine wpAny_holding ?_
  refine wpAny_ite_split (fun hab => absurd (eq_of_beq hab) nofun) (fun _ => ?_)
  exact wpAny_bind (rc_b_none  b u prog w E _ (wpAny_truthy_bool h))
theorem rc_tuple_b {l : Addr} {items : Array Value} (b : Array UInt8) (u : Tok) (hl : s.heap.IsTuple l items) (hu : A.units < cLine) : RcAt A s (.ref l) (.bytes b u) false := fun prog w E Q h => by
  obtain ⟨⟨cls, dd, data, sl⟩, ho, hc, n, hd⟩ := id hl
  simp only at hc hd
  subst hc hd
  exact rc_eq_decline_or (k := false) ⟨_, ho, rfl⟩ (PySem.W.typeIs_bytes s b u) (by decide) FQ.sub_bytes_tuple F.slot_tuple_eq FQ.slot_eq_refl
    (fun _ hq => call_meets F.slot_tuple_eq ⟨_, ho, rfl⟩ F.entry_tuple_eq (F.args_tuple_eq_2 _ _) (FQ.tuple_declines l items n dd sl b u) ⟨ho, hq⟩)
    (fun _ hq => call_meets FQ.slot_eq_refl (PySem.W.typeIs_bytes s b u) FB.entry_bytes_eq (FB.args_bytes_eq_2 _ _) (FQ.bytes_declines b u (.ref l) "tuple" FQ.sub_tuple_bytes) ⟨⟨_, ho, rfl⟩, hq⟩)
    (fun _ hq => wpAny_of_eq (rfl : isSame (.ref l) (.bytes b u) = pure false) hq) (.inr hu) h
theorem eq_tuple_b {l : Addr} {items : Array Value} (b : Array UInt8) (u : Tok) (hl : s.heap.IsTuple l items) (hu : A.units < cLine) : EqAt A s (.ref l) (.bytes b u) false := fun prog w E Q h => by
  unfold eqBool
  refine wpAny_holding ?_
  refine wpAny_ite_split (fun hab => absurd (eq_of_beq hab) nofun) (fun _ => ?_)
  exact wpAny_bind (rc_tuple_b b u hl hu prog w E _ (wpAny_truthy_bool h))
theorem rc_b_tuple {l : Addr} {items : Array Value} (b : Array UInt8) (u : Tok) (hl : s.heap.IsTuple l items) (hu : A.units < cLine) : RcAt A s (.bytes b u) (.ref l) false := fun prog w E Q h => by
  obtain ⟨⟨cls, dd, data, sl⟩, ho, hc, n, hd⟩ := id hl
  simp only at hc hd
  subst hc hd
  exact rc_eq_decline_or (k := false) (PySem.W.typeIs_bytes s b u) ⟨_, ho, rfl⟩ (by decide) FQ.sub_tuple_bytes FB.slot_bytes_eq F.slot_tuple_eq_refl
    (fun _ hq => call_meets FB.slot_bytes_eq (PySem.W.typeIs_bytes s b u) FB.entry_bytes_eq (FB.args_bytes_eq_2 _ _) (FQ.bytes_declines b u (.ref l) "tuple" FQ.sub_tuple_bytes) ⟨⟨_, ho, rfl⟩, hq⟩)
    (fun _ hq => call_meets F.slot_tuple_eq_refl ⟨_, ho, rfl⟩ F.entry_tuple_eq (F.args_tuple_eq_2 _ _) (FQ.tuple_declines l items n dd sl b u) ⟨ho, hq⟩)
    (fun _ hq => wpAny_of_eq (rfl : isSame (.bytes b u) (.ref l) = pure false) hq) (.inr hu) h
theorem eq_b_tuple {l : Addr} {items : Array Value} (b : Array UInt8) (u : Tok) (hl : s.heap.IsTuple l items) (hu : A.units < cLine) : EqAt A s (.bytes b u) (.ref l) false := fun prog w E Q h => by
  unfold eqBool
  refine wpAny_holding ?_
  refine wpAny_ite_split (fun hab => absurd (eq_of_beq hab) nofun) (fun _ => ?_)
  exact wpAny_bind (rc_b_tuple b u hl hu prog w E _ (wpAny_truthy_bool h))
theorem rc_list_b {l : Addr} {items : Array Value} (b : Array UInt8) (u : Tok) (hl : s.heap.IsList l items) (hu : A.units < cLine) : RcAt A s (.ref l) (.bytes b u) false := fun prog w E Q h => by
  obtain ⟨⟨cls, dd, data, sl⟩, ho, hc, n, hd⟩ := id hl
  simp only at hc hd
  subst hc hd
  exact rc_eq_decline_or (k := false) ⟨_, ho, rfl⟩ (PySem.W.typeIs_bytes s b u) (by decide) FQ.sub_bytes_list F.slot_list_eq FQ.slot_eq_refl
    (fun _ hq => call_meets F.slot_list_eq ⟨_, ho, rfl⟩ F.entry_list_eq (F.args_list_eq_2 _ _) (FQ.list_declines l items n dd sl b u) ⟨ho, hq⟩)
    (fun _ hq => call_meets FQ.slot_eq_refl (PySem.W.typeIs_bytes s b u) FB.entry_bytes_eq (FB.args_bytes_eq_2 _ _) (FQ.bytes_declines b u (.ref l) "list" FQ.sub_list_bytes) ⟨⟨_, ho, rfl⟩, hq⟩)
    (fun _ hq => wpAny_of_eq (rfl : isSame (.ref l) (.bytes b u) = pure false) hq) (.inr hu) h
theorem eq_list_b {l : Addr} {items : Array Value} (b : Array UInt8) (u : Tok) (hl : s.heap.IsList l items) (hu : A.units < cLine) : EqAt A s (.ref l) (.bytes b u) false := fun prog w E Q h => by
  unfold eqBool
  refine wpAny_holding ?_
  refine wpAny_ite_split (fun hab => absurd (eq_of_beq hab) nofun) (fun _ => ?_)
  exact wpAny_bind (rc_list_b b u hl hu prog w E _ (wpAny_truthy_bool h))
theorem rc_b_list {l : Addr} {items : Array Value} (b : Array UInt8) (u : Tok) (hl : s.heap.IsList l items) (hu : A.units < cLine) : RcAt A s (.bytes b u) (.ref l) false := fun prog w E Q h => by
  obtain ⟨⟨cls, dd, data, sl⟩, ho, hc, n, hd⟩ := id hl
  simp only at hc hd
  subst hc hd
  exact rc_eq_decline_or (k := false) (PySem.W.typeIs_bytes s b u) ⟨_, ho, rfl⟩ (by decide) FQ.sub_list_bytes FB.slot_bytes_eq F.slot_list_eq_refl
    (fun _ hq => call_meets FB.slot_bytes_eq (PySem.W.typeIs_bytes s b u) FB.entry_bytes_eq (FB.args_bytes_eq_2 _ _) (FQ.bytes_declines b u (.ref l) "list" FQ.sub_list_bytes) ⟨⟨_, ho, rfl⟩, hq⟩)
    (fun _ hq => call_meets F.slot_list_eq_refl ⟨_, ho, rfl⟩ F.entry_list_eq (F.args_list_eq_2 _ _) (FQ.list_declines l items n dd sl b u) ⟨ho, hq⟩)
    (fun _ hq => wpAny_of_eq (rfl : isSame (.bytes b u) (.ref l) = pure false) hq) (.inr hu) h
theorem eq_b_list {l : Addr} {items : Array Value} (b : Array UInt8) (u : Tok) (hl : s.heap.IsList l items) (hu : A.units < cLine) : EqAt A s (.bytes b u) (.ref l) false := fun prog w E Q h => by
  unfold eqBool
  refine wpAny_holding ?_
  refine wpAny_ite_split (fun hab => absurd (eq_of_beq hab) nofun) (fun _ => ?_)
  exact wpAny_bind (rc_b_list b u hl hu prog w E _ (wpAny_truthy_bool h))
theorem eq_b_b (b c : Array UInt8) (t u : Tok) : EqAt A s (.bytes b t) (.bytes c u) (decide (b = c)) := fun prog w E Q h => eqBool_bytes (by
  rw [show decide (b.toList = c.toList) = decide (b = c) from by rw [decide_eq_decide]; exact ⟨fun e => by rw [← Array.toArray_toList (xs := b), e], fun e => by rw [e]⟩]
  exact h)
end
end Mine
end
section
open PySem.SeqAt
namespace Mine
inductive At where
  | none
  | bool (b : Bool)
  | int (i : Int)
  | str (x : Str)
  | bytes (o : Array UInt8)
  deriving DecidableEq
noncomputable def At.R : At → Value → Prop
  | .none, v => v = .none
  | .bool b, v => v = .bool b
  | .int i, v => ∃ t, v = .int i t
  | .str x, v => ∃ t, v = .str x t
  | .bytes o, v => ∃ t, v = .bytes o t
noncomputable def At.eq : At → At → Bool
  | .none, .none => true
  | .bool a, .bool b => a == b
  | .bool a, .int b => (if a then (1 : Int) else 0) == b
  | .int a, .bool b => a == (if b then (1 : Int) else 0)
  | .int a, .int b => a == b
  | .str a, .str b => a == b
  | .bytes a, .bytes b => decide (a = b)
  | _, _ => false
theorem At.eq_refl (a : At) : a.eq a = true := by cases a <;> simp [At.eq]
theorem At.R_inj {a b : At} {v : Value} (h : a.R v) (k : b.R v) : a = b := by
  cases a <;> cases b <;> simp only [At.R] at h k <;> (try obtain ⟨t, rfl⟩ := h) <;> (try obtain ⟨u, rfl⟩ := k) <;> (try subst h) <;> simp_all
noncomputable def tEq : List At → List At → Bool
  | [], [] => true
  | a :: r, b :: t => a.eq b && tEq r t
  | _, _ => false
theorem tEq_refl : ∀ l : List At, tEq l l = true
  | [] => rfl
  | a :: r => by rw [tEq, At.eq_refl, tEq_refl r]; rfl
inductive AllR : List At → List Value → Prop
  | nil : AllR [] []
  | cons {a : At} {v : Value} {l : List At} {vs : List Value} : a.R v → AllR l vs → AllR (a :: l) (v :: vs)
theorem AllR.length {l : List At} {vs : List Value} (h : AllR l vs) : l.length = vs.length := by induction h with | nil => rfl | cons _ _ ih => simp [ih]
theorem AllR.inj {l l' : List At} {vs : List Value} (h : AllR l vs) (k : AllR l' vs) : l = l' := by
  induction h generalizing l' with
  | nil => cases k; rfl
  | cons h1 _ ih => cases k with | cons k1 k2 => rw [At.R_inj h1 k1, ih k2]
theorem AllR.get {l : List At} {vs : List Value} (h : AllR l vs) : ∀ (j : Nat) (hj : j < vs.length), (l.getD j .none).R (vs[j]) := by
  induction h with
  | nil => intro j hj; cases hj
  | cons h1 _ ih =>
    intro j hj
    cases j with
    | zero => exact h1
    | succ j => simpa using ih j (by simpa using hj)
theorem tEq_range : ∀ l l' : List At, ((List.range (min l.length l'.length)).all (fun j => (l.getD j .none).eq (l'.getD j .none)) && l.length == l'.length) = tEq l l'
  | [], [] => rfl
  | [], _ :: _ => by simp [tEq]
  | _ :: _, [] => by simp [tEq]
  | a :: r, b :: t => by
    have ih := tEq_range r t
    rw [List.length_cons, List.length_cons, Nat.succ_min_succ, List.range_succ_eq_map, List.all_cons, List.all_map]
    simp only [List.getD_cons_zero, Function.comp_def, List.getD_cons_succ, Bool.and_assoc, tEq]
    rw [show ((r.length + 1 == t.length + 1) : Bool) = (r.length == t.length) from by rw [Bool.eq_iff_iff]; simp, ih]
noncomputable def TupR (h : Heap) (l : List At) (v : Value) : Prop := ∃ a xs, v = .ref a ∧ h.IsTuple a (List.toArray xs) ∧ AllR l xs
theorem TupR.keep {h h' : Heap} {l : List At} {v : Value} (I : TupR h l v) (S : h.StaysIn h') : TupR h' l v :=
  let ⟨a, xs, e, ⟨o, h1, h2, n, h3⟩, r⟩ := I; ⟨a, xs, e, ⟨o, S _ _ h1, h2, n, h3⟩, r⟩
section
variable {A : Around} {s : Shared}
theorem at_eq {a b : At} {v w : Value} (h : a.R v) (k : b.R w) : EqAt A s v w (a.eq b) := by
  cases a <;> cases b <;> simp only [At.R] at h k <;> (try obtain ⟨t, rfl⟩ := h) <;> (try obtain ⟨u, rfl⟩ := k) <;> (try subst h) <;> (try subst k)
  · exact EqAt.same _
  · exact EqAt.none_bool _
  · exact EqAt.none_int _ _
  · exact EqAt.none_str _ _
  · exact eq_none_b _ _
  · exact EqAt.bool_none _
  · exact EqAt.bool_bool _ _
  · exact EqAt.bool_int _ _ _
  · exact EqAt.bool_str _ _ _
  · exact eq_bool_b _ _ _
  · exact EqAt.int_none _ _
  · exact EqAt.int_bool _ _ _
  · exact EqAt.int_int _ _ _ _
  · exact EqAt.int_str _ _ _ _
  · exact eq_int_b _ _ _ _
  · exact EqAt.str_none _ _
  · exact EqAt.str_bool _ _ _
  · exact EqAt.str_int _ _ _ _
  · exact EqAt.str_str _ _ _ _
  · exact eq_str_b _ _ _ _
  · exact eq_b_none _ _
  · exact eq_b_bool _ _ _
  · exact eq_b_int _ _ _ _
  · exact eq_b_str _ _ _ _
  · exact eq_b_b _ _ _ _
theorem tup_rc {l l' : List At} {v w : Value} (h : TupR s.heap l v) (k : TupR s.heap l' w) (hu : A.units < cLine) : RcAt A s v w (tEq l l') := by
  obtain ⟨a, xs, rfl, h1, h2⟩ := h
  obtain ⟨b, ys, rfl, k1, k2⟩ := k
  rw [← tEq_range, h2.length, k2.length]
  have := RcAt.tuples (e := fun j => (l.getD j .none).eq (l'.getD j .none)) h1 k1 hu fun j j1 j2 => by
    have e1 := h2.get j (by simpa using j1)
    have e2 := k2.get j (by simpa using j2)
    simpa using at_eq e1 e2
  simpa using this
theorem tup_eq {l l' : List At} {v w : Value} (h : TupR s.heap l v) (k : TupR s.heap l' w) (hu : A.units < cLine) : EqAt A s v w (tEq l l') := by
  have hr := tup_rc h k hu
  obtain ⟨a, xs, rfl, h1, h2⟩ := h
  obtain ⟨b, ys, rfl, k1, k2⟩ := k
  by_cases hab : a = b
  · subst hab
    have : xs = ys := by
      obtain ⟨o, g1, g2, n, g3⟩ := h1
      obtain ⟨o', f1, f2, n', f3⟩ := k1
      rw [g1] at f1; cases f1
      rw [g3] at f3
      injection f3 with f3 f4
      have := congrArg Array.toList f3
      simpa using this
    subst this
    rw [h2.inj k2, tEq_refl]
    exact EqAt.same _
  · exact EqAt.of_refs hab hr
end
inductive It where
  | at (a : At)
  | tup (l : List At)
noncomputable def It.R (h : Heap) : It → Value → Prop
  | .at a, v => a.R v
  | .tup l, v => TupR h l v
noncomputable def It.eq : It → It → Bool
  | .at a, .at b => a.eq b
  | .tup l, .tup l' => tEq l l'
  | _, _ => false
noncomputable def lEq : List It → List It → Bool
  | [], [] => true
  | a :: r, b :: t => a.eq b && lEq r t
  | _, _ => false
theorem It.eq_refl (a : It) : a.eq a = true := by cases a <;> simp [It.eq, At.eq_refl, tEq_refl]
theorem lEq_refl : ∀ l : List It, lEq l l = true
  | [] => rfl
  | a :: r => by rw [lEq, It.eq_refl, lEq_refl r]; rfl
inductive ItsR (h : Heap) : List It → List Value → Prop
  | nil : ItsR h [] []
  | cons {a : It} {v : Value} {l : List It} {vs : List Value} : a.R h v → ItsR h l vs → ItsR h (a :: l) (v :: vs)
theorem ItsR.length {h : Heap} {l : List It} {vs : List Value} (I : ItsR h l vs) : l.length = vs.length := by induction I with | nil => rfl | cons _ _ ih => simp [ih]
theorem ItsR.get {h : Heap} {l : List It} {vs : List Value} (I : ItsR h l vs) : ∀ (j : Nat) (hj : j < vs.length), (l.getD j (.at .none)).R h (vs[j]) := by
  induction I with
  | nil => intro j hj; cases hj
  | cons h1 _ ih =>
    intro j hj
    cases j with
    | zero => exact h1
    | succ j => simpa using ih j (by simpa using hj)
theorem It.R.keep {h h' : Heap} {a : It} {v : Value} (I : a.R h v) (S : h.StaysIn h') : a.R h' v := by
  cases a with
  | «at» a => exact I
  | tup l => exact TupR.keep I S
theorem ItsR.keep {h h' : Heap} {l : List It} {vs : List Value} (I : ItsR h l vs) (S : h.StaysIn h') : ItsR h' l vs := by
  induction I with
  | nil => exact .nil
  | cons h1 _ ih => exact .cons (h1.keep S) ih
noncomputable def LstR (h : Heap) (l : List It) (v : Value) : Prop := ∃ a xs, v = .ref a ∧ h.IsList a (List.toArray xs) ∧ ItsR h l xs
theorem LstR.keep {h h' : Heap} {l : List It} {v : Value} (I : LstR h l v) (S : h.StaysIn h') : LstR h' l v :=
  let ⟨a, xs, e, ⟨o, h1, h2, n, h3⟩, r⟩ := I; ⟨a, xs, e, ⟨o, S _ _ h1, h2, n, h3⟩, r.keep S⟩
theorem lEq_range : ∀ l l' : List It, l.length = l'.length → (List.range l.length).all (fun j => (l.getD j (.at .none)).eq (l'.getD j (.at .none))) = lEq l l'
  | [], [], _ => rfl
  | [], _ :: _, h => by simp at h
  | _ :: _, [], h => by simp at h
  | a :: r, b :: t, h => by
    have ih := lEq_range r t (by simpa using h)
    rw [List.length_cons, List.range_succ_eq_map, List.all_cons, List.all_map]
    simp only [List.getD_cons_zero, Function.comp_def, List.getD_cons_succ, lEq]
    rw [ih]
theorem lEq_len : ∀ l l' : List It, l.length ≠ l'.length → lEq l l' = false
  | [], [], h => absurd rfl h
  | [], _ :: _, _ => rfl
  | _ :: _, [], _ => rfl
  | a :: r, b :: t, h => by rw [lEq, lEq_len r t (by simpa using h), Bool.and_false]
section
variable {A : Around} {s : Shared}
theorem at_tup {a : At} {l : List At} {v w : Value} (h : a.R v) (k : TupR s.heap l w) (hu : A.units < cLine) : EqAt A s v w false := by
  obtain ⟨b, xs, rfl, k1, k2⟩ := k
  cases a <;> simp only [At.R] at h <;> (try obtain ⟨t, rfl⟩ := h) <;> (try subst h)
  · exact EqAt.none_tuple k1 hu
  · exact EqAt.bool_tuple _ k1 hu
  · exact EqAt.int_tuple _ _ k1 hu
  · exact EqAt.str_tuple _ _ k1 hu
  · exact eq_b_tuple _ _ k1 hu
theorem tup_at {a : At} {l : List At} {v w : Value} (h : a.R v) (k : TupR s.heap l w) (hu : A.units < cLine) : EqAt A s w v false := by
  obtain ⟨b, xs, rfl, k1, k2⟩ := k
  cases a <;> simp only [At.R] at h <;> (try obtain ⟨t, rfl⟩ := h) <;> (try subst h)
  · exact EqAt.tuple_none k1 hu
  · exact EqAt.tuple_bool _ k1 hu
  · exact EqAt.tuple_int _ _ k1 hu
  · exact EqAt.tuple_str _ _ k1 hu
  · exact eq_tuple_b _ _ k1 hu
theorem it_eq {a b : It} {v w : Value} (h : a.R s.heap v) (k : b.R s.heap w) (hu : A.units < cLine) : EqAt A s v w (a.eq b) := by
  cases a <;> cases b
  · exact at_eq h k
  · exact at_tup h k hu
  · exact tup_at k h hu
  · exact tup_eq h k hu
theorem lst_rc {l l' : List It} {v w : Value} (h : LstR s.heap l v) (k : LstR s.heap l' w) (hu : A.units + 1 < cLine) : RcAt A s v w (lEq l l') := by
  obtain ⟨a, xs, rfl, h1, h2⟩ := h
  obtain ⟨b, ys, rfl, k1, k2⟩ := k
  by_cases hl : l.length = l'.length
  · have hsz : xs.toArray.size = ys.toArray.size := by rw [List.size_toArray, List.size_toArray, ← h2.length, ← k2.length, hl]
    have := RcAt.lists (A := A) (e := fun j => (l.getD j (.at .none)).eq (l'.getD j (.at .none))) h1 k1 hsz (by omega) fun j j1 j2 => by
      have e1 := h2.get j (by simpa using j1)
      have e2 := k2.get j (by simpa using j2)
      simpa using it_eq (A := A.in1) e1 e2 (by show A.units + 1 < cLine; exact hu)
    rw [← lEq_range _ _ hl, h2.length]
    simpa using this
  · rw [lEq_len _ _ hl]
    exact RcAt.lists_lengths h1 k1 (by rw [List.size_toArray, List.size_toArray, ← h2.length, ← k2.length]; simpa using hl) (by omega)
theorem tup_ne {l l' : List At} {v w : Value} (h : TupR s.heap l v) (k : TupR s.heap l' w) (hu : A.units < cLine) : RcNeAt A s v w (!tEq l l') := by
  obtain ⟨a, xs, rfl, h1, h2⟩ := h
  obtain ⟨b, ys, rfl, k1, k2⟩ := k
  have := RcNeAt.tuples (e := fun j => (l.getD j .none).eq (l'.getD j .none)) h1 k1 hu fun j j1 j2 => by
    have e1 := h2.get j (by simpa using j1)
    have e2 := k2.get j (by simpa using j2)
    simpa using at_eq e1 e2
  rw [← tEq_range, h2.length, k2.length]
  simpa using this
theorem lst_ne {l l' : List It} {v w : Value} (h : LstR s.heap l v) (k : LstR s.heap l' w) (hu : A.units + 1 < cLine) : RcNeAt A s v w (!lEq l l') := by
  obtain ⟨a, xs, rfl, h1, h2⟩ := h
  obtain ⟨b, ys, rfl, k1, k2⟩ := k
  by_cases hl : l.length = l'.length
  · have hsz : xs.toArray.size = ys.toArray.size := by rw [List.size_toArray, List.size_toArray, ← h2.length, ← k2.length, hl]
    have := RcNeAt.lists (A := A) (e := fun j => (l.getD j (.at .none)).eq (l'.getD j (.at .none))) h1 k1 hsz (by omega) fun j j1 j2 => by
      have e1 := h2.get j (by simpa using j1)
      have e2 := k2.get j (by simpa using j2)
      simpa using it_eq (A := A.in1) e1 e2 (by show A.units + 1 < cLine; exact hu)
    rw [← lEq_range _ _ hl, h2.length]
    simpa using this
  · rw [lEq_len _ _ hl]
    exact RcNeAt.lists_lengths h1 k1 (by rw [List.size_toArray, List.size_toArray, ← h2.length, ← k2.length]; simpa using hl) (by omega)
end
noncomputable def ltB (b c : Array UInt8) : Bool := Builtin.Bytes.order b.toList c.toList == .lt
theorem slot_blt : Slot "bytes" (cmpInfo .Lt).2.1 "bytes.__lt__" :=
  .of (owner := "bytes") (n := "__lt__") (by rw [typeLookup_type, builtinLookup_eq_fast]; kernel_rfl) (by decide +kernel) (by decide +kernel) (by decide +kernel)
    (by first | exact .inl (by decide +kernel) | exact .inr (by decide +kernel)) (by rw [isSubtype_type]; kernel_rfl)
theorem entry_blt : entryFor table "bytes.__lt__" = some Builtin.«bytes.__lt__» := by first | exact entryFor_of_tree (by kernel_rfl) | exact entryFor_of_fast (by kernel_rfl)
theorem args_blt (a b : Value) : argsOk "bytes.__lt__" ⟨[a, b], []⟩ := by unfold argsOk; kernel_rfl
theorem gives_blt (b c : Array UInt8) (t u : Tok) : Gives (Builtin.«bytes.__lt__» ⟨[.bytes b t, .bytes c u], []⟩) (.val (.bool (ltB b c))) := by
  refine .of_wp fun M A E s Q hq => ?_
  show wpAny M A (isInstance (.bytes c u) (.type "bytes") >>= fun r => _) _ E s
  refine wpAny_bind (wpAny_isInstance (PySem.W.typeIs_bytes s c u) F.sub_bytes_bytes ?_)
  exact wpAny_pure ⟨_, rfl, hq⟩
theorem ltB_ln {prog : Program} {w : World} {A : Around} {E : Value → Shared → Prop} {s : Shared} {b c : Array UInt8} {t u : Tok} {Q : Value → Shared → Prop} (h : Q (.bool (ltB b c)) s) :
    wpAny (model prog w) A (compareOp .Lt (.bytes b t) (.bytes c u)) Q E s :=
  compareOp_gives (PySem.W.typeIs_bytes s b t) (PySem.W.typeIs_bytes s c u) slot_blt entry_blt (args_blt _ _) (gives_blt b c t u) (fun x => nomatch x) h
end Mine
end
section
namespace Mine
noncomputable def stAt (l : List Stmt) (n : Nat) : Stmt := l.getD n (.Pass ⟨0, 0, 0, 0⟩)
noncomputable def bodyOf : Stmt → List Stmt | .FunctionDef _ _ b _ _ _ _ _ _ _ => b | .ClassDef _ _ _ b _ _ _ _ _ _ _ => b | _ => []
noncomputable def parsOf : Stmt → Arguments | .FunctionDef _ a _ _ _ _ _ _ _ _ => a | _ => ⟨[], [], none, [], [], none, []⟩
noncomputable def scopOf : Stmt → Scope | .FunctionDef _ _ _ _ _ _ c _ _ _ => c | _ => ⟨.module, [], false, false, []⟩
noncomputable def posOf : Stmt → Pos | .FunctionDef _ _ _ _ _ _ _ _ _ p => p | _ => ⟨0, 0, 0, 0⟩
noncomputable abbrev top : List Stmt := PySem.Challenge.pw_on0261_01.main.body
noncomputable def hd.heap_39 : Params → Frag := by
  refine (?F : ∀ (p0 : Arguments) (_ : p0 = parsOf (stAt top 0)), ∀ (b0 : List Stmt) (_ : b0 = bodyOf (stAt top 0)), ∀ (c0 : Scope) (_ : c0 = scopOf (stAt top 0)), ∀ (p1 : Arguments) (_ : p1 = parsOf (stAt (bodyOf (stAt top 3)) 0)), ∀ (b1 : List Stmt) (_ : b1 = bodyOf (stAt (bodyOf (stAt top 3)) 0)), ∀ (c1 : Scope) (_ : c1 = scopOf (stAt (bodyOf (stAt top 3)) 0)), ∀ (p2 : Arguments) (_ : p2 = parsOf (stAt (bodyOf (stAt top 10)) 0)), ∀ (b2 : List Stmt) (_ : b2 = bodyOf (stAt (bodyOf (stAt top 10)) 0)), ∀ (c2 : Scope) (_ : c2 = scopOf (stAt (bodyOf (stAt top 10)) 0)), ∀ (p3 : Arguments) (_ : p3 = parsOf (stAt (bodyOf (stAt top 11)) 0)), ∀ (b3 : List Stmt) (_ : b3 = bodyOf (stAt (bodyOf (stAt top 11)) 0)), ∀ (c3 : Scope) (_ : c3 = scopOf (stAt (bodyOf (stAt top 11)) 0)), ∀ (p4 : Arguments) (_ : p4 = parsOf (stAt (bodyOf (stAt top 12)) 0)), ∀ (b4 : List Stmt) (_ : b4 = bodyOf (stAt (bodyOf (stAt top 12)) 0)), ∀ (c4 : Scope) (_ : c4 = scopOf (stAt (bodyOf (stAt top 12)) 0)), ∀ (p5 : Arguments) (_ : p5 = parsOf (stAt (bodyOf (stAt top 13)) 0)), ∀ (b5 : List Stmt) (_ : b5 = bodyOf (stAt (bodyOf (stAt top 13)) 0)), ∀ (c5 : Scope) (_ : c5 = scopOf (stAt (bodyOf (stAt top 13)) 0)), ∀ (p6 : Arguments) (_ : p6 = parsOf (stAt (bodyOf (stAt top 13)) 1)), ∀ (b6 : List Stmt) (_ : b6 = bodyOf (stAt (bodyOf (stAt top 13)) 1)), ∀ (c6 : Scope) (_ : c6 = scopOf (stAt (bodyOf (stAt top 13)) 1)), ∀ (p7 : Arguments) (_ : p7 = parsOf (stAt (bodyOf (stAt top 13)) 2)), ∀ (b7 : List Stmt) (_ : b7 = bodyOf (stAt (bodyOf (stAt top 13)) 2)), ∀ (c7 : Scope) (_ : c7 = scopOf (stAt (bodyOf (stAt top 13)) 2)), ∀ (p8 : Arguments) (_ : p8 = parsOf (stAt (bodyOf (stAt top 14)) 0)), ∀ (b8 : List Stmt) (_ : b8 = bodyOf (stAt (bodyOf (stAt top 14)) 0)), ∀ (c8 : Scope) (_ : c8 = scopOf (stAt (bodyOf (stAt top 14)) 0)), ∀ (p9 : Arguments) (_ : p9 = parsOf (stAt top 15)), ∀ (b9 : List Stmt) (_ : b9 = bodyOf (stAt top 15)), ∀ (c9 : Scope) (_ : c9 = scopOf (stAt top 15)), ∀ (p10 : Arguments) (_ : p10 = parsOf (stAt top 16)), ∀ (b10 : List Stmt) (_ : b10 = bodyOf (stAt top 16)), ∀ (c10 : Scope) (_ : c10 = scopOf (stAt top 16)), ∀ (p11 : Arguments) (_ : p11 = parsOf (stAt top 17)), ∀ (b11 : List Stmt) (_ : b11 = bodyOf (stAt top 17)), ∀ (c11 : Scope) (_ : c11 = scopOf (stAt top 17)), ∀ (p12 : Arguments) (_ : p12 = parsOf (stAt top 18)), ∀ (b12 : List Stmt) (_ : b12 = bodyOf (stAt top 18)), ∀ (c12 : Scope) (_ : c12 = scopOf (stAt top 18)), ∀ (p13 : Arguments) (_ : p13 = parsOf (stAt top 19)), ∀ (b13 : List Stmt) (_ : b13 = bodyOf (stAt top 19)), ∀ (c13 : Scope) (_ : c13 = scopOf (stAt top 19)), ∀ (p14 : Arguments) (_ : p14 = parsOf (stAt top 20)), ∀ (b14 : List Stmt) (_ : b14 = bodyOf (stAt top 20)), ∀ (c14 : Scope) (_ : c14 = scopOf (stAt top 20)), ∀ (p15 : Arguments) (_ : p15 = parsOf (stAt top 21)), ∀ (b15 : List Stmt) (_ : b15 = bodyOf (stAt top 21)), ∀ (c15 : Scope) (_ : c15 = scopOf (stAt top 21)), ∀ (p16 : Arguments) (_ : p16 = parsOf (stAt top 22)), ∀ (b16 : List Stmt) (_ : b16 = bodyOf (stAt top 22)), ∀ (c16 : Scope) (_ : c16 = scopOf (stAt top 22)), ∀ (p17 : Arguments) (_ : p17 = parsOf (stAt top 23)), ∀ (b17 : List Stmt) (_ : b17 = bodyOf (stAt top 23)), ∀ (c17 : Scope) (_ : c17 = scopOf (stAt top 23)), ∀ (p18 : Arguments) (_ : p18 = parsOf (stAt top 24)), ∀ (b18 : List Stmt) (_ : b18 = bodyOf (stAt top 24)), ∀ (c18 : Scope) (_ : c18 = scopOf (stAt top 24)), ∀ (p19 : Arguments) (_ : p19 = parsOf (stAt top 25)), ∀ (b19 : List Stmt) (_ : b19 = bodyOf (stAt top 25)), ∀ (c19 : Scope) (_ : c19 = scopOf (stAt top 25)), ∀ (p20 : Arguments) (_ : p20 = parsOf (stAt top 26)), ∀ (b20 : List Stmt) (_ : b20 = bodyOf (stAt top 26)), ∀ (c20 : Scope) (_ : c20 = scopOf (stAt top 26)), ∀ (p21 : Arguments) (_ : p21 = parsOf (stAt top 27)), ∀ (b21 : List Stmt) (_ : b21 = bodyOf (stAt top 27)), ∀ (c21 : Scope) (_ : c21 = scopOf (stAt top 27)), ∀ (p22 : Arguments) (_ : p22 = parsOf (stAt top 28)), ∀ (b22 : List Stmt) (_ : b22 = bodyOf (stAt top 28)), ∀ (c22 : Scope) (_ : c22 = scopOf (stAt top 28)), ∀ (p23 : Arguments) (_ : p23 = parsOf (stAt top 29)), ∀ (b23 : List Stmt) (_ : b23 = bodyOf (stAt top 29)), ∀ (c23 : Scope) (_ : c23 = scopOf (stAt top 29)), ∀ (p24 : Arguments) (_ : p24 = parsOf (stAt top 30)), ∀ (b24 : List Stmt) (_ : b24 = bodyOf (stAt top 30)), ∀ (c24 : Scope) (_ : c24 = scopOf (stAt top 30)), ∀ (p25 : Arguments) (_ : p25 = parsOf (stAt top 31)), ∀ (b25 : List Stmt) (_ : b25 = bodyOf (stAt top 31)), ∀ (c25 : Scope) (_ : c25 = scopOf (stAt top 31)), ∀ (p26 : Arguments) (_ : p26 = parsOf (stAt top 32)), ∀ (b26 : List Stmt) (_ : b26 = bodyOf (stAt top 32)), ∀ (c26 : Scope) (_ : c26 = scopOf (stAt top 32)), ∀ (p27 : Arguments) (_ : p27 = parsOf (stAt top 33)), ∀ (b27 : List Stmt) (_ : b27 = bodyOf (stAt top 33)), ∀ (c27 : Scope) (_ : c27 = scopOf (stAt top 33)), ∀ (p28 : Arguments) (_ : p28 = parsOf (stAt top 34)), ∀ (b28 : List Stmt) (_ : b28 = bodyOf (stAt top 34)), ∀ (c28 : Scope) (_ : c28 = scopOf (stAt top 34)), ∀ (p29 : Arguments) (_ : p29 = parsOf (stAt top 35)), ∀ (b29 : List Stmt) (_ : b29 = bodyOf (stAt top 35)), ∀ (c29 : Scope) (_ : c29 = scopOf (stAt top 35)), ∀ (p30 : Arguments) (_ : p30 = parsOf (stAt top 36)), ∀ (b30 : List Stmt) (_ : b30 = bodyOf (stAt top 36)), ∀ (c30 : Scope) (_ : c30 = scopOf (stAt top 36)), ∀ (p31 : Arguments) (_ : p31 = parsOf (stAt top 37)), ∀ (b31 : List Stmt) (_ : b31 = bodyOf (stAt top 37)), ∀ (c31 : Scope) (_ : c31 = scopOf (stAt top 37)), ∀ (p32 : Arguments) (_ : p32 = parsOf (stAt top 38)), ∀ (b32 : List Stmt) (_ : b32 = bodyOf (stAt top 38)), ∀ (c32 : Scope) (_ : c32 = scopOf (stAt top 38)), ∀ (p33 : Arguments) (_ : p33 = parsOf (stAt top 39)), ∀ (b33 : List Stmt) (_ : b33 = bodyOf (stAt top 39)), ∀ (c33 : Scope) (_ : c33 = scopOf (stAt top 39)), ∀ (p34 : Arguments) (_ : p34 = parsOf (stAt top 40)), ∀ (b34 : List Stmt) (_ : b34 = bodyOf (stAt top 40)), ∀ (c34 : Scope) (_ : c34 = scopOf (stAt top 40)), ∀ (p35 : Arguments) (_ : p35 = parsOf (stAt top 41)), ∀ (b35 : List Stmt) (_ : b35 = bodyOf (stAt top 41)), ∀ (c35 : Scope) (_ : c35 = scopOf (stAt top 41)), ∀ (p36 : Arguments) (_ : p36 = parsOf (stAt top 43)), ∀ (b36 : List Stmt) (_ : b36 = bodyOf (stAt top 43)), ∀ (c36 : Scope) (_ : c36 = scopOf (stAt top 43)), ∀ (p37 : Arguments) (_ : p37 = parsOf (stAt top 44)), ∀ (b37 : List Stmt) (_ : b37 = bodyOf (stAt top 44)), ∀ (c37 : Scope) (_ : c37 = scopOf (stAt top 44)), ∀ (p38 : Arguments) (_ : p38 = parsOf (stAt top 45)), ∀ (b38 : List Stmt) (_ : b38 = bodyOf (stAt top 45)), ∀ (c38 : Scope) (_ : c38 = scopOf (stAt top 45)), ∀ (p39 : Arguments) (_ : p39 = parsOf (stAt top 46)), ∀ (b39 : List Stmt) (_ : b39 = bodyOf (stAt top 46)), ∀ (c39 : Scope) (_ : c39 = scopOf (stAt top 46)), ∀ (p40 : Arguments) (_ : p40 = parsOf (stAt top 47)), ∀ (b40 : List Stmt) (_ : b40 = bodyOf (stAt top 47)), ∀ (c40 : Scope) (_ : c40 = scopOf (stAt top 47)), ∀ (p41 : Arguments) (_ : p41 = parsOf (stAt top 48)), ∀ (b41 : List Stmt) (_ : b41 = bodyOf (stAt top 48)), ∀ (c41 : Scope) (_ : c41 = scopOf (stAt top 48)), ∀ (p42 : Arguments) (_ : p42 = parsOf (stAt top 49)), ∀ (b42 : List Stmt) (_ : b42 = bodyOf (stAt top 49)), ∀ (c42 : Scope) (_ : c42 = scopOf (stAt top 49)), ∀ (p43 : Arguments) (_ : p43 = parsOf (stAt top 50)), ∀ (b43 : List Stmt) (_ : b43 = bodyOf (stAt top 50)), ∀ (c43 : Scope) (_ : c43 = scopOf (stAt top 50)), ∀ (p44 : Arguments) (_ : p44 = parsOf (stAt top 51)), ∀ (b44 : List Stmt) (_ : b44 = bodyOf (stAt top 51)), ∀ (c44 : Scope) (_ : c44 = scopOf (stAt top 51)), ∀ (p45 : Arguments) (_ : p45 = parsOf (stAt top 52)), ∀ (b45 : List Stmt) (_ : b45 = bodyOf (stAt top 52)), ∀ (c45 : Scope) (_ : c45 = scopOf (stAt top 52)), ∀ (p46 : Arguments) (_ : p46 = parsOf (stAt top 53)), ∀ (b46 : List Stmt) (_ : b46 = bodyOf (stAt top 53)), ∀ (c46 : Scope) (_ : c46 = scopOf (stAt top 53)), ∀ (p47 : Arguments) (_ : p47 = parsOf (stAt top 54)), ∀ (b47 : List Stmt) (_ : b47 = bodyOf (stAt top 54)), ∀ (c47 : Scope) (_ : c47 = scopOf (stAt top 54)), ∀ (p48 : Arguments) (_ : p48 = parsOf (stAt top 55)), ∀ (b48 : List Stmt) (_ : b48 = bodyOf (stAt top 55)), ∀ (c48 : Scope) (_ : c48 = scopOf (stAt top 55)), Params → Frag) ?p0 ?hp0 ?b0 ?hb0 ?c0 ?hc0 ?p1 ?hp1 ?b1 ?hb1 ?c1 ?hc1 ?p2 ?hp2 ?b2 ?hb2 ?c2 ?hc2 ?p3 ?hp3 ?b3 ?hb3 ?c3 ?hc3 ?p4 ?hp4 ?b4 ?hb4 ?c4 ?hc4 ?p5 ?hp5 ?b5 ?hb5 ?c5 ?hc5 ?p6 ?hp6 ?b6 ?hb6 ?c6 ?hc6 ?p7 ?hp7 ?b7 ?hb7 ?c7 ?hc7 ?p8 ?hp8 ?b8 ?hb8 ?c8 ?hc8 ?p9 ?hp9 ?b9 ?hb9 ?c9 ?hc9 ?p10 ?hp10 ?b10 ?hb10 ?c10 ?hc10 ?p11 ?hp11 ?b11 ?hb11 ?c11 ?hc11 ?p12 ?hp12 ?b12 ?hb12 ?c12 ?hc12 ?p13 ?hp13 ?b13 ?hb13 ?c13 ?hc13 ?p14 ?hp14 ?b14 ?hb14 ?c14 ?hc14 ?p15 ?hp15 ?b15 ?hb15 ?c15 ?hc15 ?p16 ?hp16 ?b16 ?hb16 ?c16 ?hc16 ?p17 ?hp17 ?b17 ?hb17 ?c17 ?hc17 ?p18 ?hp18 ?b18 ?hb18 ?c18 ?hc18 ?p19 ?hp19 ?b19 ?hb19 ?c19 ?hc19 ?p20 ?hp20 ?b20 ?hb20 ?c20 ?hc20 ?p21 ?hp21 ?b21 ?hb21 ?c21 ?hc21 ?p22 ?hp22 ?b22 ?hb22 ?c22 ?hc22 ?p23 ?hp23 ?b23 ?hb23 ?c23 ?hc23 ?p24 ?hp24 ?b24 ?hb24 ?c24 ?hc24 ?p25 ?hp25 ?b25 ?hb25 ?c25 ?hc25 ?p26 ?hp26 ?b26 ?hb26 ?c26 ?hc26 ?p27 ?hp27 ?b27 ?hb27 ?c27 ?hc27 ?p28 ?hp28 ?b28 ?hb28 ?c28 ?hc28 ?p29 ?hp29 ?b29 ?hb29 ?c29 ?hc29 ?p30 ?hp30 ?b30 ?hb30 ?c30 ?hc30 ?p31 ?hp31 ?b31 ?hb31 ?c31 ?hc31 ?p32 ?hp32 ?b32 ?hb32 ?c32 ?hc32 ?p33 ?hp33 ?b33 ?hb33 ?c33 ?hc33 ?p34 ?hp34 ?b34 ?hb34 ?c34 ?hc34 ?p35 ?hp35 ?b35 ?hb35 ?c35 ?hc35 ?p36 ?hp36 ?b36 ?hb36 ?c36 ?hc36 ?p37 ?hp37 ?b37 ?hb37 ?c37 ?hc37 ?p38 ?hp38 ?b38 ?hb38 ?c38 ?hc38 ?p39 ?hp39 ?b39 ?hb39 ?c39 ?hc39 ?p40 ?hp40 ?b40 ?hb40 ?c40 ?hc40 ?p41 ?hp41 ?b41 ?hb41 ?c41 ?hc41 ?p42 ?hp42 ?b42 ?hb42 ?c42 ?hc42 ?p43 ?hp43 ?b43 ?hb43 ?c43 ?hc43 ?p44 ?hp44 ?b44 ?hb44 ?c44 ?hc44 ?p45 ?hp45 ?b45 ?hb45 ?c45 ?hc45 ?p46 ?hp46 ?b46 ?hb46 ?c46 ?hc46 ?p47 ?hp47 ?b47 ?hb47 ?c47 ?hc47 ?p48 ?hp48 ?b48 ?hb48 ?c48 ?hc48
  case hp0 => conv => rhs; whnf
  case hb0 => conv => rhs; whnf
  case hc0 => conv => rhs; whnf
  case hp1 => conv => rhs; whnf
  case hb1 => conv => rhs; whnf
  case hc1 => conv => rhs; whnf
  case hp2 => conv => rhs; whnf
  case hb2 => conv => rhs; whnf
  case hc2 => conv => rhs; whnf
  case hp3 => conv => rhs; whnf
  case hb3 => conv => rhs; whnf
  case hc3 => conv => rhs; whnf
  case hp4 => conv => rhs; whnf
  case hb4 => conv => rhs; whnf
  case hc4 => conv => rhs; whnf
  case hp5 => conv => rhs; whnf
  case hb5 => conv => rhs; whnf
  case hc5 => conv => rhs; whnf
  case hp6 => conv => rhs; whnf
  case hb6 => conv => rhs; whnf
  case hc6 => conv => rhs; whnf
  case hp7 => conv => rhs; whnf
  case hb7 => conv => rhs; whnf
  case hc7 => conv => rhs; whnf
  case hp8 => conv => rhs; whnf
  case hb8 => conv => rhs; whnf
  case hc8 => conv => rhs; whnf
  case hp9 => conv => rhs; whnf
  case hb9 => conv => rhs; whnf
  case hc9 => conv => rhs; whnf
  case hp10 => conv => rhs; whnf
  case hb10 => conv => rhs; whnf
  case hc10 => conv => rhs; whnf
  case hp11 => conv => rhs; whnf
  case hb11 => conv => rhs; whnf
  case hc11 => conv => rhs; whnf
  case hp12 => conv => rhs; whnf
  case hb12 => conv => rhs; whnf
  case hc12 => conv => rhs; whnf
  case hp13 => conv => rhs; whnf
  case hb13 => conv => rhs; whnf
  case hc13 => conv => rhs; whnf
  case hp14 => conv => rhs; whnf
  case hb14 => conv => rhs; whnf
  case hc14 => conv => rhs; whnf
  case hp15 => conv => rhs; whnf
  case hb15 => conv => rhs; whnf
  case hc15 => conv => rhs; whnf
  case hp16 => conv => rhs; whnf
  case hb16 => conv => rhs; whnf
  case hc16 => conv => rhs; whnf
  case hp17 => conv => rhs; whnf
  case hb17 => conv => rhs; whnf
  case hc17 => conv => rhs; whnf
  case hp18 => conv => rhs; whnf
  case hb18 => conv => rhs; whnf
  case hc18 => conv => rhs; whnf
  case hp19 => conv => rhs; whnf
  case hb19 => conv => rhs; whnf
  case hc19 => conv => rhs; whnf
  case hp20 => conv => rhs; whnf
  case hb20 => conv => rhs; whnf
  case hc20 => conv => rhs; whnf
  case hp21 => conv => rhs; whnf
  case hb21 => conv => rhs; whnf
  case hc21 => conv => rhs; whnf
  case hp22 => conv => rhs; whnf
  case hb22 => conv => rhs; whnf
  case hc22 => conv => rhs; whnf
  case hp23 => conv => rhs; whnf
  case hb23 => conv => rhs; whnf
  case hc23 => conv => rhs; whnf
  case hp24 => conv => rhs; whnf
  case hb24 => conv => rhs; whnf
  case hc24 => conv => rhs; whnf
  case hp25 => conv => rhs; whnf
  case hb25 => conv => rhs; whnf
  case hc25 => conv => rhs; whnf
  case hp26 => conv => rhs; whnf
  case hb26 => conv => rhs; whnf
  case hc26 => conv => rhs; whnf
  case hp27 => conv => rhs; whnf
  case hb27 => conv => rhs; whnf
  case hc27 => conv => rhs; whnf
  case hp28 => conv => rhs; whnf
  case hb28 => conv => rhs; whnf
  case hc28 => conv => rhs; whnf
  case hp29 => conv => rhs; whnf
  case hb29 => conv => rhs; whnf
  case hc29 => conv => rhs; whnf
  case hp30 => conv => rhs; whnf
  case hb30 => conv => rhs; whnf
  case hc30 => conv => rhs; whnf
  case hp31 => conv => rhs; whnf
  case hb31 => conv => rhs; whnf
  case hc31 => conv => rhs; whnf
  case hp32 => conv => rhs; whnf
  case hb32 => conv => rhs; whnf
  case hc32 => conv => rhs; whnf
  case hp33 => conv => rhs; whnf
  case hb33 => conv => rhs; whnf
  case hc33 => conv => rhs; whnf
  case hp34 => conv => rhs; whnf
  case hb34 => conv => rhs; whnf
  case hc34 => conv => rhs; whnf
  case hp35 => conv => rhs; whnf
  case hb35 => conv => rhs; whnf
  case hc35 => conv => rhs; whnf
  case hp36 => conv => rhs; whnf
  case hb36 => conv => rhs; whnf
  case hc36 => conv => rhs; whnf
  case hp37 => conv => rhs; whnf
  case hb37 => conv => rhs; whnf
  case hc37 => conv => rhs; whnf
  case hp38 => conv => rhs; whnf
  case hb38 => conv => rhs; whnf
  case hc38 => conv => rhs; whnf
  case hp39 => conv => rhs; whnf
  case hb39 => conv => rhs; whnf
  case hc39 => conv => rhs; whnf
  case hp40 => conv => rhs; whnf
  case hb40 => conv => rhs; whnf
  case hc40 => conv => rhs; whnf
  case hp41 => conv => rhs; whnf
  case hb41 => conv => rhs; whnf
  case hc41 => conv => rhs; whnf
  case hp42 => conv => rhs; whnf
  case hb42 => conv => rhs; whnf
  case hc42 => conv => rhs; whnf
  case hp43 => conv => rhs; whnf
  case hb43 => conv => rhs; whnf
  case hc43 => conv => rhs; whnf
  case hp44 => conv => rhs; whnf
  case hb44 => conv => rhs; whnf
  case hc44 => conv => rhs; whnf
  case hp45 => conv => rhs; whnf
  case hb45 => conv => rhs; whnf
  case hc45 => conv => rhs; whnf
  case hp46 => conv => rhs; whnf
  case hb46 => conv => rhs; whnf
  case hc46 => conv => rhs; whnf
  case hp47 => conv => rhs; whnf
  case hb47 => conv => rhs; whnf
  case hc47 => conv => rhs; whnf
  case hp48 => conv => rhs; whnf
  case hb48 => conv => rhs; whnf
  case hc48 => conv => rhs; whnf
  case F => exact fun p0 _ b0 _ c0 _ p1 _ b1 _ c1 _ p2 _ b2 _ c2 _ p3 _ b3 _ c3 _ p4 _ b4 _ c4 _ p5 _ b5 _ c5 _ p6 _ b6 _ c6 _ p7 _ b7 _ c7 _ p8 _ b8 _ c8 _ p9 _ b9 _ c9 _ p10 _ b10 _ c10 _ p11 _ b11 _ c11 _ p12 _ b12 _ c12 _ p13 _ b13 _ c13 _ p14 _ b14 _ c14 _ p15 _ b15 _ c15 _ p16 _ b16 _ c16 _ p17 _ b17 _ c17 _ p18 _ b18 _ c18 _ p19 _ b19 _ c19 _ p20 _ b20 _ c20 _ p21 _ b21 _ c21 _ p22 _ b22 _ c22 _ p23 _ b23 _ c23 _ p24 _ b24 _ c24 _ p25 _ b25 _ c25 _ p26 _ b26 _ c26 _ p27 _ b27 _ c27 _ p28 _ b28 _ c28 _ p29 _ b29 _ c29 _ p30 _ b30 _ c30 _ p31 _ b31 _ c31 _ p32 _ b32 _ c32 _ p33 _ b33 _ c33 _ p34 _ b34 _ c34 _ p35 _ b35 _ c35 _ p36 _ b36 _ c36 _ p37 _ b37 _ c37 _ p38 _ b38 _ c38 _ p39 _ b39 _ c39 _ p40 _ b40 _ c40 _ p41 _ b41 _ c41 _ p42 _ b42 _ c42 _ p43 _ b43 _ c43 _ p44 _ b44 _ c44 _ p45 _ b45 _ c45 _ p46 _ b46 _ c46 _ p47 _ b47 _ c47 _ p48 _ b48 _ c48 _ => fun P =>
    (nat_lit 2, ⟨.none, .none, (.dict (List.toArray [⟨PyData.keyHash P "type.__subclasses__.Exception.0", (.str "type.__subclasses__.Exception.0" 223), (.int 39 0)⟩, ⟨PyData.keyHash P "type.__subclasses__.Exception.n", (.str "type.__subclasses__.Exception.n" 224), (.int 1 0)⟩]) 2), List.toArray []⟩) ::
    (nat_lit 3, ⟨(.type "dict"), .none, (.dict (List.toArray (⟨PyData.keyHash P "__name__", (.str "__name__" 165), (.str "law_on0261_01" 688)⟩ :: ⟨PyData.keyHash P "__doc__", (.str "__doc__" 166), .none⟩ :: ⟨PyData.keyHash P "__package__", (.str "__package__" 167), .none⟩ :: ⟨PyData.keyHash P "__loader__", (.str "__loader__" 168), (.builtin "__main__.__loader__#opaque")⟩ :: ⟨PyData.keyHash P "__spec__", (.str "__spec__" 169), .none⟩ :: ⟨PyData.keyHash P "__annotations__", (.str "__annotations__" 170), (.ref 6)⟩ :: ⟨PyData.keyHash P "__builtins__", (.str "__builtins__" 171), (.ref 4)⟩ :: ⟨PyData.keyHash P "__file__", (.str "__file__" 173), (.str "/claim/cut.py" 172)⟩ :: ⟨PyData.keyHash P "__cached__", (.str "__cached__" 174), .none⟩ :: ⟨PyData.keyHash P "_wall", (.str "_wall" 193), (.ref 21)⟩ :: ⟨PyData.keyHash P "GRAIN", (.str "GRAIN" 197), (.int 1000000 196)⟩ :: ⟨PyData.keyHash P "PostError", (.str "PostError" 226), (.ref 39)⟩ :: ⟨PyData.keyHash P "PsError", (.str "PsError" 242), (.ref 52)⟩ :: ⟨PyData.keyHash P "RUN_ONLY", (.str "RUN_ONLY" 246), (.int 1 245)⟩ :: ⟨PyData.keyHash P "READ_ONLY", (.str "READ_ONLY" 248), (.int 2 247)⟩ :: ⟨PyData.keyHash P "UNLIMITED", (.str "UNLIMITED" 250), (.int 3 249)⟩ :: ⟨PyData.keyHash P "THING_TYPES", (.str "THING_TYPES" 296), (.ref 55)⟩ :: ⟨PyData.keyHash P "Thing", (.str "Thing" 331), (.ref 73)⟩ :: ⟨PyData.keyHash P "Text", (.str "Text" 366), (.ref 94)⟩ :: ⟨PyData.keyHash P "Row", (.str "Row" 401), (.ref 115)⟩ :: ⟨PyData.keyHash P "DictBody", (.str "DictBody" 453), (.ref 150)⟩ :: ⟨PyData.keyHash P "Span", (.str "Span" 486), (.ref 171)⟩ :: ⟨PyData.keyHash P "name", (.str "name" 494), (.ref 183)⟩ :: ⟨PyData.keyHash P "type_name", (.str "type_name" 501), (.ref 190)⟩ :: ⟨PyData.keyHash P "is_number", (.str "is_number" 508), (.ref 197)⟩ :: ⟨PyData.keyHash P "in_millionths", (.str "in_millionths" 515), (.ref 204)⟩ :: ⟨PyData.keyHash P "is_in_array", (.str "is_in_array" 522), (.ref 211)⟩ :: ⟨PyData.keyHash P "body_of", (.str "body_of" 529), (.ref 218)⟩ :: ⟨PyData.keyHash P "is_composite", (.str "is_composite" 536), (.ref 225)⟩ :: ⟨PyData.keyHash P "is_local", (.str "is_local" 544), (.ref 232)⟩ :: ⟨PyData.keyHash P "access_of", (.str "access_of" 551), (.ref 239)⟩ :: ⟨PyData.keyHash P "can_read", (.str "can_read" 558), (.ref 246)⟩ :: ⟨PyData.keyHash P "can_write", (.str "can_write" 565), (.ref 253)⟩ :: ⟨PyData.keyHash P "can_run", (.str "can_run" 572), (.ref 260)⟩ :: ⟨PyData.keyHash P "has_access", (.str "has_access" 579), (.ref 267)⟩ :: ⟨PyData.keyHash P "with_exec", (.str "with_exec" 587), (.ref 274)⟩ :: ⟨PyData.keyHash P "with_access", (.str "with_access" 595), (.ref 281)⟩ :: ⟨PyData.keyHash P "check_part", (.str "check_part" 604), (.ref 288)⟩ :: ⟨PyData.keyHash P "part_of", (.str "part_of" 613), (.ref 295)⟩ :: ⟨PyData.keyHash P "with_span", (.str "with_span" 621), (.ref 302)⟩ :: ⟨PyData.keyHash P "is_text_span", (.str "is_text_span" 628), (.ref 309)⟩ :: ⟨PyData.keyHash P "item", (.str "item" 636), (.ref 316)⟩ :: ⟨PyData.keyHash P "octets_of_span", (.str "octets_of_span" 643), (.ref 323)⟩ :: ⟨PyData.keyHash P "things_of_span", (.str "things_of_span" 650), (.ref 330)⟩ :: ⟨PyData.keyHash P "thing_octets", (.str "thing_octets" 657), (.ref 337)⟩ :: ⟨PyData.keyHash P "key_of", (.str "key_of" 664), (.ref 344)⟩ :: ⟨PyData.keyHash P "key_thing", (.str "key_thing" 671), (.ref 351)⟩ :: ⟨PyData.keyHash P "equal_things", (.str "equal_things" 679), (.ref 358)⟩ :: ⟨PyData.keyHash P "less_than", (.str "less_than" 687), (.ref 365)⟩ :: ⟨PyData.keyHash P "_law_types", (.str "_law_types" 695), (.ref 372)⟩ :: ⟨PyData.keyHash P "_law_deck", (.str "_law_deck" 701), (.ref 377)⟩ :: ⟨PyData.keyHash P "_law_draw", (.str "_law_draw" 709), (.ref 384)⟩ :: ⟨PyData.keyHash P "_law_span", (.str "_law_span" 719), (.ref 391)⟩ :: ⟨PyData.keyHash P "_law_thing", (.str "_law_thing" 733), (.ref 398)⟩ :: ⟨PyData.keyHash P "_law_what", (.str "_law_what" 742), (.ref 405)⟩ :: ⟨PyData.keyHash P "_law_face", (.str "_law_face" 750), (.ref 412)⟩ :: ⟨PyData.keyHash P "_law_told", (.str "_law_told" 761), (.ref 419)⟩ :: ⟨PyData.keyHash P "_law_equal", (.str "_law_equal" 770), (.ref 426)⟩ :: ⟨PyData.keyHash P "_law_less", (.str "_law_less" 776), (.ref 431)⟩ :: ⟨PyData.keyHash P "_law_one_right", (.str "_law_one_right" 793), (.ref 438)⟩ :: ⟨PyData.keyHash P "_law_parts_right", (.str "_law_parts_right" 799), (.ref 443)⟩ :: ⟨PyData.keyHash P "law", (.str "law" 805), (.ref 448)⟩ :: [])) 62), List.toArray []⟩) ::
    (nat_lit 15, ⟨(.type "tuple"), .none, (.seq (List.toArray []) 0), List.toArray []⟩) ::
    (nat_lit 17, ⟨(.type "tuple"), .none, (.seq (List.toArray [(.str "k" 190)]) 0), List.toArray []⟩) ::
    (nat_lit 18, ⟨(.type "tuple"), .none, (.seq (List.toArray []) 0), List.toArray []⟩) ::
    (nat_lit 20, ⟨(.type "code"), .none, (.fields (List.toArray [(.str "_wall" 187), (.str "_wall" 188), (.str "/claim/cut.py" 189), (.int 1 0), (.int 1 0), (.int 0 0), (.int 0 0), (.int 3 0), (.ref 15), (.bool true), (.int 181 0), (.ref 16), .none, (.ref 17), (.ref 18), (.ref 19), (.int 191 0), (.int 1 0), (.str "/claim/cut.py" 192)])), List.toArray []⟩) ::
    (nat_lit 21, ⟨(.type "function"), .none, (.func ⟨"_wall", "_wall", p0, .stmts b0, c0, 3, [], .none, .none, .none, (.str "__main__" 164), .none, (.ref 20), .none, 0⟩), List.toArray []⟩) ::
    (nat_lit 22, ⟨(.type "tuple"), .none, (.seq (List.toArray [(.type "Exception")]) 0), List.toArray []⟩) ::
    (nat_lit 29, ⟨(.type "tuple"), .none, (.seq (List.toArray [.none]) 0), List.toArray []⟩) ::
    (nat_lit 30, ⟨(.type "tuple"), .none, (.seq (List.toArray []) 0), List.toArray []⟩) ::
    (nat_lit 32, ⟨(.type "tuple"), .none, (.seq (List.toArray [(.str "self" 213), (.str "told" 214)]) 0), List.toArray []⟩) ::
    (nat_lit 33, ⟨(.type "tuple"), .none, (.seq (List.toArray []) 0), List.toArray []⟩) ::
    (nat_lit 35, ⟨(.type "code"), .none, (.fields (List.toArray [(.str "__init__" 210), (.str "PostError.__init__" 211), (.str "/claim/cut.py" 212), (.int 8 0), (.int 2 0), (.int 0 0), (.int 0 0), (.int 3 0), (.ref 30), (.bool true), (.int 181 0), (.ref 31), .none, (.ref 32), (.ref 33), (.ref 34), (.int 215 0), (.int 8 0), (.str "/claim/cut.py" 216)])), List.toArray []⟩) ::
    (nat_lit 36, ⟨(.type "function"), .none, (.func ⟨"__init__", "PostError.__init__", p1, .stmts b1, c1, 3, [], (.ref 29), .none, .none, (.str "postcore.base" 194), .none, (.ref 35), .none, 0⟩), List.toArray []⟩) ::
    (nat_lit 37, ⟨(.type "tuple"), .none, (.seq (List.toArray [(.str "told" 218)]) 0), List.toArray []⟩) ::
    (nat_lit 38, ⟨(.type "dict"), .none, (.dict (List.toArray [⟨PyData.keyHash P "__module__", (.str "__module__" 205), (.str "postcore.base" 194)⟩, ⟨PyData.keyHash P "__firstlineno__", (.str "__firstlineno__" 209), (.int 6 208)⟩, ⟨PyData.keyHash P "__init__", (.str "__init__" 217), (.ref 36)⟩, ⟨PyData.keyHash P "__static_attributes__", (.str "__static_attributes__" 219), (.ref 37)⟩, ⟨PyData.keyHash P "__weakref__", (.str "__weakref__" 221), (.ref 40)⟩, ⟨PyData.keyHash P "__doc__", (.str "__doc__" 222), .none⟩]) 3), List.toArray []⟩) ::
    (nat_lit 39, ⟨(.type "type"), .none, (.cls ⟨"PostError", [(.type "Exception")], [(.ref 39), (.type "Exception"), (.type "BaseException"), (.type "object")], 38, "PostError", true, [], [(.ref 52)], false, .none, false⟩), List.toArray [(.some (.ref 22)), .none, (.some (.str "PostError" 198)), (.some (.str "PostError" 206)), (.some (.builtin "Exception.__new__")), (.some (.bool true))]⟩) ::
    (nat_lit 40, ⟨(.type "getset_descriptor"), .none, (.fields (List.toArray [(.str "__weakref__" 220), (.ref 39), (.builtin "ExceptionGroup.__weakref__"), .none])), List.toArray []⟩) ::
    (nat_lit 43, ⟨(.type "tuple"), .none, (.seq (List.toArray [(.ref 39)]) 0), List.toArray []⟩) ::
    (nat_lit 50, ⟨(.type "tuple"), .none, (.seq (List.toArray []) 0), List.toArray []⟩) ::
    (nat_lit 51, ⟨(.type "dict"), .none, (.dict (List.toArray [⟨PyData.keyHash P "__module__", (.str "__module__" 234), (.str "postcore.base" 194)⟩, ⟨PyData.keyHash P "__firstlineno__", (.str "__firstlineno__" 238), (.int 10 237)⟩, ⟨PyData.keyHash P "__static_attributes__", (.str "__static_attributes__" 239), (.ref 50)⟩, ⟨PyData.keyHash P "__doc__", (.str "__doc__" 240), .none⟩]) 2), List.toArray []⟩) ::
    (nat_lit 52, ⟨(.type "type"), .none, (.cls ⟨"PsError", [(.ref 39)], [(.ref 52), (.ref 39), (.type "Exception"), (.type "BaseException"), (.type "object")], 51, "PsError", true, [], [], false, .none, false⟩), List.toArray [(.some (.ref 43)), .none, (.some (.str "PsError" 227)), (.some (.str "PsError" 235)), (.some (.builtin "Exception.__new__")), (.some (.bool true))]⟩) ::
    (nat_lit 55, ⟨(.type "dict"), .none, (.dict (List.toArray [⟨PyData.keyHash P "integer", (.str "integer" 251), (.bytes (List.toArray [105, 110, 116, 101, 103, 101, 114, 116, 121, 112, 101]) 252)⟩, ⟨PyData.keyHash P "real", (.str "real" 253), (.bytes (List.toArray [114, 101, 97, 108, 116, 121, 112, 101]) 254)⟩, ⟨PyData.keyHash P "boolean", (.str "boolean" 255), (.bytes (List.toArray [98, 111, 111, 108, 101, 97, 110, 116, 121, 112, 101]) 256)⟩, ⟨PyData.keyHash P "null", (.str "null" 257), (.bytes (List.toArray [110, 117, 108, 108, 116, 121, 112, 101]) 258)⟩, ⟨PyData.keyHash P "mark", (.str "mark" 259), (.bytes (List.toArray [109, 97, 114, 107, 116, 121, 112, 101]) 260)⟩, ⟨PyData.keyHash P "name", (.str "name" 261), (.bytes (List.toArray [110, 97, 109, 101, 116, 121, 112, 101]) 262)⟩, ⟨PyData.keyHash P "operator", (.str "operator" 263), (.bytes (List.toArray [111, 112, 101, 114, 97, 116, 111, 114, 116, 121, 112, 101]) 264)⟩, ⟨PyData.keyHash P "string", (.str "string" 265), (.bytes (List.toArray [115, 116, 114, 105, 110, 103, 116, 121, 112, 101]) 266)⟩, ⟨PyData.keyHash P "array", (.str "array" 267), (.bytes (List.toArray [97, 114, 114, 97, 121, 116, 121, 112, 101]) 268)⟩, ⟨PyData.keyHash P "packed", (.str "packed" 269), (.bytes (List.toArray [112, 97, 99, 107, 101, 100, 97, 114, 114, 97, 121, 116, 121, 112, 101]) 270)⟩, ⟨PyData.keyHash P "dict", (.str "dict" 271), (.bytes (List.toArray [100, 105, 99, 116, 116, 121, 112, 101]) 272)⟩, ⟨PyData.keyHash P "file", (.str "file" 273), (.bytes (List.toArray [102, 105, 108, 101, 116, 121, 112, 101]) 274)⟩, ⟨PyData.keyHash P "save", (.str "save" 275), (.bytes (List.toArray [115, 97, 118, 101, 116, 121, 112, 101]) 276)⟩, ⟨PyData.keyHash P "gstate", (.str "gstate" 277), (.bytes (List.toArray [103, 115, 116, 97, 116, 101, 116, 121, 112, 101]) 278)⟩, ⟨PyData.keyHash P "fontid", (.str "fontid" 279), (.bytes (List.toArray [102, 111, 110, 116, 116, 121, 112, 101]) 280)⟩]) 15), List.toArray []⟩) ::
    (nat_lit 63, ⟨(.type "tuple"), .none, (.seq (List.toArray [(.bool false), (.int 3 249)]) 0), List.toArray []⟩) ::
    (nat_lit 64, ⟨(.type "tuple"), .none, (.seq (List.toArray []) 0), List.toArray []⟩) ::
    (nat_lit 66, ⟨(.type "tuple"), .none, (.seq (List.toArray [(.str "self" 312), (.str "kind" 313), (.str "value" 314), (.str "is_exec" 315), (.str "access" 316)]) 0), List.toArray []⟩) ::
    (nat_lit 67, ⟨(.type "tuple"), .none, (.seq (List.toArray []) 0), List.toArray []⟩) ::
    (nat_lit 69, ⟨(.type "code"), .none, (.fields (List.toArray [(.str "__init__" 309), (.str "Thing.__init__" 310), (.str "/claim/cut.py" 311), (.int 19 0), (.int 5 0), (.int 0 0), (.int 0 0), (.int 3 0), (.ref 64), (.bool true), (.int 181 0), (.ref 65), .none, (.ref 66), (.ref 67), (.ref 68), (.int 317 0), (.int 19 0), (.str "/claim/cut.py" 318)])), List.toArray []⟩) ::
    (nat_lit 70, ⟨(.type "function"), .none, (.func ⟨"__init__", "Thing.__init__", p2, .stmts b2, c2, 3, [], (.ref 63), .none, .none, (.str "postcore.objects" 243), .none, (.ref 69), .none, 0⟩), List.toArray []⟩) ::
    (nat_lit 71, ⟨(.type "tuple"), .none, (.seq (List.toArray [(.str "access" 320), (.str "is_exec" 321), (.str "kind" 322), (.str "value" 323)]) 0), List.toArray []⟩) ::
    (nat_lit 72, ⟨(.type "dict"), .none, (.dict (List.toArray [⟨PyData.keyHash P "__module__", (.str "__module__" 304), (.str "postcore.objects" 243)⟩, ⟨PyData.keyHash P "__firstlineno__", (.str "__firstlineno__" 308), (.int 17 307)⟩, ⟨PyData.keyHash P "__init__", (.str "__init__" 319), (.ref 70)⟩, ⟨PyData.keyHash P "__static_attributes__", (.str "__static_attributes__" 324), (.ref 71)⟩, ⟨PyData.keyHash P "__dict__", (.str "__dict__" 326), (.ref 74)⟩, ⟨PyData.keyHash P "__weakref__", (.str "__weakref__" 328), (.ref 75)⟩, ⟨PyData.keyHash P "__doc__", (.str "__doc__" 329), .none⟩]) 4), List.toArray []⟩) ::
    (nat_lit 73, ⟨(.type "type"), .none, (.cls ⟨"Thing", [(.type "object")], [(.ref 73), (.type "object")], 72, "Thing", true, [], [], false, .none, false⟩), List.toArray [.none, .none, (.some (.str "Thing" 297)), (.some (.str "Thing" 305)), (.some (.builtin "object.__new__")), (.some (.bool true))]⟩) ::
    (nat_lit 74, ⟨(.type "getset_descriptor"), .none, (.fields (List.toArray [(.str "__dict__" 325), (.ref 73), (.builtin "function.__dict__"), (.builtin "function.__dict__#set")])), List.toArray []⟩) ::
    (nat_lit 75, ⟨(.type "getset_descriptor"), .none, (.fields (List.toArray [(.str "__weakref__" 327), (.ref 73), (.builtin "ExceptionGroup.__weakref__"), .none])), List.toArray []⟩) ::
    (nat_lit 85, ⟨(.type "tuple"), .none, (.seq (List.toArray []) 0), List.toArray []⟩) ::
    (nat_lit 87, ⟨(.type "tuple"), .none, (.seq (List.toArray [(.str "self" 347), (.str "number" 348), (.str "octets" 349), (.str "is_global" 350), (.str "level" 351)]) 0), List.toArray []⟩) ::
    (nat_lit 88, ⟨(.type "tuple"), .none, (.seq (List.toArray []) 0), List.toArray []⟩) ::
    (nat_lit 90, ⟨(.type "code"), .none, (.fields (List.toArray [(.str "__init__" 344), (.str "Text.__init__" 345), (.str "/claim/cut.py" 346), (.int 26 0), (.int 5 0), (.int 0 0), (.int 0 0), (.int 3 0), (.ref 85), (.bool true), (.int 181 0), (.ref 86), .none, (.ref 87), (.ref 88), (.ref 89), (.int 352 0), (.int 26 0), (.str "/claim/cut.py" 353)])), List.toArray []⟩) ::
    (nat_lit 91, ⟨(.type "function"), .none, (.func ⟨"__init__", "Text.__init__", p3, .stmts b3, c3, 3, [], .none, .none, .none, (.str "postcore.objects" 243), .none, (.ref 90), .none, 0⟩), List.toArray []⟩) ::
    (nat_lit 92, ⟨(.type "tuple"), .none, (.seq (List.toArray [(.str "is_global" 355), (.str "level" 356), (.str "number" 357), (.str "octets" 358)]) 0), List.toArray []⟩) ::
    (nat_lit 93, ⟨(.type "dict"), .none, (.dict (List.toArray [⟨PyData.keyHash P "__module__", (.str "__module__" 339), (.str "postcore.objects" 243)⟩, ⟨PyData.keyHash P "__firstlineno__", (.str "__firstlineno__" 343), (.int 24 342)⟩, ⟨PyData.keyHash P "__init__", (.str "__init__" 354), (.ref 91)⟩, ⟨PyData.keyHash P "__static_attributes__", (.str "__static_attributes__" 359), (.ref 92)⟩, ⟨PyData.keyHash P "__dict__", (.str "__dict__" 361), (.ref 95)⟩, ⟨PyData.keyHash P "__weakref__", (.str "__weakref__" 363), (.ref 96)⟩, ⟨PyData.keyHash P "__doc__", (.str "__doc__" 364), .none⟩]) 4), List.toArray []⟩) ::
    (nat_lit 94, ⟨(.type "type"), .none, (.cls ⟨"Text", [(.type "object")], [(.ref 94), (.type "object")], 93, "Text", true, [], [], false, .none, false⟩), List.toArray [.none, .none, (.some (.str "Text" 332)), (.some (.str "Text" 340)), (.some (.builtin "object.__new__")), (.some (.bool true))]⟩) ::
    (nat_lit 95, ⟨(.type "getset_descriptor"), .none, (.fields (List.toArray [(.str "__dict__" 360), (.ref 94), (.builtin "function.__dict__"), (.builtin "function.__dict__#set")])), List.toArray []⟩) ::
    (nat_lit 96, ⟨(.type "getset_descriptor"), .none, (.fields (List.toArray [(.str "__weakref__" 362), (.ref 94), (.builtin "ExceptionGroup.__weakref__"), .none])), List.toArray []⟩) ::
    (nat_lit 106, ⟨(.type "tuple"), .none, (.seq (List.toArray []) 0), List.toArray []⟩) ::
    (nat_lit 108, ⟨(.type "tuple"), .none, (.seq (List.toArray [(.str "self" 382), (.str "number" 383), (.str "things" 384), (.str "is_global" 385), (.str "level" 386)]) 0), List.toArray []⟩) ::
    (nat_lit 109, ⟨(.type "tuple"), .none, (.seq (List.toArray []) 0), List.toArray []⟩) ::
    (nat_lit 111, ⟨(.type "code"), .none, (.fields (List.toArray [(.str "__init__" 379), (.str "Row.__init__" 380), (.str "/claim/cut.py" 381), (.int 33 0), (.int 5 0), (.int 0 0), (.int 0 0), (.int 3 0), (.ref 106), (.bool true), (.int 181 0), (.ref 107), .none, (.ref 108), (.ref 109), (.ref 110), (.int 387 0), (.int 33 0), (.str "/claim/cut.py" 388)])), List.toArray []⟩) ::
    (nat_lit 112, ⟨(.type "function"), .none, (.func ⟨"__init__", "Row.__init__", p4, .stmts b4, c4, 3, [], .none, .none, .none, (.str "postcore.objects" 243), .none, (.ref 111), .none, 0⟩), List.toArray []⟩) ::
    (nat_lit 113, ⟨(.type "tuple"), .none, (.seq (List.toArray [(.str "is_global" 390), (.str "level" 391), (.str "number" 392), (.str "things" 393)]) 0), List.toArray []⟩) ::
    (nat_lit 114, ⟨(.type "dict"), .none, (.dict (List.toArray [⟨PyData.keyHash P "__module__", (.str "__module__" 374), (.str "postcore.objects" 243)⟩, ⟨PyData.keyHash P "__firstlineno__", (.str "__firstlineno__" 378), (.int 31 377)⟩, ⟨PyData.keyHash P "__init__", (.str "__init__" 389), (.ref 112)⟩, ⟨PyData.keyHash P "__static_attributes__", (.str "__static_attributes__" 394), (.ref 113)⟩, ⟨PyData.keyHash P "__dict__", (.str "__dict__" 396), (.ref 116)⟩, ⟨PyData.keyHash P "__weakref__", (.str "__weakref__" 398), (.ref 117)⟩, ⟨PyData.keyHash P "__doc__", (.str "__doc__" 399), .none⟩]) 4), List.toArray []⟩) ::
    (nat_lit 115, ⟨(.type "type"), .none, (.cls ⟨"Row", [(.type "object")], [(.ref 115), (.type "object")], 114, "Row", true, [], [], false, .none, false⟩), List.toArray [.none, .none, (.some (.str "Row" 367)), (.some (.str "Row" 375)), (.some (.builtin "object.__new__")), (.some (.bool true))]⟩) ::
    (nat_lit 116, ⟨(.type "getset_descriptor"), .none, (.fields (List.toArray [(.str "__dict__" 395), (.ref 115), (.builtin "function.__dict__"), (.builtin "function.__dict__#set")])), List.toArray []⟩) ::
    (nat_lit 117, ⟨(.type "getset_descriptor"), .none, (.fields (List.toArray [(.str "__weakref__" 397), (.ref 115), (.builtin "ExceptionGroup.__weakref__"), .none])), List.toArray []⟩) ::
    (nat_lit 127, ⟨(.type "tuple"), .none, (.seq (List.toArray []) 0), List.toArray []⟩) ::
    (nat_lit 129, ⟨(.type "tuple"), .none, (.seq (List.toArray [(.str "self" 417), (.str "number" 418), (.str "most" 419), (.str "is_global" 420), (.str "level" 421)]) 0), List.toArray []⟩) ::
    (nat_lit 130, ⟨(.type "tuple"), .none, (.seq (List.toArray []) 0), List.toArray []⟩) ::
    (nat_lit 132, ⟨(.type "code"), .none, (.fields (List.toArray [(.str "__init__" 414), (.str "DictBody.__init__" 415), (.str "/claim/cut.py" 416), (.int 40 0), (.int 5 0), (.int 0 0), (.int 0 0), (.int 3 0), (.ref 127), (.bool true), (.int 181 0), (.ref 128), .none, (.ref 129), (.ref 130), (.ref 131), (.int 422 0), (.int 40 0), (.str "/claim/cut.py" 423)])), List.toArray []⟩) ::
    (nat_lit 133, ⟨(.type "function"), .none, (.func ⟨"__init__", "DictBody.__init__", p5, .stmts b5, c5, 3, [], .none, .none, .none, (.str "postcore.objects" 243), .none, (.ref 132), .none, 0⟩), List.toArray []⟩) ::
    (nat_lit 134, ⟨(.type "tuple"), .none, (.seq (List.toArray []) 0), List.toArray []⟩) ::
    (nat_lit 136, ⟨(.type "tuple"), .none, (.seq (List.toArray [(.str "self" 428), (.str "key" 429)]) 0), List.toArray []⟩) ::
    (nat_lit 137, ⟨(.type "tuple"), .none, (.seq (List.toArray []) 0), List.toArray []⟩) ::
    (nat_lit 139, ⟨(.type "code"), .none, (.fields (List.toArray [(.str "get" 425), (.str "DictBody.get" 426), (.str "/claim/cut.py" 427), (.int 48 0), (.int 2 0), (.int 0 0), (.int 0 0), (.int 3 0), (.ref 134), (.bool true), (.int 181 0), (.ref 135), .none, (.ref 136), (.ref 137), (.ref 138), (.int 430 0), (.int 48 0), (.str "/claim/cut.py" 431)])), List.toArray []⟩) ::
    (nat_lit 140, ⟨(.type "function"), .none, (.func ⟨"get", "DictBody.get", p6, .stmts b6, c6, 3, [], .none, .none, .none, (.str "postcore.objects" 243), .none, (.ref 139), .none, 0⟩), List.toArray []⟩) ::
    (nat_lit 141, ⟨(.type "tuple"), .none, (.seq (List.toArray []) 0), List.toArray []⟩) ::
    (nat_lit 143, ⟨(.type "tuple"), .none, (.seq (List.toArray [(.str "self" 436)]) 0), List.toArray []⟩) ::
    (nat_lit 144, ⟨(.type "tuple"), .none, (.seq (List.toArray []) 0), List.toArray []⟩) ::
    (nat_lit 146, ⟨(.type "code"), .none, (.fields (List.toArray [(.str "pairs" 433), (.str "DictBody.pairs" 434), (.str "/claim/cut.py" 435), (.int 51 0), (.int 1 0), (.int 0 0), (.int 0 0), (.int 3 0), (.ref 141), (.bool true), (.int 181 0), (.ref 142), .none, (.ref 143), (.ref 144), (.ref 145), (.int 437 0), (.int 51 0), (.str "/claim/cut.py" 438)])), List.toArray []⟩) ::
    (nat_lit 147, ⟨(.type "function"), .none, (.func ⟨"pairs", "DictBody.pairs", p7, .stmts b7, c7, 3, [], .none, .none, .none, (.str "postcore.objects" 243), .none, (.ref 146), .none, 0⟩), List.toArray []⟩) ::
    (nat_lit 148, ⟨(.type "tuple"), .none, (.seq (List.toArray [(.str "access" 440), (.str "entries" 441), (.str "is_global" 442), (.str "level" 443), (.str "most" 444), (.str "number" 445)]) 0), List.toArray []⟩) ::
    (nat_lit 149, ⟨(.type "dict"), .none, (.dict (List.toArray [⟨PyData.keyHash P "__module__", (.str "__module__" 409), (.str "postcore.objects" 243)⟩, ⟨PyData.keyHash P "__firstlineno__", (.str "__firstlineno__" 413), (.int 38 412)⟩, ⟨PyData.keyHash P "__init__", (.str "__init__" 424), (.ref 133)⟩, ⟨PyData.keyHash P "get", (.str "get" 432), (.ref 140)⟩, ⟨PyData.keyHash P "pairs", (.str "pairs" 439), (.ref 147)⟩, ⟨PyData.keyHash P "__static_attributes__", (.str "__static_attributes__" 446), (.ref 148)⟩, ⟨PyData.keyHash P "__dict__", (.str "__dict__" 448), (.ref 151)⟩, ⟨PyData.keyHash P "__weakref__", (.str "__weakref__" 450), (.ref 152)⟩, ⟨PyData.keyHash P "__doc__", (.str "__doc__" 451), .none⟩]) 4), List.toArray []⟩) ::
    (nat_lit 150, ⟨(.type "type"), .none, (.cls ⟨"DictBody", [(.type "object")], [(.ref 150), (.type "object")], 149, "DictBody", true, [], [], false, .none, false⟩), List.toArray [.none, .none, (.some (.str "DictBody" 402)), (.some (.str "DictBody" 410)), (.some (.builtin "object.__new__")), (.some (.bool true))]⟩) ::
    (nat_lit 151, ⟨(.type "getset_descriptor"), .none, (.fields (List.toArray [(.str "__dict__" 447), (.ref 150), (.builtin "function.__dict__"), (.builtin "function.__dict__#set")])), List.toArray []⟩) ::
    (nat_lit 152, ⟨(.type "getset_descriptor"), .none, (.fields (List.toArray [(.str "__weakref__" 449), (.ref 150), (.builtin "ExceptionGroup.__weakref__"), .none])), List.toArray []⟩) ::
    (nat_lit 162, ⟨(.type "tuple"), .none, (.seq (List.toArray []) 0), List.toArray []⟩) ::
    (nat_lit 164, ⟨(.type "tuple"), .none, (.seq (List.toArray [(.str "self" 469), (.str "body" 470), (.str "start" 471), (.str "many" 472)]) 0), List.toArray []⟩) ::
    (nat_lit 165, ⟨(.type "tuple"), .none, (.seq (List.toArray []) 0), List.toArray []⟩) ::
    (nat_lit 167, ⟨(.type "code"), .none, (.fields (List.toArray [(.str "__init__" 466), (.str "Span.__init__" 467), (.str "/claim/cut.py" 468), (.int 55 0), (.int 4 0), (.int 0 0), (.int 0 0), (.int 3 0), (.ref 162), (.bool true), (.int 181 0), (.ref 163), .none, (.ref 164), (.ref 165), (.ref 166), (.int 473 0), (.int 55 0), (.str "/claim/cut.py" 474)])), List.toArray []⟩) ::
    (nat_lit 168, ⟨(.type "function"), .none, (.func ⟨"__init__", "Span.__init__", p8, .stmts b8, c8, 3, [], .none, .none, .none, (.str "postcore.objects" 243), .none, (.ref 167), .none, 0⟩), List.toArray []⟩) ::
    (nat_lit 169, ⟨(.type "tuple"), .none, (.seq (List.toArray [(.str "body" 476), (.str "many" 477), (.str "start" 478)]) 0), List.toArray []⟩) ::
    (nat_lit 170, ⟨(.type "dict"), .none, (.dict (List.toArray [⟨PyData.keyHash P "__module__", (.str "__module__" 461), (.str "postcore.objects" 243)⟩, ⟨PyData.keyHash P "__firstlineno__", (.str "__firstlineno__" 465), (.int 53 464)⟩, ⟨PyData.keyHash P "__init__", (.str "__init__" 475), (.ref 168)⟩, ⟨PyData.keyHash P "__static_attributes__", (.str "__static_attributes__" 479), (.ref 169)⟩, ⟨PyData.keyHash P "__dict__", (.str "__dict__" 481), (.ref 172)⟩, ⟨PyData.keyHash P "__weakref__", (.str "__weakref__" 483), (.ref 173)⟩, ⟨PyData.keyHash P "__doc__", (.str "__doc__" 484), .none⟩]) 4), List.toArray []⟩) ::
    (nat_lit 171, ⟨(.type "type"), .none, (.cls ⟨"Span", [(.type "object")], [(.ref 171), (.type "object")], 170, "Span", true, [], [], false, .none, false⟩), List.toArray [.none, .none, (.some (.str "Span" 454)), (.some (.str "Span" 462)), (.some (.builtin "object.__new__")), (.some (.bool true))]⟩) ::
    (nat_lit 172, ⟨(.type "getset_descriptor"), .none, (.fields (List.toArray [(.str "__dict__" 480), (.ref 171), (.builtin "function.__dict__"), (.builtin "function.__dict__#set")])), List.toArray []⟩) ::
    (nat_lit 173, ⟨(.type "getset_descriptor"), .none, (.fields (List.toArray [(.str "__weakref__" 482), (.ref 171), (.builtin "ExceptionGroup.__weakref__"), .none])), List.toArray []⟩) ::
    (nat_lit 176, ⟨(.type "tuple"), .none, (.seq (List.toArray [(.bool false)]) 0), List.toArray []⟩) ::
    (nat_lit 177, ⟨(.type "tuple"), .none, (.seq (List.toArray []) 0), List.toArray []⟩) ::
    (nat_lit 179, ⟨(.type "tuple"), .none, (.seq (List.toArray [(.str "octets" 490), (.str "is_exec" 491)]) 0), List.toArray []⟩) ::
    (nat_lit 180, ⟨(.type "tuple"), .none, (.seq (List.toArray []) 0), List.toArray []⟩) ::
    (nat_lit 182, ⟨(.type "code"), .none, (.fields (List.toArray [(.str "name" 487), (.str "name" 488), (.str "/claim/cut.py" 489), (.int 59 0), (.int 2 0), (.int 0 0), (.int 0 0), (.int 3 0), (.ref 177), (.bool true), (.int 181 0), (.ref 178), .none, (.ref 179), (.ref 180), (.ref 181), (.int 492 0), (.int 59 0), (.str "/claim/cut.py" 493)])), List.toArray []⟩) ::
    (nat_lit 183, ⟨(.type "function"), .none, (.func ⟨"name", "name", p9, .stmts b9, c9, 3, [], (.ref 176), .none, .none, (.str "postcore.objects" 243), .none, (.ref 182), .none, 0⟩), List.toArray []⟩) ::
    (nat_lit 184, ⟨(.type "tuple"), .none, (.seq (List.toArray []) 0), List.toArray []⟩) ::
    (nat_lit 186, ⟨(.type "tuple"), .none, (.seq (List.toArray [(.str "thing" 498)]) 0), List.toArray []⟩) ::
    (nat_lit 187, ⟨(.type "tuple"), .none, (.seq (List.toArray []) 0), List.toArray []⟩) ::
    (nat_lit 189, ⟨(.type "code"), .none, (.fields (List.toArray [(.str "type_name" 495), (.str "type_name" 496), (.str "/claim/cut.py" 497), (.int 61 0), (.int 1 0), (.int 0 0), (.int 0 0), (.int 3 0), (.ref 184), (.bool true), (.int 181 0), (.ref 185), .none, (.ref 186), (.ref 187), (.ref 188), (.int 499 0), (.int 61 0), (.str "/claim/cut.py" 500)])), List.toArray []⟩) ::
    (nat_lit 190, ⟨(.type "function"), .none, (.func ⟨"type_name", "type_name", p10, .stmts b10, c10, 3, [], .none, .none, .none, (.str "postcore.objects" 243), .none, (.ref 189), .none, 0⟩), List.toArray []⟩) ::
    (nat_lit 191, ⟨(.type "tuple"), .none, (.seq (List.toArray []) 0), List.toArray []⟩) ::
    (nat_lit 193, ⟨(.type "tuple"), .none, (.seq (List.toArray [(.str "thing" 505)]) 0), List.toArray []⟩) ::
    (nat_lit 194, ⟨(.type "tuple"), .none, (.seq (List.toArray []) 0), List.toArray []⟩) ::
    (nat_lit 196, ⟨(.type "code"), .none, (.fields (List.toArray [(.str "is_number" 502), (.str "is_number" 503), (.str "/claim/cut.py" 504), (.int 63 0), (.int 1 0), (.int 0 0), (.int 0 0), (.int 3 0), (.ref 191), (.bool true), (.int 181 0), (.ref 192), .none, (.ref 193), (.ref 194), (.ref 195), (.int 506 0), (.int 63 0), (.str "/claim/cut.py" 507)])), List.toArray []⟩) ::
    (nat_lit 197, ⟨(.type "function"), .none, (.func ⟨"is_number", "is_number", p11, .stmts b11, c11, 3, [], .none, .none, .none, (.str "postcore.objects" 243), .none, (.ref 196), .none, 0⟩), List.toArray []⟩) ::
    (nat_lit 198, ⟨(.type "tuple"), .none, (.seq (List.toArray []) 0), List.toArray []⟩) ::
    (nat_lit 200, ⟨(.type "tuple"), .none, (.seq (List.toArray [(.str "thing" 512)]) 0), List.toArray []⟩) ::
    (nat_lit 201, ⟨(.type "tuple"), .none, (.seq (List.toArray []) 0), List.toArray []⟩) ::
    (nat_lit 203, ⟨(.type "code"), .none, (.fields (List.toArray [(.str "in_millionths" 509), (.str "in_millionths" 510), (.str "/claim/cut.py" 511), (.int 65 0), (.int 1 0), (.int 0 0), (.int 0 0), (.int 3 0), (.ref 198), (.bool true), (.int 181 0), (.ref 199), .none, (.ref 200), (.ref 201), (.ref 202), (.int 513 0), (.int 65 0), (.str "/claim/cut.py" 514)])), List.toArray []⟩) ::
    (nat_lit 204, ⟨(.type "function"), .none, (.func ⟨"in_millionths", "in_millionths", p12, .stmts b12, c12, 3, [], .none, .none, .none, (.str "postcore.objects" 243), .none, (.ref 203), .none, 0⟩), List.toArray []⟩) ::
    (nat_lit 205, ⟨(.type "tuple"), .none, (.seq (List.toArray []) 0), List.toArray []⟩) ::
    (nat_lit 207, ⟨(.type "tuple"), .none, (.seq (List.toArray [(.str "thing" 519)]) 0), List.toArray []⟩) ::
    (nat_lit 208, ⟨(.type "tuple"), .none, (.seq (List.toArray []) 0), List.toArray []⟩) ::
    (nat_lit 210, ⟨(.type "code"), .none, (.fields (List.toArray [(.str "is_in_array" 516), (.str "is_in_array" 517), (.str "/claim/cut.py" 518), (.int 71 0), (.int 1 0), (.int 0 0), (.int 0 0), (.int 3 0), (.ref 205), (.bool true), (.int 181 0), (.ref 206), .none, (.ref 207), (.ref 208), (.ref 209), (.int 520 0), (.int 71 0), (.str "/claim/cut.py" 521)])), List.toArray []⟩) ::
    (nat_lit 211, ⟨(.type "function"), .none, (.func ⟨"is_in_array", "is_in_array", p13, .stmts b13, c13, 3, [], .none, .none, .none, (.str "postcore.objects" 243), .none, (.ref 210), .none, 0⟩), List.toArray []⟩) ::
    (nat_lit 212, ⟨(.type "tuple"), .none, (.seq (List.toArray []) 0), List.toArray []⟩) ::
    (nat_lit 214, ⟨(.type "tuple"), .none, (.seq (List.toArray [(.str "thing" 526)]) 0), List.toArray []⟩) ::
    (nat_lit 215, ⟨(.type "tuple"), .none, (.seq (List.toArray []) 0), List.toArray []⟩) ::
    (nat_lit 217, ⟨(.type "code"), .none, (.fields (List.toArray [(.str "body_of" 523), (.str "body_of" 524), (.str "/claim/cut.py" 525), (.int 73 0), (.int 1 0), (.int 0 0), (.int 0 0), (.int 3 0), (.ref 212), (.bool true), (.int 181 0), (.ref 213), .none, (.ref 214), (.ref 215), (.ref 216), (.int 527 0), (.int 73 0), (.str "/claim/cut.py" 528)])), List.toArray []⟩) ::
    (nat_lit 218, ⟨(.type "function"), .none, (.func ⟨"body_of", "body_of", p14, .stmts b14, c14, 3, [], .none, .none, .none, (.str "postcore.objects" 243), .none, (.ref 217), .none, 0⟩), List.toArray []⟩) ::
    (nat_lit 219, ⟨(.type "tuple"), .none, (.seq (List.toArray []) 0), List.toArray []⟩) ::
    (nat_lit 221, ⟨(.type "tuple"), .none, (.seq (List.toArray [(.str "thing" 533)]) 0), List.toArray []⟩) ::
    (nat_lit 222, ⟨(.type "tuple"), .none, (.seq (List.toArray []) 0), List.toArray []⟩) ::
    (nat_lit 224, ⟨(.type "code"), .none, (.fields (List.toArray [(.str "is_composite" 530), (.str "is_composite" 531), (.str "/claim/cut.py" 532), (.int 77 0), (.int 1 0), (.int 0 0), (.int 0 0), (.int 3 0), (.ref 219), (.bool true), (.int 181 0), (.ref 220), .none, (.ref 221), (.ref 222), (.ref 223), (.int 534 0), (.int 77 0), (.str "/claim/cut.py" 535)])), List.toArray []⟩) ::
    (nat_lit 225, ⟨(.type "function"), .none, (.func ⟨"is_composite", "is_composite", p15, .stmts b15, c15, 3, [], .none, .none, .none, (.str "postcore.objects" 243), .none, (.ref 224), .none, 0⟩), List.toArray []⟩) ::
    (nat_lit 226, ⟨(.type "tuple"), .none, (.seq (List.toArray []) 0), List.toArray []⟩) ::
    (nat_lit 228, ⟨(.type "tuple"), .none, (.seq (List.toArray [(.str "thing" 540), (.str "body" 541)]) 0), List.toArray []⟩) ::
    (nat_lit 229, ⟨(.type "tuple"), .none, (.seq (List.toArray []) 0), List.toArray []⟩) ::
    (nat_lit 231, ⟨(.type "code"), .none, (.fields (List.toArray [(.str "is_local" 537), (.str "is_local" 538), (.str "/claim/cut.py" 539), (.int 79 0), (.int 1 0), (.int 0 0), (.int 0 0), (.int 3 0), (.ref 226), (.bool true), (.int 181 0), (.ref 227), .none, (.ref 228), (.ref 229), (.ref 230), (.int 542 0), (.int 79 0), (.str "/claim/cut.py" 543)])), List.toArray []⟩) ::
    (nat_lit 232, ⟨(.type "function"), .none, (.func ⟨"is_local", "is_local", p16, .stmts b16, c16, 3, [], .none, .none, .none, (.str "postcore.objects" 243), .none, (.ref 231), .none, 0⟩), List.toArray []⟩) ::
    (nat_lit 233, ⟨(.type "tuple"), .none, (.seq (List.toArray []) 0), List.toArray []⟩) ::
    (nat_lit 235, ⟨(.type "tuple"), .none, (.seq (List.toArray [(.str "thing" 548)]) 0), List.toArray []⟩) ::
    (nat_lit 236, ⟨(.type "tuple"), .none, (.seq (List.toArray []) 0), List.toArray []⟩) ::
    (nat_lit 238, ⟨(.type "code"), .none, (.fields (List.toArray [(.str "access_of" 545), (.str "access_of" 546), (.str "/claim/cut.py" 547), (.int 82 0), (.int 1 0), (.int 0 0), (.int 0 0), (.int 3 0), (.ref 233), (.bool true), (.int 181 0), (.ref 234), .none, (.ref 235), (.ref 236), (.ref 237), (.int 549 0), (.int 82 0), (.str "/claim/cut.py" 550)])), List.toArray []⟩) ::
    (nat_lit 239, ⟨(.type "function"), .none, (.func ⟨"access_of", "access_of", p17, .stmts b17, c17, 3, [], .none, .none, .none, (.str "postcore.objects" 243), .none, (.ref 238), .none, 0⟩), List.toArray []⟩) ::
    (nat_lit 240, ⟨(.type "tuple"), .none, (.seq (List.toArray []) 0), List.toArray []⟩) ::
    (nat_lit 242, ⟨(.type "tuple"), .none, (.seq (List.toArray [(.str "thing" 555)]) 0), List.toArray []⟩) ::
    (nat_lit 243, ⟨(.type "tuple"), .none, (.seq (List.toArray []) 0), List.toArray []⟩) ::
    (nat_lit 245, ⟨(.type "code"), .none, (.fields (List.toArray [(.str "can_read" 552), (.str "can_read" 553), (.str "/claim/cut.py" 554), (.int 84 0), (.int 1 0), (.int 0 0), (.int 0 0), (.int 3 0), (.ref 240), (.bool true), (.int 181 0), (.ref 241), .none, (.ref 242), (.ref 243), (.ref 244), (.int 556 0), (.int 84 0), (.str "/claim/cut.py" 557)])), List.toArray []⟩) ::
    (nat_lit 246, ⟨(.type "function"), .none, (.func ⟨"can_read", "can_read", p18, .stmts b18, c18, 3, [], .none, .none, .none, (.str "postcore.objects" 243), .none, (.ref 245), .none, 0⟩), List.toArray []⟩) ::
    (nat_lit 247, ⟨(.type "tuple"), .none, (.seq (List.toArray []) 0), List.toArray []⟩) ::
    (nat_lit 249, ⟨(.type "tuple"), .none, (.seq (List.toArray [(.str "thing" 562)]) 0), List.toArray []⟩) ::
    (nat_lit 250, ⟨(.type "tuple"), .none, (.seq (List.toArray []) 0), List.toArray []⟩) ::
    (nat_lit 252, ⟨(.type "code"), .none, (.fields (List.toArray [(.str "can_write" 559), (.str "can_write" 560), (.str "/claim/cut.py" 561), (.int 86 0), (.int 1 0), (.int 0 0), (.int 0 0), (.int 3 0), (.ref 247), (.bool true), (.int 181 0), (.ref 248), .none, (.ref 249), (.ref 250), (.ref 251), (.int 563 0), (.int 86 0), (.str "/claim/cut.py" 564)])), List.toArray []⟩) ::
    (nat_lit 253, ⟨(.type "function"), .none, (.func ⟨"can_write", "can_write", p19, .stmts b19, c19, 3, [], .none, .none, .none, (.str "postcore.objects" 243), .none, (.ref 252), .none, 0⟩), List.toArray []⟩) ::
    (nat_lit 254, ⟨(.type "tuple"), .none, (.seq (List.toArray []) 0), List.toArray []⟩) ::
    (nat_lit 256, ⟨(.type "tuple"), .none, (.seq (List.toArray [(.str "thing" 569)]) 0), List.toArray []⟩) ::
    (nat_lit 257, ⟨(.type "tuple"), .none, (.seq (List.toArray []) 0), List.toArray []⟩) ::
    (nat_lit 259, ⟨(.type "code"), .none, (.fields (List.toArray [(.str "can_run" 566), (.str "can_run" 567), (.str "/claim/cut.py" 568), (.int 88 0), (.int 1 0), (.int 0 0), (.int 0 0), (.int 3 0), (.ref 254), (.bool true), (.int 181 0), (.ref 255), .none, (.ref 256), (.ref 257), (.ref 258), (.int 570 0), (.int 88 0), (.str "/claim/cut.py" 571)])), List.toArray []⟩) ::
    (nat_lit 260, ⟨(.type "function"), .none, (.func ⟨"can_run", "can_run", p20, .stmts b20, c20, 3, [], .none, .none, .none, (.str "postcore.objects" 243), .none, (.ref 259), .none, 0⟩), List.toArray []⟩) ::
    (nat_lit 261, ⟨(.type "tuple"), .none, (.seq (List.toArray []) 0), List.toArray []⟩) ::
    (nat_lit 263, ⟨(.type "tuple"), .none, (.seq (List.toArray [(.str "thing" 576)]) 0), List.toArray []⟩) ::
    (nat_lit 264, ⟨(.type "tuple"), .none, (.seq (List.toArray []) 0), List.toArray []⟩) ::
    (nat_lit 266, ⟨(.type "code"), .none, (.fields (List.toArray [(.str "has_access" 573), (.str "has_access" 574), (.str "/claim/cut.py" 575), (.int 90 0), (.int 1 0), (.int 0 0), (.int 0 0), (.int 3 0), (.ref 261), (.bool true), (.int 181 0), (.ref 262), .none, (.ref 263), (.ref 264), (.ref 265), (.int 577 0), (.int 90 0), (.str "/claim/cut.py" 578)])), List.toArray []⟩) ::
    (nat_lit 267, ⟨(.type "function"), .none, (.func ⟨"has_access", "has_access", p21, .stmts b21, c21, 3, [], .none, .none, .none, (.str "postcore.objects" 243), .none, (.ref 266), .none, 0⟩), List.toArray []⟩) ::
    (nat_lit 268, ⟨(.type "tuple"), .none, (.seq (List.toArray []) 0), List.toArray []⟩) ::
    (nat_lit 270, ⟨(.type "tuple"), .none, (.seq (List.toArray [(.str "thing" 583), (.str "is_exec" 584)]) 0), List.toArray []⟩) ::
    (nat_lit 271, ⟨(.type "tuple"), .none, (.seq (List.toArray []) 0), List.toArray []⟩) ::
    (nat_lit 273, ⟨(.type "code"), .none, (.fields (List.toArray [(.str "with_exec" 580), (.str "with_exec" 581), (.str "/claim/cut.py" 582), (.int 92 0), (.int 2 0), (.int 0 0), (.int 0 0), (.int 3 0), (.ref 268), (.bool true), (.int 181 0), (.ref 269), .none, (.ref 270), (.ref 271), (.ref 272), (.int 585 0), (.int 92 0), (.str "/claim/cut.py" 586)])), List.toArray []⟩) ::
    (nat_lit 274, ⟨(.type "function"), .none, (.func ⟨"with_exec", "with_exec", p22, .stmts b22, c22, 3, [], .none, .none, .none, (.str "postcore.objects" 243), .none, (.ref 273), .none, 0⟩), List.toArray []⟩) ::
    (nat_lit 275, ⟨(.type "tuple"), .none, (.seq (List.toArray []) 0), List.toArray []⟩) ::
    (nat_lit 277, ⟨(.type "tuple"), .none, (.seq (List.toArray [(.str "thing" 591), (.str "access" 592)]) 0), List.toArray []⟩) ::
    (nat_lit 278, ⟨(.type "tuple"), .none, (.seq (List.toArray []) 0), List.toArray []⟩) ::
    (nat_lit 280, ⟨(.type "code"), .none, (.fields (List.toArray [(.str "with_access" 588), (.str "with_access" 589), (.str "/claim/cut.py" 590), (.int 94 0), (.int 2 0), (.int 0 0), (.int 0 0), (.int 3 0), (.ref 275), (.bool true), (.int 181 0), (.ref 276), .none, (.ref 277), (.ref 278), (.ref 279), (.int 593 0), (.int 94 0), (.str "/claim/cut.py" 594)])), List.toArray []⟩) ::
    (nat_lit 281, ⟨(.type "function"), .none, (.func ⟨"with_access", "with_access", p23, .stmts b23, c23, 3, [], .none, .none, .none, (.str "postcore.objects" 243), .none, (.ref 280), .none, 0⟩), List.toArray []⟩) ::
    (nat_lit 282, ⟨(.type "tuple"), .none, (.seq (List.toArray []) 0), List.toArray []⟩) ::
    (nat_lit 284, ⟨(.type "tuple"), .none, (.seq (List.toArray [(.str "span" 599), (.str "start" 600), (.str "many" 601)]) 0), List.toArray []⟩) ::
    (nat_lit 285, ⟨(.type "tuple"), .none, (.seq (List.toArray []) 0), List.toArray []⟩) ::
    (nat_lit 287, ⟨(.type "code"), .none, (.fields (List.toArray [(.str "check_part" 596), (.str "check_part" 597), (.str "/claim/cut.py" 598), (.int 100 0), (.int 3 0), (.int 0 0), (.int 0 0), (.int 3 0), (.ref 282), (.bool true), (.int 181 0), (.ref 283), .none, (.ref 284), (.ref 285), (.ref 286), (.int 602 0), (.int 100 0), (.str "/claim/cut.py" 603)])), List.toArray []⟩) ::
    (nat_lit 288, ⟨(.type "function"), .none, (.func ⟨"check_part", "check_part", p24, .stmts b24, c24, 3, [], .none, .none, .none, (.str "postcore.objects" 243), .none, (.ref 287), .none, 0⟩), List.toArray []⟩) ::
    (nat_lit 289, ⟨(.type "tuple"), .none, (.seq (List.toArray []) 0), List.toArray []⟩) ::
    (nat_lit 291, ⟨(.type "tuple"), .none, (.seq (List.toArray [(.str "span" 608), (.str "start" 609), (.str "many" 610)]) 0), List.toArray []⟩) ::
    (nat_lit 292, ⟨(.type "tuple"), .none, (.seq (List.toArray []) 0), List.toArray []⟩) ::
    (nat_lit 294, ⟨(.type "code"), .none, (.fields (List.toArray [(.str "part_of" 605), (.str "part_of" 606), (.str "/claim/cut.py" 607), (.int 103 0), (.int 3 0), (.int 0 0), (.int 0 0), (.int 3 0), (.ref 289), (.bool true), (.int 181 0), (.ref 290), .none, (.ref 291), (.ref 292), (.ref 293), (.int 611 0), (.int 103 0), (.str "/claim/cut.py" 612)])), List.toArray []⟩) ::
    (nat_lit 295, ⟨(.type "function"), .none, (.func ⟨"part_of", "part_of", p25, .stmts b25, c25, 3, [], .none, .none, .none, (.str "postcore.objects" 243), .none, (.ref 294), .none, 0⟩), List.toArray []⟩) ::
    (nat_lit 296, ⟨(.type "tuple"), .none, (.seq (List.toArray []) 0), List.toArray []⟩) ::
    (nat_lit 298, ⟨(.type "tuple"), .none, (.seq (List.toArray [(.str "thing" 617), (.str "span" 618)]) 0), List.toArray []⟩) ::
    (nat_lit 299, ⟨(.type "tuple"), .none, (.seq (List.toArray []) 0), List.toArray []⟩) ::
    (nat_lit 301, ⟨(.type "code"), .none, (.fields (List.toArray [(.str "with_span" 614), (.str "with_span" 615), (.str "/claim/cut.py" 616), (.int 106 0), (.int 2 0), (.int 0 0), (.int 0 0), (.int 3 0), (.ref 296), (.bool true), (.int 181 0), (.ref 297), .none, (.ref 298), (.ref 299), (.ref 300), (.int 619 0), (.int 106 0), (.str "/claim/cut.py" 620)])), List.toArray []⟩) ::
    (nat_lit 302, ⟨(.type "function"), .none, (.func ⟨"with_span", "with_span", p26, .stmts b26, c26, 3, [], .none, .none, .none, (.str "postcore.objects" 243), .none, (.ref 301), .none, 0⟩), List.toArray []⟩) ::
    (nat_lit 303, ⟨(.type "tuple"), .none, (.seq (List.toArray []) 0), List.toArray []⟩) ::
    (nat_lit 305, ⟨(.type "tuple"), .none, (.seq (List.toArray [(.str "span" 625)]) 0), List.toArray []⟩) ::
    (nat_lit 306, ⟨(.type "tuple"), .none, (.seq (List.toArray []) 0), List.toArray []⟩) ::
    (nat_lit 308, ⟨(.type "code"), .none, (.fields (List.toArray [(.str "is_text_span" 622), (.str "is_text_span" 623), (.str "/claim/cut.py" 624), (.int 108 0), (.int 1 0), (.int 0 0), (.int 0 0), (.int 3 0), (.ref 303), (.bool true), (.int 181 0), (.ref 304), .none, (.ref 305), (.ref 306), (.ref 307), (.int 626 0), (.int 108 0), (.str "/claim/cut.py" 627)])), List.toArray []⟩) ::
    (nat_lit 309, ⟨(.type "function"), .none, (.func ⟨"is_text_span", "is_text_span", p27, .stmts b27, c27, 3, [], .none, .none, .none, (.str "postcore.objects" 243), .none, (.ref 308), .none, 0⟩), List.toArray []⟩) ::
    (nat_lit 310, ⟨(.type "tuple"), .none, (.seq (List.toArray []) 0), List.toArray []⟩) ::
    (nat_lit 312, ⟨(.type "tuple"), .none, (.seq (List.toArray [(.str "span" 632), (.str "at" 633)]) 0), List.toArray []⟩) ::
    (nat_lit 313, ⟨(.type "tuple"), .none, (.seq (List.toArray []) 0), List.toArray []⟩) ::
    (nat_lit 315, ⟨(.type "code"), .none, (.fields (List.toArray [(.str "item" 629), (.str "item" 630), (.str "/claim/cut.py" 631), (.int 110 0), (.int 2 0), (.int 0 0), (.int 0 0), (.int 3 0), (.ref 310), (.bool true), (.int 181 0), (.ref 311), .none, (.ref 312), (.ref 313), (.ref 314), (.int 634 0), (.int 110 0), (.str "/claim/cut.py" 635)])), List.toArray []⟩) ::
    (nat_lit 316, ⟨(.type "function"), .none, (.func ⟨"item", "item", p28, .stmts b28, c28, 3, [], .none, .none, .none, (.str "postcore.objects" 243), .none, (.ref 315), .none, 0⟩), List.toArray []⟩) ::
    (nat_lit 317, ⟨(.type "tuple"), .none, (.seq (List.toArray []) 0), List.toArray []⟩) ::
    (nat_lit 319, ⟨(.type "tuple"), .none, (.seq (List.toArray [(.str "span" 640)]) 0), List.toArray []⟩) ::
    (nat_lit 320, ⟨(.type "tuple"), .none, (.seq (List.toArray []) 0), List.toArray []⟩) ::
    (nat_lit 322, ⟨(.type "code"), .none, (.fields (List.toArray [(.str "octets_of_span" 637), (.str "octets_of_span" 638), (.str "/claim/cut.py" 639), (.int 115 0), (.int 1 0), (.int 0 0), (.int 0 0), (.int 3 0), (.ref 317), (.bool true), (.int 181 0), (.ref 318), .none, (.ref 319), (.ref 320), (.ref 321), (.int 641 0), (.int 115 0), (.str "/claim/cut.py" 642)])), List.toArray []⟩) ::
    (nat_lit 323, ⟨(.type "function"), .none, (.func ⟨"octets_of_span", "octets_of_span", p29, .stmts b29, c29, 3, [], .none, .none, .none, (.str "postcore.objects" 243), .none, (.ref 322), .none, 0⟩), List.toArray []⟩) ::
    (nat_lit 324, ⟨(.type "tuple"), .none, (.seq (List.toArray []) 0), List.toArray []⟩) ::
    (nat_lit 326, ⟨(.type "tuple"), .none, (.seq (List.toArray [(.str "span" 647)]) 0), List.toArray []⟩) ::
    (nat_lit 327, ⟨(.type "tuple"), .none, (.seq (List.toArray []) 0), List.toArray []⟩) ::
    (nat_lit 329, ⟨(.type "code"), .none, (.fields (List.toArray [(.str "things_of_span" 644), (.str "things_of_span" 645), (.str "/claim/cut.py" 646), (.int 117 0), (.int 1 0), (.int 0 0), (.int 0 0), (.int 3 0), (.ref 324), (.bool true), (.int 181 0), (.ref 325), .none, (.ref 326), (.ref 327), (.ref 328), (.int 648 0), (.int 117 0), (.str "/claim/cut.py" 649)])), List.toArray []⟩) ::
    (nat_lit 330, ⟨(.type "function"), .none, (.func ⟨"things_of_span", "things_of_span", p30, .stmts b30, c30, 3, [], .none, .none, .none, (.str "postcore.objects" 243), .none, (.ref 329), .none, 0⟩), List.toArray []⟩) ::
    (nat_lit 331, ⟨(.type "tuple"), .none, (.seq (List.toArray []) 0), List.toArray []⟩) ::
    (nat_lit 333, ⟨(.type "tuple"), .none, (.seq (List.toArray [(.str "thing" 654)]) 0), List.toArray []⟩) ::
    (nat_lit 334, ⟨(.type "tuple"), .none, (.seq (List.toArray []) 0), List.toArray []⟩) ::
    (nat_lit 336, ⟨(.type "code"), .none, (.fields (List.toArray [(.str "thing_octets" 651), (.str "thing_octets" 652), (.str "/claim/cut.py" 653), (.int 119 0), (.int 1 0), (.int 0 0), (.int 0 0), (.int 3 0), (.ref 331), (.bool true), (.int 181 0), (.ref 332), .none, (.ref 333), (.ref 334), (.ref 335), (.int 655 0), (.int 119 0), (.str "/claim/cut.py" 656)])), List.toArray []⟩) ::
    (nat_lit 337, ⟨(.type "function"), .none, (.func ⟨"thing_octets", "thing_octets", p31, .stmts b31, c31, 3, [], .none, .none, .none, (.str "postcore.objects" 243), .none, (.ref 336), .none, 0⟩), List.toArray []⟩) ::
    (nat_lit 338, ⟨(.type "tuple"), .none, (.seq (List.toArray []) 0), List.toArray []⟩) ::
    (nat_lit 340, ⟨(.type "tuple"), .none, (.seq (List.toArray [(.str "thing" 661)]) 0), List.toArray []⟩) ::
    (nat_lit 341, ⟨(.type "tuple"), .none, (.seq (List.toArray []) 0), List.toArray []⟩) ::
    (nat_lit 343, ⟨(.type "code"), .none, (.fields (List.toArray [(.str "key_of" 658), (.str "key_of" 659), (.str "/claim/cut.py" 660), (.int 127 0), (.int 1 0), (.int 0 0), (.int 0 0), (.int 3 0), (.ref 338), (.bool true), (.int 181 0), (.ref 339), .none, (.ref 340), (.ref 341), (.ref 342), (.int 662 0), (.int 127 0), (.str "/claim/cut.py" 663)])), List.toArray []⟩) ::
    (nat_lit 344, ⟨(.type "function"), .none, (.func ⟨"key_of", "key_of", p32, .stmts b32, c32, 3, [], .none, .none, .none, (.str "postcore.objects" 243), .none, (.ref 343), .none, 0⟩), List.toArray []⟩) ::
    (nat_lit 345, ⟨(.type "tuple"), .none, (.seq (List.toArray []) 0), List.toArray []⟩) ::
    (nat_lit 347, ⟨(.type "tuple"), .none, (.seq (List.toArray [(.str "thing" 668)]) 0), List.toArray []⟩) ::
    (nat_lit 348, ⟨(.type "tuple"), .none, (.seq (List.toArray []) 0), List.toArray []⟩) ::
    (nat_lit 350, ⟨(.type "code"), .none, (.fields (List.toArray [(.str "key_thing" 665), (.str "key_thing" 666), (.str "/claim/cut.py" 667), (.int 141 0), (.int 1 0), (.int 0 0), (.int 0 0), (.int 3 0), (.ref 345), (.bool true), (.int 181 0), (.ref 346), .none, (.ref 347), (.ref 348), (.ref 349), (.int 669 0), (.int 141 0), (.str "/claim/cut.py" 670)])), List.toArray []⟩) ::
    (nat_lit 351, ⟨(.type "function"), .none, (.func ⟨"key_thing", "key_thing", p33, .stmts b33, c33, 3, [], .none, .none, .none, (.str "postcore.objects" 243), .none, (.ref 350), .none, 0⟩), List.toArray []⟩) ::
    (nat_lit 352, ⟨(.type "tuple"), .none, (.seq (List.toArray []) 0), List.toArray []⟩) ::
    (nat_lit 354, ⟨(.type "tuple"), .none, (.seq (List.toArray [(.str "one" 675), (.str "other" 676)]) 0), List.toArray []⟩) ::
    (nat_lit 355, ⟨(.type "tuple"), .none, (.seq (List.toArray []) 0), List.toArray []⟩) ::
    (nat_lit 357, ⟨(.type "code"), .none, (.fields (List.toArray [(.str "equal_things" 672), (.str "equal_things" 673), (.str "/claim/cut.py" 674), (.int 143 0), (.int 2 0), (.int 0 0), (.int 0 0), (.int 3 0), (.ref 352), (.bool true), (.int 181 0), (.ref 353), .none, (.ref 354), (.ref 355), (.ref 356), (.int 677 0), (.int 143 0), (.str "/claim/cut.py" 678)])), List.toArray []⟩) ::
    (nat_lit 358, ⟨(.type "function"), .none, (.func ⟨"equal_things", "equal_things", p34, .stmts b34, c34, 3, [], .none, .none, .none, (.str "postcore.objects" 243), .none, (.ref 357), .none, 0⟩), List.toArray []⟩) ::
    (nat_lit 359, ⟨(.type "tuple"), .none, (.seq (List.toArray []) 0), List.toArray []⟩) ::
    (nat_lit 361, ⟨(.type "tuple"), .none, (.seq (List.toArray [(.str "one" 683), (.str "other" 684)]) 0), List.toArray []⟩) ::
    (nat_lit 362, ⟨(.type "tuple"), .none, (.seq (List.toArray []) 0), List.toArray []⟩) ::
    (nat_lit 364, ⟨(.type "code"), .none, (.fields (List.toArray [(.str "less_than" 680), (.str "less_than" 681), (.str "/claim/cut.py" 682), (.int 147 0), (.int 2 0), (.int 0 0), (.int 0 0), (.int 3 0), (.ref 359), (.bool true), (.int 181 0), (.ref 360), .none, (.ref 361), (.ref 362), (.ref 363), (.int 685 0), (.int 147 0), (.str "/claim/cut.py" 686)])), List.toArray []⟩) ::
    (nat_lit 365, ⟨(.type "function"), .none, (.func ⟨"less_than", "less_than", p35, .stmts b35, c35, 3, [], .none, .none, .none, (.str "postcore.objects" 243), .none, (.ref 364), .none, 0⟩), List.toArray []⟩) ::
    (nat_lit 366, ⟨(.type "tuple"), .none, (.seq (List.toArray []) 0), List.toArray []⟩) ::
    (nat_lit 368, ⟨(.type "tuple"), .none, (.seq (List.toArray []) 0), List.toArray []⟩) ::
    (nat_lit 369, ⟨(.type "tuple"), .none, (.seq (List.toArray []) 0), List.toArray []⟩) ::
    (nat_lit 371, ⟨(.type "code"), .none, (.fields (List.toArray [(.str "_law_types" 690), (.str "_law_types" 691), (.str "/claim/cut.py" 692), (.int 154 0), (.int 0 0), (.int 0 0), (.int 0 0), (.int 3 0), (.ref 366), (.bool true), (.int 181 0), (.ref 367), .none, (.ref 368), (.ref 369), (.ref 370), (.int 693 0), (.int 154 0), (.str "/claim/cut.py" 694)])), List.toArray []⟩) ::
    (nat_lit 372, ⟨(.type "function"), .none, (.func ⟨"_law_types", "_law_types", p36, .stmts b36, c36, 3, [], .none, .none, .none, (.str "law_on0261_01" 688), .none, (.ref 371), .none, 0⟩), List.toArray []⟩) ::
    (nat_lit 373, ⟨(.type "tuple"), .none, (.seq (List.toArray []) 0), List.toArray []⟩) ::
    (nat_lit 376, ⟨(.type "code"), .none, (.fields (List.toArray [(.str "_law_deck" 696), (.str "_law_deck" 697), (.str "/claim/cut.py" 698), (.int 156 0), (.int 1 0), (.int 0 0), (.int 0 0), (.int 3 0), (.ref 373), (.bool true), (.int 181 0), (.ref 374), .none, .none, .none, (.ref 375), (.int 699 0), (.int 156 0), (.str "/claim/cut.py" 700)])), List.toArray []⟩) ::
    (nat_lit 377, ⟨(.type "function"), .none, (.func ⟨"_law_deck", "_law_deck", p37, .stmts b37, c37, 3, [], .none, .none, .none, (.str "law_on0261_01" 688), .none, (.ref 376), .none, 0⟩), List.toArray []⟩) ::
    (nat_lit 378, ⟨(.type "tuple"), .none, (.seq (List.toArray []) 0), List.toArray []⟩) ::
    (nat_lit 380, ⟨(.type "tuple"), .none, (.seq (List.toArray [(.str "deck" 705), (.str "many" 706)]) 0), List.toArray []⟩) ::
    (nat_lit 381, ⟨(.type "tuple"), .none, (.seq (List.toArray []) 0), List.toArray []⟩) ::
    (nat_lit 383, ⟨(.type "code"), .none, (.fields (List.toArray [(.str "_law_draw" 702), (.str "_law_draw" 703), (.str "/claim/cut.py" 704), (.int 161 0), (.int 2 0), (.int 0 0), (.int 0 0), (.int 3 0), (.ref 378), (.bool true), (.int 181 0), (.ref 379), .none, (.ref 380), (.ref 381), (.ref 382), (.int 707 0), (.int 161 0), (.str "/claim/cut.py" 708)])), List.toArray []⟩) ::
    (nat_lit 384, ⟨(.type "function"), .none, (.func ⟨"_law_draw", "_law_draw", p38, .stmts b38, c38, 3, [], .none, .none, .none, (.str "law_on0261_01" 688), .none, (.ref 383), .none, 0⟩), List.toArray []⟩) ::
    (nat_lit 385, ⟨(.type "tuple"), .none, (.seq (List.toArray []) 0), List.toArray []⟩) ::
    (nat_lit 387, ⟨(.type "tuple"), .none, (.seq (List.toArray [(.str "deck" 713), (.str "body" 714), (.str "many" 715), (.str "start" 716)]) 0), List.toArray []⟩) ::
    (nat_lit 388, ⟨(.type "tuple"), .none, (.seq (List.toArray []) 0), List.toArray []⟩) ::
    (nat_lit 390, ⟨(.type "code"), .none, (.fields (List.toArray [(.str "_law_span" 710), (.str "_law_span" 711), (.str "/claim/cut.py" 712), (.int 166 0), (.int 3 0), (.int 0 0), (.int 0 0), (.int 3 0), (.ref 385), (.bool true), (.int 181 0), (.ref 386), .none, (.ref 387), (.ref 388), (.ref 389), (.int 717 0), (.int 166 0), (.str "/claim/cut.py" 718)])), List.toArray []⟩) ::
    (nat_lit 391, ⟨(.type "function"), .none, (.func ⟨"_law_span", "_law_span", p39, .stmts b39, c39, 3, [], .none, .none, .none, (.str "law_on0261_01" 688), .none, (.ref 390), .none, 0⟩), List.toArray []⟩) ::
    (nat_lit 392, ⟨(.type "tuple"), .none, (.seq (List.toArray []) 0), List.toArray []⟩) ::
    (nat_lit 394, ⟨(.type "tuple"), .none, (.seq (List.toArray [(.str "deck" 723), (.str "bodies" 724), (.str "way" 725), (.str "number" 726), (.str "value" 727), (.str "kinds" 728), (.str "is_run" 729), (.str "access" 730)]) 0), List.toArray []⟩) ::
    (nat_lit 395, ⟨(.type "tuple"), .none, (.seq (List.toArray []) 0), List.toArray []⟩) ::
    (nat_lit 397, ⟨(.type "code"), .none, (.fields (List.toArray [(.str "_law_thing" 720), (.str "_law_thing" 721), (.str "/claim/cut.py" 722), (.int 169 0), (.int 2 0), (.int 0 0), (.int 0 0), (.int 3 0), (.ref 392), (.bool true), (.int 181 0), (.ref 393), .none, (.ref 394), (.ref 395), (.ref 396), (.int 731 0), (.int 169 0), (.str "/claim/cut.py" 732)])), List.toArray []⟩) ::
    (nat_lit 398, ⟨(.type "function"), .none, (.func ⟨"_law_thing", "_law_thing", p40, .stmts b40, c40, 3, [], .none, .none, .none, (.str "law_on0261_01" 688), .none, (.ref 397), .none, 0⟩), List.toArray []⟩) ::
    (nat_lit 399, ⟨(.type "tuple"), .none, (.seq (List.toArray []) 0), List.toArray []⟩) ::
    (nat_lit 401, ⟨(.type "tuple"), .none, (.seq (List.toArray [(.str "thing" 737), (.str "span" 738), (.str "letters" 739)]) 0), List.toArray []⟩) ::
    (nat_lit 402, ⟨(.type "tuple"), .none, (.seq (List.toArray []) 0), List.toArray []⟩) ::
    (nat_lit 404, ⟨(.type "code"), .none, (.fields (List.toArray [(.str "_law_what" 734), (.str "_law_what" 735), (.str "/claim/cut.py" 736), (.int 181 0), (.int 1 0), (.int 0 0), (.int 0 0), (.int 3 0), (.ref 399), (.bool true), (.int 181 0), (.ref 400), .none, (.ref 401), (.ref 402), (.ref 403), (.int 740 0), (.int 181 0), (.str "/claim/cut.py" 741)])), List.toArray []⟩) ::
    (nat_lit 405, ⟨(.type "function"), .none, (.func ⟨"_law_what", "_law_what", p41, .stmts b41, c41, 3, [], .none, .none, .none, (.str "law_on0261_01" 688), .none, (.ref 404), .none, 0⟩), List.toArray []⟩) ::
    (nat_lit 406, ⟨(.type "tuple"), .none, (.seq (List.toArray []) 0), List.toArray []⟩) ::
    (nat_lit 408, ⟨(.type "tuple"), .none, (.seq (List.toArray [(.str "thing" 746), (.str "value" 747)]) 0), List.toArray []⟩) ::
    (nat_lit 409, ⟨(.type "tuple"), .none, (.seq (List.toArray []) 0), List.toArray []⟩) ::
    (nat_lit 411, ⟨(.type "code"), .none, (.fields (List.toArray [(.str "_law_face" 743), (.str "_law_face" 744), (.str "/claim/cut.py" 745), (.int 195 0), (.int 1 0), (.int 0 0), (.int 0 0), (.int 3 0), (.ref 406), (.bool true), (.int 181 0), (.ref 407), .none, (.ref 408), (.ref 409), (.ref 410), (.int 748 0), (.int 195 0), (.str "/claim/cut.py" 749)])), List.toArray []⟩) ::
    (nat_lit 412, ⟨(.type "function"), .none, (.func ⟨"_law_face", "_law_face", p42, .stmts b42, c42, 3, [], .none, .none, .none, (.str "law_on0261_01" 688), .none, (.ref 411), .none, 0⟩), List.toArray []⟩) ::
    (nat_lit 413, ⟨(.type "tuple"), .none, (.seq (List.toArray []) 0), List.toArray []⟩) ::
    (nat_lit 415, ⟨(.type "tuple"), .none, (.seq (List.toArray [(.str "way" 754), (.str "one" 755), (.str "other" 756), (.str "found" 757), (.str "e" 758)]) 0), List.toArray []⟩) ::
    (nat_lit 416, ⟨(.type "tuple"), .none, (.seq (List.toArray []) 0), List.toArray []⟩) ::
    (nat_lit 418, ⟨(.type "code"), .none, (.fields (List.toArray [(.str "_law_told" 751), (.str "_law_told" 752), (.str "/claim/cut.py" 753), (.int 202 0), (.int 3 0), (.int 0 0), (.int 0 0), (.int 3 0), (.ref 413), (.bool true), (.int 181 0), (.ref 414), .none, (.ref 415), (.ref 416), (.ref 417), (.int 759 0), (.int 202 0), (.str "/claim/cut.py" 760)])), List.toArray []⟩) ::
    (nat_lit 419, ⟨(.type "function"), .none, (.func ⟨"_law_told", "_law_told", p43, .stmts b43, c43, 3, [], .none, .none, .none, (.str "law_on0261_01" 688), .none, (.ref 418), .none, 0⟩), List.toArray []⟩) ::
    (nat_lit 420, ⟨(.type "tuple"), .none, (.seq (List.toArray []) 0), List.toArray []⟩) ::
    (nat_lit 422, ⟨(.type "tuple"), .none, (.seq (List.toArray [(.str "one" 765), (.str "other" 766), (.str "some" 767)]) 0), List.toArray []⟩) ::
    (nat_lit 423, ⟨(.type "tuple"), .none, (.seq (List.toArray []) 0), List.toArray []⟩) ::
    (nat_lit 425, ⟨(.type "code"), .none, (.fields (List.toArray [(.str "_law_equal" 762), (.str "_law_equal" 763), (.str "/claim/cut.py" 764), (.int 224 0), (.int 2 0), (.int 0 0), (.int 0 0), (.int 3 0), (.ref 420), (.bool true), (.int 181 0), (.ref 421), .none, (.ref 422), (.ref 423), (.ref 424), (.int 768 0), (.int 224 0), (.str "/claim/cut.py" 769)])), List.toArray []⟩) ::
    (nat_lit 426, ⟨(.type "function"), .none, (.func ⟨"_law_equal", "_law_equal", p44, .stmts b44, c44, 3, [], .none, .none, .none, (.str "law_on0261_01" 688), .none, (.ref 425), .none, 0⟩), List.toArray []⟩) ::
    (nat_lit 427, ⟨(.type "tuple"), .none, (.seq (List.toArray []) 0), List.toArray []⟩) ::
    (nat_lit 430, ⟨(.type "code"), .none, (.fields (List.toArray [(.str "_law_less" 771), (.str "_law_less" 772), (.str "/claim/cut.py" 773), (.int 229 0), (.int 2 0), (.int 0 0), (.int 0 0), (.int 3 0), (.ref 427), (.bool true), (.int 181 0), (.ref 428), .none, .none, .none, (.ref 429), (.int 774 0), (.int 229 0), (.str "/claim/cut.py" 775)])), List.toArray []⟩) ::
    (nat_lit 431, ⟨(.type "function"), .none, (.func ⟨"_law_less", "_law_less", p45, .stmts b45, c45, 3, [], .none, .none, .none, (.str "law_on0261_01" 688), .none, (.ref 430), .none, 0⟩), List.toArray []⟩) ::
    (nat_lit 432, ⟨(.type "tuple"), .none, (.seq (List.toArray []) 0), List.toArray []⟩) ::
    (nat_lit 434, ⟨(.type "tuple"), .none, (.seq (List.toArray [(.str "deck" 780), (.str "thing" 781), (.str "what" 782), (.str "told" 783), (.str "made" 784), (.str "shares" 785), (.str "body" 786), (.str "near" 787), (.str "less" 788), (.str "due" 789), (.str "face" 790)]) 0), List.toArray []⟩) ::
    (nat_lit 435, ⟨(.type "tuple"), .none, (.seq (List.toArray []) 0), List.toArray []⟩) ::
    (nat_lit 437, ⟨(.type "code"), .none, (.fields (List.toArray [(.str "_law_one_right" 777), (.str "_law_one_right" 778), (.str "/claim/cut.py" 779), (.int 235 0), (.int 2 0), (.int 0 0), (.int 0 0), (.int 3 0), (.ref 432), (.bool true), (.int 181 0), (.ref 433), .none, (.ref 434), (.ref 435), (.ref 436), (.int 791 0), (.int 235 0), (.str "/claim/cut.py" 792)])), List.toArray []⟩) ::
    (nat_lit 438, ⟨(.type "function"), .none, (.func ⟨"_law_one_right", "_law_one_right", p46, .stmts b46, c46, 3, [], .none, .none, .none, (.str "law_on0261_01" 688), .none, (.ref 437), .none, 0⟩), List.toArray []⟩) ::
    (nat_lit 439, ⟨(.type "tuple"), .none, (.seq (List.toArray []) 0), List.toArray []⟩) ::
    (nat_lit 442, ⟨(.type "code"), .none, (.fields (List.toArray [(.str "_law_parts_right" 794), (.str "_law_parts_right" 795), (.str "/claim/cut.py" 796), (.int 265 0), (.int 2 0), (.int 0 0), (.int 0 0), (.int 3 0), (.ref 439), (.bool true), (.int 181 0), (.ref 440), .none, .none, .none, (.ref 441), (.int 797 0), (.int 265 0), (.str "/claim/cut.py" 798)])), List.toArray []⟩) ::
    (nat_lit 443, ⟨(.type "function"), .none, (.func ⟨"_law_parts_right", "_law_parts_right", p47, .stmts b47, c47, 3, [], .none, .none, .none, (.str "law_on0261_01" 688), .none, (.ref 442), .none, 0⟩), List.toArray []⟩) ::
    (nat_lit 444, ⟨(.type "tuple"), .none, (.seq (List.toArray []) 0), List.toArray []⟩) ::
    (nat_lit 447, ⟨(.type "code"), .none, (.fields (List.toArray [(.str "law" 800), (.str "law" 801), (.str "/claim/cut.py" 802), (.int 290 0), (.int 1 0), (.int 0 0), (.int 0 0), (.int 3 0), (.ref 444), (.bool true), (.int 181 0), (.ref 445), .none, .none, .none, (.ref 446), (.int 803 0), (.int 290 0), (.str "/claim/cut.py" 804)])), List.toArray []⟩) ::
    (nat_lit 448, ⟨(.type "function"), .none, (.func ⟨"law", "law", p48, .stmts b48, c48, 3, [], .none, .none, .none, (.str "law_on0261_01" 688), .none, (.ref 447), .none, 0⟩), List.toArray []⟩) :: []
noncomputable def hd.view_39 : Program := by
  refine (?F : ∀ (t0 : Stmt) (_ : t0 = stAt top 0), ∀ (t2 : Stmt) (_ : t2 = stAt top 2), ∀ (t3 : Stmt) (_ : t3 = stAt top 3), ∀ (t4 : Stmt) (_ : t4 = stAt top 4), ∀ (t6 : Stmt) (_ : t6 = stAt top 6), ∀ (t7 : Stmt) (_ : t7 = stAt top 7), ∀ (t8 : Stmt) (_ : t8 = stAt top 8), ∀ (t9 : Stmt) (_ : t9 = stAt top 9), ∀ (t10 : Stmt) (_ : t10 = stAt top 10), ∀ (t11 : Stmt) (_ : t11 = stAt top 11), ∀ (t12 : Stmt) (_ : t12 = stAt top 12), ∀ (t13 : Stmt) (_ : t13 = stAt top 13), ∀ (t14 : Stmt) (_ : t14 = stAt top 14), ∀ (t16 : Stmt) (_ : t16 = stAt top 16), ∀ (t17 : Stmt) (_ : t17 = stAt top 17), ∀ (t18 : Stmt) (_ : t18 = stAt top 18), ∀ (t19 : Stmt) (_ : t19 = stAt top 19), ∀ (t20 : Stmt) (_ : t20 = stAt top 20), ∀ (t21 : Stmt) (_ : t21 = stAt top 21), ∀ (t22 : Stmt) (_ : t22 = stAt top 22), ∀ (t23 : Stmt) (_ : t23 = stAt top 23), ∀ (t24 : Stmt) (_ : t24 = stAt top 24), ∀ (t25 : Stmt) (_ : t25 = stAt top 25), ∀ (t26 : Stmt) (_ : t26 = stAt top 26), ∀ (t27 : Stmt) (_ : t27 = stAt top 27), ∀ (t28 : Stmt) (_ : t28 = stAt top 28), ∀ (t29 : Stmt) (_ : t29 = stAt top 29), ∀ (t30 : Stmt) (_ : t30 = stAt top 30), ∀ (t31 : Stmt) (_ : t31 = stAt top 31), ∀ (t32 : Stmt) (_ : t32 = stAt top 32), ∀ (t33 : Stmt) (_ : t33 = stAt top 33), ∀ (t34 : Stmt) (_ : t34 = stAt top 34), ∀ (t35 : Stmt) (_ : t35 = stAt top 35), ∀ (t36 : Stmt) (_ : t36 = stAt top 36), ∀ (t37 : Stmt) (_ : t37 = stAt top 37), ∀ (t38 : Stmt) (_ : t38 = stAt top 38), ∀ (t39 : Stmt) (_ : t39 = stAt top 39), ∀ (t40 : Stmt) (_ : t40 = stAt top 40), ∀ (t41 : Stmt) (_ : t41 = stAt top 41), ∀ (t43 : Stmt) (_ : t43 = stAt top 43), ∀ (t44 : Stmt) (_ : t44 = stAt top 44), ∀ (t45 : Stmt) (_ : t45 = stAt top 45), ∀ (t46 : Stmt) (_ : t46 = stAt top 46), ∀ (t47 : Stmt) (_ : t47 = stAt top 47), ∀ (t48 : Stmt) (_ : t48 = stAt top 48), ∀ (t49 : Stmt) (_ : t49 = stAt top 49), ∀ (t50 : Stmt) (_ : t50 = stAt top 50), ∀ (t51 : Stmt) (_ : t51 = stAt top 51), ∀ (t52 : Stmt) (_ : t52 = stAt top 52), ∀ (t53 : Stmt) (_ : t53 = stAt top 53), ∀ (t54 : Stmt) (_ : t54 = stAt top 54), ∀ (t55 : Stmt) (_ : t55 = stAt top 55), Program) ?t0 ?ht0 ?t2 ?ht2 ?t3 ?ht3 ?t4 ?ht4 ?t6 ?ht6 ?t7 ?ht7 ?t8 ?ht8 ?t9 ?ht9 ?t10 ?ht10 ?t11 ?ht11 ?t12 ?ht12 ?t13 ?ht13 ?t14 ?ht14 ?t16 ?ht16 ?t17 ?ht17 ?t18 ?ht18 ?t19 ?ht19 ?t20 ?ht20 ?t21 ?ht21 ?t22 ?ht22 ?t23 ?ht23 ?t24 ?ht24 ?t25 ?ht25 ?t26 ?ht26 ?t27 ?ht27 ?t28 ?ht28 ?t29 ?ht29 ?t30 ?ht30 ?t31 ?ht31 ?t32 ?ht32 ?t33 ?ht33 ?t34 ?ht34 ?t35 ?ht35 ?t36 ?ht36 ?t37 ?ht37 ?t38 ?ht38 ?t39 ?ht39 ?t40 ?ht40 ?t41 ?ht41 ?t43 ?ht43 ?t44 ?ht44 ?t45 ?ht45 ?t46 ?ht46 ?t47 ?ht47 ?t48 ?ht48 ?t49 ?ht49 ?t50 ?ht50 ?t51 ?ht51 ?t52 ?ht52 ?t53 ?ht53 ?t54 ?ht54 ?t55 ?ht55
  case ht0 => conv => rhs; whnf
  case ht2 => conv => rhs; whnf
  case ht3 => conv => rhs; whnf
  case ht4 => conv => rhs; whnf
  case ht6 => conv => rhs; whnf
  case ht7 => conv => rhs; whnf
  case ht8 => conv => rhs; whnf
  case ht9 => conv => rhs; whnf
  case ht10 => conv => rhs; whnf
  case ht11 => conv => rhs; whnf
  case ht12 => conv => rhs; whnf
  case ht13 => conv => rhs; whnf
  case ht14 => conv => rhs; whnf
  case ht16 => conv => rhs; whnf
  case ht17 => conv => rhs; whnf
  case ht18 => conv => rhs; whnf
  case ht19 => conv => rhs; whnf
  case ht20 => conv => rhs; whnf
  case ht21 => conv => rhs; whnf
  case ht22 => conv => rhs; whnf
  case ht23 => conv => rhs; whnf
  case ht24 => conv => rhs; whnf
  case ht25 => conv => rhs; whnf
  case ht26 => conv => rhs; whnf
  case ht27 => conv => rhs; whnf
  case ht28 => conv => rhs; whnf
  case ht29 => conv => rhs; whnf
  case ht30 => conv => rhs; whnf
  case ht31 => conv => rhs; whnf
  case ht32 => conv => rhs; whnf
  case ht33 => conv => rhs; whnf
  case ht34 => conv => rhs; whnf
  case ht35 => conv => rhs; whnf
  case ht36 => conv => rhs; whnf
  case ht37 => conv => rhs; whnf
  case ht38 => conv => rhs; whnf
  case ht39 => conv => rhs; whnf
  case ht40 => conv => rhs; whnf
  case ht41 => conv => rhs; whnf
  case ht43 => conv => rhs; whnf
  case ht44 => conv => rhs; whnf
  case ht45 => conv => rhs; whnf
  case ht46 => conv => rhs; whnf
  case ht47 => conv => rhs; whnf
  case ht48 => conv => rhs; whnf
  case ht49 => conv => rhs; whnf
  case ht50 => conv => rhs; whnf
  case ht51 => conv => rhs; whnf
  case ht52 => conv => rhs; whnf
  case ht53 => conv => rhs; whnf
  case ht54 => conv => rhs; whnf
  case ht55 => conv => rhs; whnf
  case F => exact fun t0 _ t2 _ t3 _ t4 _ t6 _ t7 _ t8 _ t9 _ t10 _ t11 _ t12 _ t13 _ t14 _ t16 _ t17 _ t18 _ t19 _ t20 _ t21 _ t22 _ t23 _ t24 _ t25 _ t26 _ t27 _ t28 _ t29 _ t30 _ t31 _ t32 _ t33 _ t34 _ t35 _ t36 _ t37 _ t38 _ t39 _ t40 _ t41 _ t43 _ t44 _ t45 _ t46 _ t47 _ t48 _ t49 _ t50 _ t51 _ t52 _ t53 _ t54 _ t55 _ => { PySem.Challenge.pw_on0261_01 with main := { PySem.Challenge.pw_on0261_01.main with body := [t0, t2, t3, t4, t6, t7, t8, t9, t10, t11, t12, t13, t14, t16, t17, t18, t19, t20, t21, t22, t23, t24, t25, t26, t27, t28, t29, t30, t31, t32, t33, t34, t35, t36, t37, t38, t39, t40, t41, t43, t44, t45, t46, t47, t48, t49, t50, t51, t52, t53, t54, t55] } }
noncomputable def hd.rec : DefRec := by
  refine (?F : ∀ (p : Arguments) (_ : p = parsOf (stAt top 55)), ∀ (b : List Stmt) (_ : b = bodyOf (stAt top 55)), ∀ (c : Scope) (_ : c = scopOf (stAt top 55)), ∀ (z : Pos) (_ : z = posOf (stAt top 55)), DefRec) ?p ?hp ?b ?hb ?c ?hc ?z ?hz
  case hp => conv => rhs; whnf
  case hb => conv => rhs; whnf
  case hc => conv => rhs; whnf
  case hz => conv => rhs; whnf
  case F => exact fun p _ b _ c _ z _ => ⟨"law", p, b, c, z⟩
noncomputable abbrev hd.at : List Addr := nat_lit 2 :: nat_lit 3 :: nat_lit 15 :: nat_lit 17 :: nat_lit 18 :: nat_lit 20 :: nat_lit 21 :: nat_lit 22 :: nat_lit 29 :: nat_lit 30 :: nat_lit 32 :: nat_lit 33 :: nat_lit 35 :: nat_lit 36 :: nat_lit 37 :: nat_lit 38 :: nat_lit 39 :: nat_lit 40 :: nat_lit 43 :: nat_lit 50 :: nat_lit 51 :: nat_lit 52 :: nat_lit 55 :: nat_lit 63 :: nat_lit 64 :: nat_lit 66 :: nat_lit 67 :: nat_lit 69 :: nat_lit 70 :: nat_lit 71 :: nat_lit 72 :: nat_lit 73 :: nat_lit 74 :: nat_lit 75 :: nat_lit 85 :: nat_lit 87 :: nat_lit 88 :: nat_lit 90 :: nat_lit 91 :: nat_lit 92 :: nat_lit 93 :: nat_lit 94 :: nat_lit 95 :: nat_lit 96 :: nat_lit 106 :: nat_lit 108 :: nat_lit 109 :: nat_lit 111 :: nat_lit 112 :: nat_lit 113 :: nat_lit 114 :: nat_lit 115 :: nat_lit 116 :: nat_lit 117 :: nat_lit 127 :: nat_lit 129 :: nat_lit 130 :: nat_lit 132 :: nat_lit 133 :: nat_lit 134 :: nat_lit 136 :: nat_lit 137 :: nat_lit 139 :: nat_lit 140 :: nat_lit 141 :: nat_lit 143 :: nat_lit 144 :: nat_lit 146 :: nat_lit 147 :: nat_lit 148 :: nat_lit 149 :: nat_lit 150 :: nat_lit 151 :: nat_lit 152 :: nat_lit 162 :: nat_lit 164 :: nat_lit 165 :: nat_lit 167 :: nat_lit 168 :: nat_lit 169 :: nat_lit 170 :: nat_lit 171 :: nat_lit 172 :: nat_lit 173 :: nat_lit 176 :: nat_lit 177 :: nat_lit 179 :: nat_lit 180 :: nat_lit 182 :: nat_lit 183 :: nat_lit 184 :: nat_lit 186 :: nat_lit 187 :: nat_lit 189 :: nat_lit 190 :: nat_lit 191 :: nat_lit 193 :: nat_lit 194 :: nat_lit 196 :: nat_lit 197 :: nat_lit 198 :: nat_lit 200 :: nat_lit 201 :: nat_lit 203 :: nat_lit 204 :: nat_lit 205 :: nat_lit 207 :: nat_lit 208 :: nat_lit 210 :: nat_lit 211 :: nat_lit 212 :: nat_lit 214 :: nat_lit 215 :: nat_lit 217 :: nat_lit 218 :: nat_lit 219 :: nat_lit 221 :: nat_lit 222 :: nat_lit 224 :: nat_lit 225 :: nat_lit 226 :: nat_lit 228 :: nat_lit 229 :: nat_lit 231 :: nat_lit 232 :: nat_lit 233 :: nat_lit 235 :: nat_lit 236 :: nat_lit 238 :: nat_lit 239 :: nat_lit 240 :: nat_lit 242 :: nat_lit 243 :: nat_lit 245 :: nat_lit 246 :: nat_lit 247 :: nat_lit 249 :: nat_lit 250 :: nat_lit 252 :: nat_lit 253 :: nat_lit 254 :: nat_lit 256 :: nat_lit 257 :: nat_lit 259 :: nat_lit 260 :: nat_lit 261 :: nat_lit 263 :: nat_lit 264 :: nat_lit 266 :: nat_lit 267 :: nat_lit 268 :: nat_lit 270 :: nat_lit 271 :: nat_lit 273 :: nat_lit 274 :: nat_lit 275 :: nat_lit 277 :: nat_lit 278 :: nat_lit 280 :: nat_lit 281 :: nat_lit 282 :: nat_lit 284 :: nat_lit 285 :: nat_lit 287 :: nat_lit 288 :: nat_lit 289 :: nat_lit 291 :: nat_lit 292 :: nat_lit 294 :: nat_lit 295 :: nat_lit 296 :: nat_lit 298 :: nat_lit 299 :: nat_lit 301 :: nat_lit 302 :: nat_lit 303 :: nat_lit 305 :: nat_lit 306 :: nat_lit 308 :: nat_lit 309 :: nat_lit 310 :: nat_lit 312 :: nat_lit 313 :: nat_lit 315 :: nat_lit 316 :: nat_lit 317 :: nat_lit 319 :: nat_lit 320 :: nat_lit 322 :: nat_lit 323 :: nat_lit 324 :: nat_lit 326 :: nat_lit 327 :: nat_lit 329 :: nat_lit 330 :: nat_lit 331 :: nat_lit 333 :: nat_lit 334 :: nat_lit 336 :: nat_lit 337 :: nat_lit 338 :: nat_lit 340 :: nat_lit 341 :: nat_lit 343 :: nat_lit 344 :: nat_lit 345 :: nat_lit 347 :: nat_lit 348 :: nat_lit 350 :: nat_lit 351 :: nat_lit 352 :: nat_lit 354 :: nat_lit 355 :: nat_lit 357 :: nat_lit 358 :: nat_lit 359 :: nat_lit 361 :: nat_lit 362 :: nat_lit 364 :: nat_lit 365 :: nat_lit 366 :: nat_lit 368 :: nat_lit 369 :: nat_lit 371 :: nat_lit 372 :: nat_lit 373 :: nat_lit 376 :: nat_lit 377 :: nat_lit 378 :: nat_lit 380 :: nat_lit 381 :: nat_lit 383 :: nat_lit 384 :: nat_lit 385 :: nat_lit 387 :: nat_lit 388 :: nat_lit 390 :: nat_lit 391 :: nat_lit 392 :: nat_lit 394 :: nat_lit 395 :: nat_lit 397 :: nat_lit 398 :: nat_lit 399 :: nat_lit 401 :: nat_lit 402 :: nat_lit 404 :: nat_lit 405 :: nat_lit 406 :: nat_lit 408 :: nat_lit 409 :: nat_lit 411 :: nat_lit 412 :: nat_lit 413 :: nat_lit 415 :: nat_lit 416 :: nat_lit 418 :: nat_lit 419 :: nat_lit 420 :: nat_lit 422 :: nat_lit 423 :: nat_lit 425 :: nat_lit 426 :: nat_lit 427 :: nat_lit 430 :: nat_lit 431 :: nat_lit 432 :: nat_lit 434 :: nat_lit 435 :: nat_lit 437 :: nat_lit 438 :: nat_lit 439 :: nat_lit 442 :: nat_lit 443 :: nat_lit 444 :: nat_lit 447 :: nat_lit 448 :: []
theorem hd.at_eq : ∀ P, hd.at = (hd.heap_39 P).map (·.1) := fun _ => by kernel_rfl
noncomputable abbrev hd.Walk : Prop := WalkC hd.view_39 [Str.ofString "PostError", Str.ofString "THING_TYPES", Str.ofString "Thing", Str.ofString "name"] (XL hd.view_39 []) (kHook hd.heap_39 hd.at hd.at_eq).says PySem.Challenge.rw_on0261_01.row.toRowW hd.rec []
end Mine
end
section
namespace Mine
open PySem.Spec PySem.Calls
noncomputable abbrev Led := List (Addr × Obj)
noncomputable def Keep (mu : List Addr) (h h' : Heap) : Prop := ∀ b o, h.get? b = some o → b ∉ mu → h'.get? b = some o
theorem enter {prog : Program} {w : World} {A₀ A : Around} {s : Shared} {base h₀ : Heap} {outer : List Env} {L : Addr} {m : Str → Option Value} {env : Env} {mu : Led} {K : Frag}
    {p : Program} {loose : List Str} {mean : ExcName → Option Value} {mg mb : Str → Option Value}
    {R : Result → Shared → Prop} {name qual : Str} {params : Arguments} {body : List Stmt} {scope : Scope} {dV kV doc pm cdv ct oc : Value} {an od : Option Addr} {osl : Array (Option Value)} {f : Addr} {args : Args} (binds : List (Str × Value))
    (B : Below A₀ base outer h₀) (F : Fr h₀ L s.heap m) (X : K.In h₀) (T : Top p loose mean mg mb h₀) (N : News h₀ L s.heap mu)
    (hA : A.frames = some (env :: outer)) (hf : env.frame = some L) (hke : env.scope.kind = .function)
    (ho : K.lookup f = some ⟨oc, od, .func (fnOf name qual params body scope dV kV doc pm an cdv ct), osl⟩) (hcd : codeIn K cdv qual = true) (hroom : A.depth < recursionLimit)
    (hbind : BindsTo s (fnOf name qual params body scope dV kV doc pm an cdv ct) args binds) (hloc : (binds.all fun y => decide (scope.names.lookup y.1 = some .local)) = true)
    (hcell : ∀ x ∈ scope.names, x.2 ≠ .cell) (hco : scope.isCoroutine = false) (hgen : scope.isGenerator = false) (hk : scope.kind = .function)
    (h : ∀ g L' h₁, Fr h₀ L g m → Keep (mu.map (·.1)) s.heap g → Fr g L' h₁ (fun y => binds.reverse.lookup y) → News g L' h₁ mu → Below A base (env :: outer) g → K.In g → Top p loose mean mg mb g → s.heap.objs.size ≤ L' →
      wpAny (model prog w) (A.deeper (envOf qual scope L' f cdv)) (execs body (envOf qual scope L' f cdv))
        (fun fl s' => LeaveK h₀ L m g R (match fl with | .ret v => v | _ => .none) s')
        (fun e s' => wpAny (model prog w) (A.deeper (envOf qual scope L' f cdv)) (leaving (envOf qual scope L' f cdv) e) (fun _ s'' => R (.error e) s'') (fun e' s'' => R (.error e') s'') s')
        { s with heap := h₁, toks := s.toks + binds.length }) :
    codeAny (model prog w) A (.call (.ref f) args) R s := by
  obtain ⟨FG, BG, st, lv⟩ := groundX (R := R) B F N hA hf hke
  refine codeAny_call_def (fd := fnOf name qual params body scope dV kV doc pm an cdv ct) (body := body) (binds := binds) hroom ((X.keeps F.keep) _ _ ho) rfl (T.nolimit.keeps F.keep) (codeRec_of (X.keeps F.keep) hcd) rfl hbind hcell (locs hloc) (fun h₁ hns hk₁ => ?_) hco hgen hk
  refine wpAny_mono (h _ s.heap.objs.size h₁ FG (fun b o e q => hideAll_get _ e q) ⟨hns, fun b o e => hk₁ b o (of_hideAll _ e), Nat.le_of_eq (hideAll_size _ _)⟩ ?_ BG (X.keeps st) (T.keeps st) (Nat.le_refl _)) (fun fl s' hl => lv _ _ hl) fun _ _ y => y
  exact fun p hp => ⟨hk₁ _ _ (N p hp).1, Nat.ne_of_lt (Heap.lt_size (N p hp).1), hideAll_none _ (List.mem_map_of_mem hp)⟩
theorem stay_news {g h h' : Heap} {L : Addr} {news : Led} (N : News g L h news) (S : h.StaysIn h') : News g L h' news := fun p hp => ⟨S _ _ (N p hp).1, (N p hp).2⟩
noncomputable def toldObj (d : Addr) (P : Params) (bs : Array UInt8) (h : Heap) : Prop := ∃ hs t1 t2 n, h.get? d = some (dictOf [⟨hs, .str (Str.ofString "told") t1, .bytes bs t2⟩] n)
structure Fly (base : Heap) (l : List Env) (e : Addr) (bs : Array UInt8) (H h : Heap) : Prop where
  up : H.UpToSlots h
  fl : ∃ B d a0 hs t1 t2 n, base.StaysIn B ∧ (∀ b o, H.get? b = some o → b ∉ l.filterMap (·.frame) → B.get? b = some o) ∧ Heap.FlyingW B l e (.ref 52) a0 h ∧
    B.get? d = some (dictOf [⟨hs, .str (Str.ofString "told") t1, .bytes bs t2⟩] n) ∧ ∃ oe, h.get? e = some oe ∧ oe.dict = some d
structure RetK (h₀ : Heap) (L : Addr) (m : Str → Option Value) (s : Shared) (Post : Heap → Heap → Value → Prop) (Q : Value → Shared → Prop) : Prop where
  out : ∀ r h' tk', Fr h₀ L h' m → s.heap.StaysIn h' → Post s.heap h' r → Q r { s with heap := h', toks := tk' }
structure ExcK (base : Heap) (l : List Env) (s : Shared) (Exc : Array UInt8 → Prop) (E : Value → Shared → Prop) : Prop where
  out : ∀ e h' tk' bs, Exc bs → Fly base l e bs s.heap h' → E (.ref e) { s with heap := h', toks := tk' }
noncomputable def RO (k : Nat) (w : World) (f : Addr) (vs : List Value) (G : Heap) (Post : Heap → Heap → Value → Prop) (Exc : Array UInt8 → Prop) : Prop :=
  ∀ (dp un : Nat) (gd : Option (List Code)) (cn : Str) (cs : Scope) (a : Addr) (ccd : Value) (cl : List (Str × Addr)) (outer : List Env) (A₀ : Around) (base h₀ : Heap) (L : Addr) (m mg mb : Str → Option Value) (mean : ExcName → Option Value) (s : Shared)
    (Q E : Value → Shared → Prop),
    Below A₀ base outer h₀ → Fr h₀ L s.heap m → (hd.heap_39 w.params).In h₀ → Top hd.view_39 (looseW hd.view_39 [Str.ofString "PostError", Str.ofString "THING_TYPES", Str.ofString "Thing", Str.ofString "name"]) mean mg mb h₀ →
    cs.kind = .function → dp + k < recursionLimit → un + 8 * k < cLine → G.StaysIn s.heap →
    RetK h₀ L m s Post Q → ExcK base (envX cn cs L a ccd cl :: outer) s Exc E →
    wpAny (model PySem.Challenge.rw_on0261_01.row.prog w) (ktrTop dp un gd cn cs L a ccd cl outer) (call (.ref f) vs) Q E s
structure Due (P : Prop) : Prop where
  out : P
theorem ro_end {h₀ g : Heap} {L L' : Addr} {m m' : Str → Option Value} {v : Value} {s s' : Shared} {Q : Value → Shared → Prop} {Post : Heap → Heap → Value → Prop} {R : Result → Shared → Prop}
    (hret : RetK h₀ L m s Post Q)
    (F' : Fr g L' s'.heap m') (KS : s.heap.StaysIn g) (e : s' = { s with heap := s'.heap, toks := s'.toks }) (hR : Q v s' → R (.ok (.ret v)) s') (hp : Due (Post s.heap s'.heap v)) :
    LeaveK h₀ L m g R v s' :=
  ⟨L', m', [], F', fun _ hp => (nomatch hp), fun kF _ => hR (e ▸ hret.out v s'.heap s'.toks kF (fun b o q => F'.keep b o (KS b o q)) hp.out)⟩
noncomputable def Fld (h : Heap) (x C : Addr) (fs : List (Str × Value)) : Prop :=
  ∃ sl d es n, h.get? x = some { cls := .ref C, dict := some d, data := .plain, slots := sl } ∧ h.get? d = some (dictOf es n) ∧ ∀ p ∈ fs, getL p.1 es = some (some p.2) ∧ handedIn p.2 = true
theorem Fld.keep {h h' : Heap} {x C : Addr} {fs : List (Str × Value)} (I : Fld h x C fs) (S : h.StaysIn h') : Fld h' x C fs :=
  let ⟨sl, d, es, n, h1, h2, h3⟩ := I; ⟨sl, d, es, n, S _ _ h1, S _ _ h2, h3⟩
noncomputable def ClsOk (K : Frag) (C : Addr) (name : Str) : Prop := plainGet K C name = true ∧ hasDictIn K C = true ∧ ∃ attr, findIn K (.ref C) name = some attr ∧ noGet K attr = true
theorem mem_lookup {fs : List (Str × Value)} {n : Str} {v : Value} (e : fs.lookup n = some v) : (n, v) ∈ fs := by
  induction fs with
  | nil => cases e
  | cons p r ih =>
    obtain ⟨a, b⟩ := p
    rw [List.lookup_cons] at e
    by_cases q : (n == a) = true
    · simp only [q] at e
      cases e
      rw [eq_of_beq q]; exact .head _
    · simp only [Bool.not_eq_true] at q
      simp only [q] at e
      exact .tail _ (ih e)
theorem getF {prog : Program} {w : World} {A : Around} {hh : Heap} {gs : Array GenState} {dr : Drawn} {tk : Nat} {os : OsState} {E : Value → Shared → Prop} {h₀ G : Heap} {L : Addr} {m : Str → Option Value} {K : Frag} {x C : Addr} {fs : List (Str × Value)} {name : Str} {v : Value} {expr : Bool} {Q : Value → Shared → Prop}
    (F : Fr h₀ L hh m) (X : K.In h₀) (I : Fld G x C fs) (S : G.StaysIn h₀) (hc : ClsOk K C name) (hv : fs.lookup name = some v) (h : Q v ⟨hh, gs, dr, tk + 1, os⟩) :
    wpAny (model prog w) A (getAttr (.ref x) name expr) Q E ⟨hh, gs, dr, tk, os⟩ := by
  obtain ⟨sl, d, es, n, h1, h2, h3⟩ := I
  obtain ⟨c1, c2, attr, c3, c4⟩ := hc
  obtain ⟨e1, e2⟩ := h3 _ (mem_lookup hv)
  exact get_own (s := ⟨hh, gs, dr, tk, os⟩) F X ⟨F.keep _ _ (S _ _ h1), rfl, rfl, F.keep _ _ (S _ _ h2)⟩ c1 c2 c3 c4 e1 e2 h
theorem cls_ok (P : Params) : ∀ q ∈ ([(73, Str.ofString "kind"), (73, Str.ofString "value"), (73, Str.ofString "is_exec"), (73, Str.ofString "access"), (171, Str.ofString "body"), (171, Str.ofString "start"), (171, Str.ofString "many"),
    (94, Str.ofString "number"), (94, Str.ofString "octets"), (94, Str.ofString "is_global"), (115, Str.ofString "number"), (115, Str.ofString "things"), (115, Str.ofString "is_global"), (150, Str.ofString "number"), (150, Str.ofString "is_global"), (150, Str.ofString "access")] : List (Addr × Str)), ClsOk (hd.heap_39 P) q.1 q.2 := by
  intro q hq
  simp only [List.mem_cons, List.not_mem_nil, or_false] at hq
  rcases hq with rfl | rfl | rfl | rfl | rfl | rfl | rfl | rfl | rfl | rfl | rfl | rfl | rfl | rfl | rfl | rfl <;> exact ⟨by kernel_rfl, by kernel_rfl, none, by kernel_rfl, by kernel_rfl⟩
end Mine
end
section
namespace Mine
open PySem.Spec PySem.Calls
theorem stay_of {g h G : Heap} {L : Addr} {m : Str → Option Value} (F : Fr g L h m) (S : G.StaysIn g) : G.StaysIn h := fun b o e => F.keep b o (S b o e)
theorem stay_self {g h : Heap} {L : Addr} {m : Str → Option Value} (F : Fr g L h m) : g.StaysIn h := F.keep
theorem ro_use {k : Nat} {w : World} {f : Addr} {vs : List Value} {G : Heap} {Post : Heap → Heap → Value → Prop} {Exc : Array UInt8 → Prop} (C : RO k w f vs G Post Exc)
    {dp un : Nat} {gd : Option (List Code)} {cn : Str} {cs : Scope} {a : Addr} {ccd : Value} {cl : List (Str × Addr)} {outer : List Env} {A₀ : Around} {base h₀ : Heap} {L : Addr} {m mg mb : Str → Option Value} {mean : ExcName → Option Value}
    {hh : Heap} {gs : Array GenState} {dr : Drawn} {tk : Nat} {os : OsState} {Q E : Value → Shared → Prop}
    (B : Below A₀ base outer h₀) (F : Fr h₀ L hh m) (X : (hd.heap_39 w.params).In h₀)
    (T : Top hd.view_39 (looseW hd.view_39 [Str.ofString "PostError", Str.ofString "THING_TYPES", Str.ofString "Thing", Str.ofString "name"]) mean mg mb h₀)
    (hk : cs.kind = .function) (hd : dp + k < recursionLimit) (hu : un + 8 * k < cLine) (S : G.StaysIn hh)
    (ret : ∀ r h' tk', Fr h₀ L h' m → hh.StaysIn h' → Post hh h' r → Q r ⟨h', gs, dr, tk', os⟩)
    (exc : ∀ e h' tk' bs, Exc bs → Fly base (envX cn cs L a ccd cl :: outer) e bs hh h' → E (.ref e) ⟨h', gs, dr, tk', os⟩) :
    wpAny (model PySem.Challenge.rw_on0261_01.row.prog w) (ktrTop dp un gd cn cs L a ccd cl outer) (call (.ref f) vs) Q E ⟨hh, gs, dr, tk, os⟩ :=
  C dp un gd cn cs a ccd cl outer A₀ base h₀ L m mg mb mean ⟨hh, gs, dr, tk, os⟩ Q E B F X T hk hd hu S ⟨ret⟩ ⟨exc⟩
inductive TK where
  | int (i : Int)
  | real (i : Int)
  | bool (b : Bool)
  | name (o : Array UInt8)
  | oper (o : Array UInt8)
  | str (g : Bool) (st mn : Int)
  | arr (pk g : Bool) (st mn : Int)
  | null
  | mark
  | dict (g : Bool)
  | save (i : Int)
inductive KD where
  | integer
  | real
  | boolean
  | name
  | operator
  | string
  | array
  | packed
  | null
  | mark
  | dict
  | save
  deriving DecidableEq
noncomputable def KD.s : KD → Str
  | .integer => Str.ofString "integer"
  | .real => Str.ofString "real"
  | .boolean => Str.ofString "boolean"
  | .name => Str.ofString "name"
  | .operator => Str.ofString "operator"
  | .string => Str.ofString "string"
  | .array => Str.ofString "array"
  | .packed => Str.ofString "packed"
  | .null => Str.ofString "null"
  | .mark => Str.ofString "mark"
  | .dict => Str.ofString "dict"
  | .save => Str.ofString "save"
noncomputable def kdOf : TK → KD
  | .int _ => .integer
  | .real _ => .real
  | .bool _ => .boolean
  | .name _ => .name
  | .oper _ => .operator
  | .str .. => .string
  | .arr false _ _ _ => .array
  | .arr true _ _ _ => .packed
  | .null => .null
  | .mark => .mark
  | .dict _ => .dict
  | .save _ => .save
noncomputable abbrev kindS (T : TK) : Str := (kdOf T).s
theorem kd_inj (a b : KD) : (a.s == b.s) = decide (a = b) := by
  cases a <;> cases b <;> kernel_rfl
noncomputable def isNum : TK → Bool
  | .int _ | .real _ => true
  | _ => false
noncomputable def isArr : TK → Bool
  | .arr .. => true
  | _ => false
noncomputable def isStr : TK → Bool
  | .str .. => true
  | _ => false
noncomputable def isDict : TK → Bool
  | .dict _ => true
  | _ => false
noncomputable def octs (g : Bool) : Array UInt8 := if g then #[97, 98, 98, 97] else #[97, 98, 99, 97, 98]
noncomputable abbrev ThF (G : Heap) (x : Addr) (kd : Str) (v : Value) (e : Bool) (a : Int) (tk ta : Tok) : Prop :=
  Fld G x 73 [(Str.ofString "kind", .str kd tk), (Str.ofString "value", v), (Str.ofString "is_exec", .bool e), (Str.ofString "access", .int a ta)]
noncomputable abbrev ThFs (kd : Str) (v : Value) (e : Bool) (a : Int) (tk ta : Tok) : List (Str × Value) := [(Str.ofString "kind", .str kd tk), (Str.ofString "value", v), (Str.ofString "is_exec", .bool e), (Str.ofString "access", .int a ta)]
noncomputable abbrev SpFs (bd : Addr) (st mn : Int) (ts tm : Tok) : List (Str × Value) := [(Str.ofString "body", .ref bd), (Str.ofString "start", .int st ts), (Str.ofString "many", .int mn tm)]
noncomputable abbrev SpF (G : Heap) (sp bd : Addr) (st mn : Int) (ts tm : Tok) : Prop :=
  Fld G sp 171 [(Str.ofString "body", .ref bd), (Str.ofString "start", .int st ts), (Str.ofString "many", .int mn tm)]
noncomputable def BArr (G : Heap) (a : Addr) (b : Array UInt8) : Prop := ∃ o n, G.get? a = some o ∧ o.cls = .type "bytearray" ∧ o.data = .bytearray b n
noncomputable def TextH (G : Heap) (bd : Addr) (g : Bool) : Prop :=
  ∃ ba tn, Fld G bd 94 [(Str.ofString "number", .int (if g then 2 else 1) tn), (Str.ofString "octets", .ref ba), (Str.ofString "is_global", .bool g)] ∧ BArr G ba (octs g)
noncomputable def CellsH (G : Heap) (l : Addr) : Prop :=
  ∃ c0 c1 c2 k0 k1 k2 u0 u1 u2 a0 a1 a2, G.IsList l #[.ref c0, .ref c1, .ref c2] ∧ ThF G c0 (Str.ofString "integer") (.int 7 u0) false 3 k0 a0 ∧ ThF G c1 (Str.ofString "integer") (.int 8 u1) false 3 k1 a1 ∧ ThF G c2 (Str.ofString "integer") (.int 9 u2) false 3 k2 a2
noncomputable def RowH (G : Heap) (bd : Addr) (g : Bool) : Prop :=
  ∃ l tn, Fld G bd 115 [(Str.ofString "number", .int (if g then 4 else 3) tn), (Str.ofString "things", .ref l), (Str.ofString "is_global", .bool g)] ∧ CellsH G l
noncomputable def DictH (G : Heap) (bd : Addr) (g : Bool) : Prop :=
  ∃ tn ta, Fld G bd 150 [(Str.ofString "number", .int (if g then 6 else 5) tn), (Str.ofString "is_global", .bool g), (Str.ofString "access", .int 3 ta)]
noncomputable def ValH (G : Heap) : TK → Value → Prop
  | .int i, v => ∃ t, v = .int i t
  | .real i, v => ∃ t, v = .int i t
  | .bool b, v => v = .bool b
  | .name o, v => ∃ t, v = .bytes o t
  | .oper o, v => ∃ t, v = .bytes o t
  | .str g st mn, v => ∃ sp bd ts tm, v = .ref sp ∧ SpF G sp bd st mn ts tm ∧ TextH G bd g
  | .arr _ g st mn, v => ∃ sp bd ts tm, v = .ref sp ∧ SpF G sp bd st mn ts tm ∧ RowH G bd g
  | .null, v => v = .none
  | .mark, v => v = .none
  | .dict g, v => ∃ bd, v = .ref bd ∧ DictH G bd g
  | .save i, v => ∃ t, v = .int i t
theorem eqS {a b : Str} (h : (a == b) = true) : a = b := eq_of_beq h
theorem kd_string {T : TK} (h : (kindS T == Str.ofString "string") = true) : ∃ g st mn, T = .str g st mn := by
  have h' : kdOf T = .string := of_decide_eq_true ((kd_inj _ .string).symm.trans h)
  revert h'
  cases T <;> first | (intro _; exact ⟨_, _, _, rfl⟩) | (intro h'; cases h') | (rename_i pk _ _ _; cases pk <;> intro h' <;> first | exact ⟨_, _, _, rfl⟩ | cases h')
theorem kd_array {T : TK} (h : (kindS T == Str.ofString "array") = true) : ∃ g st mn, T = .arr false g st mn := by
  have h' : kdOf T = .array := of_decide_eq_true ((kd_inj _ .array).symm.trans h)
  revert h'
  cases T <;> first | (intro _; exact ⟨_, _, _, rfl⟩) | (intro h'; cases h') | (rename_i pk _ _ _; cases pk <;> intro h' <;> first | exact ⟨_, _, _, rfl⟩ | cases h')
theorem kd_packed {T : TK} (h : (kindS T == Str.ofString "packed") = true) : ∃ g st mn, T = .arr true g st mn := by
  have h' : kdOf T = .packed := of_decide_eq_true ((kd_inj _ .packed).symm.trans h)
  revert h'
  cases T <;> first | (intro _; exact ⟨_, _, _, rfl⟩) | (intro h'; cases h') | (rename_i pk _ _ _; cases pk <;> intro h' <;> first | exact ⟨_, _, _, rfl⟩ | cases h')
theorem kd_dict {T : TK} (h : (kindS T == Str.ofString "dict") = true) : ∃ g, T = .dict g := by
  have h' : kdOf T = .dict := of_decide_eq_true ((kd_inj _ .dict).symm.trans h)
  revert h'
  cases T <;> first | (intro _; exact ⟨_, rfl⟩) | (intro h'; cases h') | (rename_i pk _ _ _; cases pk <;> intro h' <;> first | exact ⟨_, rfl⟩ | cases h')
theorem kd_integer {T : TK} (h : (kindS T == Str.ofString "integer") = true) : ∃ i, T = .int i := by
  have h' : kdOf T = .integer := of_decide_eq_true ((kd_inj _ .integer).symm.trans h)
  revert h'
  cases T <;> first | (intro _; exact ⟨_, rfl⟩) | (intro h'; cases h') | (rename_i pk _ _ _; cases pk <;> intro h' <;> first | exact ⟨_, rfl⟩ | cases h')
theorem kd_real {T : TK} (h : (kindS T == Str.ofString "real") = true) : ∃ i, T = .real i := by
  have h' : kdOf T = .real := of_decide_eq_true ((kd_inj _ .real).symm.trans h)
  revert h'
  cases T <;> first | (intro _; exact ⟨_, rfl⟩) | (intro h'; cases h') | (rename_i pk _ _ _; cases pk <;> intro h' <;> first | exact ⟨_, rfl⟩ | cases h')
theorem kd_name {T : TK} (h : (kindS T == Str.ofString "name") = true) : ∃ o, T = .name o := by
  have h' : kdOf T = .name := of_decide_eq_true ((kd_inj _ .name).symm.trans h)
  revert h'
  cases T <;> first | (intro _; exact ⟨_, rfl⟩) | (intro h'; cases h') | (rename_i pk _ _ _; cases pk <;> intro h' <;> first | exact ⟨_, rfl⟩ | cases h')
theorem kd_null {T : TK} (h : (kindS T == Str.ofString "null") = true) : T = .null := by
  have h' : kdOf T = .null := of_decide_eq_true ((kd_inj _ .null).symm.trans h)
  revert h'
  cases T <;> first | (intro _; exact rfl) | (intro h'; cases h') | (rename_i pk _ _ _; cases pk <;> intro h' <;> first | exact rfl | cases h')
theorem kd_boolean {T : TK} (h : (kindS T == Str.ofString "boolean") = true) : ∃ b, T = .bool b := by
  have h' : kdOf T = .boolean := of_decide_eq_true ((kd_inj _ .boolean).symm.trans h)
  revert h'
  cases T <;> first | (intro _; exact ⟨_, rfl⟩) | (intro h'; cases h') | (rename_i pk _ _ _; cases pk <;> intro h' <;> first | exact ⟨_, rfl⟩ | cases h')
theorem mk_own {prog : Program} {w : World} {A : Around} {s : Shared} {E Q : Value → Shared → Prop} {h₀ : Heap} {L C fI : Addr} {m : Str → Option Value} {K : Frag} {pos : List Value} {kw : List (Str × Value)}
    (F : Fr h₀ L s.heap m) (X₀ : K.In h₀) (hm : makesIn K C = true) (hi : findIn K (.ref C) "__init__" = some (some (.ref fI))) (hf : isFn K (.ref fI) = true)
    (h : ∀ x dx h', Fr h₀ L h' m → News h₀ L h' [(x, instObj C dx), (dx, dictOf [] 0)] → s.heap.StaysIn h' → s.heap.get? x = none → s.heap.get? dx = none → dx < x →
      codeAny (model prog w) (A.under (.builtin "type.__call__" ⟨.ref C :: pos, kw⟩)) (.call (.ref fI) ⟨.ref x :: pos, kw⟩) (InitBack x fun r s' => match r with | .ok (.ret v) => Q v s' | .ok _ => False | .error e => E e s') { s with heap := h' }) :
    wpAny (model prog w) A (call (.ref C) pos kw) Q E s := by
  have X := X₀.keeps F.keep
  refine wpAny_call ?_
  obtain ⟨hh, g, d, t, os⟩ := s
  refine make_core (makes_of X hm) (looks_findIn X hi) (fun self => bind_fn X self (beq_iff_eq.mp hf)) (.inl rfl) (h _ hh.objs.size _ ((F.push _).push _) ?_ (fun b o e => Heap.get?_push_of_some _ (Heap.get?_push_of_some _ e)) (Heap.get?_none_of_le (Nat.le_succ _)) (Heap.get?_none_of_le (Nat.le_refl _)) (Nat.lt_succ_self _))
  have := (News.push F (News.nil) emptyDict).push (F.push _) (instObj C hh.objs.size)
  rwa [Heap.size_push] at this
theorem instB {g G h : Heap} {L x d C : Addr} {m : Str → Option Value} {sl : Array (Option Value)} {es : List DictEntry} {n : Nat} (F : Fr g L h m) (S : G.StaysIn g)
    (h1 : G.get? x = some { cls := .ref C, dict := some d, data := .plain, slots := sl }) (h2 : G.get? d = some (dictOf es n)) : InstAt h x { cls := .ref C, dict := some d, data := .plain, slots := sl } C (some (dictOf es n)) :=
  ⟨F.keep _ _ (S _ _ h1), rfl, rfl, F.keep _ _ (S _ _ h2)⟩
theorem fresh_of {h h' : Heap} (S : h.StaysIn h') {b : Addr} (e : h'.get? b = none) : h.get? b = none := fresh_of_stays S e
theorem cls_end {h₀ g h' : Heap} {L L' x d C : Addr} {es : List DictEntry} {n : Nat} {m m' : Str → Option Value} {s s' : Shared} {Q : Value → Shared → Prop} {Post : Heap → Heap → Value → Prop} {R : Result → Shared → Prop}
    (hret : RetK h₀ L m s Post Q) (S1 : s.heap.StaysIn h') (KS : Keep [x, d] h' g) (nx : s.heap.get? x = none) (nd : s.heap.get? d = none)
    (F' : Fr g L' s'.heap m') (N' : News g L' s'.heap [(x, instObj C d), (d, dictOf es n)]) (e : s' = { s with heap := s'.heap, toks := s'.toks }) (hR : Q (.ref x) s' → R (.ok (.ret (.ref x))) s')
    (hp : Due (Post s.heap s'.heap (.ref x))) :
    LeaveK h₀ L m g (InitBack x R) .none s' :=
  ⟨L', m', [], F', fun _ hp => (nomatch hp), fun kF _ => ⟨rfl, hR (e ▸ hret.out (.ref x) s'.heap s'.toks kF (fun b o q => F'.keep b o (KS b o (S1 b o q) fun hm => by
    rcases List.mem_cons.mp hm with rfl | hm
    · rw [nx] at q; cases q
    · rw [List.mem_singleton.mp hm, nd] at q; cases q)) hp.out)⟩⟩
theorem Fld.of_news {g h : Heap} {L x C d : Addr} {es : List DictEntry} {n : Nat} {news : Led} {fs : List (Str × Value)} (N : News g L h news) (h1 : (x, instObj C d) ∈ news) (h2 : (d, dictOf es n) ∈ news)
    (h3 : ∀ p ∈ fs, getL p.1 es = some (some p.2) ∧ handedIn p.2 = true) : Fld h x C fs := ⟨_, d, es, n, N.get h1, N.get h2, h3⟩
noncomputable def NewF (h h1 : Heap) (y C : Addr) (fs : List (Str × Value)) : Prop :=
  ∃ d es n, h.get? y = none ∧ h.get? d = none ∧ h1.get? y = some (instObj C d) ∧ h1.get? d = some (dictOf es n) ∧ ∀ p ∈ fs, getL p.1 es = some (some p.2) ∧ handedIn p.2 = true
theorem NewF.new {h h1 : Heap} {y C : Addr} {fs : List (Str × Value)} (I : NewF h h1 y C fs) : h.get? y = none := let ⟨_, _, _, q, _⟩ := I; q
theorem NewF.fld {h h1 : Heap} {y C : Addr} {fs : List (Str × Value)} (I : NewF h h1 y C fs) : Fld h1 y C fs := let ⟨d, es, n, _, _, q3, q4, q5⟩ := I; ⟨_, d, es, n, q3, q4, q5⟩
theorem NewF.up {h0 h h1 : Heap} {y C : Addr} {fs : List (Str × Value)} (S : h0.StaysIn h) (I : NewF h h1 y C fs) : NewF h0 h1 y C fs := let ⟨d, es, n, q1, q2, q⟩ := I; ⟨d, es, n, fresh_of S q1, fresh_of S q2, q⟩
theorem NewF.cut {h h1 : Heap} {y C : Addr} {fs fs' : List (Str × Value)} (I : NewF h h1 y C fs) (k : ∀ p ∈ fs', p ∈ fs) : NewF h h1 y C fs' := let ⟨d, es, n, q1, q2, q3, q4, q5⟩ := I; ⟨d, es, n, q1, q2, q3, q4, fun p hp => q5 p (k p hp)⟩
theorem fr_ne {g hh : Heap} {L y : Addr} {m : Str → Option Value} (F : Fr g L hh m) (q : hh.get? y = none) : y ≠ L := fun z => by
  obtain ⟨oL, es, ep, hoL, _⟩ := F.ns
  rw [z, hoL] at q; cases q
theorem news_fld {g hh h : Heap} {L y C : Addr} {m : Str → Option Value} {news : Led} {fs : List (Str × Value)} (F : Fr g L hh m) (N : News g L h news) (P : NewF hh h y C fs) :
    ∃ d es n, News g L h ((y, instObj C d) :: (d, dictOf es n) :: news) ∧ ∀ p ∈ fs, getL p.1 es = some (some p.2) ∧ handedIn p.2 = true := by
  obtain ⟨d, es, n, q1, q2, q3, q4, q5⟩ := P
  refine ⟨d, es, n, fun p hp => ?_, q5⟩
  rcases List.mem_cons.mp hp with rfl | hp
  · exact ⟨q3, fr_ne F q1, fresh_of F.keep q1⟩
  rcases List.mem_cons.mp hp with rfl | hp
  · exact ⟨q4, fr_ne F q2, fresh_of F.keep q2⟩
  · exact N p hp
theorem news_fld_k {R : Prop} {g hh h : Heap} {L y C : Addr} {m : Str → Option Value} {news : Led} {fs : List (Str × Value)} (F : Fr g L hh m) (N : News g L h news) (P : NewF hh h y C fs) (k : ∀ d es n, News g L h ((y, instObj C d) :: (d, dictOf es n) :: news) → (∀ p ∈ fs, getL p.1 es = some (some p.2) ∧ handedIn p.2 = true) → R) : R := by
  obtain ⟨d, es, n, a, b⟩ := news_fld F N P
  exact k d es n a b
theorem newf_back {H g h : Heap} {L y C d : Addr} {es : List DictEntry} {n : Nat} {news : Led} {fs : List (Str × Value)} (KS : H.StaysIn g) (N : News g L h news) (h1 : (y, instObj C d) ∈ news) (h2 : (d, dictOf es n) ∈ news)
    (h3 : ∀ p ∈ fs, getL p.1 es = some (some p.2) ∧ handedIn p.2 = true) : NewF H h y C fs := ⟨d, es, n, fresh_of KS (N _ h1).2.2, fresh_of KS (N _ h2).2.2, N.get h1, N.get h2, h3⟩
theorem RO.mono {k : Nat} {w : World} {f : Addr} {vs : List Value} {G : Heap} {Post Post' : Heap → Heap → Value → Prop} {Exc Exc' : Array UInt8 → Prop} (C : RO k w f vs G Post Exc) (hp : ∀ h h1 r, Post h h1 r → Post' h h1 r) (he : ∀ bs, Exc bs → Exc' bs) : RO k w f vs G Post' Exc' := by
  intro dp un gd cn cs a ccd cl outer A₀ base h₀ L m mg mb mean s Q E B F X T hk hdp hu S hret hexc
  exact C dp un gd cn cs a ccd cl outer A₀ base h₀ L m mg mb mean s Q E B F X T hk hdp hu S ⟨fun r h' tk' F' S' P => hret.out r h' tk' F' S' (hp _ _ _ P)⟩ ⟨fun e h' tk' bs P => hexc.out e h' tk' bs (he _ P)⟩
theorem BArr.keep {h h' : Heap} {a : Addr} {b : Array UInt8} (I : BArr h a b) (S : h.StaysIn h') : BArr h' a b :=
  let ⟨o, n, h1, h2, h3⟩ := I; ⟨o, n, S _ _ h1, h2, h3⟩
section
variable {prog : Program} {w : World} {A : Around} {E : Value → Shared → Prop} {hh g G : Heap} {L : Addr} {m : Str → Option Value} {gs : Array GenState} {dr : Drawn} {tk : Nat} {os : OsState} {a : Addr} {b : Array UInt8} {Q : Value → Shared → Prop}
theorem slice_baG {value slice : PySem.Expr} {l u : Value} {lo hi : Option Int} (F : Fr g L hh m) (S : G.StaysIn hh) (I : BArr G a b) (pl : IsPart l lo) (pu : IsPart u hi) (hz : b.size ≤ sizeLine)
    (h : ∀ D h', Fr g L h' m → hh.StaysIn h' → BArr h' D (KBy.picked b lo hi) → Q (.ref D) ⟨h', gs, dr, tk, os⟩)
    (hs : subscripted slice false (.ref a) (.ref hh.objs.size) = operate [.ref hh.objs.size, .ref a] (getItem (.ref a) (.ref hh.objs.size)) := by with_unfolding_all rfl) (ht : ∀ r, letTemporaryGo value (.ref a) r = pure () := by intro _; with_unfolding_all rfl) :
    wpAny (model prog w) A (subscriptTail value slice (.ref a) (.ref hh.objs.size)) Q E ⟨hh.push { cls := .type "slice", data := .fields #[l, u, .none] }, gs, dr, tk, os⟩ := by
  obtain ⟨o, n, h1, h2, h3⟩ := I.keep S
  exact slice_ba (s := ⟨hh, gs, dr, tk, os⟩) F h1 h2 h3 pl pu hz (fun D h' F' S' _ g' => h D h' F' S' ⟨_, _, g', rfl, rfl⟩) hs ht
theorem item_baG {value slice : PySem.Expr} {i : Int} {ui : Tok} (S : G.StaysIn hh) (I : BArr G a b) (h0 : 0 ≤ i) (h1 : i < b.size) (hz : b.size ≤ 1099511627776) (h : ∀ t k, Q (.int (b.toList.getD i.toNat 0).toNat t) ⟨hh, gs, dr, k, os⟩)
    (hs : subscripted slice false (.ref a) (.int i ui) = operate [.ref a, .int i ui] (getItem (.ref a) (.int i ui)) := by with_unfolding_all rfl) (ht : ∀ r, letTemporaryGo value (.ref a) r = pure () := by intro _; with_unfolding_all rfl) :
    wpAny (model prog w) A (subscriptTail value slice (.ref a) (.int i ui)) Q E ⟨hh, gs, dr, tk, os⟩ := by
  obtain ⟨o, n, g1, g2, g3⟩ := I.keep S
  exact item_ba g1 g2 g3 h0 h1 hz h hs ht
theorem bytes_baG (S : G.StaysIn hh) (I : BArr G a b) (hz : b.size ≤ sizeLine) (h : ∀ t k, Q (.bytes b t) ⟨hh, gs, dr, k, os⟩) : wpAny (model prog w) A (call (.type "bytes") [.ref a]) Q E ⟨hh, gs, dr, tk, os⟩ := by
  obtain ⟨o, n, g1, g2, g3⟩ := I.keep S
  exact bytes_of_ba g1 g2 g3 hz h
theorem octs_size (g : Bool) : (octs g).size ≤ 5 := by cases g <;> decide
theorem octs_line (g : Bool) : (octs g).size ≤ sizeLine := Nat.le_trans (octs_size g) (by rw [sizeLine_eq]; decide)
theorem picked_line (g : Bool) (lo hi : Option Int) : (KBy.picked (octs g) lo hi).size ≤ sizeLine := Nat.le_trans (KBc.size_picked_le _ _ _) (octs_line g)
end
section
variable {prog : Program} {w : World} {A : Around} {E : Value → Shared → Prop} {hh H : Heap} {gs : Array GenState} {dr : Drawn} {tk : Nat} {os : OsState} {v u : Value} {Q : Value → Shared → Prop}
theorem tupEq_ln {l l' : List At} (h : TupR H l v) (k : TupR hh l' u) (S : H.StaysIn hh) (hu : A.units < cLine) (q : Q (.bool (tEq l l')) ⟨hh, gs, dr, tk, os⟩) :
    wpAny (model prog w) A (compareOp .Eq v u) Q E ⟨hh, gs, dr, tk, os⟩ := tup_rc (s := ⟨hh, gs, dr, tk, os⟩) (h.keep S) k hu prog w E Q q
end
end Mine
end
section
namespace Mine
open PySem.Spec PySem.Calls
noncomputable abbrev psC : Obj := excClassObj (Str.ofString "PsError") (Str.ofString "PsError") 52 51 [.ref 39] [.ref 39, .type "Exception", .type "BaseException", .type "object"] true [] [] false none none
  (some (.ref 43)) none (some (.str (Str.ofString "PsError") 227)) (some (.str (Str.ofString "PsError") 235)) (some (.bool true)) "Exception.__new__"
theorem psCls (P : Params) : (hd.heap_39 P).lookup 52 = some psC := by kernel_rfl
section
variable {prog : Program} {w : World} {A : Around} {R : Result → Shared → Prop} {E : Value → Shared → Prop} {h : Heap} {g : Array GenState} {d : Drawn} {t : Nat} {os : OsState} {P : Params}
theorem ps_new {b : Value} (X : (hd.heap_39 P).In h)
    (hq : R (.ok (.ret (.ref (h.objs.size + 1)))) ⟨(h.push { cls := .type "tuple", data := .seq #[b] }).push { cls := .ref 52, data := .fields #[.ref h.objs.size, .none, .none, .none, .bool false, .none] }, g, d, t, os⟩) :
    codeAny (model prog w) A (.builtin "Exception.__new__" ⟨[.ref 52, b], []⟩) R ⟨h, g, d, t, os⟩ := by
  have hC := X _ _ (psCls P)
  have F := PySem.F.excBase_Exception
  have hends := F.ends
  have hcB : (Value.ref 52 :: [.ref 39, .type "Exception", .type "BaseException", .type "object"]).contains (.type "Exception") = true := by decide
  have hcA : (Value.ref 52 :: [.ref 39, .type "Exception", .type "BaseException", .type "object"]).contains (.type "AttributeError") = false := by decide
  have hcN : (Value.ref 52 :: [.ref 39, .type "Exception", .type "BaseException", .type "object"]).contains (.type "NameError") = false := by decide
  refine codeAny_builtinAt F.entry ?_
  unfold Builtin.«BaseException.__new__»
  refine PySem.wpAt_bind ?_
  show PySem.wpAt _ _ _ (stack >>= _) _ _ _
  refine PySem.wpAt_bind (PySem.wpAt_stack fun p below => PySem.wpAt_of_wpAny ?_)
  wp_walk
  refine PySem.wpAt_of_wpAny ?_
  rw [F.owner]
  repeat (first | with_reducible refine wpAny_madeHere_exc F.canon hC ?_ | with_reducible refine wpAny_loadPart_at hC ?_ | (with_reducible refine wpAny_isSubtype_exc hC ?_; first | rw [hcB] | rw [hcA] | rw [hcN]) | wp_step)
  show R _ _
  rw [Heap.size_push]
  exact hq
noncomputable abbrev excO (n : Nat) : Obj := { cls := .ref 52, data := .fields #[.ref n, .none, .none, .none, .bool false, .none] }
theorem ps_make {b : Value} (X : (hd.heap_39 P).In h)
    (hq : codeAny (model prog w) (A.under (.builtin "type.__call__" ⟨[.ref 52, b], []⟩)) (.call (.ref 36) ⟨[.ref (h.objs.size + 1), b], []⟩) (InitBack (h.objs.size + 1) R)
      ⟨(h.push { cls := .type "tuple", data := .seq #[b] }).push (excO h.objs.size), g, d, t, os⟩) :
    codeAny (model prog w) A (.call (.ref 52) ⟨[b], []⟩) R ⟨h, g, d, t, os⟩ := by
  have hC := X _ _ (psCls P)
  have hcall : Looks (model prog w) h (specialOf (.ref 52) "__call__") (some (.builtin "type.__call__")) := looks_specialIn X (by kernel_rfl)
  have htyp : Looks (model prog w) h (typeOf (.ref 52)) (.type "type") := looks_typeIn X (by kernel_rfl)
  have F := PySem.F.excBase_Exception
  refine codeAny_of_tree ?_
  show wpAny _ _ (callAny (.ref 52) _) _ _ _
  refine nd_load hC ?_
  show wpAny _ _ (callAny.viaDunder (.ref 52) _) _ _ _
  unfold callAny.viaDunder
  refine wpAny_bind (hcall.at ?_)
  dsimp only
  rw [tc_bind]
  refine wpAny_bind (wpAny_pure (wpAny_bind (wpAny_pure ?_)))
  refine wpAny_pure (a := Fin.again (.call (.builtin "type.__call__") ⟨[.ref 52, b], []⟩)) (And.intro rfl ?_)
  refine codeAny_call_builtin_at (Code.quiet_builtin _ (by decide +kernel)) entry_typeCall (wpAny_check_type_call_sub hC ?_)
  unfold Builtin.«type.__call__»
  have hm : Looks (model prog w) h (mroOf (.ref 52)) [.ref 52, .ref 39, .type "Exception", .type "BaseException", .type "object"] := ((Looks.ld (part := none) hC).andThen .now).andThen .now
  have hmb : Looks (model prog w) h (Bind.madeBy (.ref 52)) (some "Exception.__new__") := by
    intro A Q E s k q
    obtain ⟨hh, g, d, t, os⟩ := s
    exact wpAny_madeBy_exc (k _ _ hC) q
  repeat (first | simp only [Bool.false_eq_true, if_false] | with_reducible refine wpAny_call ?_ | lk)
  have hcB : (Value.ref 52 :: [.ref 39, .type "Exception", .type "BaseException", .type "object"]).contains (.type "Exception") = true := by decide
  have hck : ∀ (A : Around) (Q : Unit → Shared → Prop) (E : Value → Shared → Prop), Q () ⟨h, g, d, t, os⟩ → wpAny (model prog w) A (checkBuiltinCall "Exception.__new__" ⟨[.ref 52, b], []⟩) Q E ⟨h, g, d, t, os⟩ := by
    intro A Q E hq
    have hstar := F.noStar
    simp only [checkBuiltinCall, F.newKind, F.newSplit, F.newRow]
    repeat (first | refine wpAny_loadPart_at hC ?_ | (refine wpAny_isSubtype_exc hC ?_; rw [hcB]) | refine wpAny_staticBase_exc hC ?_ | refine wpAny_madeBy_exc hC ?_ | simp only [bne_self_eq_false, Bool.false_eq_true, if_false] | wp_step)
    exact hq
  refine codeAny_call_builtin_code (Code.quiet_builtin _ F.quiet) (hck _ _ _ ?_)
  refine ps_new X ?_
  have k : ∀ b' o, h.get? b' = some o → ((h.push { cls := .type "tuple", data := .seq #[b] }).push (excO h.objs.size)).get? b' = some o := fun b o e => Heap.get?_push_of_some _ (Heap.get?_push_of_some _ e)
  have X2 := X.keeps k
  have hx : ((h.push { cls := .type "tuple", data := .seq #[b] }).push (excO h.objs.size)).get? (h.objs.size + 1) = some (excO h.objs.size) := by heap_get
  have t1 : Looks (model prog w) ((h.push { cls := .type "tuple", data := .seq #[b] }).push (excO h.objs.size)) (typeOf (.ref (h.objs.size + 1))) (.ref 52) := (Looks.ld hx).andThen .now
  have s1 : Looks (model prog w) ((h.push { cls := .type "tuple", data := .seq #[b] }).push (excO h.objs.size)) (isSubtype (.ref 52) (.ref 52)) true := looks_mroIn X2 (by kernel_rfl)
  have i1 : Looks (model prog w) ((h.push { cls := .type "tuple", data := .seq #[b] }).push (excO h.objs.size)) (typeLookup (.ref 52) "__init__") (some (.ref 36)) := looks_findIn X2 (by kernel_rfl)
  have b1 : Looks (model prog w) ((h.push { cls := .type "tuple", data := .seq #[b] }).push (excO h.objs.size)) (bindSpecial (.ref 36) (.ref (h.objs.size + 1))) (.ref 36, [.ref (h.objs.size + 1)]) := bind_fn X2 _ (by kernel_rfl)
  unfold isInstance callSpecial? specialOf
  repeat (first | with_reducible refine wpAny_call ?_ | lk)
  refine codeAny_mono hq fun r s' z => ?_
  rcases r with e | (v | _ | _ | _) <;> first | exact z | exact z.elim | skip
  obtain ⟨rfl, z⟩ := z
  exact wpAny_pure (wpAny_pure z)
end
end Mine
end
section
namespace Mine
open PySem.Spec PySem.Calls PySem.Builtin PySem.Builtin.ObjectAttr
section
variable {prog : Program} {w : World} {A : Around} {R : Result → Shared → Prop} {E : Value → Shared → Prop} {h : Heap} {g : Array GenState} {d : Drawn} {t : Nat} {os : OsState}
theorem ps_set {e : Addr} {n : Nat} {v : Value} {Q : Unit → Shared → Prop} (X : (hd.heap_39 w.params).In h) (he : h.get? e = some (excO n))
    (hq : ∀ h' dx hs t1, (∀ b o, h.get? b = some o → b ≠ e → h'.get? b = some o) → h'.get? e = some { cls := .ref 52, dict := some dx, data := .fields #[.ref n, .none, .none, .none, .bool false, .none] } →
      h'.get? dx = some (dictOf [⟨hs, .str (Str.ofString "told") t1, v⟩] 1) → h.get? dx = none → Q () ⟨h', g, d, t + 2, os⟩) :
    wpAny (model prog w) A (setAttr (.ref e) "told" v) Q E ⟨h, g, d, t, os⟩ := by
  have I : InstAt h e (excO n) 52 none := ⟨he, rfl, rfl, trivial⟩
  have SF := PySem.F.store_object
  have hC := X _ _ (psCls w.params)
  have t1 : Looks (model prog w) h (typeOf (.ref e)) (.ref 52) := I.type
  have hcd : Looks (model prog w) h (classData 52) _ := (Looks.ld (part := none) hC).andThen .now
  have hm : Looks (model prog w) h (mroOf (.ref 52)) [.ref 52, .ref 39, .type "Exception", .type "BaseException", .type "object"] := ((Looks.ld (part := none) hC).andThen .now).andThen .now
  have sub : Looks (model prog w) h (isInstance (.ref e) (.type "object")) true := I.type.andThen (looks_mroIn X (by kernel_rfl))
  have lk1 : Looks (model prog w) h (typeLookup (.ref 52) "told") none := looks_findIn X (by kernel_rfl)
  refine set_plain (s := ⟨h, g, d, t, os⟩) X I (by kernel_rfl) ?_
  refine codeAny_call_builtin SF.slot.plain SF.entry (@check_slot (model prog w) _ _ ⟨h, g, d, t + 1, os⟩ "object.__setattr__" "object" "__setattr__" (.ref e) [.str "told" t, v] [] _ SF.kind SF.split sub (SF.args (.ref e) (.str "told" t) v) ?_)
  rw [osa_eq, refuse_eq]
  repeat lk
  have he1 := Heap.get?_push_of_some { cls := .type "dict", data := .dict #[] } he
  refine wpAny_update (a := e) (f := fun o => { o with dict := some h.objs.size }) he1 ?_
  refine wpAny_pure (a := some h.objs.size) ?_
  dsimp only
  have hne : e ≠ h.objs.size := Nat.ne_of_lt (Heap.lt_size he)
  have hd : ((h.push { cls := .type "dict", data := .dict #[] }).update e fun o => { o with dict := some h.objs.size }).get? h.objs.size = some { cls := .type "dict", data := .dict #[] } :=
    (Heap.get?_update_other _ _ hne).trans (Heap.get?_push_size h rfl)
  unfold storeInDict newKeyGuard nsSet
  repeat lk
  refine wpAny_updatePart hd ?_
  have hp : Obj.putName "told" (if (Str.ofString "told").cps.isEmpty = true then 0 else reduceHash ((model prog w).w.params.strHash (Str.ofString "told").cps)) (.str "told" (t + 1)) v { cls := .type "dict", data := .dict #[] }
      = dictOf [⟨(if (Str.ofString "told").cps.isEmpty = true then 0 else reduceHash ((model prog w).w.params.strHash (Str.ofString "told").cps)), .str (Str.ofString "told") (t + 1), v⟩] 1 := by rfl
  have hd2 := Heap.get?_update_self (Obj.putName "told" (if (Str.ofString "told").cps.isEmpty = true then 0 else reduceHash ((model prog w).w.params.strHash (Str.ofString "told").cps)) (.str "told" (t + 1)) v) hd (by rw [hp]; rfl)
  rw [hp] at hd2
  unfold lookBehind
  repeat lk
  refine hq _ h.objs.size _ _ (fun b o q nb => ?_) ?_ hd2 (Heap.get?_none_of_le (Nat.le_refl _))
  · have h1 : h.objs.size ≠ b := Nat.ne_of_gt (Heap.lt_size q)
    rw [Heap.get?_update_other _ _ h1, Heap.get?_update_other _ _ (Ne.symm nb)]
    exact Heap.get?_push_of_some _ q
  · rw [Heap.get?_update_other _ _ (Ne.symm hne)]
    exact Heap.get?_update_self _ he1 rfl
end
end Mine
end
section
namespace Mine
open PySem.Spec PySem.Calls
noncomputable def PsPost (b : Value) (h h' : Heap) (r : Value) : Prop :=
  ∃ e d n hs t1 k, r = .ref e ∧ h.get? e = none ∧ h.get? d = none ∧ h'.get? e = some { cls := .ref 52, dict := some d, data := .fields #[.ref n, .none, .none, .none, .bool false, .none] } ∧ h'.get? d = some (dictOf [⟨hs, .str (Str.ofString "told") t1, b⟩] k)
theorem fr_but {g h h' : Heap} {L e : Addr} {m : Str → Option Value} (F : Fr g L h m) (k : ∀ b o, h.get? b = some o → b ≠ e → h'.get? b = some o) (ne : e ≠ L) (ng : g.get? e = none) : Fr g L h' m := by
  obtain ⟨oL, es, ep, hL, r⟩ := F.ns
  refine ⟨⟨oL, es, ep, k _ _ hL (Ne.symm ne), r⟩, fun b o q => k b o (F.keep b o q) fun z => ?_, F.above⟩
  rw [z, ng] at q; cases q
theorem call_ps (w : World) (G : Heap) (b : Value) : RO 3 w 52 [b] G (PsPost b) (fun _ => False) := by
  unfold RO
  k_fill
  intro dp un gd cn cs a ccd cl outer A₀ base h₀ L m mg mb mean s Q E B F X T hk hd hu S hret hexc
  refine wpAny_call ?_
  have X0 := X.keeps F.keep
  obtain ⟨hh, gs, dr, tk, os⟩ := s
  refine ps_make (P := w.params) X0 ?_
  have k : ∀ b' o, hh.get? b' = some o → ((hh.push { cls := .type "tuple", data := .seq #[b] }).push (excO hh.objs.size)).get? b' = some o := fun b o e => Heap.get?_push_of_some _ (Heap.get?_push_of_some _ e)
  have F1 : Fr h₀ L ((hh.push { cls := .type "tuple", data := .seq #[b] }).push (excO hh.objs.size)) m := (F.push _).push _
  have nx : hh.get? (hh.objs.size + 1) = none := Heap.get?_none_of_le (Nat.le_succ _)
  have N1 : News h₀ L ((hh.push { cls := .type "tuple", data := .seq #[b] }).push (excO hh.objs.size)) [(hh.objs.size + 1, excO hh.objs.size)] := by
    have := News.push (F.push { cls := .type "tuple", data := .seq #[b] }) News.nil (excO hh.objs.size)
    rwa [Heap.size_push] at this
  clear X0
  generalize hh.objs.size = n at *
  generalize (hh.push { cls := .type "tuple", data := .seq #[b] }).push (excO n) = h1 at *
  refine enter [(Str.ofString "self", .ref (n + 1)), (Str.ofString "told", b)] B F1 X T N1 rfl rfl hk (by k_is) (by k_is) (by ktr_room) (binds_K (by k_in) rfl (by k_is) rfl rfl rfl) rfl (by decide) rfl rfl rfl ?_
  intro g L' h₁ FG KS F' N' B' X' T' hL
  k_steps
  have hx := N'.get (.head _)
  refine ps_set (w := w) (X'.keeps F'.keep) hx ?_
  intro h2 dx hs t1 hkp he hdx hnd
  have F2 := fr_but F' hkp (N' _ (.head _)).2.1 (N' _ (.head _)).2.2
  have st : ∀ b o, hh.get? b = some o → g.get? b = some o := fun b o q => KS b o (k b o q) fun z => by
    rw [List.mem_singleton.mp z] at q
    exact nomatch (nx.symm.trans q)
  have nd : hh.get? dx = none := fresh_of (fun b o q => F'.keep b o (st b o q)) hnd
  clear F' N'
  k_steps
  exact ⟨L', _, [], F2, (fun _ h => (nomatch h)), fun kF _ => ⟨rfl, hret.out (.ref (n + 1)) h2 _ kF (fun b o q => F2.keep b o (st b o q)) ⟨_, _, _, _, _, _, rfl, nx, nd, he, hdx⟩⟩⟩
end Mine
end
section
namespace Mine
open PySem.Spec PySem.Calls
section
variable {M : Model} {A : Around} {E : Value → Shared → Prop} {env : Env} {s : Shared}
theorem raiseStmt_ps {x : Sem Value} {Q : Flow → Shared → Prop} (hh : A.handled = none)
    (h : wpAny M A x (fun v s₁ => ∃ e d n, v = .ref e ∧ s₁.heap.get? 52 = some psC ∧ s₁.heap.get? e = some { cls := .ref 52, dict := some d, data := .fields #[.ref n, .none, .none, .none, .bool false, .none] } ∧ E (.ref e) s₁) E s) :
    wpAny M A (raiseStmt env (some x) none) Q E s := by
  have hcB : (Value.ref 52 :: [.ref 39, .type "Exception", .type "BaseException", .type "object"]).contains (.type "BaseException") = true := by decide
  unfold raiseStmt
  refine wpAny_bind (wpAny_mono h (fun v s₁ h₁ => ?_) fun _ _ x => x)
  obtain ⟨e, d, n, rfl, hC, he, hE⟩ := h₁
  obtain ⟨hp, g, d, tk, os⟩ := s₁
  repeat (first | with_reducible refine wpAny_loadPart_at he ?_ | with_reducible refine wpAny_loadPart_at hC ?_ | (with_reducible refine wpAny_isSubtype_exc hC ?_; rw [hcB]) | wp_step)
  exact wpAny_raiseNew_none hh hE
theorem raise_ps {x : Str} {np cpos pos : Pos} {args : List Expr} {Q : Flow → Shared → Prop} (hh : A.handled = none)
    (h : wpAny M A (eval (.Call (.Name x np) args [] cpos) env) (fun v s₁ => ∃ e d n, v = .ref e ∧ s₁.heap.get? 52 = some psC ∧ s₁.heap.get? e = some { cls := .ref 52, dict := some d, data := .fields #[.ref n, .none, .none, .none, .bool false, .none] } ∧ E (.ref e) s₁) E s) :
    wpAny M A (exec (.Raise (some (.Call (.Name x np) args [] cpos)) none pos) env) Q E s := by
  rw [arm_exec_Raise]
  refine wpAny_bind (wpAny_standAt (raiseStmt_ps hh (wpAny_bind (wpAny_mono h (fun v s₃ h₃ => wpAny_bind (wpAny_standAt (wpAny_pure h₃))) fun _ _ x => x))))
end
end Mine
end
section
namespace Mine
open PySem.Spec PySem.Calls
noncomputable def DQ {α : Type} : Sem α → Prop
  | .pure _ | .raise _ | .unsupported _ | .finish _ => True
  | .rule _ k | .at _ k | .point _ k => DQ (k ())
  | .load _ _ k => ∀ o, DQ (k o)
  | .update _ _ f k => (∀ o : Obj, (f o).dict = o.dict ∧ (f o).isFreed = o.isFreed) ∧ DQ (k ())
  | .alloc _ k => ∀ a, DQ (k a)
  | .fresh k => ∀ a, DQ (k a)
  | .ask k => ∀ a, DQ (k a)
  | .stack k => ∀ a, DQ (k a)
  | _ => False
noncomputable def DKeep (h h' : Heap) : Prop := ∀ b o, h.get? b = some o → ∃ o', h'.get? b = some o' ∧ o'.dict = o.dict
theorem DKeep.refl {h : Heap} : DKeep h h := fun _ o e => ⟨o, e, rfl⟩
theorem DKeep.trans {h h1 h2 : Heap} (x : DKeep h h1) (y : DKeep h1 h2) : DKeep h h2 := fun b o e =>
  let ⟨o1, e1, d1⟩ := x b o e; let ⟨o2, e2, d2⟩ := y b o1 e1; ⟨o2, e2, d2.trans d1⟩
theorem DQ.bind {α β : Type} {m : Sem α} {f : α → Sem β} : DQ m → (∀ a, DQ (f a)) → DQ (m.bind f) := by
  intro hm hf
  induction m with
  | pure a => exact hf a
  | raise => trivial
  | unsupported => trivial
  | finish => trivial
  | rule t k ih => exact ih () hm
  | «at» p k ih => exact ih () hm
  | point l k ih => exact ih () hm
  | load a p k ih => exact fun o => ih o (hm o)
  | update a p f k ih => exact ⟨hm.1, ih () hm.2⟩
  | alloc o k ih => exact fun o => ih o (hm o)
  | fresh k ih => exact fun o => ih o (hm o)
  | ask k ih => exact fun o => ih o (hm o)
  | stack k ih => exact fun o => ih o (hm o)
  | _ => exact hm.elim
theorem dkeep_update {h : Heap} {a : Addr} {f : Obj → Obj} (hf : ∀ o : Obj, (f o).dict = o.dict ∧ (f o).isFreed = o.isFreed) : DKeep h (h.update a f) := fun b o e => by
  by_cases q : a = b
  · subst q
    exact ⟨_, Heap.get?_update_self f e ((hf o).2.trans (Heap.get?_some_iff.mp e).2), (hf o).1⟩
  · exact ⟨o, (Heap.get?_update_other _ _ q).trans e, rfl⟩
theorem DQ.wp {α : Type} {M : Model} {Γ : PySem.Ctx} {t : Sem α} (hd : DQ t) : ∀ {Q : α → Pos → Shared → Prop} {E : Value → Pos → Shared → Prop} {p : Pos} {s : Shared},
    Sem.wp M Γ t Q E p s → Sem.wp M Γ t (fun a p' s' => Q a p' s' ∧ DKeep s.heap s'.heap) (fun e p' s' => E e p' s' ∧ DKeep s.heap s'.heap) p s := by
  induction t with
  | pure a => exact fun h => ⟨h, .refl⟩
  | raise => exact fun h => ⟨h, .refl⟩
  | unsupported => exact fun h => h
  | finish => exact fun h => h
  | rule t k ih => exact fun h => ih () hd h
  | «at» p k ih => exact fun h => ih () hd h
  | point l k ih => exact fun h => ih () hd h
  | load a p k ih => exact fun ⟨o, e, h⟩ => ⟨o, e, ih o (hd o) h⟩
  | update a p f k ih =>
    intro Q E p s h
    refine ⟨h.1, ?_⟩
    exact Sem.wp_mono _ _ _ (fun _ _ _ z => ⟨z.1, (dkeep_update hd.1).trans z.2⟩) (fun _ _ _ z => ⟨z.1, (dkeep_update hd.1).trans z.2⟩) _ _ (ih () hd.2 h.2)
  | alloc o k ih =>
    intro Q E p s h
    have dk : DKeep s.heap (s.heap.push o) := fun b o' e => ⟨o', Heap.get?_push_of_some _ e, rfl⟩
    exact Sem.wp_mono _ _ _ (fun _ _ _ z => ⟨z.1, dk.trans z.2⟩) (fun _ _ _ z => ⟨z.1, dk.trans z.2⟩) _ _ (ih _ (hd _) h)
  | fresh k ih => exact fun h => ih _ (hd _) h
  | ask k ih => exact fun h => ih _ (hd _) h
  | stack k ih => exact fun h => ih _ (hd _) h
  | _ => exact hd.elim
theorem DQ.any {α : Type} {M : Model} {A : Around} {t : Sem α} (hd : DQ t) {Q : α → Shared → Prop} {E : Value → Shared → Prop} {s : Shared}
    (h : wpAny M A t (fun a s' => DKeep s.heap s'.heap → Q a s') (fun e s' => DKeep s.heap s'.heap → E e s') s) : wpAny M A t Q E s :=
  fun Γ p hΓ => Sem.wp_mono _ _ _ (fun _ _ _ z => z.1 z.2) (fun _ _ _ z => z.1 z.2) _ _ (hd.wp (h Γ p hΓ))
theorem dq_field (v : Value) (i : Nat) : DQ (field v i) := by
  unfold field
  refine DQ.bind ?_ fun xs => ?_
  · unfold fieldsOf
    cases v <;> first | exact trivial | skip
    refine DQ.bind (fun o => trivial) fun o => ?_
    split <;> exact trivial
  · split <;> exact trivial
theorem dq_setField (v : Value) (i : Nat) (x : Value) : DQ (setField v i x) := by
  unfold setField
  cases v <;> first | exact trivial | skip
  unfold updateField
  refine DQ.bind (fun o => trivial) fun o => ?_
  split
  · split
    · refine ⟨fun o => ?_, trivial⟩
      obtain ⟨c, d, dt, sl⟩ := o
      cases dt <;> exact ⟨rfl, rfl⟩
    · exact trivial
  · exact trivial
theorem dq_setFlight (e : Value) (f : Option Addr) : DQ (setFlight e f) := by
  unfold setFlight
  refine DQ.bind (dq_field _ _) fun tb => ?_
  split
  · exact dq_setField _ _ _
  · exact trivial
theorem dq_readyFrames : ∀ l : List Env, DQ (readyFrames l)
  | [] => trivial
  | env :: outer => by
    unfold readyFrames
    split
    · refine DQ.bind (fun o => trivial) fun o => ?_
      split
      · exact trivial
      · refine DQ.bind ?_ fun i => DQ.bind ?_ fun b => ⟨fun o => ⟨rfl, by obtain ⟨c, d, dt, sl⟩ := o; cases dt <;> rfl⟩, dq_readyFrames outer⟩
        · unfold behindIsImport
          split
          · exact trivial
          · split
            · exact trivial
            · exact DQ.bind (dq_field _ _) fun _ => trivial
        · cases outer with
          | nil =>
            show DQ (if (env.scope.isGenerator || env.scope.isCoroutine) = true then Sem.pure Value.none else underTheClaimsCaller.bind fun b => Sem.pure (if b = true then .notImplemented else .none))
            split
            · exact trivial
            · exact DQ.bind (DQ.bind (m := stack) (fun _ => trivial) fun _ => trivial) fun b => trivial
          | cons c r => exact trivial
    · exact trivial
theorem dq_frameOf (env : Env) : DQ (PySem.frameOf env) := by
  unfold PySem.frameOf
  refine DQ.bind (m := frameEnvs) (DQ.bind (m := stack) (fun _ => trivial) (fun _ => trivial)) fun l => DQ.bind ?_ fun r => ?_
  · cases (List.dropWhile (fun x => x.frame != env.frame) l) with
    | nil => exact trivial
    | cons e o =>
      unfold frameObject
      exact DQ.bind (dq_readyFrames _) fun _ => trivial
  · cases r <;> exact trivial
theorem dq_newFields (ty : String) (vs : List Value) : DQ (newFields ty vs) := by
  have hj : DQ (newObjAsIs (.type ty) (.fields vs.toArray)) := by
    unfold newObjAsIs
    exact DQ.bind (m := alloc _) (fun _ => trivial) fun _ => trivial
  show DQ (if vs.toArray.size > sizeLine + 2 then (unsupported "record:memory").bind fun _ => newObjAsIs (.type ty) (.fields vs.toArray) else newObjAsIs (.type ty) (.fields vs.toArray))
  split
  · exact trivial
  · exact hj
theorem dq_newEntry (a b c d e : Value) (l : List Value) : DQ (EntryCells.newEntry a b c d e l) := dq_newFields _ _
theorem dq_noteFrame (e : Value) (env : Env) : DQ (noteFrame e env) := by
  have tl : ∀ f head b, DQ (do
      let fr ← PySem.frameOf env
      let pl ← entryPlaceOf f b
      let t ← EntryCells.newEntry head fr .none (rawInt f) .none pl
      setField e 1 t) := fun f head b => by
    refine DQ.bind (dq_frameOf _) fun fr => DQ.bind ?_ fun pl => DQ.bind (dq_newEntry _ _ _ _ _ _) fun t => dq_setField _ _ _
    unfold entryPlaceOf
    refine DQ.bind (fun _ => trivial) fun acts => ?_
    split <;> exact trivial
  unfold noteFrame
  split
  · refine DQ.bind (dq_field _ _) fun head => ?_
    split
    · refine DQ.bind (dq_field _ _) fun x => ?_
      split
      · exact trivial
      · exact DQ.bind (dq_setField _ _ _) fun _ => tl _ _ _
    · exact tl _ _ _
  · exact trivial
theorem dq_leaving (e : Value) (env : Env) : DQ (leaving env e) := DQ.bind (dq_noteFrame _ _) fun _ => dq_setFlight _ _
end Mine
end
section
namespace Mine
open PySem.Spec PySem.Calls
section
variable {M : Model} {A : Around} {E : Value → Shared → Prop} {s' : Shared} {base g h H : Heap} {outer : List Env} {L a e d : Addr} {m : Str → Option Value} {name : Str} {scope : Scope} {cd : Value} {Q : Unit → Shared → Prop} {bs : Array UInt8}
theorem fly_new {t2 : Tok} (K : Below A base outer g) (F : Fr g L h m) (HS : H.StaysIn g) (S : h.StaysIn s'.heap) (P : PsPost (.bytes bs t2) h s'.heap (.ref e))
    (hQ : ∀ h', Fly base outer e bs H h' → Q () { s' with heap := h' }) (hk : scope.kind = .function := by rfl) :
    wpAny M (A.deeper (envOf name scope L a cd)) (leaving (envOf name scope L a cd) (.ref e)) Q E s' := by
  have K' := K.push (name := name) (a := a) (cd := cd) F hk
  obtain ⟨e', d, n, hs, t1, k, hr, ne, nd, he, hd⟩ := P
  cases hr
  refine DQ.any (dq_leaving _ _) ?_
  have hin : ∀ env ∈ (envOf name scope L a cd :: outer), ∀ b, env.frame = some b → b ∈ e :: (envOf name scope L a cd :: outer).filterMap (·.frame) := fun env he b hb => .tail _ (List.mem_filterMap.mpr ⟨env, he, hb⟩)
  have hfrm : ∀ b ∈ (envOf name scope L a cd :: outer).filterMap (·.frame), ∃ o, h.get? b = some o := fun b hb => by
    obtain ⟨_, o, ho, _⟩ := K'.frames.mem hb
    exact ⟨o, ho⟩
  have FF : s'.heap.FunFrames base (envOf name scope L a cd :: outer) := K'.frames.of_keeps fun b o hb _ => ⟨o, S b o hb, rfl⟩
  have FF' := funFrames_hide FF hin
  have eB : (hideAll s'.heap (e :: (envOf name scope L a cd :: outer).filterMap (·.frame))).get? e = none := hideAll_none _ (.head _)
  have st : base.StaysIn (hideAll s'.heap (e :: (envOf name scope L a cd :: outer).filterMap (·.frame))) := fun b o q => hideAll_get _ (S _ _ (K'.stays b o q)) fun hm => by
    rcases List.mem_cons.mp hm with rfl | hm
    · have := K'.stays _ _ q; rw [ne] at this; cases this
    · rw [(K'.frames.mem hm).1] at q; cases q
  have sH : ∀ b o, H.get? b = some o → b ∉ outer.filterMap (·.frame) → (hideAll s'.heap (e :: (envOf name scope L a cd :: outer).filterMap (·.frame))).get? b = some o := fun b o q nm =>
    hideAll_get _ (S _ _ (F.keep _ _ (HS _ _ q))) fun hm => by
      rcases List.mem_cons.mp hm with rfl | hm
      · have := F.keep _ _ (HS _ _ q); rw [ne] at this; cases this
      · rcases kts_mem hm with z | z
        · subst z; have := HS _ _ q; rw [kts_self F] at this; cases this
        · exact nm z
  have dB : (hideAll s'.heap (e :: (envOf name scope L a cd :: outer).filterMap (·.frame))).get? d = some (dictOf [⟨hs, .str (Str.ofString "told") t1, .bytes bs t2⟩] k) := hideAll_get _ hd fun hm => by
    rcases List.mem_cons.mp hm with z | hm
    · subst z; rw [he] at hd; cases hd
    · obtain ⟨o, ho⟩ := hfrm _ hm; rw [nd] at ho; cases ho
  refine wpAny_leaving_firstW (base := hideAll s'.heap (e :: (envOf name scope L a cd :: outer).filterMap (·.frame))) K'.stack FF' rfl he (fun b o q => of_hideAll _ q) eB rfl rfl rfl fun h' hL dk => ?_
  obtain ⟨k1, ⟨_, _, k2⟩, k3, k4⟩ := hL
  obtain ⟨oe, hoe, hde⟩ := dk _ _ he
  refine hQ h' ⟨fun b o q hn => k4 b o (S _ _ (F.keep _ _ (HS _ _ q))) hn, _, d, _, hs, t1, t2, k, st, sH, ⟨k1, eB, k2, k3⟩, dB, oe, hoe, hde⟩
theorem fly_on (K : Below A base outer g) (F : Fr g L h m) (HS : H.StaysIn g) (R : Fly base (envOf name scope L a cd :: outer) e bs h s'.heap)
    (hQ : ∀ h', Fly base outer e bs H h' → Q () { s' with heap := h' }) :
    wpAny M (A.deeper (envOf name scope L a cd)) (leaving (envOf name scope L a cd) (.ref e)) Q E s' := by
  obtain ⟨up, B, d, a0, hs, t1, t2, k, st, sH, hfl, dB, oe, hoe, hde⟩ := R
  refine DQ.any (dq_leaving _ _) ?_
  refine wpAny_leaves_onW (Around.frames_deeper K.stack) rfl hfl fun h' x1 x2 dk => ?_
  obtain ⟨oe', hoe', hde'⟩ := dk _ _ hoe
  have HH : H.StaysIn h := fun b o q => F.keep _ _ (HS _ _ q)
  refine hQ h' ⟨((Heap.UpToSlots.of_keeps HH).trans up).trans x2, B, d, a0, hs, t1, t2, k, st, fun b o q nm => sH b o (HH _ _ q) fun hm => ?_, x1, dB, oe', hoe', hde'.trans hde⟩
  rcases kts_mem hm with z | z
  · subst z; have := HS _ _ q; rw [kts_self F] at this; cases this
  · exact nm z
end
theorem PsPost.ref {b : Value} {h h' : Heap} {r : Value} (P : PsPost b h h' r) : ∃ e, r = .ref e ∧ PsPost b h h' (.ref e) := by
  obtain ⟨e, d, n, hs, t1, k, rfl, x⟩ := P
  exact ⟨e, rfl, e, d, n, hs, t1, k, rfl, x⟩
structure RaiseP (v : Value) (s₁ : Shared) (E : Value → Shared → Prop) : Prop where
  out : ∃ e d n, v = .ref e ∧ s₁.heap.get? 52 = some psC ∧ s₁.heap.get? e = some { cls := .ref 52, dict := some d, data := .fields #[.ref n, .none, .none, .none, .bool false, .none] } ∧ E (.ref e) s₁
theorem raise_psP {M : Model} {A : Around} {E : Value → Shared → Prop} {env : Env} {s : Shared} {x : Str} {np cpos pos : Pos} {args : List Expr} {Q : Flow → Shared → Prop} (hh : A.handled = none)
    (h : wpAny M A (eval (.Call (.Name x np) args [] cpos) env) (fun v s₁ => RaiseP v s₁ E) E s) :
    wpAny M A (exec (.Raise (some (.Call (.Name x np) args [] cpos)) none pos) env) Q E s :=
  raise_ps hh (wpAny_mono h (fun _ _ z => z.out) fun _ _ z => z)
theorem ps_ex {b : Value} {h hs : Heap} {g : Heap} {L : Addr} {m : Str → Option Value} {e : Addr} {gs : Array GenState} {dr : Drawn} {tk : Nat} {os : OsState} {E : Value → Shared → Prop} {w : World} (P : PsPost b h hs (.ref e)) (F : Fr g L hs m) (X : (hd.heap_39 w.params).In g) (hE : E (.ref e) ⟨hs, gs, dr, tk, os⟩) :
    RaiseP (.ref e) ⟨hs, gs, dr, tk, os⟩ E := by
  obtain ⟨e', d, n, hs, t1, k, hr, ne, nd, he, hd⟩ := P
  cases hr
  exact ⟨e, d, n, rfl, F.keep _ _ (X _ _ (psCls w.params)), he, hE⟩
theorem exc_end {base : Heap} {l : List Env} {s : Shared} {Exc : Array UInt8 → Prop} {E : Value → Shared → Prop} {e : Addr} {h' : Heap} {tk' : Nat} {bs : Array UInt8} {P : Prop} (hexc : ExcK base l s Exc E) (FL : Fly base l e bs s.heap h')
    (hP : E (.ref e) { s with heap := h', toks := tk' } → P) (hx : Due (Exc bs)) : P := hP (hexc.out e h' tk' bs hx.out FL)
section
variable {M : Model} {A : Around} {E E2 : Value → Shared → Prop} {s s' : Shared} {base g h : Heap} {outer : List Env} {L a e d : Addr} {m : Str → Option Value} {name : Str} {scope : Scope} {cd : Value} {Q : Unit → Shared → Prop} {bs : Array UInt8} {Exc : Array UInt8 → Prop}
theorem ro_raise {t2 : Tok} (hexc : ExcK base outer s Exc E2) (K : Below A base outer g) (P : PsPost (.bytes bs t2) h s'.heap (.ref e)) (F : Fr g L h m) (HS : s.heap.StaysIn g) (S : h.StaysIn s'.heap)
    (hs : s' = { s with heap := s'.heap, toks := s'.toks }) (hk : scope.kind = .function) (hE : ∀ s'', E2 (.ref e) s'' → Q () s'') (hx : Due (Exc bs)) :
    wpAny M (A.deeper (envOf name scope L a cd)) (leaving (envOf name scope L a cd) (.ref e)) Q E s' :=
  fly_new K F HS S P (fun h' FL => hE _ (by rw [hs]; exact hexc.out e h' s'.toks bs hx.out FL)) hk
theorem ro_pass (hexc : ExcK base outer s Exc E2) (K : Below A base outer g) (R : Fly base (envOf name scope L a cd :: outer) e bs h s'.heap) (F : Fr g L h m) (HS : s.heap.StaysIn g)
    (hs : s' = { s with heap := s'.heap, toks := s'.toks }) (hE : ∀ s'', E2 (.ref e) s'' → Q () s'') (hx : Due (Exc bs)) :
    wpAny M (A.deeper (envOf name scope L a cd)) (leaving (envOf name scope L a cd) (.ref e)) Q E s' :=
  fly_on K F HS R fun h' FL => hE _ (by rw [hs]; exact hexc.out e h' s'.toks bs hx.out FL)
end
end Mine
end
section
namespace Mine
open PySem.Spec PySem.Calls PySem.Builtin PySem.Builtin.ObjectAttr
section
variable {prog : Program} {w : World} {A : Around} {E : Value → Shared → Prop} {h : Heap} {g : Array GenState} {dr : Drawn} {t : Nat} {os : OsState} {e d : Addr} {oe : Obj} {hs : Int} {t1 : Tok} {v : Value} {k : Nat} {expr : Bool} {Q : Value → Shared → Prop}
theorem get_told (X : (hd.heap_39 w.params).In h) (he : h.get? e = some oe) (hc : oe.cls = .ref 52) (hn : notCls oe = true) (hdi : oe.dict = some d) (hdd : h.get? d = some (dictOf [⟨hs, .str (Str.ofString "told") t1, v⟩] k)) (hv : handedIn v = true)
    (hq : Q v ⟨h, g, dr, t + 1, os⟩) : wpAny (model prog w) A (getAttr (.ref e) "told" expr) Q E ⟨h, g, dr, t, os⟩ := by
  have I : InstAt h e oe 52 (some (dictOf [⟨hs, .str (Str.ofString "told") t1, v⟩] k)) := ⟨he, hc, hn, by rw [hdi]; exact hdd⟩
  have hf : findObj (hd.heap_39 w.params) 52 (some (dictOf [⟨hs, .str (Str.ofString "told") t1, v⟩] k)) "told" = some (.value v) :=
    findObj_own (attr := none) (by kernel_rfl) (by kernel_rfl) (by kernel_rfl) (by rfl)
  have L0 := I.type (M := model prog w)
  have L1 : Looks (model prog w) h (typeLookup (.ref 52) "__getattribute__") (some (.builtin "BaseException.__getattribute__")) := looks_findIn X (by kernel_rfl)
  have L2 : Looks (model prog w) h (typeLookup (.ref 52) "__getattr__") none := looks_findIn X (by kernel_rfl)
  have L3 := looks_find (M := model prog w) X I hf
  have L4 : Looks (model prog w) h (isInstance (.ref e) (.type "BaseException")) true := I.type.andThen (looks_mroIn X (by kernel_rfl))
  have f3 := PySem.F.excBase_Exception
  have F0 := PySem.F.attr_Exception
  have b0 := F0.ga.bind
  have p0 := F0.ga.plain
  have hx0 : (expr && onTheHeap (Value.builtin "BaseException.__getattribute__")) = false := by cases expr <;> rfl
  have hx2 : (Value.builtin "BaseException.__getattribute__" == Value.builtin "object.__getattribute__") = false := by decide +kernel
  have hk : builtinKind "BaseException.__getattribute__" = some .slot := by decide +kernel
  have hsplit : splitId "BaseException.__getattribute__" = some ("BaseException", "__getattribute__") := by decide +kernel
  unfold getAttr getAttrBy
  refine wpAny_bind (wpAny_mkText (wpAny_holding (wpAny_bind (L0.at (wpAny_bind (L1.at ?_))))))
  dsimp only
  rw [hx2, Bool.and_false, if_neg Bool.false_ne_true]
  unfold getAttrByItsOwn
  refine wpAny_bind ?_
  show wpAny _ _ (typeLookup (.ref 52) "__getattr__") _ _ _
  refine L2.at ?_
  refine wpAny_bind (wpAny_attempt (wpAny_holding ?_))
  unfold callGetattribute
  rw [hx0, if_neg Bool.false_ne_true]
  unfold boundAndCalled
  refine wpAny_bind (wpAny_of_eq (b0 (.ref e)) ?_)
  dsimp only
  refine wpAny_call (codeAny_call_builtin p0 PySem.F.entry_bexc_ga ?_)
  simp only [checkBuiltinCall, hk, hsplit]
  refine wpAny_bind (L4.at ?_)
  have ha := PySem.F.args_bexc_ga (.ref e) (.str (Str.ofString "told") t)
  refine bm_if_false rfl ?_
  refine wpAny_of_eq ha ?_
  unfold Builtin.«object.__getattribute__»
  refine wpAny_bind (wpAny_of_eq (a := (.ref e, [.str (Str.ofString "told") t])) rfl ?_)
  dsimp only
  refine wpAny_bind (wpAny_of_eq (a := Str.ofString "told") rfl ?_)
  refine wpAny_bind (L0.at (wpAny_bind (L3.at ?_)))
  refine wpAny_pure ?_
  show wpAny _ _ (handedOut v) _ _ _
  rw [handedOut_of hv]; exact wpAny_pure hq
end
end Mine
end
section
namespace Mine
open PySem.Spec PySem.Calls
noncomputable abbrev frsOf (l : List Env) : List Addr := l.filterMap (·.frame)
noncomputable def Off (G : Heap) (l : List Addr) : Prop := ∀ b ∈ l, G.get? b = none
theorem off_cons {G g h : Heap} {L : Addr} {m : Str → Option Value} {env : Env} {l : List Env} (F : Fr g L h m) (S : G.StaysIn g) (O : Off G (frsOf l)) (hf : env.frame = some L) : Off G (frsOf (env :: l)) := fun b hb => by
  obtain ⟨e, he, hq⟩ := List.mem_filterMap.mp hb
  rcases List.mem_cons.mp he with rfl | he
  · rw [hf] at hq
    obtain rfl := Option.some.inj hq
    exact kts_none S (kts_self F)
  · exact O b (List.mem_filterMap.mpr ⟨e, he, hq⟩)
theorem off_turn {G g g' : Heap} {fs : List Addr} (S : G.StaysIn g) (O : Off G fs) (T : KtsTurn fs g g') : G.StaysIn g' := fun b o e => T.other b o (S b o e) fun hm => by
  rw [O b hm] at e; cases e
noncomputable def KeepF (fs : List Addr) (h h' : Heap) : Prop := ∀ b o, h.get? b = some o → b ∉ fs → h'.get? b = some o
theorem news_turn {g g' h h' : Heap} {L : Addr} {news : Led} {fs : List Addr} {m : Str → Option Value} (F : Fr g L h m) (N : News g L h news) (T : KtsTurn fs g g') (K : KeepF (L :: fs) h h') (hfs : ∀ b ∈ fs, ∃ o, g.get? b = some o) : News g' L h' news := fun p hp => by
  obtain ⟨h1, h2, h3⟩ := N p hp
  refine ⟨K _ _ h1 fun hm => ?_, h2, T.none_ _ h3⟩
  rcases List.mem_cons.mp hm with q | hm
  · exact h2 q
  · obtain ⟨o, ho⟩ := hfs _ hm
    rw [h3] at ho; cases ho
theorem frs_in {A : Around} {base h₀ : Heap} {outer : List Env} (B : Below A base outer h₀) : ∀ b ∈ frsOf outer, ∃ o, h₀.get? b = some o := fun b hb => by
  obtain ⟨_, o, ho, _⟩ := B.frames.mem hb
  exact ⟨o, ho⟩
noncomputable abbrev TopH (mean : ExcName → Option Value) (mg mb : Str → Option Value) (h : Heap) : Prop :=
  Top hd.view_39 (looseW hd.view_39 [Str.ofString "PostError", Str.ofString "THING_TYPES", Str.ofString "Thing", Str.ofString "name"]) mean mg mb h
structure RetT (w : World) (A₀ : Around) (base : Heap) (outer : List Env) (mean : ExcName → Option Value) (mg mb : Str → Option Value) (h₀ : Heap) (L : Addr) (m : Str → Option Value) (s : Shared) (mu : Led) (Post : Heap → Heap → Value → Led → Prop) (Q : Value → Shared → Prop) : Prop where
  out : ∀ r h' tk' g' mu', KtsTurn (frsOf outer) h₀ g' → Fr g' L h' m → Below A₀ base outer g' → (hd.heap_39 w.params).In g' → TopH mean mg mb g' → News g' L h' mu' → mu'.map (·.1) = mu.map (·.1) →
    KeepF (mu.map (·.1) ++ L :: frsOf outer) s.heap h' → Post s.heap h' r mu' → Q r { s with heap := h', toks := tk' }
noncomputable def RT (k : Nat) (w : World) (f : Addr) (vs : List Value) (G : Heap) (mu : Led) (Post : Heap → Heap → Value → Led → Prop) : Prop :=
  ∀ (dp un : Nat) (gd : Option (List Code)) (cn : Str) (cs : Scope) (a : Addr) (ccd : Value) (cl : List (Str × Addr)) (outer : List Env) (A₀ : Around) (base h₀ : Heap) (L : Addr) (m mg mb : Str → Option Value) (mean : ExcName → Option Value) (s : Shared)
    (Q E : Value → Shared → Prop),
    Below A₀ base outer h₀ → Fr h₀ L s.heap m → (hd.heap_39 w.params).In h₀ → TopH mean mg mb h₀ → (hd.heap_39 w.params).In base → TopH mean mg mb base → News h₀ L s.heap mu →
    Off G (mu.map (·.1)) → Off G (frsOf (envX cn cs L a ccd cl :: outer)) → cs.kind = .function → dp + k < recursionLimit → un + 8 * k < cLine → G.StaysIn s.heap →
    RetT w A₀ base outer mean mg mb h₀ L m s mu Post Q →
    wpAny (model PySem.Challenge.rw_on0261_01.row.prog w) (ktrTop dp un gd cn cs L a ccd cl outer) (call (.ref f) vs) Q E s
noncomputable def LeaveT (fs : List Addr) (A₀ : Around) (base : Heap) (outer : List Env) (w : World) (mean : ExcName → Option Value) (mg mb : Str → Option Value) (h₀ : Heap) (L : Addr) (m : Str → Option Value) (sh : Heap) (mu : Led) (g : Heap) (R : Result → Shared → Prop) (v : Value) (s' : Shared) : Prop :=
  ∃ g' L' m' mu', KtsTurn fs g g' ∧ Fr g' L' s'.heap m' ∧ News g' L' s'.heap mu' ∧ mu'.map (·.1) = mu.map (·.1) ∧
    ∀ h₀', KtsTurn (frsOf outer) h₀ h₀' → Fr h₀' L s'.heap m → Below A₀ base outer h₀' → (hd.heap_39 w.params).In h₀' → TopH mean mg mb h₀' → News h₀' L s'.heap mu' → KeepF (mu.map (·.1) ++ L :: frsOf outer) sh s'.heap → R (.ok (.ret v)) s'
theorem enterT {prog : Program} {w : World} {A₀ A : Around} {s : Shared} {base h₀ : Heap} {outer : List Env} {L : Addr} {m : Str → Option Value} {env : Env} {mu : Led}
    {mean : ExcName → Option Value} {mg mb : Str → Option Value}
    {R : Result → Shared → Prop} {name qual : Str} {params : Arguments} {body : List Stmt} {scope : Scope} {dV kV doc pm cdv ct oc : Value} {an od : Option Addr} {osl : Array (Option Value)} {f : Addr} {args : Args} (binds : List (Str × Value))
    (B : Below A₀ base outer h₀) (F : Fr h₀ L s.heap m) (X : (hd.heap_39 w.params).In h₀) (T : TopH mean mg mb h₀) (XB : (hd.heap_39 w.params).In base) (TB : TopH mean mg mb base) (N : News h₀ L s.heap mu)
    (hA : A.frames = some (env :: outer)) (hf : env.frame = some L) (hke : env.scope.kind = .function)
    (ho : (hd.heap_39 w.params).lookup f = some ⟨oc, od, .func (fnOf name qual params body scope dV kV doc pm an cdv ct), osl⟩) (hcd : codeIn (hd.heap_39 w.params) cdv qual = true) (hroom : A.depth < recursionLimit)
    (hbind : BindsTo s (fnOf name qual params body scope dV kV doc pm an cdv ct) args binds) (hloc : (binds.all fun y => decide (scope.names.lookup y.1 = some .local)) = true)
    (hcell : ∀ x ∈ scope.names, x.2 ≠ .cell) (hco : scope.isCoroutine = false) (hgen : scope.isGenerator = false) (hk : scope.kind = .function)
    (h : ∀ g L' h₁, Fr h₀ L g m → Keep (mu.map (·.1)) s.heap g → Fr g L' h₁ (fun y => binds.reverse.lookup y) → News g L' h₁ mu → Below A base (env :: outer) g → (hd.heap_39 w.params).In g → TopH mean mg mb g → s.heap.objs.size ≤ L' →
      wpAny (model prog w) (A.deeper (envOf qual scope L' f cdv)) (execs body (envOf qual scope L' f cdv))
        (fun fl s' => LeaveT (frsOf (env :: outer)) A₀ base outer w mean mg mb h₀ L m s.heap mu g R (match fl with | .ret v => v | _ => .none) s')
        (fun e s' => wpAny (model prog w) (A.deeper (envOf qual scope L' f cdv)) (leaving (envOf qual scope L' f cdv) e) (fun _ s'' => R (.error e) s'') (fun e' s'' => R (.error e') s'') s')
        { s with heap := h₁, toks := s.toks + binds.length }) :
    codeAny (model prog w) A (.call (.ref f) args) R s := by
  obtain ⟨FG, BG, st, _⟩ := groundX (R := R) B F N hA hf hke
  refine codeAny_call_def (fd := fnOf name qual params body scope dV kV doc pm an cdv ct) (body := body) (binds := binds) hroom ((X.keeps F.keep) _ _ ho) rfl (T.nolimit.keeps F.keep) (codeRec_of (X.keeps F.keep) hcd) rfl hbind hcell (locs hloc) (fun h₁ hns hk₁ => ?_) hco hgen hk
  have hkeep : Keep (mu.map (·.1)) s.heap (hideAll s.heap (mu.map (·.1))) := fun b o e q => hideAll_get _ e q
  refine wpAny_mono (h _ s.heap.objs.size h₁ FG hkeep ⟨hns, fun b o e => hk₁ b o (of_hideAll _ e), Nat.le_of_eq (hideAll_size _ _)⟩ ?_ BG (X.keeps st) (T.keeps st) (Nat.le_refl _)) (fun fl s' hl => ?_) fun _ _ y => y
  · exact fun p hp => ⟨hk₁ _ _ (N p hp).1, Nat.ne_of_lt (Heap.lt_size (N p hp).1), hideAll_none _ (List.mem_map_of_mem hp)⟩
  obtain ⟨g', L', m', mu', T', F', N', hmu, k⟩ := hl
  obtain ⟨oL, es, ep, hL, hLd, hLk, hLf⟩ := FG.ns
  obtain ⟨sl, hs⟩ := T'.up hL
  have nL₀ : h₀.get? L = none := kts_self F
  have mem : ∀ b, b ∈ frsOf (env :: outer) → b = L ∨ b ∈ frsOf outer := fun b hb => by
    obtain ⟨e, he, hq⟩ := List.mem_filterMap.mp hb
    rcases List.mem_cons.mp he with rfl | he
    · rw [hf] at hq; exact .inl (Option.some.inj hq).symm
    · exact .inr (List.mem_filterMap.mpr ⟨e, he, hq⟩)
  obtain ⟨T₁, S₁⟩ := kts_turn_at (h := s'.heap) (fs := frsOf outer) (g := h₀) (frs_in B)
    (fun b o e nmem => F'.keep b o (T'.other b o (st b o e) (fun q => by
      rcases mem b q with z | z
      · rw [z, nL₀] at e; cases e
      · exact nmem z)))
    (fun b o e hm => by
      obtain ⟨sl', hs'⟩ := T'.up (st b o e)
      exact ⟨sl', F'.keep _ _ hs'⟩)
  have B₃ : Below A₀ base outer (ktsHeap s'.heap (frsOf outer) h₀) := ⟨B.stack, fun b o e => T₁.other b o (B.stays b o e) (fun hm => by
    rw [(B.frames.mem hm).1] at e
    cases e), B.frames.of_keeps fun b o e _ => by
    obtain ⟨sl', hs'⟩ := T₁.up e
    exact ⟨_, hs', rfl⟩⟩
  refine k _ T₁ ⟨⟨_, es, ep, F'.keep _ _ hs, hLd, hLk, hLf⟩, S₁, by rw [T₁.size]; exact F.above⟩ B₃ (XB.keeps B₃.stays) (TB.keeps B₃.stays) (fun p hp => ⟨(N' p hp).1, fun q => ?_, ?_⟩) fun b o e hn => ?_
  · have := (N' p hp).2.2; rw [q, hs] at this; cases this
  · refine T₁.none_ _ ?_
    cases q : h₀.get? p.1 with
    | none => rfl
    | some o =>
      obtain ⟨sl', hs'⟩ := T'.up (st _ _ q)
      have := (N' p hp).2.2
      rw [hs'] at this
      cases this
  · refine F'.keep _ _ (T'.other _ _ (hkeep _ _ e fun q => hn (List.mem_append_left _ q)) fun q => hn (List.mem_append_right _ ?_))
    rcases mem b q with z | z
    · rw [z]; exact .head _
    · exact .tail _ z
structure ToldAt (h : Heap) (e : Addr) (bs : Array UInt8) : Prop where
  out : ∃ oe d hs t1 t2 n, h.get? e = some oe ∧ oe.cls = .ref 52 ∧ notCls oe = true ∧ oe.dict = some d ∧ h.get? d = some (dictOf [⟨hs, .str (Str.ofString "told") t1, .bytes bs t2⟩] n)
theorem told_ln {w : World} {g h : Heap} {L : Addr} {m : Str → Option Value} {e : Addr} {bs : Array UInt8} {gs : Array GenState} {dr : Drawn} {t : Nat} {os : OsState} {prog : Program} {A : Around} {E : Value → Shared → Prop} {expr : Bool} {Q : Value → Shared → Prop}
    (F : Fr g L h m) (X : (hd.heap_39 w.params).In g) (Z : ToldAt h e bs) (hq : ∀ t2, Q (.bytes bs t2) ⟨h, gs, dr, t + 1, os⟩) : wpAny (model prog w) A (getAttr (.ref e) "told" expr) Q E ⟨h, gs, dr, t, os⟩ := by
  obtain ⟨oe, d, hs, t1, t2, n, h1, h2, h3, h4, h5⟩ := Z.out
  exact get_told (X.keeps F.keep) h1 h2 h3 h4 h5 rfl (hq t2)
end Mine
end
section
namespace Mine
open PySem.Spec PySem.Calls
theorem caught_PS {prog : Program} {w : World} {A₀ : Around} {E : Value → Shared → Prop} {s' : Shared} {base g G : Heap} {outer : List Env} {L a e : Addr} {m : Str → Option Value} {name : Str} {scope : Scope} {cd : Value} {bs : Array UInt8}
    {n : Str} {b₀ : Stmt} {suite : List Stmt} {pos np : Pos} {rest : List ExceptHandler} {Q : Flow → Shared → Prop} {mean : ExcName → Option Value} {mg mb : Str → Option Value}
    (R : Fly base (envOf name scope L a cd :: outer) e bs G s'.heap) (F : Fr g L G m) (K : Below A₀ base outer g) (XB : (hd.heap_39 w.params).In base) (TB : TopH mean mg mb base)
    (k : ∀ h' g' tk, KtsTurn (frsOf outer) g g' → Fr g' L h' (fun y => if y = n then some (.ref e) else m y) → Below A₀ base outer g' → (hd.heap_39 w.params).In g' → TopH mean mg mb g' → KeepF (L :: frsOf outer) G h' → ToldAt h' e bs →
      wpAny (model prog w) ((A₀.deeper (envOf name scope L a cd)).mark (some (.ref e))) (execs (b₀ :: suite) (envOf name scope L a cd))
        (fun f s₄ => wpAny (model prog w) (A₀.deeper (envOf name scope L a cd)) (do bindName (envOf name scope L a cd) n .none; unbindBehindTheSuite (envOf name scope L a cd) n pos) (fun _ s₅ => Q f s₅) E s₄)
        (AsSuiteRaised (model prog w) ((A₀.deeper (envOf name scope L a cd)).mark (some (.ref e))) (envOf name scope L a cd) n pos (notedBy (model prog w) ((A₀.deeper (envOf name scope L a cd)).mark (some (.ref e))) (envOf name scope L a cd) (cameBackBy (model prog w) (A₀.deeper (envOf name scope L a cd)) (envOf name scope L a cd) E)))
        { s' with heap := h', toks := tk })
    (hk : scope.kind = .function := by rfl) (hlo : (envOf name scope L a cd).kindOf n = some .local := by rfl) (hx : (envOf name scope L a cd).kindOf "PsError" = some .globalImplicit := by rfl) :
    wpAny (model prog w) (A₀.deeper (envOf name scope L a cd)) (noteFrame (.ref e) (envOf name scope L a cd))
      (fun _ s₂ => wpAny (model prog w) (A₀.deeper (envOf name scope L a cd)) (setFlight (.ref e) none) (fun _ s₃ =>
        wpAny (model prog w) (A₀.deeper (envOf name scope L a cd)) (handleBy (.ref e) (envOf name scope L a cd) (.ExceptHandler (some (.Name "PsError" np)) (some n) (b₀ :: suite) pos :: rest)) Q E s₃) E s₂) E s' := by
  obtain ⟨up, B, d, a0, hs, t1, t2, kk, st, sH, hfl, dB, oe0, hoe0, hde0⟩ := R
  have hsm : G.UpToSlots s'.heap := up
  have hL : B.get? L = none := by
    obtain ⟨_, ⟨L', _, hf, hn', _⟩, _⟩ := hfl.2.2.1
    obtain rfl : L = L' := Option.some.inj hf
    exact hn'
  refine DQ.any (dq_noteFrame _ _) (wpAny_looks_onW (Around.frames_deeper K.stack) rfl hfl fun h₄ hheld₄ hsm₄ dk4 => ?_)
  refine DQ.any (dq_setFlight _ _) (wpAny_landsW hheld₄ fun h₅ hheld hsm₅' dk5 => ?_)
  have hsm₅ := hsm₄.trans hsm₅'
  obtain ⟨g₅, T₅, F₅, K₅⟩ := kts_ground K F sH hheld.1 (hsm.trans hsm₅)
  have X₅ : (hd.heap_39 w.params).In g₅ := XB.keeps K₅.stays
  have P₅ := topRead_of (TB.keeps K₅.stays)
  obtain ⟨ob, hob, hobc⟩ := hheld.there
  have hC₅ := F₅.keep _ _ (X₅ _ _ (psCls w.params))
  refine wpAny_handleBy_cons (codeAny_handlers_test (name_K (v := .ref 52) F₅ X₅ P₅ (by kernel_rfl) ?_ hk hx (by decide))) (by intro q; cases q)
  refine wpAny_excMatches_sub_self hC₅ hob hobc (by decide) (codeAny_handlers_suite_as ?_)
  refine DQ.any (dq_setFlight _ _) (lands_againW hheld fun h₆ hfl₆ hsm₆ dk6 => ?_)
  obtain ⟨g₆, T₆, F₆, K₆⟩ := kts_ground K F sH hfl₆.1 ((hsm.trans hsm₅).trans hsm₆)
  obtain ⟨oe, ws, hoe, hoec, hoed, hoe0'⟩ := hfl₆.first
  have hde : oe.dict = some d := by
    obtain ⟨o4, e4, d4⟩ := dk4 _ _ hoe0
    obtain ⟨o5, e5, d5⟩ := dk5 _ _ e4
    obtain ⟨o6, e6, d6⟩ := dk6 _ _ e5
    rw [hoe] at e6
    cases e6
    exact d6.trans (d5.trans (d4.trans hde0))
  have X₆ : (hd.heap_39 w.params).In g₆ := XB.keeps K₆.stays
  have P₆ : TopH mean mg mb g₆ := TB.keeps K₆.stays
  have eL : e ≠ L := fun q => by
    obtain ⟨oL, es, ep, hoL, hLd, _⟩ := F₆.ns
    rw [q, hoL] at hoe
    cases hoe
    rw [hLd] at hoed
    cases hoed
  have dL : d ≠ L := fun q => by rw [q, hL] at dB; cases dB
  refine wpAny_storeName_local hlo F₆.ns (fun h₇ hn₇ hs₇ => ?_) (by show (scope.kind == .class || (scope.kind == .module && _)) = false; rw [hk]; rfl)
  refine k h₇ g₆ _ T₆ (F₆.set hn₇ hs₇) K₆ X₆ P₆ (fun b o q nm => ?_) ⟨oe, d, hs, t1, t2, kk, (hs₇.2 _ eL).trans hoe, hoec, ?_, hde, (hs₇.2 _ dL).trans (hfl₆.1 _ _ dB)⟩
  · refine (hs₇.2 _ fun z => nm (by rw [z]; exact .head _)).trans (hfl₆.1 _ _ (sH _ _ q fun hm => nm ?_))
    rcases kts_mem hm with z | z
    · rw [z]; exact .head _
    · exact .tail _ z
  · unfold notCls
    rw [hoed]
end Mine
end
section
namespace Mine
open PySem.Spec PySem.Calls
section
variable {prog : Program} {w : World} {A : Around} {C : Addr} {R : Result → Shared → Prop} {h : Heap} {g : Array GenState} {d : Drawn} {t : Nat} {os : OsState}
theorem make_coreC {rest : List Value} {kw : List (Str × Value)} {init : Value} (Y : Makes (model prog w) h C) (hi : Looks (model prog w) h (typeLookup (.ref C) "__init__") (some init))
    (hb : ∀ self, Looks (model prog w) h (bindSpecial init self) (init, [self])) (hne : (some init != some (Value.builtin "object.__init__")) = true ∨ (rest = [] ∧ kw = []))
    (hq : codeC (model prog w) (A.under (.builtin "type.__call__" ⟨.ref C :: rest, kw⟩)) (.call init ⟨.ref (h.objs.size + 1) :: rest, kw⟩) (InitBack (h.objs.size + 1) R) ⟨(h.push emptyDict).push (instObj C h.objs.size), g, d, t, os⟩) :
    codeC (model prog w) A (.call (.ref C) ⟨rest, kw⟩) R ⟨h, g, d, t, os⟩ := by
  have Y' := Y
  obtain ⟨⟨oc, od, cd, sl, hC, e1, e2, e4⟩, made, base, self, top, call, typ⟩ := Y
  refine codeC_of_tree (wpC_of_any ?_)
  show wpAny _ _ (callAny (.ref C) _) _ _ _
  refine nd_load hC ?_
  show wpAny _ _ (callAny.viaDunder (.ref C) _) _ _ _
  unfold callAny.viaDunder
  refine wpAny_bind (call.at ?_)
  dsimp only
  rw [tc_bind]
  refine wpAny_bind (wpAny_pure (wpAny_bind (wpAny_pure ?_)))
  refine wpAny_pure (a := Fin.again (.call (.builtin "type.__call__") ⟨.ref C :: rest, kw⟩)) (And.intro rfl ⟨rfl, ?_⟩)
  refine codeC_of_tree (wpC_of_any ?_)
  show wpAny _ A.in1 (do checkBuiltinCall "type.__call__" ⟨.ref C :: rest, kw⟩; again (.builtin "type.__call__" ⟨.ref C :: rest, kw⟩)) _ _ _
  refine wpAny_bind (check_slot tc_kind tc_split typ (tc_args _ _ _) (wpAny_pure ⟨Code.quiet_builtin _ (by decide +kernel), noHolder (by decide +kernel) _, codeC_builtin entry_typeCall ?_⟩))
  have hm : Looks (model prog w) h (mroOf (.ref C)) cd.mro := ((Looks.ld (part := none) hC).andThen .now).andThen .now
  have k : ∀ b o, h.get? b = some o → ((h.push emptyDict).push (instObj C h.objs.size)).get? b = some o := fun b o e => Heap.get?_push_of_some _ (Heap.get?_push_of_some _ e)
  have hx : ((h.push emptyDict).push (instObj C h.objs.size)).get? (h.objs.size + 1) = some (instObj C h.objs.size) := by heap_get
  have t1 : Looks (model prog w) ((h.push emptyDict).push (instObj C h.objs.size)) (typeOf (.ref (h.objs.size + 1))) (.ref C) := (Looks.ld hx).andThen .now
  have s1 := self.keeps k
  have i1 := hi.keeps k
  have b1 := (hb (.ref (h.objs.size + 1))).keeps k
  unfold Builtin.«type.__call__»
  dsimp only
  refine wpC_if_false rfl ?_
  refine wpC_bind (wpC_of_any (hm.at ?_))
  refine wpC_if_false e4 ?_
  refine wpC_bind (wpC_of_any (made.at ?_))
  dsimp only
  refine wpC_bind (wpC_of_any (wpAny_pure ?_))
  refine wpC_bind (wpC_holding (wpC_of_any (wpAny_call (new_K Y' hi hne ?_))))
  dsimp only
  have ti : Looks (model prog w) ((h.push emptyDict).push (instObj C h.objs.size)) (isInstance (.ref (h.objs.size + 1)) (.ref C)) true := t1.andThen s1
  refine wpC_bind (wpC_of_any (ti.at ?_))
  refine wpC_if_false rfl ?_
  refine wpC_bind (wpC_holding ?_)
  unfold callSpecial?
  have si : Looks (model prog w) ((h.push emptyDict).push (instObj C h.objs.size)) (specialOf (.ref (h.objs.size + 1)) "__init__") (some init) := t1.andThen i1
  refine wpC_bind (wpC_of_any (si.at ?_))
  dsimp only
  refine wpC_holding ?_
  refine wpC_bind (wpC_of_any (b1.at ?_))
  dsimp only
  refine wpC_bind (wpC_call (codeC_mono hq fun r s' z => ?_))
  rcases r with e | (v | _ | _ | _) <;> first | exact z | exact z.elim | skip
  obtain ⟨rfl, z⟩ := z
  exact wpC_pure (wpC_if_false rfl (wpC_pure z))
end
section
variable {M : Model} {A : Around} {E : Value → Shared → Prop} {s : Shared} {env : Env} {pos : Pos}
theorem spliced_consC {x : Sem Value} {rest : List (Bool × Sem Value)} {Q : List Value → Shared → Prop}
    (h : wpC M A x (fun v s₁ => wpC M A (spliced rest) (fun vs s₂ => Q (v :: vs) s₂) E s₁) E s) : wpC M A (spliced ((false, x) :: rest)) Q E s := by
  rw [spliced]
  refine wpC_bind (wpC_mono h (fun v s₁ h₁ => ?_) fun _ _ x => x)
  simp only [Bool.false_eq_true, if_false]
  exact wpC_bind (wpC_pure (wpC_bind (wpC_holding (wpC_mono h₁ (fun vs s₂ h₂ => wpC_pure h₂) fun _ _ x => x))))
theorem spliced_moreC {e : PySem.Expr} {rest : List PySem.Expr} {Q : List Value → Shared → Prop}
    (h : wpC M A (eval e env) (fun v s₁ => wpC M A (spliced (backTo pos (starEach rest env))) (fun vs s₂ => Q (v :: vs) s₂) E s₁) E s)
    (he : starEach (e :: rest) env = (false, eval e env) :: starEach rest env := by rfl) : wpC M A (spliced (backTo pos (starEach (e :: rest) env))) Q E s := by
  rw [he]; exact spliced_consC h
theorem evalArgs_plainC {f : Value} {x : Sem Value} {rest : List (Bool × Sem Value)} {Q : Args → Shared → Prop}
    (h : wpC M A (spliced ((false, x) :: rest)) (fun vs s' => Q ⟨vs, []⟩ s') E s) : wpC M A (evalArgs f true ((false, x) :: rest) []) Q E s := by
  unfold evalArgs
  show wpC M A (spliced ((false, x) :: rest) >>= _) Q E s
  refine wpC_bind (wpC_mono h (fun vs s' h' => ?_) fun _ _ x => x)
  refine wpC_holding ?_
  exact wpC_bind (wpC_pure (wpC_bind (wpC_pure (wpC_pure h'))))
theorem wpC_keep {α : Type} {vs : List Value} {m : Sem α} {Q : α → Shared → Prop} (h : wpC M A m Q E s) : wpC M A (m.keep vs) Q E s :=
  fun Γ p hΓ hl => by rw [Sem.wp_keep]; exact h Γ p hΓ hl
theorem callWith_ofC {f : Value} {first : List Value} {P : Heap → Prop} {args : List (Bool × Sem Value)} {keywords : List (Option Str × Sem Value)} {Q : Value → Shared → Prop} (hplain : (args.any (·.1) || keywords.any (·.1.isNone)) = false)
    (hk : ∀ h, P h → ∃ k, (k = Keeper.frame ∨ k = Keeper.machine ∨ k = Keeper.boundFrame) ∧ Looks M h (keeperOf f) k)
    (h : wpC M A (evalArgs f true args keywords) (fun a s₁ => P s₁.heap ∧ wpC M A (call f (first ++ a.pos) a.kw) Q E s₁) E s) : wpC M A (callWith pos f first args keywords) Q E s := by
  unfold callWith
  refine wpC_bind (wpC_holding (wpC_mono h (fun a s₁ h₁ => wpC_bind (wpC_of_any (wpAny_standAt ?_))) fun _ _ x => x))
  obtain ⟨k, hk', L⟩ := hk _ h₁.1
  simp only [hplain]
  refine wpC_bind (wpC_of_any (L.here ?_))
  have tail : ∀ {t : Sem Value}, wpC M A t Q E s₁ → wpC M A (t >>= fun r => holding [r] point >>= fun _ => pure r) Q E s₁ :=
    fun ht => wpC_bind (wpC_mono ht (fun r s₂ hr => wpC_bind (wpC_of_any (wpAny_holding (wpAny_point (wpC_pure hr))))) fun _ _ x => x)
  have marked (mk : Value) : wpC M A (callMarked mk f (first ++ a.pos) a.kw) Q E s₁ := by unfold callMarked; exact wpC_keep h₁.2
  rcases hk' with rfl | rfl | rfl <;> dsimp only <;> first | exact tail h₁.2 | (split <;> first | exact tail h₁.2 | exact tail (marked _))
theorem callWith_KC {K : Frag} {f : Value} {first : List Value} {e : PySem.Expr} {rest : List PySem.Expr} {Q : Value → Shared → Prop} (hk : keepIn K f = true) (h : wpC M A (spliced (backTo pos (starEach (e :: rest) env))) (fun vs s₁ => K.In s₁.heap ∧ wpC M A (call f (first ++ vs)) Q E s₁) E s)
    (he : starEach (e :: rest) env = (false, eval e env) :: starEach rest env := by rfl) (hplain : (backTo pos (starEach rest env)).any (·.1) = false := by rfl) :
    wpC M A (callWith pos f first (backTo pos (starEach (e :: rest) env)) []) Q E s := by
  rw [he] at h ⊢
  exact callWith_ofC (by show ((false || (backTo pos (starEach rest env)).any (·.1)) || false) = false; rw [hplain]; rfl) (keeps_K hk) (evalArgs_plainC h)
theorem callWith_typeC {T : String} {e : PySem.Expr} {rest : List PySem.Expr} {Q : Value → Shared → Prop}
    (h : wpC M A (spliced (backTo pos (starEach (e :: rest) env))) (fun vs s₁ => wpC M A (call (.type T) vs) Q E s₁) E s)
    (he : starEach (e :: rest) env = (false, eval e env) :: starEach rest env := by rfl)
    (hplain : (backTo pos (starEach rest env)).any (·.1) = false := by rfl) :
    wpC M A (callWith pos (.type T) [] (backTo pos (starEach (e :: rest) env)) []) Q E s := by
  rw [he] at h ⊢
  exact callWith_ofC (P := fun _ => True) (by show ((false || (backTo pos (starEach rest env)).any (·.1)) || false) = false; rw [hplain]; rfl) (fun _ _ => ⟨.machine, .inr (.inl rfl), Looks.of_pure rfl⟩) (evalArgs_plainC (wpC_mono h (fun vs s₁ h₁ => ⟨True.intro, h₁⟩) fun _ _ x => x))
theorem Call_C {func : PySem.Expr} {args : List PySem.Expr} {Q : Value → Shared → Prop}
    (h : wpAny M A (eval func env) (fun f s₁ => wpC M A (callWith pos f [] (backTo pos (starEach args env)) []) Q E s₁) E s)
    (he : eval (.Call func args [] pos) env = (do callWith pos (← eval func env) [] (backTo pos (starEach args env)) (backToKw pos (keywordEach [] env))) := by rfl) :
    wpC M A (eval (.Call func args [] pos) env) Q E s := by
  rw [he]; exact wpC_bind (wpC_of_any h)
theorem List_C {elts : List PySem.Expr} {Q : Value → Shared → Prop}
    (h : wpC M A (spliced (backTo pos (starEach elts env)))
      (fun vs s₁ => vs.length ≤ sizeLine ∧ Q (.ref s₁.heap.objs.size) { s₁ with heap := s₁.heap.push { cls := .type "list", data := .seq vs.toArray } }) E s) : wpC M A (eval (.List elts pos) env) Q E s := by
  rw [arm_eval_List]
  exact wpC_bind (wpC_of_any (wpAny_standAt (wpC_bind (wpC_mono h (fun vs s₁ h₁ => wpC_of_any (wpAny_newObj_type h₁.2 (by show vs.toArray.size ≤ sizeLine; rw [List.size_toArray]; exact h₁.1))) fun _ _ x => x))))
theorem Assign_NameC {x pos' value} {Q : Flow → Shared → Prop}
    (h : wpC M A (eval value env) (fun v s₁ => wpAny M A (storeName env x v) (fun _ => Q .next) E s₁) E s)
    (hs : swapsWith value (some (.Name x pos')) pos.line env = pure false := by rfl) : wpC M A (exec (.Assign [.Name x pos'] value pos) env) Q E s := fun Γ p hΓ hl => by
  simp only [exec_Assign_Name env x pos' value pos hs, Sem.wp_bind', Sem.wp_cmd_standAt, Sem.wp_bindName, Sem.wp_pure']
  exact Sem.wp_mono M Γ _ (fun v _ s₁ h₁ => h₁ Γ _ hΓ) (fun _ _ _ h' => h') _ _ (h Γ _ hΓ hl)
theorem Assign_AttrC {o attr pos' value} {Q : Flow → Shared → Prop}
    (h : wpC M A (eval value env) (fun v s₁ => wpAny M A (eval o env) (fun ov s₂ => wpAny M A (setAttr ov attr v) (fun _ => Q .next) E s₂) E s₁) E s)
    (hs : swapsWith value (some (.Attribute o attr pos')) pos.line env = pure false := by rfl) : wpC M A (exec (.Assign [.Attribute o attr pos'] value pos) env) Q E s := fun Γ p hΓ hl => by
  simp only [plainObj_exec_Assign_Attribute o attr pos' value pos hs, assign_Attribute, Sem.wp_bind', Sem.wp_holding, Sem.wp_cmd_standAt, Sem.wp_release, Sem.wp_pure']
  exact Sem.wp_mono M Γ _ (fun v p₁ s₁ h₁ => Sem.wp_mono M Γ _ (fun ov _ s₂ h₂ => h₂ Γ _ hΓ) (fun _ _ _ h' => h') _ _ (h₁ Γ p₁ hΓ)) (fun _ _ _ h' => h') _ _ (h Γ _ hΓ hl)
end
theorem enterC {prog : Program} {w : World} {A₀ A : Around} {s : Shared} {base h₀ : Heap} {outer : List Env} {L : Addr} {m : Str → Option Value} {env : Env} {mu : Led} {K : Frag}
    {p : Program} {loose : List Str} {mean : ExcName → Option Value} {mg mb : Str → Option Value}
    {R : Result → Shared → Prop} {name qual : Str} {params : Arguments} {body : List Stmt} {scope : Scope} {dV kV doc pm cdv ct oc : Value} {an od : Option Addr} {osl : Array (Option Value)} {f : Addr} {args : Args} (binds : List (Str × Value))
    (B : Below A₀ base outer h₀) (F : Fr h₀ L s.heap m) (X : K.In h₀) (T : Top p loose mean mg mb h₀) (N : News h₀ L s.heap mu)
    (hA : A.frames = some (env :: outer)) (hf : env.frame = some L) (hke : env.scope.kind = .function)
    (ho : K.lookup f = some ⟨oc, od, .func (fnOf name qual params body scope dV kV doc pm an cdv ct), osl⟩) (hcd : codeIn K cdv qual = true) (hroom : A.depth < recursionLimit)
    (hbind : BindsTo s (fnOf name qual params body scope dV kV doc pm an cdv ct) args binds) (hloc : (binds.all fun y => decide (scope.names.lookup y.1 = some .local)) = true)
    (hcell : ∀ x ∈ scope.names, x.2 ≠ .cell) (hco : scope.isCoroutine = false) (hgen : scope.isGenerator = false) (hk : scope.kind = .function)
    (h : ∀ g L' h₁, Fr h₀ L g m → Keep (mu.map (·.1)) s.heap g → Fr g L' h₁ (fun y => binds.reverse.lookup y) → News g L' h₁ mu → Below A base (env :: outer) g → K.In g → Top p loose mean mg mb g → s.heap.objs.size ≤ L' →
      wpC (model prog w) (A.deeper (envOf qual scope L' f cdv)) (execs body (envOf qual scope L' f cdv))
        (fun fl s' => LeaveK h₀ L m g R (match fl with | .ret v => v | _ => .none) s')
        (fun e s' => wpAny (model prog w) (A.deeper (envOf qual scope L' f cdv)) (leaving (envOf qual scope L' f cdv) e) (fun _ s'' => R (.error e) s'') (fun e' s'' => R (.error e') s'') s')
        { s with heap := h₁, toks := s.toks + binds.length }) :
    codeC (model prog w) A (.call (.ref f) args) R s := by
  obtain ⟨FG, BG, st, lv⟩ := groundX (R := R) B F N hA hf hke
  refine codeC_call_def (fd := fnOf name qual params body scope dV kV doc pm an cdv ct) (body := body) (binds := binds) hroom ((X.keeps F.keep) _ _ ho) rfl (T.nolimit.keeps F.keep) (codeRec_of (X.keeps F.keep) hcd) rfl hbind hcell (locs hloc) (fun h₁ hns hk₁ => ?_) hco hgen hk
  refine wpC_mono (h _ s.heap.objs.size h₁ FG (fun b o e q => hideAll_get _ e q) ⟨hns, fun b o e => hk₁ b o (of_hideAll _ e), Nat.le_of_eq (hideAll_size _ _)⟩ ?_ BG (X.keeps st) (T.keeps st) (Nat.le_refl _)) (fun fl s' hl => lv _ _ hl) fun _ _ y => y
  exact fun p hp => ⟨hk₁ _ _ (N p hp).1, Nat.ne_of_lt (Heap.lt_size (N p hp).1), hideAll_none _ (List.mem_map_of_mem hp)⟩
theorem mk_ownC {prog : Program} {w : World} {A : Around} {s : Shared} {E Q : Value → Shared → Prop} {h₀ : Heap} {L C fI : Addr} {m : Str → Option Value} {K : Frag} {pos : List Value} {kw : List (Str × Value)}
    (F : Fr h₀ L s.heap m) (X₀ : K.In h₀) (hm : makesIn K C = true) (hi : findIn K (.ref C) "__init__" = some (some (.ref fI))) (hf : isFn K (.ref fI) = true)
    (h : ∀ x dx h', Fr h₀ L h' m → News h₀ L h' [(x, instObj C dx), (dx, dictOf [] 0)] → s.heap.StaysIn h' → s.heap.get? x = none → s.heap.get? dx = none → dx < x →
      codeC (model prog w) (A.under (.builtin "type.__call__" ⟨.ref C :: pos, kw⟩)) (.call (.ref fI) ⟨.ref x :: pos, kw⟩) (InitBack x fun r s' => match r with | .ok (.ret v) => Q v s' | .ok _ => False | .error e => E e s') { s with heap := h' }) :
    wpC (model prog w) A (call (.ref C) pos kw) Q E s := by
  have X := X₀.keeps F.keep
  refine wpC_call ?_
  obtain ⟨hh, g, d, t, os⟩ := s
  refine make_coreC (makes_of X hm) (looks_findIn X hi) (fun self => bind_fn X self (beq_iff_eq.mp hf)) (.inl rfl) (h _ hh.objs.size _ ((F.push _).push _) ?_ (fun b o e => Heap.get?_push_of_some _ (Heap.get?_push_of_some _ e)) (Heap.get?_none_of_le (Nat.le_succ _)) (Heap.get?_none_of_le (Nat.le_refl _)) (Nat.lt_succ_self _))
  have := (News.push F (News.nil) emptyDict).push (F.push _) (instObj C hh.objs.size)
  rwa [Heap.size_push] at this
theorem cutC1 {M : Model} {A : Around} {E : Value → Shared → Prop} {s : Shared} {env : Env} {a : Stmt} {rest : List Stmt} {Q : Flow → Shared → Prop} (P : Shared → Prop)
    (h1 : wpC M A (exec a env) (fun f s' => Due (f = .next ∧ P s')) E s) (h2 : ∀ s', P s' → wpC M A (execs rest env) Q E s') : wpC M A (execs (a :: rest) env) Q E s :=
  wpC_execs_cons (wpC_mono h1 (fun f s' h => by obtain ⟨rfl, hp⟩ := h.out; exact h2 _ hp) fun _ _ h => h)
end Mine
end
section
namespace Mine
open PySem.Spec PySem.Calls PySem.Builtin
namespace BI
theorem owner_bai : Manifest.owners.lookup (String.ofList ['b', 'y', 't', 'e', 'a', 'r', 'r', 'a', 'y', '_', 'i', 't', 'e', 'r', 'a', 't', 'o', 'r']) = some Manifest.sig_bytearray_iterator := by kernel_rfl
theorem slot_iter : Slot "bytearray" "__iter__" "bytearray.__iter__" :=
  .of (owner := "bytearray") (n := "__iter__") (by rw [typeLookup_type, builtinLookup_eq_fast]; kernel_rfl) (by decide +kernel) (by decide +kernel) (by decide +kernel)
    (by first | exact .inl (by decide +kernel) | exact .inr (by decide +kernel)) (by rw [isSubtype_type]; kernel_rfl)
theorem entry_iter : entryFor table "bytearray.__iter__" = some Builtin.«bytearray.__iter__» := entryFor_of_tree (by kernel_rfl)
theorem args_iter (a : Value) : argsOk "bytearray.__iter__" ⟨[a], []⟩ := by unfold argsOk; kernel_rfl
theorem slot_next : Slot "bytearray_iterator" "__next__" "bytearray_iterator.__next__" :=
  .of (owner := "bytearray_iterator") (n := "__next__") (by rw [typeLookup_type, builtinLookup_eq_fast]; kernel_rfl) (by decide +kernel) (by decide +kernel) (by decide +kernel)
    (by first | exact .inl (by decide +kernel) | exact .inr (by decide +kernel)) (by rw [isSubtype_type]; kernel_rfl)
theorem entry_next : entryFor table "bytearray_iterator.__next__" = some Builtin.«bytearray_iterator.__next__» := entryFor_of_tree (by kernel_rfl)
theorem args_next (a : Value) : argsOk "bytearray_iterator.__next__" ⟨[a], []⟩ := by unfold argsOk; kernel_rfl
theorem slot_it2 : Slot "bytearray_iterator" "__iter__" "bytearray_iterator.__iter__" :=
  .of (owner := "bytearray_iterator") (n := "__iter__") (by rw [typeLookup_type, builtinLookup_eq_fast]; kernel_rfl) (by decide +kernel) (by decide +kernel) (by decide +kernel)
    (by first | exact .inl (by decide +kernel) | exact .inr (by decide +kernel)) (by rw [isSubtype_type]; kernel_rfl)
theorem entry_it2 : entryFor table "bytearray_iterator.__iter__" = some Builtin.«dict_keyiterator.__iter__» :=
  entryFor_alias (id' := "dict_keyiterator.__iter__") (by kernel_rfl) rfl (by decide +kernel) (by kernel_rfl)
theorem args_it2 (a : Value) : argsOk "bytearray_iterator.__iter__" ⟨[a], []⟩ := by unfold argsOk; kernel_rfl
theorem len_ba : typeLookup (.type "bytearray") "__len__" = pure (some (.builtin "bytearray.__len__")) := by rw [typeLookup_type, builtinLookup_eq_fast]; kernel_rfl
end BI
noncomputable def IsBaIter (h : Heap) (I a : Addr) (i : Nat) : Prop := ∃ o, h.get? I = some o ∧ o.cls = .type "bytearray_iterator" ∧ o.data = .fields #[.ref a, .int i 0]
theorem IsBaIter.typeIs {s : Shared} {I a : Addr} {i : Nat} (y : IsBaIter s.heap I a i) : s.TypeIs (.ref I) "bytearray_iterator" := let ⟨o, ho, hc, _⟩ := y; ⟨o, ho, hc⟩
section
variable {prog : Program} {w : World} {A : Around} {E : Value → Shared → Prop} {s : Shared}
theorem iter_ba {a : Addr} {Q : Value → Shared → Prop} (hT : s.TypeIs (.ref a) "bytearray")
    (hQ : Q (.ref s.heap.objs.size) { s with heap := s.heap.push { cls := .type "bytearray_iterator", data := .fields #[.ref a, .int 0 0] } }) :
    wpAny (model prog w) A (pyIter (.ref a)) Q E s := by
  refine wpAny_pyIter_slot hT BI.slot_iter (wpAny_call_entry BI.slot_iter hT BI.entry_iter ?_ (BI.args_iter _))
  show wpAny _ _ (do ret (← newFields "bytearray_iterator" [.ref a, rawInt 0])) _ _ s
  exact wpAny_bind (wpAny_newObj_type (wpAny_pure ⟨_, rfl, "bytearray_iterator", _, ⟨_, Heap.get?_push_size _ rfl, rfl⟩, BI.slot_next.lookup, hQ⟩))
theorem next_ba {I a : Addr} {b : Array UInt8} {i : Nat} {c : UInt8} {Q : Option Value → Shared → Prop} (hit : IsBaIter s.heap I a i) (hb : BArr s.heap a b) (hx : b[i]? = some c)
    (hQ : ∀ h', IsBaIter h' I a (i + 1) → Heap.SameBut I s.heap h' → Q (some (.int c.toNat s.toks)) { s with heap := h', toks := s.toks + 1 }) :
    wpAny (model prog w) A (pyNext (.ref I)) Q E s := by
  obtain ⟨o, ho, hc, hd⟩ := id hit
  obtain ⟨oa, n, ha, hac, had⟩ := hb
  unfold pyNext
  refine wpAny_bind (wpAny_attempt (wpAny_callSpecial?_slot (name := Str.ofString "__next__") hit.typeIs BI.slot_next
    (wpAny_call_entry BI.slot_next hit.typeIs BI.entry_next ?_ (BI.args_next _))))
  show wpAny _ _ (field (.ref I) 0 >>= _) _ _ s
  refine wpAny_bind (wpAny_field ho hd (x := .ref a) rfl ?_)
  show wpAny _ _ (load a >>= _) _ _ s
  refine wpAny_bind (wpAny_load ha ?_)
  rw [had]
  show wpAny _ _ (field (.ref I) 1 >>= _) _ _ s
  refine wpAny_bind (wpAny_field ho hd (x := .int i 0) rfl ?_)
  simp only [Int.toNat_natCast, hx]
  refine wpAny_bind (wpAny_setField ho hd (by simp) (wpAny_bind (wpAny_mkInt (wpAny_pure ⟨_, rfl, wpAny_pure (hQ _ ?_ (Heap.SameBut.update ..))⟩))))
  exact ⟨_, Heap.get?_update_self _ ho (Obj.isFreed_of_fields (Obj.data_mapFields hd _)), (Obj.cls_mapFields ..).trans hc, by
    rw [Obj.data_mapFields hd]; simp [rawInt]⟩
theorem end_ba {I a : Addr} {b : Array UInt8} {i : Nat} {Q : Option Value → Shared → Prop} (hh : A.handled = none) (hit : IsBaIter s.heap I a i) (hb : BArr s.heap a b) (hx : b[i]? = none)
    (hQ : ∀ h', Heap.ExtBut I s.heap h' → Q none { s with heap := h' }) : wpAny (model prog w) A (pyNext (.ref I)) Q E s := by
  obtain ⟨o, ho, hc, hd⟩ := id hit
  obtain ⟨oa, n, ha, hac, had⟩ := hb
  unfold pyNext
  refine wpAny_bind (wpAny_attempt (wpAny_callSpecial?_slot (name := Str.ofString "__next__") hit.typeIs BI.slot_next
    (wpAny_call_entry BI.slot_next hit.typeIs BI.entry_next ?_ (BI.args_next _))))
  show wpAny _ _ (field (.ref I) 0 >>= _) _ _ s
  refine wpAny_bind (wpAny_field ho hd (x := .ref a) rfl ?_)
  show wpAny _ _ (load a >>= _) _ _ s
  refine wpAny_bind (wpAny_load ha ?_)
  rw [had]
  show wpAny _ _ (field (.ref I) 1 >>= _) _ _ s
  refine wpAny_bind (wpAny_field ho hd (x := .int i 0) rfl ?_)
  simp only [Int.toNat_natCast, hx]
  refine wpAny_bind (wpAny_rule (wpAny_bind (wpAny_setField ho hd (by simp) (wpAny_bind (wpAny_letGo ?_)))))
  show wpAny _ _ (newExc (.type "StopIteration") [] >>= _) _ _ _
  refine wpAny_bind ?_
  simp only [newExc, newTuple]
  refine wpAny_bind (wpAny_newObj_type ?_ (by size_fits))
  refine wpAny_bind (m := firstArgMember _ _) (wpAny_of_eq (a := Value.none) (by first | rfl | (simp only [firstArgMember]; rfl)) ?_)
  refine wpAny_newObj_type ?_ (by size_fits)
  simp only [raiseNew]
  refine wpAny_bind (wpAny_handled ?_)
  rw [show A.in1.handled = none from hh]
  refine wpAny_bind (wpAny_pure (wpAny_throw ?_))
  refine wpAny_bind (wpAny_isInstance (T := "StopIteration") (b := true) ⟨_, Heap.get?_push_size _ rfl, rfl⟩ isSubtype_stop ?_)
  exact wpAny_pure (hQ _ (((Heap.SameBut.update ..).extBut.push _).push _))
noncomputable def ByteAt (b : Array UInt8) (i : Nat) (v : Value) : Prop := ∃ c t, b[i]? = some c ∧ v = .int (c.toNat : Nat) t
theorem walks_ba (hh : A.handled = none) (I a : Addr) (hne : a ≠ I) (b : Array UInt8) :
    Walks prog w A I [I, a] [I] b.size (ByteAt b) (fun i h => IsBaIter h I a i ∧ BArr h a b) where
  sub := fun x hb => by simp at hb; simp [hb]
  frame := fun _ _ _ st hk => ⟨let ⟨o, ho, r⟩ := st.1; ⟨o, hk I (by simp) o ho, r⟩, let ⟨o, n, ho, r⟩ := st.2; ⟨o, n, hk a (by simp) o ho, r⟩⟩
  item := fun i s Q E hi st hQ => by
    refine next_ba st.1 st.2 (c := b[i]) (by simp [hi]) fun h' hit' hs' => ?_
    exact hQ _ h' (s.toks + 1) ⟨_, _, by simp [hi], rfl⟩ ⟨hit', let ⟨o, n, ho, r⟩ := st.2; ⟨o, n, hs'.extBut a o hne ho, r⟩⟩ fun b o hb e => hs'.extBut b o (fun h => hb (by simp [h])) e
  done := fun s Q E st hQ => end_ba hh st.1 st.2 (by simp) fun h' he' => hQ h' s.toks fun b o hb e => he' b o (fun h => hb (by simp [h])) e
  self := fun _ s Q E st hQ => by
    refine wpAny_pyIter_slot st.1.typeIs BI.slot_it2 (wpAny_call_entry BI.slot_it2 st.1.typeIs BI.entry_it2 ?_ (BI.args_it2 _))
    show wpAny _ _ (ret (.ref I)) _ _ s
    exact wpAny_pure ⟨_, rfl, "bytearray_iterator", _, st.1.typeIs, BI.slot_next.lookup, hQ⟩
theorem extend_ba {R : Result → Shared → Prop} (hh : A.handled = none) {a : Addr} {b : Array UInt8} (hb : BArr s.heap a b) (S : Addr) (res : Value) (c₀ : Nat) (hSa : S ≠ a) (hS : s.heap.get? S = some { cls := .type "list", data := .seq #[] c₀ })
    (hR : ∀ h' tk acc' c', (∀ b o, b ≠ S → s.heap.get? b = some o → h'.get? b = some o) → h'.get? S = some { cls := .type "list", dict := none, data := .seq acc' c', slots := #[] } →
      ItemsOf (ByteAt b) acc' b.size → R (.ok (.ret res)) { s with heap := h', toks := tk }) (hn : b.size ≤ sizeLine) :
    wpAny (model prog w) A.in1 (Builtin.List.listExtendWith (.ref S) (.ref a) res)
      (fun fin s' => match fin with | .done f => R (.ok f) s' | .again c' => c'.quiet = true ∧ codeAny (model prog w) A c' R s') (fun e s' => R (.error e) s') s := by
  have hT : s.TypeIs (.ref a) "bytearray" := let ⟨o, _, h1, h2, _⟩ := hb; ⟨o, h1, h2⟩
  have hSI : S ≠ s.heap.objs.size := Nat.ne_of_lt (Heap.lt_size hS)
  have haI : a ≠ s.heap.objs.size := let ⟨o, _, h1, _⟩ := hb; Nat.ne_of_lt (Heap.lt_size h1)
  have hSf : S ∉ [s.heap.objs.size, a] := fun hm => by
    rcases List.mem_cons.mp hm with z | hm
    · exact hSI z
    · exact hSa (List.mem_singleton.mp hm)
  unfold Builtin.List.listExtendWith
  refine wpAny_bind (wpAny_typeOf hT ?_)
  have h1 : Builtin.List.listSameRef (.ref S) (.ref a) = false := by
    show (S == a) = false
    exact beq_eq_false_iff_ne.mpr hSa
  have h2 : (Value.type "bytearray" == Value.type "list") = false := by decide
  have h3 : (Value.type "bytearray" == Value.type "tuple") = false := by decide
  simp only [h1, h2, h3, Bool.or_false, Bool.false_eq_true, if_false]
  refine wpAny_bind (iter_ba hT ?_)
  refine wpAny_bind (wpAny_holding ?_)
  have hT2 : Shared.TypeIs { s with heap := s.heap.push { cls := .type "bytearray_iterator", data := .fields #[.ref a, .int 0 0] } } (.ref a) "bytearray" := let ⟨o, _, h1, h2, _⟩ := hb; ⟨o, Heap.get?_push_of_some _ h1, h2⟩
  unfold Builtin.List.listLengthHint
  refine wpAny_bind (wpAny_specialOf hT2 BI.len_ba ?_)
  wp_delta
  refine wpAny_bind (wpAny_isInstance hT2 (b := true) (by rw [isSubtype_type]; kernel_rfl) ?_)
  show wpAny _ _ (typeOf (Value.ref a) >>= _) _ _ _
  refine wpAny_bind (wpAny_typeOf hT2 ?_)
  refine wpAny_pure ?_
  rw [if_neg (by decide)]
  refine wpAny_pure ⟨plainId_quiet F.plain_extend_loop _, codeAny_extend_loopS (walks_ba (A := A.in1) hh s.heap.objs.size a haI b).toS hn _ hSf _ b.size 0 _ _ _ rfl (Nat.zero_le _) ⟨⟨_, Heap.get?_push_size _ rfl, rfl, rfl⟩, let ⟨o, n, h1, r⟩ := hb; ⟨o, n, Heap.get?_push_of_some _ h1, r⟩⟩ (Heap.get?_push_of_some _ hS) (ItemsOf.nil _) fun s' acc' c' hm hS' hacc => ?_⟩
  rw [Moved.eq_with hm]
  refine hR s'.heap s'.toks acc' c' (fun b ob hb e => hm.heap b ob (fun hmem => ?_) (Heap.get?_push_of_some _ e)) hS' hacc
  rcases List.mem_cons.mp hmem with e' | hmem
  · exact hb e'
  · exact absurd (Heap.lt_size e) (by rw [List.mem_singleton.mp hmem]; exact Nat.lt_irrefl _)
theorem list_ba {a : Addr} {b : Array UInt8} {Q : Value → Shared → Prop} (hh : A.handled = none) (hb : BArr s.heap a b) (hn : b.size ≤ sizeLine)
    (hQ : ∀ h' tk acc' c', (∀ b o, s.heap.get? b = some o → h'.get? b = some o) →
      h'.get? s.heap.objs.size = some { cls := .type "list", dict := none, data := .seq acc' c', slots := #[] } → ItemsOf (ByteAt b) acc' b.size → Q (.ref s.heap.objs.size) { s with heap := h', toks := tk }) :
    wpAny (model prog w) A (call (.type "list") [.ref a]) Q E s := by
  have hlt : a < s.heap.objs.size := let ⟨o, _, h1, _⟩ := hb; Heap.lt_size h1
  refine callType_codes (Q₁ := fun obj s₁ => obj = .ref s.heap.objs.size ∧ s₁ = { s with heap := s.heap.push { cls := .type "list", data := .seq #[] } }) F.called_list (F.typeCall_list_1 _) F.entry_list_init
    (code_list_new _ ⟨rfl, rfl⟩) fun obj s₁ h₁ => ?_
  obtain ⟨rfl, rfl⟩ := h₁
  have hS : (s.heap.push { cls := .type "list", data := .seq #[] }).get? s.heap.objs.size = some { cls := .type "list", data := .seq #[] } := Heap.get?_push_size _ rfl
  refine ⟨⟨_, hS, rfl⟩, F.args_list_init_2 _ _, ?_⟩
  show wpAny _ _ (do let old ← Builtin.List.listItems (.ref s.heap.objs.size); Builtin.List.listUpdate (.ref s.heap.objs.size) (fun _ => #[]); letGo old.toList.reverse; Builtin.List.listExtendWith (.ref s.heap.objs.size) (.ref a) .none) _ _ _
  refine wpAny_bind ?_
  unfold Builtin.List.listItems
  refine wpAny_bind (wpAny_seqItems hS rfl (wpAny_pure ?_))
  show wpAny _ _ (updateSeq s.heap.objs.size (fun _ => #[]) >>= fun _ => letGo (#[] : Array Value).toList.reverse >>= fun _ => Builtin.List.listExtendWith (.ref s.heap.objs.size) (.ref a) .none) _ _ _
  refine wpAny_bind (wpAny_updateSeq hS rfl ?_)
  have hS₂ := Heap.get?_update_self (Obj.mapSeq (fun _ => (#[] : Array Value))) hS rfl
  have oth : ∀ b o, s.heap.get? b = some o → ((s.heap.push { cls := .type "list", data := .seq #[] }).update s.heap.objs.size (Obj.mapSeq (fun _ => (#[] : Array Value)))).get? b = some o :=
    fun b o e => (Heap.get?_update_other _ _ (Ne.symm (Nat.ne_of_lt (Heap.lt_size e)))).trans (Heap.get?_push_of_some _ e)
  refine wpAny_bind (wpAny_letGo ?_)
  refine extend_ba (A := A.in1) hh (let ⟨o, n, h1, r⟩ := hb; ⟨o, n, oth _ _ h1, r⟩) _ .none _ (Nat.ne_of_gt hlt) hS₂ (fun h' tk acc' c' hk hS' hacc => ?_) hn
  exact ⟨rfl, hQ h' tk acc' c' (fun b o e => hk b o (Nat.ne_of_lt (Heap.lt_size e)) (oth b o e)) hS' hacc⟩
end
end Mine
end
section
namespace Mine
open PySem.Spec PySem.Calls
theorem lt_add {u a b c : Nat} (h : u + a < c) (hab : b ≤ a) : u + b < c := Nat.lt_of_le_of_lt (Nat.add_le_add_left hab u) h
theorem ne_led {D a : Nat} {o : Obj} {news : Led} (h : ∀ p ∈ news, @LT.lt Nat _ p.1 D) (m : (a, o) ∈ news) : @Ne Nat D a := Nat.ne_of_gt (h _ m)
theorem ne_led2 {D a : Nat} {o : Obj} {news : Led} (h : ∀ p ∈ news, @LT.lt Nat _ p.1 D) (m : (a, o) ∈ news) : @Ne Nat a D := Nat.ne_of_lt (h _ m)
theorem lt_add0 {u a c : Nat} (h : u + a < c) : u < c := Nat.lt_of_le_of_lt (Nat.le_add_right u a) h
structure FI where
  qual : Str
  scope : Scope
  f : Addr
  cdv : Value
structure Cx (i : FI) (w : World) where
  dp : Nat
  un : Nat
  gd : Option (List Code)
  outer : List Env
  A₀ : Around
  base : Heap
  L : Addr
  mg : Str → Option Value
  mb : Str → Option Value
  mean : ExcName → Option Value
  gs : Array GenState
  dr : Drawn
  os : OsState
  E : Value → Heap → Nat → Prop
noncomputable abbrev Cx.env {i : FI} {w : World} (C : Cx i w) : Env := envX i.qual i.scope C.L i.f i.cdv []
noncomputable abbrev Cx.A {i : FI} {w : World} (C : Cx i w) : Around := ktrTop C.dp C.un C.gd i.qual i.scope C.L i.f i.cdv [] C.outer
noncomputable abbrev TopC {i : FI} {w : World} (C : Cx i w) (g : Heap) : Prop := Top hd.view_39 (looseW hd.view_39 [Str.ofString "PostError", Str.ofString "THING_TYPES", Str.ofString "Thing", Str.ofString "name"]) C.mean C.mg C.mb g
noncomputable def Lf {i : FI} {w : World} (C : Cx i w) {α : Type} (Q : α → Heap → Nat → Prop) (a : α) (s : Shared) : Prop := ∃ h tk, s = ⟨h, C.gs, C.dr, tk, C.os⟩ ∧ Q a h tk
noncomputable def AtE {i : FI} {w : World} (C : Cx i w) (e : Value) (h : Heap) (tk : Nat) : Prop := C.E e h tk
@[reducible] noncomputable def W {i : FI} {w : World} (C : Cx i w) (h : Heap) (tk : Nat) {α : Type} (t : Sem α) (Q : α → Heap → Nat → Prop) : Prop :=
  wpAny (model PySem.Challenge.rw_on0261_01.row.prog w) C.A t (Lf C Q) (Lf C (AtE C)) ⟨h, C.gs, C.dr, tk, C.os⟩
theorem W.out {i : FI} {w : World} {C : Cx i w} {α : Type} {h : Heap} {tk : Nat} {t : Sem α} {Q : α → Heap → Nat → Prop} (x : wpAny (model PySem.Challenge.rw_on0261_01.row.prog w) C.A t (Lf C Q) (Lf C (AtE C)) ⟨h, C.gs, C.dr, tk, C.os⟩) : W C h tk t Q := x
theorem Lf.go {i : FI} {w : World} {C : Cx i w} {α : Type} {Q : α → Heap → Nat → Prop} {a : α} {h : Heap} {tk : Nat} (q : Q a h tk) : Lf C Q a ⟨h, C.gs, C.dr, tk, C.os⟩ := ⟨h, tk, rfl, q⟩
theorem Lf.goI {i : FI} {w : World} {C : Cx i w} {Q : Value → Heap → Nat → Prop} {x : Int} {h : Heap} {tk : Nat} (q : Q (.int x tk) h (tk + 1)) : Lf C Q (.int x (⟨h, C.gs, C.dr, tk, C.os⟩ : Shared).toks) { (⟨h, C.gs, C.dr, tk, C.os⟩ : Shared) with toks := (⟨h, C.gs, C.dr, tk, C.os⟩ : Shared).toks + 1 } := ⟨h, tk + 1, rfl, q⟩
structure Ok {i : FI} {w : World} (C : Cx i w) (g : Heap) (k : Nat) : Prop where
  B : Below C.A₀ C.base C.outer g
  X : (hd.heap_39 w.params).In g
  T : TopC C g
  d : C.dp + k < recursionLimit
  u : C.un + (8 * k + 5) < cLine
section
variable {i : FI} {w : World} {C : Cx i w} {h g G : Heap} {tk k : Nat} {m : Str → Option Value}
theorem seq {α β : Type} {t : Sem α} {f : α → Sem β} {K : α → Heap → Nat → Prop} {Q : β → Heap → Nat → Prop} (x : W C h tk t K) (y : ∀ a h1 tk1, K a h1 tk1 → W C h1 tk1 (f a) Q) :
    wpAny (model PySem.Challenge.rw_on0261_01.row.prog w) C.A t (fun a s => wpAny (model PySem.Challenge.rw_on0261_01.row.prog w) C.A (f a) (Lf C Q) (Lf C (AtE C)) s) (Lf C (AtE C)) ⟨h, C.gs, C.dr, tk, C.os⟩ :=
  wpAny_mono x (fun a s ⟨h1, tk1, e, q⟩ => by rw [e]; exact y a h1 tk1 q) fun _ _ z => z
theorem seqP {α : Type} {t : Sem α} {K : α → Heap → Nat → Prop} {P : α → Shared → Prop} (x : W C h tk t K) (y : ∀ a h1 tk1, K a h1 tk1 → P a ⟨h1, C.gs, C.dr, tk1, C.os⟩) :
    wpAny (model PySem.Challenge.rw_on0261_01.row.prog w) C.A t P (Lf C (AtE C)) ⟨h, C.gs, C.dr, tk, C.os⟩ :=
  wpAny_mono x (fun a s ⟨h1, tk1, e, q⟩ => by rw [e]; exact y a h1 tk1 q) fun _ _ z => z
@[reducible] noncomputable def KSeq (C : Cx i w) (rest : List Stmt) (Q : Flow → Heap → Nat → Prop) (fl : Flow) (h : Heap) (tk : Nat) : Prop := match fl with | .next => W C h tk (execs rest C.env) Q | f => Q f h tk
theorem W.nil {Q : Flow → Heap → Nat → Prop} (q : Q .next h tk) : W C h tk (execs [] C.env) Q := wpAny_execs_nil (Lf.go q)
theorem W.cons {st : Stmt} {rest : List Stmt} {Q : Flow → Heap → Nat → Prop} (x : W C h tk (exec st C.env) (KSeq C rest Q)) : W C h tk (execs (st :: rest) C.env) Q :=
  wpAny_execs_cons (seqP x fun fl h1 tk1 q => by cases fl <;> first | exact q | exact Lf.go q)
noncomputable def KIf (C : Cx i w) (body orelse : List Stmt) (Q : Flow → Heap → Nat → Prop) (c : Bool) (h : Heap) (tk : Nat) : Prop := if c then W C h tk (execs body C.env) Q else W C h tk (execs orelse C.env) Q
theorem KIf.go {body orelse : List Stmt} {Q : Flow → Heap → Nat → Prop} {c : Bool} (x : if c = true then W C h tk (execs body C.env) Q else W C h tk (execs orelse C.env) Q) : KIf C body orelse Q c h tk := x
theorem KIf.t {body orelse : List Stmt} {Q : Flow → Heap → Nat → Prop} {c : Bool} (y : c = true) (x : W C h tk (execs body C.env) Q) : KIf C body orelse Q c h tk := by rw [y]; exact x
theorem KIf.f {body orelse : List Stmt} {Q : Flow → Heap → Nat → Prop} {c : Bool} (y : c = false) (x : W C h tk (execs orelse C.env) Q) : KIf C body orelse Q c h tk := by rw [y]; exact x
theorem W.If {test : Expr} {body orelse : List Stmt} {pos : Pos} {Q : Flow → Heap → Nat → Prop} (x : W C h tk (isTrue test C.env (eval test C.env)) (KIf C body orelse Q)) : W C h tk (exec (.If test body orelse pos) C.env) Q :=
  wpAny_If (seqP x fun b h1 tk1 q => by cases b <;> exact q)
noncomputable def KIfE (C : Cx i w) (body orelse : Expr) (Q : Value → Heap → Nat → Prop) (c : Bool) (h : Heap) (tk : Nat) : Prop := if c then W C h tk (eval body C.env) Q else W C h tk (eval orelse C.env) Q
theorem KIfE.go {body orelse : Expr} {Q : Value → Heap → Nat → Prop} {c : Bool} (x : if c = true then W C h tk (eval body C.env) Q else W C h tk (eval orelse C.env) Q) : KIfE C body orelse Q c h tk := x
theorem KIfE.t {body orelse : Expr} {Q : Value → Heap → Nat → Prop} {c : Bool} (y : c = true) (x : W C h tk (eval body C.env) Q) : KIfE C body orelse Q c h tk := by rw [y]; exact x
theorem KIfE.f {body orelse : Expr} {Q : Value → Heap → Nat → Prop} {c : Bool} (y : c = false) (x : W C h tk (eval orelse C.env) Q) : KIfE C body orelse Q c h tk := by rw [y]; exact x
theorem W.IfE {test body orelse : Expr} {pos : Pos} {Q : Value → Heap → Nat → Prop} (x : W C h tk (isTrue test C.env (eval test C.env)) (KIfE C body orelse Q)) : W C h tk (eval (.IfExp test body orelse pos) C.env) Q :=
  wpAny_IfExp (seqP x fun b h1 tk1 q => by cases b <;> exact q)
@[reducible] noncomputable def KRet (Q : Flow → Heap → Nat → Prop) (v : Value) (h : Heap) (tk : Nat) : Prop := Q (.ret v) h tk
theorem W.Return {e : Expr} {pos : Pos} {Q : Flow → Heap → Nat → Prop} (x : W C h tk (eval e C.env) (KRet Q)) : W C h tk (exec (.Return (some e) pos) C.env) Q :=
  wpAny_Return_some (seqP x fun v h1 tk1 q => Lf.go q)
@[reducible] noncomputable def KNext (Q : Flow → Heap → Nat → Prop) (_ : Unit) (h : Heap) (tk : Nat) : Prop := Q .next h tk
@[reducible] noncomputable def KStore (C : Cx i w) (x : Str) (Q : Flow → Heap → Nat → Prop) (v : Value) (h : Heap) (tk : Nat) : Prop := W C h tk (storeName C.env x v) (KNext Q)
theorem W.Assign {x : Str} {pos' pos : Pos} {value : Expr} {Q : Flow → Heap → Nat → Prop} (y : W C h tk (eval value C.env) (KStore C x Q)) (hs : ∀ env, swapsWith value (some (.Name x pos')) pos.line env = pure false := by intro _; rfl) :
    W C h tk (exec (.Assign [.Name x pos'] value pos) C.env) Q :=
  wpAny_Assign_Name (seqP y fun v h1 tk1 q => wpAny_mono q (fun _ _ z => z) fun _ _ z => z) (hs _)
theorem W.int {n : Int} {j : Nat} {pos : Pos} {Q : Value → Heap → Nat → Prop} (q : Q (.int n tk) h (tk + 1)) : W C h tk (eval (.Constant (.int n) j pos) C.env) Q := wpAny_Constant_int (Lf.go q)
theorem W.str {x : Str} {j : Nat} {pos : Pos} {Q : Value → Heap → Nat → Prop} (q : Q (.str x tk) h (tk + 1)) : W C h tk (eval (.Constant (.str x) j pos) C.env) Q := Constant_str (Lf.go q)
theorem W.bytes {x : List UInt8} {j : Nat} {pos : Pos} {Q : Value → Heap → Nat → Prop} (q : Q (.bytes x.toArray tk) h (tk + 1)) : W C h tk (eval (.Constant (.bytes x) j pos) C.env) Q := Constant_bytes (Lf.go q)
theorem W.noneC {j : Nat} {pos : Pos} {Q : Value → Heap → Nat → Prop} (q : Q .none h tk) : W C h tk (eval (.Constant .none j pos) C.env) Q := wpAny_Constant_none (Lf.go q)
theorem W.bool {b : Bool} {j : Nat} {pos : Pos} {Q : Value → Heap → Nat → Prop} (q : Q (.bool b) h tk) : W C h tk (eval (.Constant (.bool b) j pos) C.env) Q := wpAny_Constant_bool (Lf.go q)
theorem W.name {x : Str} {pos : Pos} {v : Value} {Q : Value → Heap → Nat → Prop} (F : Fr g C.L h m) (hv : m x = some v) (q : Q v h tk) (hk : i.scope.kind = .function := by rfl) (hx : ∀ L, (envX i.qual i.scope L i.f i.cdv []).kindOf x = some .local := by intro _; rfl) (hd : (x == ("__debug__" : Str)) = false := by decide) :
    W C h tk (eval (.Name x pos) C.env) Q := nameX_L (s := ⟨h, C.gs, C.dr, tk, C.os⟩) F hv (Lf.go q) hk (hx _) hd
theorem W.nameK {x : Str} {pos : Pos} {v : Value} {Q : Value → Heap → Nat → Prop} (K : Ok C g k) (F : Fr g C.L h m) (e : ∀ P, nsIn (Mine.hd.heap_39 P) mainGlobals x = some (some v)) (q : Q v h tk) (hk : i.scope.kind = .function := by rfl) (hx : ∀ L, (envX i.qual i.scope L i.f i.cdv []).kindOf x = some .globalImplicit := by intro _; rfl) (hd : (x == ("__debug__" : Str)) = false := by decide) :
    W C h tk (eval (.Name x pos) C.env) Q := nameX_K (s := ⟨h, C.gs, C.dr, tk, C.os⟩) F K.X (topRead_of K.T) (e _) (Lf.go q) hk (hx _) hd
@[reducible] noncomputable def upd (m : Str → Option Value) (x : Str) (v : Value) : Str → Option Value := fun y => if y = x then some v else m y
theorem W.store {x : Str} {v : Value} {Q : Unit → Heap → Nat → Prop} (F : Fr g C.L h m) (N : News g C.L h G') (q : ∀ h', Fr g C.L h' (upd m x v) → News g C.L h' G' → Q () h' (tk + 1)) (hk : i.scope.kind = .function := by rfl) (hx : ∀ L, (envX i.qual i.scope L i.f i.cdv []).kindOf x = some .local := by intro _; rfl) :
    W C h tk (storeName C.env x v) Q := storeX_L (s := ⟨h, C.gs, C.dr, tk, C.os⟩) F N (fun h' F' N' => Lf.go (q h' F' N')) hk (hx _)
@[reducible] noncomputable def KAttr (C : Cx i w) (a : Str) (Q : Value → Heap → Nat → Prop) (o : Value) (h : Heap) (tk : Nat) : Prop := W C h tk (getAttr o a true) Q
theorem W.attrN {x a : Str} {xp pos : Pos} {Q : Value → Heap → Nat → Prop} (y : W C h tk (eval (.Name x xp) C.env) (KAttr C a Q)) 
    (he : ∀ env, eval (.Attribute (.Name x xp) a pos) env = (do
      let o ← eval (.Name x xp) env
      standAt pos.atName
      let r ← holding [o] (getAttr o a true)
      letTemporaryGo (.Name x xp) o r
      pure r) := by intro _; with_unfolding_all rfl) : W C h tk (eval (.Attribute (.Name x xp) a pos) C.env) Q := Attribute_Name_ (seq y fun _ _ _ q => q) (he _)
@[reducible] noncomputable def KCmpR (C : Cx i w) (op : CmpOp) (a : Value) (Q : Value → Heap → Nat → Prop) (b : Value) (h : Heap) (tk : Nat) : Prop := W C h tk (compareOp op a b) Q
@[reducible] noncomputable def KCmpL (C : Cx i w) (op : CmpOp) (r : Expr) (Q : Value → Heap → Nat → Prop) (a : Value) (h : Heap) (tk : Nat) : Prop := W C h tk (eval r C.env) (KCmpR C op a Q)
@[reducible] noncomputable def KTruth (C : Cx i w) (Q : Bool → Heap → Nat → Prop) (c : Value) (h : Heap) (tk : Nat) : Prop := W C h tk (truthy c) Q
theorem W.cmp {l r : Expr} {op : CmpOp} {pos : Pos} {Q : Value → Heap → Nat → Prop} (y : W C h tk (eval l C.env) (KCmpL C op r Q)) (hm : behindInMarks op r = false := by with_unfolding_all rfl) : W C h tk (eval (.Compare l [op] [r] pos) C.env) Q :=
  wpAny_Compare1 (seqP y fun _ _ _ q => seq q fun _ _ _ q => q) hm
theorem W.cmpT {l r : Expr} {op : CmpOp} {pos : Pos} {whole : Sem Value} {Q : Bool → Heap → Nat → Prop} (y : W C h tk (eval l C.env) (KCmpL C op r (KTruth C Q))) (hm : behindInMarks op r = false := by with_unfolding_all rfl) : W C h tk (isTrue (.Compare l [op] [r] pos) C.env whole) Q :=
  wpAny_isTrue_Compare1 (seqP y fun _ _ _ q => seqP q fun _ _ _ q => seq q fun _ _ _ q => q) hm
theorem W.truth {b : Bool} {Q : Bool → Heap → Nat → Prop} (q : Q b h tk) : W C h tk (truthy (.bool b)) Q := wpAny_truthy_bool (Lf.go q)
@[reducible] noncomputable def KBinR (C : Cx i w) (op : Operator) (a : Value) (Q : Value → Heap → Nat → Prop) (b : Value) (h : Heap) (tk : Nat) : Prop := W C h tk (binaryOp op a b) Q
@[reducible] noncomputable def KBinL (C : Cx i w) (op : Operator) (r : Expr) (Q : Value → Heap → Nat → Prop) (a : Value) (h : Heap) (tk : Nat) : Prop := W C h tk (eval r C.env) (KBinR C op a Q)
theorem W.bin {l r : Expr} {op : Operator} {pos : Pos} {Q : Value → Heap → Nat → Prop} (y : W C h tk (eval l C.env) (KBinL C op r Q)) : W C h tk (eval (.BinOp l op r pos) C.env) Q :=
  wpAny_BinOp (seqP y fun _ _ _ q => seq q fun _ _ _ q => q)
@[reducible] noncomputable def KSubR (C : Cx i w) (value slice : Expr) (o : Value) (Q : Value → Heap → Nat → Prop) (j : Value) (h : Heap) (tk : Nat) : Prop := W C h tk (subscriptTail value slice o j) Q
@[reducible] noncomputable def KSubL (C : Cx i w) (value slice : Expr) (Q : Value → Heap → Nat → Prop) (o : Value) (h : Heap) (tk : Nat) : Prop := W C h tk (eval slice C.env) (KSubR C value slice o Q)
theorem W.sub {value slice : Expr} {pos : Pos} {Q : Value → Heap → Nat → Prop} (y : W C h tk (eval value C.env) (KSubL C value slice Q)) : W C h tk (eval (.Subscript value slice pos) C.env) Q :=
  Subscript_ (seqP y fun _ _ _ q => seq q fun _ _ _ q => q)
noncomputable def KAnd (C : Cx i w) (rest : List Expr) (pos : Pos) (whole : Sem Value) (Q : Bool → Heap → Nat → Prop) (c : Bool) (h : Heap) (tk : Nat) : Prop := if c then W C h tk (isTrue (.BoolOp .And rest pos) C.env whole) Q else Q false h tk
theorem KAnd.go {rest : List Expr} {pos : Pos} {whole : Sem Value} {Q : Bool → Heap → Nat → Prop} {c : Bool} (x : if c = true then W C h tk (isTrue (.BoolOp .And rest pos) C.env whole) Q else Q false h tk) : KAnd C rest pos whole Q c h tk := x
theorem KAnd.t {rest : List Expr} {pos : Pos} {whole : Sem Value} {Q : Bool → Heap → Nat → Prop} {c : Bool} (y : c = true) (x : W C h tk (isTrue (.BoolOp .And rest pos) C.env whole) Q) : KAnd C rest pos whole Q c h tk := by rw [y]; exact x
theorem KAnd.f {rest : List Expr} {pos : Pos} {whole : Sem Value} {Q : Bool → Heap → Nat → Prop} {c : Bool} (y : c = false) (x : Q false h tk) : KAnd C rest pos whole Q c h tk := by rw [y]; exact x
noncomputable def KOr (C : Cx i w) (rest : List Expr) (pos : Pos) (whole : Sem Value) (Q : Bool → Heap → Nat → Prop) (c : Bool) (h : Heap) (tk : Nat) : Prop := if c then Q true h tk else W C h tk (isTrue (.BoolOp .Or rest pos) C.env whole) Q
theorem KOr.go {rest : List Expr} {pos : Pos} {whole : Sem Value} {Q : Bool → Heap → Nat → Prop} {c : Bool} (x : if c = true then Q true h tk else W C h tk (isTrue (.BoolOp .Or rest pos) C.env whole) Q) : KOr C rest pos whole Q c h tk := x
theorem KOr.t {rest : List Expr} {pos : Pos} {whole : Sem Value} {Q : Bool → Heap → Nat → Prop} {c : Bool} (y : c = true) (x : Q true h tk) : KOr C rest pos whole Q c h tk := by rw [y]; exact x
theorem KOr.f {rest : List Expr} {pos : Pos} {whole : Sem Value} {Q : Bool → Heap → Nat → Prop} {c : Bool} (y : c = false) (x : W C h tk (isTrue (.BoolOp .Or rest pos) C.env whole) Q) : KOr C rest pos whole Q c h tk := by rw [y]; exact x
theorem W.andN {pos : Pos} {whole : Sem Value} {Q : Bool → Heap → Nat → Prop} (q : Q true h tk) : W C h tk (isTrue (.BoolOp .And [] pos) C.env whole) Q := isTrue_and_nil (Lf.go q)
theorem W.orN {pos : Pos} {whole : Sem Value} {Q : Bool → Heap → Nat → Prop} (q : Q false h tk) : W C h tk (isTrue (.BoolOp .Or [] pos) C.env whole) Q := isTrue_or_nil (Lf.go q)
theorem W.and {x : Expr} {rest : List Expr} {pos : Pos} {whole : Sem Value} {Q : Bool → Heap → Nat → Prop} (y : W C h tk (isTrue x C.env (eval x C.env)) (KAnd C rest pos whole Q)) : W C h tk (isTrue (.BoolOp .And (x :: rest) pos) C.env whole) Q :=
  isTrue_and (seqP y fun c _ _ q => by cases c <;> first | exact q | exact Lf.go q)
theorem W.or {x : Expr} {rest : List Expr} {pos : Pos} {whole : Sem Value} {Q : Bool → Heap → Nat → Prop} (y : W C h tk (isTrue x C.env (eval x C.env)) (KOr C rest pos whole Q)) : W C h tk (isTrue (.BoolOp .Or (x :: rest) pos) C.env whole) Q :=
  isTrue_or (seqP y fun c _ _ q => by cases c <;> first | exact q | exact Lf.go q)
@[reducible] noncomputable def KNot (Q : Bool → Heap → Nat → Prop) (c : Bool) (h : Heap) (tk : Nat) : Prop := Q (!c) h tk
theorem W.notT {x : Expr} {pos : Pos} {whole : Sem Value} {Q : Bool → Heap → Nat → Prop} (y : W C h tk (isTrue x C.env (eval x C.env)) (KNot Q)) : W C h tk (isTrue (.UnaryOp .Not x pos) C.env whole) Q :=
  isTrue_not (seqP y fun c _ _ q => Lf.go q)
theorem W.plain {e : Expr} {whole : Sem Value} {Q : Bool → Heap → Nat → Prop} (y : W C h tk whole (KTruth C Q)) (he : ∀ env whole, isTrue e env whole = (do let v ← whole; standAt e.pos; holding [v] (truthy v)) := by intro _ _; rfl) : W C h tk (isTrue e C.env whole) Q :=
  isTrue_plain (seq y fun _ _ _ q => q) (he _ _)
noncomputable def KBAnd2 (C : Cx i w) (v : Value) (e : Expr) (rest : List Expr) (pos : Pos) (Q : Value → Heap → Nat → Prop) (c : Bool) (h : Heap) (tk : Nat) : Prop := if c then W C h tk (eval (.BoolOp .And (e :: rest) pos) C.env) Q else Q v h tk
theorem KBAnd2.go {v : Value} {e : Expr} {rest : List Expr} {pos : Pos} {Q : Value → Heap → Nat → Prop} {c : Bool} (x : if c = true then W C h tk (eval (.BoolOp .And (e :: rest) pos) C.env) Q else Q v h tk) : KBAnd2 C v e rest pos Q c h tk := x
theorem KBAnd2.t {v : Value} {e : Expr} {rest : List Expr} {pos : Pos} {Q : Value → Heap → Nat → Prop} {c : Bool} (y : c = true) (x : W C h tk (eval (.BoolOp .And (e :: rest) pos) C.env) Q) : KBAnd2 C v e rest pos Q c h tk := by rw [y]; exact x
theorem KBAnd2.f {v : Value} {e : Expr} {rest : List Expr} {pos : Pos} {Q : Value → Heap → Nat → Prop} {c : Bool} (y : c = false) (x : Q v h tk) : KBAnd2 C v e rest pos Q c h tk := by rw [y]; exact x
@[reducible] noncomputable def KBAnd (C : Cx i w) (e : Expr) (rest : List Expr) (pos : Pos) (Q : Value → Heap → Nat → Prop) (v : Value) (h : Heap) (tk : Nat) : Prop := W C h tk (truthy v) (KBAnd2 C v e rest pos Q)
noncomputable def KBOr2 (C : Cx i w) (v : Value) (e : Expr) (rest : List Expr) (pos : Pos) (Q : Value → Heap → Nat → Prop) (c : Bool) (h : Heap) (tk : Nat) : Prop := if c then Q v h tk else W C h tk (eval (.BoolOp .Or (e :: rest) pos) C.env) Q
theorem KBOr2.go {v : Value} {e : Expr} {rest : List Expr} {pos : Pos} {Q : Value → Heap → Nat → Prop} {c : Bool} (x : if c = true then Q v h tk else W C h tk (eval (.BoolOp .Or (e :: rest) pos) C.env) Q) : KBOr2 C v e rest pos Q c h tk := x
theorem KBOr2.t {v : Value} {e : Expr} {rest : List Expr} {pos : Pos} {Q : Value → Heap → Nat → Prop} {c : Bool} (y : c = true) (x : Q v h tk) : KBOr2 C v e rest pos Q c h tk := by rw [y]; exact x
theorem KBOr2.f {v : Value} {e : Expr} {rest : List Expr} {pos : Pos} {Q : Value → Heap → Nat → Prop} {c : Bool} (y : c = false) (x : W C h tk (eval (.BoolOp .Or (e :: rest) pos) C.env) Q) : KBOr2 C v e rest pos Q c h tk := by rw [y]; exact x
@[reducible] noncomputable def KBOr (C : Cx i w) (e : Expr) (rest : List Expr) (pos : Pos) (Q : Value → Heap → Nat → Prop) (v : Value) (h : Heap) (tk : Nat) : Prop := W C h tk (truthy v) (KBOr2 C v e rest pos Q)
theorem W.bool1 {op : BoolOp} {e : Expr} {pos : Pos} {Q : Value → Heap → Nat → Prop} (y : W C h tk (eval e C.env) Q) : W C h tk (eval (.BoolOp op [e] pos) C.env) Q := BoolOp_one y
theorem W.band {e e' : Expr} {rest : List Expr} {pos : Pos} {Q : Value → Heap → Nat → Prop} (y : W C h tk (eval e C.env) (KBAnd C e' rest pos Q)) : W C h tk (eval (.BoolOp .And (e :: e' :: rest) pos) C.env) Q :=
  BoolOp_and (seqP y fun v _ _ q => seqP q fun c _ _ q => by cases c <;> first | exact q | exact Lf.go q)
theorem W.bor {e e' : Expr} {rest : List Expr} {pos : Pos} {Q : Value → Heap → Nat → Prop} (y : W C h tk (eval e C.env) (KBOr C e' rest pos Q)) : W C h tk (eval (.BoolOp .Or (e :: e' :: rest) pos) C.env) Q :=
  BoolOp_or (seqP y fun v _ _ q => seqP q fun c _ _ q => by cases c <;> first | exact q | exact Lf.go q)
theorem W.attr {value : Expr} {a : Str} {pos : Pos} {Q : Value → Heap → Nat → Prop} (y : W C h tk (eval value C.env) (KAttr C a Q))
    (he : ∀ env, eval (.Attribute value a pos) env = (do
      let o ← eval value env
      standAt pos.atName
      let r ← holding [o] (getAttr o a true)
      letTemporaryGo value o r
      pure r) := by intro _; with_unfolding_all rfl) : W C h tk (eval (.Attribute value a pos) C.env) Q := Attribute_any_ (seq y fun _ _ _ q => q) (he _)
@[reducible] noncomputable def KUn (C : Cx i w) (op : UnaryOp) (Q : Value → Heap → Nat → Prop) (v : Value) (h : Heap) (tk : Nat) : Prop := W C h tk (unaryOp op v) Q
theorem W.un {op : UnaryOp} {x : Expr} {pos : Pos} {Q : Value → Heap → Nat → Prop} (y : W C h tk (eval x C.env) (KUn C op Q)) : W C h tk (eval (.UnaryOp op x pos) C.env) Q := UnaryOp_ (seq y fun _ _ _ q => q)
@[reducible] noncomputable def KCons (v : Value) (Q : List Value → Heap → Nat → Prop) (vs : List Value) (h : Heap) (tk : Nat) : Prop := Q (v :: vs) h tk
@[reducible] noncomputable def KArg (C : Cx i w) (pos : Pos) (rest : List Expr) (Q : List Value → Heap → Nat → Prop) (v : Value) (h : Heap) (tk : Nat) : Prop := W C h tk (spliced (backTo pos (starEach rest C.env))) (KCons v Q)
theorem W.argN {pos : Pos} {Q : List Value → Heap → Nat → Prop} (q : Q [] h tk) : W C h tk (spliced (backTo pos (starEach [] C.env))) Q := args_nil (Lf.go q)
theorem W.arg {e : Expr} {rest : List Expr} {pos : Pos} {Q : List Value → Heap → Nat → Prop} (y : W C h tk (eval e C.env) (KArg C pos rest Q)) (he : ∀ env, starEach (e :: rest) env = (false, eval e env) :: starEach rest env := by intro _; rfl) :
    W C h tk (spliced (backTo pos (starEach (e :: rest) C.env))) Q := args_cons (seqP y fun v h1 tk1 q => wpAny_mono q (fun _ _ z => z) fun _ _ z => z) (he _)
@[reducible] noncomputable def KTup (C : Cx i w) (Q : Value → Heap → Nat → Prop) (vs : List Value) (h : Heap) (tk : Nat) : Prop := W C h tk (newTuple vs) Q
theorem W.tuple {elts : List Expr} {j : Nat} {pos : Pos} {Q : Value → Heap → Nat → Prop} (y : W C h tk (spliced (backTo pos (starEach elts C.env))) (KTup C Q)) : W C h tk (eval (.Tuple elts j pos) C.env) Q := Tuple_ (seq y fun _ _ _ q => q)
@[reducible] noncomputable def KLst (C : Cx i w) (Q : Value → Heap → Nat → Prop) (vs : List Value) (h : Heap) (tk : Nat) : Prop := W C h tk (newList vs) Q
theorem W.list {elts : List Expr} {pos : Pos} {Q : Value → Heap → Nat → Prop} (y : W C h tk (spliced (backTo pos (starEach elts C.env))) (KLst C Q)) : W C h tk (eval (.List elts pos) C.env) Q := List_ (seq y fun _ _ _ q => q)
@[reducible] noncomputable def KCallF (C : Cx i w) (pos : Pos) (args : List Expr) (Q : Value → Heap → Nat → Prop) (f : Value) (h : Heap) (tk : Nat) : Prop := W C h tk (callWith pos f [] (backTo pos (starEach args C.env)) []) Q
theorem W.Call {func : Expr} {args : List Expr} {pos : Pos} {Q : Value → Heap → Nat → Prop} (y : W C h tk (eval func C.env) (KCallF C pos args Q)) 
    (he : ∀ env, eval (.Call func args [] pos) env = (do callWith pos (← eval func env) [] (backTo pos (starEach args env)) (backToKw pos (keywordEach [] env))) := by intro _; rfl) : W C h tk (eval (.Call func args [] pos) C.env) Q :=
  Call_ (seq y fun _ _ _ q => q) (he _)
noncomputable def KCallA (C : Cx i w) (f : Value) (Q : Value → Heap → Nat → Prop) (vs : List Value) (h : Heap) (tk : Nat) : Prop := (hd.heap_39 w.params).In h ∧ W C h tk (call f vs) Q
theorem KCallA.go {f : Value} {vs : List Value} {Q : Value → Heap → Nat → Prop} (K : Ok C g k) (F : Fr g C.L h m) (x : W C h tk (call f vs) Q) : KCallA C f Q vs h tk := ⟨K.X.keeps F.keep, x⟩
theorem W.callWith {pos : Pos} {f : Value} {e : Expr} {rest : List Expr} {Q : Value → Heap → Nat → Prop} (K : Ok C g k) (hk : ∀ P, keepIn (hd.heap_39 P) f = true) (y : W C h tk (spliced (backTo pos (starEach (e :: rest) C.env))) (KCallA C f Q))
    (he : ∀ env, starEach (e :: rest) env = (false, eval e env) :: starEach rest env := by intro _; rfl) (hplain : ∀ env, (backTo pos (starEach rest env)).any (·.1) = false := by intro _; rfl) :
    W C h tk (callWith pos f [] (backTo pos (starEach (e :: rest) C.env)) []) Q := callWith_K K.X (hk _) (seqP y fun vs h1 tk1 q => q) (he _) (hplain _)
noncomputable def KRaise (C : Cx i w) (v : Value) (h : Heap) (tk : Nat) : Prop := RaiseP v ⟨h, C.gs, C.dr, tk, C.os⟩ (Lf C (AtE C))
theorem KRaise.go {b : Value} {h0 : Heap} {e : Addr} (P : PsPost b h0 h (.ref e)) (F : Fr g C.L h m) (K : Ok C g k) (q : AtE C (.ref e) h tk) : KRaise C (.ref e) h tk := ps_ex P F K.X (Lf.go q)
theorem W.raise {x : Str} {np cpos pos : Pos} {args : List Expr} {Q : Flow → Heap → Nat → Prop} (y : W C h tk (eval (.Call (.Name x np) args [] cpos) C.env) (KRaise C)) : W C h tk (exec (.Raise (some (.Call (.Name x np) args [] cpos)) none pos) C.env) Q :=
  raise_psP rfl (seqP y fun _ _ _ q => q)
theorem W.getF {x Cl : Addr} {fs : List (Str × Value)} {name : Str} {v : Value} {e : Bool} {Q : Value → Heap → Nat → Prop} (K : Ok C g k) (F : Fr g C.L h m) (I : Fld G x Cl fs) (S : G.StaysIn g) (hc : ∀ P, ClsOk (hd.heap_39 P) Cl name) (hv : fs.lookup name = some v) (q : Q v h (tk + 1)) :
    W C h tk (getAttr (.ref x) name e) Q := Mine.getF F K.X I S (hc _) hv (Lf.go q)
theorem W.nattr {G : Heap} {x a : Str} {xp pos : Pos} {o Cl : Addr} {fs : List (Str × Value)} {v : Value} {Q : Value → Heap → Nat → Prop} (K : Ok C g k) (F : Fr g C.L h m) (hv : m x = some (.ref o)) (I : Fld G o Cl fs) (S : G.StaysIn g) (hc : ∀ P, ClsOk (hd.heap_39 P) Cl a) (hl : fs.lookup a = some v) (q : Q v h (tk + 1))
    (hk : i.scope.kind = .function := by rfl) (hx : ∀ L, (envX i.qual i.scope L i.f i.cdv []).kindOf x = some .local := by intro _; rfl) (hd : (x == ("__debug__" : Str)) = false := by decide) : W C h tk (eval (.Attribute (.Name x xp) a pos) C.env) Q :=
  W.attrN (W.name F hv (W.getF K F I S hc hl q) hk hx hd) (by intro _; with_unfolding_all rfl)
theorem W.argn {x : Str} {xp pos : Pos} {rest : List Expr} {v : Value} {Q : List Value → Heap → Nat → Prop} (F : Fr g C.L h m) (hv : m x = some v) (y : W C h tk (spliced (backTo pos (starEach rest C.env))) (KCons v Q))
    (hk : i.scope.kind = .function := by rfl) (hx : ∀ L, (envX i.qual i.scope L i.f i.cdv []).kindOf x = some .local := by intro _; rfl) (hd : (x == ("__debug__" : Str)) = false := by decide) : W C h tk (spliced (backTo pos (starEach (.Name x xp :: rest) C.env))) Q :=
  W.arg (W.name F hv y hk hx hd) (by intro _; rfl)
theorem W.argn1 {x : Str} {xp pos : Pos} {v : Value} {Q : List Value → Heap → Nat → Prop} (F : Fr g C.L h m) (hv : m x = some v) (q : Q [v] h tk)
    (hk : i.scope.kind = .function := by rfl) (hx : ∀ L, (envX i.qual i.scope L i.f i.cdv []).kindOf x = some .local := by intro _; rfl) (hd : (x == ("__debug__" : Str)) = false := by decide) : W C h tk (spliced (backTo pos (starEach [.Name x xp] C.env))) Q :=
  W.argn F hv (W.argN q) hk hx hd
theorem W.kcmpT {G : Heap} {x a s kd : Str} {xp p1 p2 p3 : Pos} {j : Nat} {o Cl : Addr} {fs : List (Str × Value)} {t : Tok} {whole : Sem Value} {Q : Bool → Heap → Nat → Prop} (K : Ok C g k) (F : Fr g C.L h m) (hv : m x = some (.ref o)) (I : Fld G o Cl fs) (S : G.StaysIn g) (hc : ∀ P, ClsOk (hd.heap_39 P) Cl a) (hl : fs.lookup a = some (.str kd t)) (q : Q (kd == s) h (tk + 1 + 1))
    (hk : i.scope.kind = .function := by rfl) (hx : ∀ L, (envX i.qual i.scope L i.f i.cdv []).kindOf x = some .local := by intro _; rfl) (hd : (x == ("__debug__" : Str)) = false := by decide) : W C h tk (isTrue (.Compare (.Attribute (.Name x xp) a p1) [.Eq] [.Constant (.str s) j p2] p3) C.env whole) Q :=
  W.cmpT (W.nattr K F hv I S hc hl (W.str (PyProof.Rows.eq_str (Lf.go (W.truth q)))) hk hx hd) (by with_unfolding_all rfl)
theorem W.retL {e : Expr} {pos : Pos} {Q : Flow → Heap → Nat → Prop} (x : W C h tk (eval e C.env) (KRet Q)) : W C h tk (execs [.Return (some e) pos] C.env) Q :=
  W.cons (W.Return x)
theorem W.callG {f : Str} {fp pos : Pos} {e : Expr} {rest : List Expr} {fv : Value} {Q : Value → Heap → Nat → Prop} (K : Ok C g k) (F : Fr g C.L h m) (hn : ∀ P, nsIn (hd.heap_39 P) mainGlobals f = some (some fv)) (hf : ∀ P, keepIn (hd.heap_39 P) fv = true) (y : W C h tk (spliced (backTo pos (starEach (e :: rest) C.env))) (KCallA C fv Q))
    (h1 : ∀ env, eval (.Call (.Name f fp) (e :: rest) [] pos) env = (do PySem.callWith pos (← eval (.Name f fp) env) [] (backTo pos (starEach (e :: rest) env)) (backToKw pos (keywordEach [] env))) := by intro _; rfl)
    (he : ∀ env, starEach (e :: rest) env = (false, eval e env) :: starEach rest env := by intro _; rfl) (hplain : ∀ env, (backTo pos (starEach rest env)).any (·.1) = false := by intro _; rfl)
    (hk : i.scope.kind = .function := by rfl) (hx : ∀ L, (envX i.qual i.scope L i.f i.cdv []).kindOf f = some .globalImplicit := by intro _; rfl) (hd : (f == ("__debug__" : Str)) = false := by decide) : W C h tk (eval (.Call (.Name f fp) (e :: rest) [] pos) C.env) Q :=
  W.Call (W.nameK K F hn (W.callWith K hf y he hplain) hk hx hd) h1
theorem W.newTuple {vs : List Value} {news : Led} {Q : Value → Heap → Nat → Prop} (F : Fr g C.L h m) (N : News g C.L h news)
    (q : ∀ D h', Fr g C.L h' m → News g C.L h' ((D, ({ cls := .type "tuple", data := .seq vs.toArray } : Obj)) :: news) → (∀ p ∈ news, p.1 < D) → Q (.ref D) h' tk) (hz : vs.length ≤ sizeLine) : W C h tk (newTuple vs) Q :=
  kup_newTuple (s := ⟨h, C.gs, C.dr, tk, C.os⟩) F N (fun D h' a b c => Lf.go (q D h' a b c)) hz
theorem W.newList {vs : List Value} {news : Led} {Q : Value → Heap → Nat → Prop} (F : Fr g C.L h m) (N : News g C.L h news)
    (q : ∀ D h', Fr g C.L h' m → News g C.L h' ((D, listOf vs.toArray 0) :: news) → (∀ p ∈ news, p.1 < D) → Q (.ref D) h' tk) (hz : vs.length ≤ sizeLine) : W C h tk (newList vs) Q :=
  newList_K (s := ⟨h, C.gs, C.dr, tk, C.os⟩) F N (fun D h' a b c => Lf.go (q D h' a b c)) hz
theorem W.ro {f : Addr} {vs : List Value} {kk : Nat} {Post : Heap → Heap → Value → Prop} {Exc : Array UInt8 → Prop} {Q : Value → Heap → Nat → Prop} (c : RO kk w f vs G Post Exc) (K : Ok C g k) (F : Fr g C.L h m) (S : G.StaysIn h)
    (ret : ∀ r h' tk', Fr g C.L h' m → h.StaysIn h' → Post h h' r → Q r h' tk') (exc : ∀ e h' tk' bs, Exc bs → Fly C.base (C.env :: C.outer) e bs h h' → AtE C (.ref e) h' tk')
    (hk : kk ≤ k := by decide) (hf : i.scope.kind = .function := by rfl) : W C h tk (call (.ref f) vs) Q :=
  ro_use c K.B F K.X K.T hf (lt_add K.d hk) (lt_add K.u (Nat.le_trans (Nat.mul_le_mul_left 8 hk) (Nat.le_add_right _ _))) S (fun r h' tk' a b d => Lf.go (ret r h' tk' a b d)) fun e h' tk' bs a b => Lf.go (exc e h' tk' bs a b)
theorem W.ro_v {f : Addr} {vs : List Value} {kk : Nat} {v : Value} {Exc : Array UInt8 → Prop} {Q : Value → Heap → Nat → Prop} (c : RO kk w f vs G (fun _ _ r => r = v) Exc) (K : Ok C g k) (F : Fr g C.L h m) (S : G.StaysIn h)
    (ret : ∀ h' tk', Fr g C.L h' m → h.StaysIn h' → Q v h' tk') (exc : ∀ e h' tk' bs, Exc bs → Fly C.base (C.env :: C.outer) e bs h h' → AtE C (.ref e) h' tk')
    (hk : kk ≤ k := by decide) (hf : i.scope.kind = .function := by rfl) : W C h tk (call (.ref f) vs) Q := W.ro c K F S (fun r h' tk' a b p => by rw [p]; exact ret h' tk' a b) exc hk hf
theorem W.ro_t {f : Addr} {vs : List Value} {kk : Nat} {fv : Tok → Value} {Exc : Array UInt8 → Prop} {Q : Value → Heap → Nat → Prop} (c : RO kk w f vs G (fun _ _ r => ∃ t, r = fv t) Exc) (K : Ok C g k) (F : Fr g C.L h m) (S : G.StaysIn h)
    (ret : ∀ t h' tk', Fr g C.L h' m → h.StaysIn h' → Q (fv t) h' tk') (exc : ∀ e h' tk' bs, Exc bs → Fly C.base (C.env :: C.outer) e bs h h' → AtE C (.ref e) h' tk')
    (hk : kk ≤ k := by decide) (hf : i.scope.kind = .function := by rfl) : W C h tk (call (.ref f) vs) Q := W.ro c K F S (fun r h' tk' a b p => by obtain ⟨t, p⟩ := p; rw [p]; exact ret t h' tk' a b) exc hk hf
theorem W.ro_e0 {f : Addr} {vs : List Value} {kk : Nat} {P : Heap → Heap → Addr → Prop} {Exc : Array UInt8 → Prop} {Q : Value → Heap → Nat → Prop} (c : RO kk w f vs G (fun h h1 r => ∃ y, r = .ref y ∧ P h h1 y) Exc) (K : Ok C g k) (F : Fr g C.L h m) (S : G.StaysIn h)
    (ret : ∀ y h' tk', Fr g C.L h' m → h.StaysIn h' → P h h' y → Q (.ref y) h' tk') (exc : ∀ e h' tk' bs, Exc bs → Fly C.base (C.env :: C.outer) e bs h h' → AtE C (.ref e) h' tk')
    (hk : kk ≤ k := by decide) (hf : i.scope.kind = .function := by rfl) : W C h tk (call (.ref f) vs) Q := W.ro c K F S (fun r h' tk' s1 s2 p => by obtain ⟨y, e, p⟩ := p; rw [e]; exact ret y h' tk' s1 s2 p) exc hk hf
theorem W.ro_e1 {α : Type} {f : Addr} {vs : List Value} {kk : Nat} {P : Heap → Heap → Addr → α → Prop} {Exc : Array UInt8 → Prop} {Q : Value → Heap → Nat → Prop} (c : RO kk w f vs G (fun h h1 r => ∃ y a, r = .ref y ∧ P h h1 y a) Exc) (K : Ok C g k) (F : Fr g C.L h m) (S : G.StaysIn h)
    (ret : ∀ y a h' tk', Fr g C.L h' m → h.StaysIn h' → P h h' y a → Q (.ref y) h' tk') (exc : ∀ e h' tk' bs, Exc bs → Fly C.base (C.env :: C.outer) e bs h h' → AtE C (.ref e) h' tk')
    (hk : kk ≤ k := by decide) (hf : i.scope.kind = .function := by rfl) : W C h tk (call (.ref f) vs) Q := W.ro c K F S (fun r h' tk' s1 s2 p => by obtain ⟨y, a, e, p⟩ := p; rw [e]; exact ret y a h' tk' s1 s2 p) exc hk hf
theorem W.ro_e2 {α β : Type} {f : Addr} {vs : List Value} {kk : Nat} {P : Heap → Heap → Addr → α → β → Prop} {Exc : Array UInt8 → Prop} {Q : Value → Heap → Nat → Prop} (c : RO kk w f vs G (fun h h1 r => ∃ y a b, r = .ref y ∧ P h h1 y a b) Exc) (K : Ok C g k) (F : Fr g C.L h m) (S : G.StaysIn h)
    (ret : ∀ y a b h' tk', Fr g C.L h' m → h.StaysIn h' → P h h' y a b → Q (.ref y) h' tk') (exc : ∀ e h' tk' bs, Exc bs → Fly C.base (C.env :: C.outer) e bs h h' → AtE C (.ref e) h' tk')
    (hk : kk ≤ k := by decide) (hf : i.scope.kind = .function := by rfl) : W C h tk (call (.ref f) vs) Q := W.ro c K F S (fun r h' tk' s1 s2 p => by obtain ⟨y, a, b, e, p⟩ := p; rw [e]; exact ret y a b h' tk' s1 s2 p) exc hk hf
theorem W.ro_e3 {α β γ : Type} {f : Addr} {vs : List Value} {kk : Nat} {P : Heap → Heap → Addr → α → β → γ → Prop} {Exc : Array UInt8 → Prop} {Q : Value → Heap → Nat → Prop} (c : RO kk w f vs G (fun h h1 r => ∃ y a b c, r = .ref y ∧ P h h1 y a b c) Exc) (K : Ok C g k) (F : Fr g C.L h m) (S : G.StaysIn h)
    (ret : ∀ y a b c h' tk', Fr g C.L h' m → h.StaysIn h' → P h h' y a b c → Q (.ref y) h' tk') (exc : ∀ e h' tk' bs, Exc bs → Fly C.base (C.env :: C.outer) e bs h h' → AtE C (.ref e) h' tk')
    (hk : kk ≤ k := by decide) (hf : i.scope.kind = .function := by rfl) : W C h tk (call (.ref f) vs) Q := W.ro c K F S (fun r h' tk' s1 s2 p => by obtain ⟨y, a, b, c, e, p⟩ := p; rw [e]; exact ret y a b c h' tk' s1 s2 p) exc hk hf
theorem W.ro_e4 {α β γ δ : Type} {f : Addr} {vs : List Value} {kk : Nat} {P : Heap → Heap → Addr → α → β → γ → δ → Prop} {Exc : Array UInt8 → Prop} {Q : Value → Heap → Nat → Prop} (c : RO kk w f vs G (fun h h1 r => ∃ y a b c d, r = .ref y ∧ P h h1 y a b c d) Exc) (K : Ok C g k) (F : Fr g C.L h m) (S : G.StaysIn h)
    (ret : ∀ y a b c d h' tk', Fr g C.L h' m → h.StaysIn h' → P h h' y a b c d → Q (.ref y) h' tk') (exc : ∀ e h' tk' bs, Exc bs → Fly C.base (C.env :: C.outer) e bs h h' → AtE C (.ref e) h' tk')
    (hk : kk ≤ k := by decide) (hf : i.scope.kind = .function := by rfl) : W C h tk (call (.ref f) vs) Q := W.ro c K F S (fun r h' tk' s1 s2 p => by obtain ⟨y, a, b, c, d, e, p⟩ := p; rw [e]; exact ret y a b c d h' tk' s1 s2 p) exc hk hf
end
structure RetR {i : FI} {w : World} (C : Cx i w) (sh g : Heap) (Post : Heap → Heap → Value → Prop) (Q : Value → Heap → Nat → Prop) : Prop where
  out : ∀ v h' tk' m', Fr g C.L h' m' → Due (Post sh h' v) → Q v h' tk'
structure ExcR {i : FI} {w : World} (C : Cx i w) (g : Heap) (Exc : Array UInt8 → Prop) : Prop where
  raised : ∀ e h h' m tk t2 bs, Fr g C.L h m → PsPost (.bytes bs t2) h h' (.ref e) → h.StaysIn h' → Due (Exc bs) → C.E (.ref e) h' tk
  passed : ∀ e h h' m tk bs, Fr g C.L h m → Fly C.base (C.env :: C.outer) e bs h h' → Due (Exc bs) → C.E (.ref e) h' tk
noncomputable def AtR (Q : Value → Heap → Nat → Prop) (fl : Flow) (h : Heap) (tk : Nat) : Prop := Q (match fl with | .ret v => v | _ => .none) h tk
section
variable {i : FI} {w : World} {C : Cx i w} {sh g h h' : Heap} {e : Addr} {Post : Heap → Heap → Value → Prop} {Exc : Array UInt8 → Prop} {Q : Value → Heap → Nat → Prop} {v : Value} {m : Str → Option Value} {tk : Nat} {t2 : Tok} {bs : Array UInt8}
theorem RetR.ret (R : RetR C sh g Post Q) (F : Fr g C.L h' m) (hp : Due (Post sh h' v)) : AtR Q (.ret v) h' tk := R.out _ _ _ _ F hp
theorem RetR.nxt (R : RetR C sh g Post Q) (F : Fr g C.L h' m) (hp : Due (Post sh h' .none)) : AtR Q .next h' tk := R.out _ _ _ _ F hp
theorem ExcR.r (R : ExcR C g Exc) (F : Fr g C.L h m) (P : PsPost (.bytes bs t2) h h' (.ref e)) (S : h.StaysIn h') (hx : Due (Exc bs)) : AtE C (.ref e) h' tk := R.raised _ _ _ _ _ _ _ F P S hx
theorem ExcR.p (R : ExcR C g Exc) (F : Fr g C.L h m) (P : Fly C.base (C.env :: C.outer) e bs h h') (hx : Due (Exc bs)) : AtE C (.ref e) h' tk := R.passed _ _ _ _ _ _ F P hx
end
theorem RO.intro {k : Nat} {w : World} {f : Addr} {vs : List Value} {G : Heap} {Post : Heap → Heap → Value → Prop} {Exc : Array UInt8 → Prop}
    {name qual : Str} {params : Arguments} {body : List Stmt} {scope : Scope} {dV kV doc pm cdv ct oc : Value} {an od : Option Addr} {osl : Array (Option Value)} (binds : List (Str × Value))
    (ho : (hd.heap_39 w.params).lookup f = some ⟨oc, od, .func (fnOf name qual params body scope dV kV doc pm an cdv ct), osl⟩) (hcd : codeIn (hd.heap_39 w.params) cdv qual = true)
    (hbind : ∀ s, (hd.heap_39 w.params).In s.heap → BindsTo s (fnOf name qual params body scope dV kV doc pm an cdv ct) ⟨vs, []⟩ binds) (hloc : (binds.all fun y => decide (scope.names.lookup y.1 = some .local)) = true)
    (hcell : ∀ x ∈ scope.names, x.2 ≠ .cell) (hco : scope.isCoroutine = false) (hgen : scope.isGenerator = false) (hk : scope.kind = .function)
    (walk : ∀ (C : Cx ⟨qual, scope, f, cdv⟩ w) (sh g h : Heap) (tk : Nat) (Q : Value → Heap → Nat → Prop), Ok C g k → Fr g C.L h (fun y => binds.reverse.lookup y) → News g C.L h [] → sh.StaysIn g → G.StaysIn g → RetR C sh g Post Q → ExcR C g Exc →
      W C h tk (execs body C.env) (AtR Q)) :
    RO (k + 1) w f vs G Post Exc := by
  unfold RO
  intro dp un gd cn cs a ccd cl outer A₀ base h₀ L m mg mb mean s Q E B F X T hk' hd hu S hret hexc
  refine wpAny_call ?_
  refine enter binds B F X T (mu := []) (fun _ h => nomatch h) rfl rfl hk' ho hcd (by show dp < recursionLimit; omega) (hbind _ (X.keeps F.keep)) hloc hcell hco hgen hk ?_
  intro g L' h₁ FG KS F' N' B' X' T' hL
  have KS' : s.heap.StaysIn g := fun b o e => KS b o e (fun h => nomatch h)
  have S' : G.StaysIn g := fun b o e => KS' b o (S b o e)
  have := walk ⟨dp + 1, un + 3, gd, envX cn cs L a ccd cl :: outer, ktrTop dp un gd cn cs L a ccd cl outer, base, L', mg, mb, mean, s.gens, s.drawn, s.os, fun e h tk => wpAny (model PySem.Challenge.rw_on0261_01.row.prog w) ((ktrTop dp un gd cn cs L a ccd cl outer).deeper (envOf qual scope L' f cdv)) (leaving (envOf qual scope L' f cdv) e) (fun _ s'' => E e s'') (fun e' s'' => E e' s'') ⟨h, s.gens, s.drawn, tk, s.os⟩⟩
    s.heap g h₁ (s.toks + binds.length) (fun v h tk => LeaveK h₀ L m g (fun r s' => match r with | .ok (.ret v) => Q v s' | .ok _ => False | .error e => E e s') v ⟨h, s.gens, s.drawn, tk, s.os⟩)
    ⟨B', X', T', by show dp + 1 + k < recursionLimit; omega, by show un + 3 + (8 * k + 5) < cLine; omega⟩ F' N' KS' S' ⟨fun v h' tk' m' F2 hp => ro_end hret F2 KS' rfl (fun h => h) hp⟩
    ⟨fun e h h' m tk t2 bs F2 P S2 hx => ro_raise hexc B' P F2 KS' S2 rfl hk (fun _ h => h) hx, fun e h h' m tk bs F2 P hx => ro_pass hexc B' P F2 KS' rfl (fun _ h => h) hx⟩
  exact wpAny_mono this (fun fl s' ⟨h, tk, e, q⟩ => by rw [e]; exact q) fun e s' ⟨h, tk, e', q⟩ => by rw [e']; exact q
structure RetC {i : FI} {w : World} (C : Cx i w) (sh g : Heap) (Cl x d : Addr) (Post : Heap → Heap → Value → Prop) (Q : Value → Heap → Nat → Prop) : Prop where
  out : ∀ h' tk' m' es n, Fr g C.L h' m' → News g C.L h' [(x, instObj Cl d), (d, dictOf es n)] → Due (Post sh h' (.ref x)) → Q .none h' tk'
theorem RetC.nxt {i : FI} {w : World} {C : Cx i w} {sh g h' : Heap} {Cl x d : Addr} {Post : Heap → Heap → Value → Prop} {Q : Value → Heap → Nat → Prop} {m : Str → Option Value} {tk n : Nat} {es : List DictEntry}
    (R : RetC C sh g Cl x d Post Q) (F : Fr g C.L h' m) (N : News g C.L h' [(x, instObj Cl d), (d, dictOf es n)]) (hp : Due (Post sh h' (.ref x))) : AtR Q .next h' tk := R.out _ _ _ _ _ F N hp
theorem RO.introC {w : World} {f Cl : Addr} {vs : List Value} {G : Heap} {Post : Heap → Heap → Value → Prop} {Exc : Array UInt8 → Prop}
    {name qual : Str} {params : Arguments} {body : List Stmt} {scope : Scope} {dV kV doc pm cdv ct oc : Value} {an od : Option Addr} {osl : Array (Option Value)} (binds : Addr → List (Str × Value))
    (hm : makesIn (hd.heap_39 w.params) Cl = true) (hi : findIn (hd.heap_39 w.params) (.ref Cl) "__init__" = some (some (.ref f))) (hf : isFn (hd.heap_39 w.params) (.ref f) = true)
    (ho : (hd.heap_39 w.params).lookup f = some ⟨oc, od, .func (fnOf name qual params body scope dV kV doc pm an cdv ct), osl⟩) (hcd : codeIn (hd.heap_39 w.params) cdv qual = true)
    (hbind : ∀ (x : Addr) s, (hd.heap_39 w.params).In s.heap → BindsTo s (fnOf name qual params body scope dV kV doc pm an cdv ct) ⟨.ref x :: vs, []⟩ (binds x)) (hloc : ∀ x, ((binds x).all fun y => decide (scope.names.lookup y.1 = some .local)) = true)
    (hcell : ∀ x ∈ scope.names, x.2 ≠ .cell) (hco : scope.isCoroutine = false) (hgen : scope.isGenerator = false) (hk : scope.kind = .function)
    (walk : ∀ (C : Cx ⟨qual, scope, f, cdv⟩ w) (sh h0 g h : Heap) (tk : Nat) (x dx : Addr) (Q : Value → Heap → Nat → Prop), Ok C g 0 → Fr g C.L h (fun y => (binds x).reverse.lookup y) → News g C.L h [(x, instObj Cl dx), (dx, dictOf [] 0)] →
      sh.StaysIn h0 → Keep [x, dx] h0 g → sh.get? x = none → sh.get? dx = none → @LT.lt Nat _ dx x → G.StaysIn sh → RetC C sh g Cl x dx Post Q → W C h tk (execs body C.env) (AtR Q)) :
    RO 3 w Cl vs G Post Exc := by
  unfold RO
  intro dp un gd cn cs a ccd cl outer A₀ base h₀ L m mg mb mean s Q E B F X T hk' hd hu S hret hexc
  refine mk_own F X hm hi hf ?_
  intro x dx h' F1 N1 S1 nx nd hlt
  have hdd : ((ktrTop dp un gd cn cs L a ccd cl outer).under (.builtin "type.__call__" ⟨.ref Cl :: vs, []⟩)).depth < recursionLimit - 1 := by
    rw [depth_under_make]; show dp + 1 < recursionLimit - 1; omega
  have huu : ((ktrTop dp un gd cn cs L a ccd cl outer).under (.builtin "type.__call__" ⟨.ref Cl :: vs, []⟩)).units + 8 < cLine := by
    rw [units_under_make]; show un + 1 + 8 < cLine; omega
  refine enter (binds x) B F1 X T N1 rfl rfl hk' ho hcd (by omega) (hbind x _ (X.keeps F1.keep)) (hloc x) hcell hco hgen hk ?_
  intro g L' h₁ FG KS F' N' B' X' T' hL
  replace KS : Keep [x, dx] h' g := KS
  have := walk ⟨((ktrTop dp un gd cn cs L a ccd cl outer).under (.builtin "type.__call__" ⟨.ref Cl :: vs, []⟩)).depth + 1, ((ktrTop dp un gd cn cs L a ccd cl outer).under (.builtin "type.__call__" ⟨.ref Cl :: vs, []⟩)).units + 3, ((ktrTop dp un gd cn cs L a ccd cl outer).under (.builtin "type.__call__" ⟨.ref Cl :: vs, []⟩)).guards, envX cn cs L a ccd cl :: outer, (ktrTop dp un gd cn cs L a ccd cl outer).under (.builtin "type.__call__" ⟨.ref Cl :: vs, []⟩), base, L', mg, mb, mean, s.gens, s.drawn, s.os, fun e h tk => wpAny (model PySem.Challenge.rw_on0261_01.row.prog w) (((ktrTop dp un gd cn cs L a ccd cl outer).under (.builtin "type.__call__" ⟨.ref Cl :: vs, []⟩)).deeper (envOf qual scope L' f cdv)) (leaving (envOf qual scope L' f cdv) e) (fun _ s'' => InitBack x (fun r s' => match r with | .ok (.ret v) => Q v s' | .ok _ => False | .error e => E e s') (.error e) s'') (fun e' s'' => InitBack x (fun r s' => match r with | .ok (.ret v) => Q v s' | .ok _ => False | .error e => E e s') (.error e') s'') ⟨h, s.gens, s.drawn, tk, s.os⟩⟩
    s.heap h' g h₁ (s.toks + (binds x).length) x dx (fun v h tk => LeaveK h₀ L m g (InitBack x fun r s' => match r with | .ok (.ret v) => Q v s' | .ok _ => False | .error e => E e s') v ⟨h, s.gens, s.drawn, tk, s.os⟩)
    ⟨B', X', T', by show ((ktrTop dp un gd cn cs L a ccd cl outer).under (.builtin "type.__call__" ⟨.ref Cl :: vs, []⟩)).depth + 1 + 0 < recursionLimit; omega, by show ((ktrTop dp un gd cn cs L a ccd cl outer).under (.builtin "type.__call__" ⟨.ref Cl :: vs, []⟩)).units + 3 + (8 * 0 + 5) < cLine; omega⟩ F' N' S1 KS nx nd hlt S ⟨fun h' tk' m' es n F2 N2 hp => cls_end hret S1 KS nx nd F2 N2 rfl (fun h => h) hp⟩
  exact wpAny_mono this (fun fl s' ⟨h, tk, e, q⟩ => by rw [e]; exact q) fun e s' ⟨h, tk, e', q⟩ => by rw [e']; exact q
end Mine
end
section
namespace Mine
open PySem.Spec PySem.Calls
structure OkB {i : FI} {w : World} (C : Cx i w) : Prop where
  X : (hd.heap_39 w.params).In C.base
  T : TopC C C.base
  A : C.A₀.deeper C.env = C.A
structure RetTW {i : FI} {w : World} (C : Cx i w) (sh g : Heap) (mu : Led) (Post : Heap → Heap → Value → Led → Prop) (Q : Value → Heap → Nat → Prop) : Prop where
  out : ∀ v h' tk' g' m' mu', KtsTurn (frsOf C.outer) g g' → Fr g' C.L h' m' → News g' C.L h' mu' → mu'.map (·.1) = mu.map (·.1) → Post sh h' v mu' → Q v h' tk'
section
variable {i : FI} {w : World} {C : Cx i w} {sh g g' h h' G : Heap} {tk k : Nat} {m : Str → Option Value} {mu mu' : Led} {Post : Heap → Heap → Value → Led → Prop} {Q : Value → Heap → Nat → Prop} {v : Value}
theorem RetTW.fin (R : RetTW C sh g mu Post Q) (TT : KtsTurn (frsOf C.outer) g g') (F : Fr g' C.L h' m) (N : News g' C.L h' mu') (hmu : mu'.map (·.1) = mu.map (·.1)) (hp : Post sh h' v mu') : AtR Q (.ret v) h' tk := R.out _ _ _ _ _ _ TT F N hmu hp
theorem RetTW.fin0 (R : RetTW C sh g [] Post Q) (TT : KtsTurn (frsOf C.outer) g g') (F : Fr g' C.L h' m) (hp : Due (Post sh h' v [])) : AtR Q (.ret v) h' tk := R.out _ _ _ _ _ [] TT F (fun _ h => nomatch h) rfl hp.out
theorem W.rt {f : Addr} {vs : List Value} {kk : Nat} {P : Heap → Heap → Value → Led → Prop} {news : Led} (c : RT kk w f vs G [] P) (K : Ok C g k) (KB : OkB C) (F : Fr g C.L h m) (N : News g C.L h news) (S : G.StaysIn g) (OF : Off G (frsOf C.outer)) (hk : kk ≤ k) (hf : i.scope.kind = .function)
    (ret : ∀ r h' tk' g', KtsTurn (frsOf C.outer) g g' → Fr g' C.L h' m → Ok C g' k → News g' C.L h' news → G.StaysIn g' → P h h' r [] → Q r h' tk') : W C h tk (call (.ref f) vs) Q := by
  refine c _ _ _ _ _ _ _ _ _ C.A₀ C.base g C.L m C.mg C.mb C.mean ⟨h, C.gs, C.dr, tk, C.os⟩ _ _ K.B F K.X K.T KB.X KB.T (fun _ hp => nomatch hp) (fun _ hb => nomatch hb) (off_cons F S OF rfl) hf (lt_add K.d hk) (lt_add K.u (Nat.le_trans (Nat.mul_le_mul_left 8 hk) (Nat.le_add_right _ _))) (stay_of F S) ⟨fun r h' tk' g' mu' T' F' B' X' P' N' hmu KK p => ?_⟩
  have hz : mu' = [] := List.map_eq_nil_iff.mp hmu
  subst hz
  exact Lf.go (ret r h' tk' g' T' F' ⟨B', X', P', K.d, K.u⟩ (news_turn F N T' KK (frs_in K.B)) (off_turn S OF T') p)
theorem W.rt_v {f : Addr} {vs : List Value} {kk : Nat} {news : Led} (c : RT kk w f vs G [] (fun _ _ r _ => r = v)) (K : Ok C g k) (KB : OkB C) (F : Fr g C.L h m) (N : News g C.L h news) (S : G.StaysIn g) (OF : Off G (frsOf C.outer)) (hk : kk ≤ k) (hf : i.scope.kind = .function)
    (ret : ∀ h' tk' g', KtsTurn (frsOf C.outer) g g' → Fr g' C.L h' m → Ok C g' k → News g' C.L h' news → G.StaysIn g' → Q v h' tk') : W C h tk (call (.ref f) vs) Q :=
  W.rt c K KB F N S OF hk hf fun r h' tk' g' a b d e s p => by rw [p]; exact ret h' tk' g' a b d e s
theorem W.rt_t {f : Addr} {vs : List Value} {kk : Nat} {fv : Tok → Value} {news : Led} (c : RT kk w f vs G [] (fun _ _ r _ => ∃ t, r = fv t)) (K : Ok C g k) (KB : OkB C) (F : Fr g C.L h m) (N : News g C.L h news) (S : G.StaysIn g) (OF : Off G (frsOf C.outer)) (hk : kk ≤ k) (hf : i.scope.kind = .function)
    (ret : ∀ t h' tk' g', KtsTurn (frsOf C.outer) g g' → Fr g' C.L h' m → Ok C g' k → News g' C.L h' news → G.StaysIn g' → Q (fv t) h' tk') : W C h tk (call (.ref f) vs) Q :=
  W.rt c K KB F N S OF hk hf fun r h' tk' g' a b d e s p => by obtain ⟨t, p⟩ := p; rw [p]; exact ret t h' tk' g' a b d e s
theorem W.rt_e0 {f : Addr} {vs : List Value} {kk : Nat} {P : Heap → Heap → Addr → Prop} {news : Led} (c : RT kk w f vs G [] (fun h h1 r _ => ∃ y, r = .ref y ∧ P h h1 y)) (K : Ok C g k) (KB : OkB C) (F : Fr g C.L h m) (N : News g C.L h news) (S : G.StaysIn g) (OF : Off G (frsOf C.outer)) (hk : kk ≤ k) (hf : i.scope.kind = .function)
    (ret : ∀ y h' tk' g', KtsTurn (frsOf C.outer) g g' → Fr g' C.L h' m → Ok C g' k → News g' C.L h' news → G.StaysIn g' → P h h' y → Q (.ref y) h' tk') : W C h tk (call (.ref f) vs) Q :=
  W.rt c K KB F N S OF hk hf fun r h' tk' g' s1 s2 s3 s4 s5 p => by obtain ⟨y, e, p⟩ := p; rw [e]; exact ret y h' tk' g' s1 s2 s3 s4 s5 p
theorem W.rt_e1 {α : Type} {f : Addr} {vs : List Value} {kk : Nat} {P : Heap → Heap → Addr → α → Prop} {news : Led} (c : RT kk w f vs G [] (fun h h1 r _ => ∃ y a, r = .ref y ∧ P h h1 y a)) (K : Ok C g k) (KB : OkB C) (F : Fr g C.L h m) (N : News g C.L h news) (S : G.StaysIn g) (OF : Off G (frsOf C.outer)) (hk : kk ≤ k) (hf : i.scope.kind = .function)
    (ret : ∀ y a h' tk' g', KtsTurn (frsOf C.outer) g g' → Fr g' C.L h' m → Ok C g' k → News g' C.L h' news → G.StaysIn g' → P h h' y a → Q (.ref y) h' tk') : W C h tk (call (.ref f) vs) Q :=
  W.rt c K KB F N S OF hk hf fun r h' tk' g' s1 s2 s3 s4 s5 p => by obtain ⟨y, a, e, p⟩ := p; rw [e]; exact ret y a h' tk' g' s1 s2 s3 s4 s5 p
theorem W.rt_e2 {α β : Type} {f : Addr} {vs : List Value} {kk : Nat} {P : Heap → Heap → Addr → α → β → Prop} {news : Led} (c : RT kk w f vs G [] (fun h h1 r _ => ∃ y a b, r = .ref y ∧ P h h1 y a b)) (K : Ok C g k) (KB : OkB C) (F : Fr g C.L h m) (N : News g C.L h news) (S : G.StaysIn g) (OF : Off G (frsOf C.outer)) (hk : kk ≤ k) (hf : i.scope.kind = .function)
    (ret : ∀ y a b h' tk' g', KtsTurn (frsOf C.outer) g g' → Fr g' C.L h' m → Ok C g' k → News g' C.L h' news → G.StaysIn g' → P h h' y a b → Q (.ref y) h' tk') : W C h tk (call (.ref f) vs) Q :=
  W.rt c K KB F N S OF hk hf fun r h' tk' g' s1 s2 s3 s4 s5 p => by obtain ⟨y, a, b, e, p⟩ := p; rw [e]; exact ret y a b h' tk' g' s1 s2 s3 s4 s5 p
theorem W.rt_e3 {α β γ : Type} {f : Addr} {vs : List Value} {kk : Nat} {P : Heap → Heap → Addr → α → β → γ → Prop} {news : Led} (c : RT kk w f vs G [] (fun h h1 r _ => ∃ y a b c, r = .ref y ∧ P h h1 y a b c)) (K : Ok C g k) (KB : OkB C) (F : Fr g C.L h m) (N : News g C.L h news) (S : G.StaysIn g) (OF : Off G (frsOf C.outer)) (hk : kk ≤ k) (hf : i.scope.kind = .function)
    (ret : ∀ y a b c h' tk' g', KtsTurn (frsOf C.outer) g g' → Fr g' C.L h' m → Ok C g' k → News g' C.L h' news → G.StaysIn g' → P h h' y a b c → Q (.ref y) h' tk') : W C h tk (call (.ref f) vs) Q :=
  W.rt c K KB F N S OF hk hf fun r h' tk' g' s1 s2 s3 s4 s5 p => by obtain ⟨y, a, b, c, e, p⟩ := p; rw [e]; exact ret y a b c h' tk' g' s1 s2 s3 s4 s5 p
end
theorem RT.intro {k : Nat} {w : World} {f : Addr} {vs : List Value} {G : Heap} {mu : Led} {Post : Heap → Heap → Value → Led → Prop}
    {name qual : Str} {params : Arguments} {body : List Stmt} {scope : Scope} {dV kV doc pm cdv ct oc : Value} {an od : Option Addr} {osl : Array (Option Value)} (binds : List (Str × Value))
    (ho : (hd.heap_39 w.params).lookup f = some ⟨oc, od, .func (fnOf name qual params body scope dV kV doc pm an cdv ct), osl⟩) (hcd : codeIn (hd.heap_39 w.params) cdv qual = true)
    (hbind : ∀ s, (hd.heap_39 w.params).In s.heap → BindsTo s (fnOf name qual params body scope dV kV doc pm an cdv ct) ⟨vs, []⟩ binds) (hloc : (binds.all fun y => decide (scope.names.lookup y.1 = some .local)) = true)
    (hcell : ∀ x ∈ scope.names, x.2 ≠ .cell) (hco : scope.isCoroutine = false) (hgen : scope.isGenerator = false) (hk : scope.kind = .function)
    (walk : ∀ (C : Cx ⟨qual, scope, f, cdv⟩ w) (sh g h : Heap) (tk : Nat) (Q : Value → Heap → Nat → Prop), Ok C g k → OkB C → Fr g C.L h (fun y => binds.reverse.lookup y) → News g C.L h mu → Keep (mu.map (·.1)) sh g → Off G (mu.map (·.1)) → Off G (frsOf C.outer) → G.StaysIn sh → G.StaysIn g → RetTW C sh g mu Post Q →
      W C h tk (execs body C.env) (AtR Q)) :
    RT (k + 1) w f vs G mu Post := by
  unfold RT
  intro dp un gd cn cs a ccd cl outer A₀ base h₀ L m mg mb mean s Q E B F X T XB TB N0 OM OF hk' hdp hu S hret
  refine wpAny_call ?_
  refine enterT binds B F X T XB TB N0 rfl rfl hk' ho hcd (by show dp < recursionLimit; omega) (hbind _ (X.keeps F.keep)) hloc hcell hco hgen hk ?_
  intro g L' h₁ FG KS F' N' B' X' T' hL
  have S' : G.StaysIn g := fun b o e => KS b o (S b o e) fun hm => by rw [OM b hm] at e; cases e
  have := walk ⟨dp + 1, un + 3, gd, envX cn cs L a ccd cl :: outer, ktrTop dp un gd cn cs L a ccd cl outer, base, L', mg, mb, mean, s.gens, s.drawn, s.os, fun e h tk => wpAny (model PySem.Challenge.rw_on0261_01.row.prog w) ((ktrTop dp un gd cn cs L a ccd cl outer).deeper (envOf qual scope L' f cdv)) (leaving (envOf qual scope L' f cdv) e) (fun _ s'' => E e s'') (fun e' s'' => E e' s'') ⟨h, s.gens, s.drawn, tk, s.os⟩⟩
    s.heap g h₁ (s.toks + binds.length) (fun v h tk => LeaveT (frsOf (envX cn cs L a ccd cl :: outer)) A₀ base outer w mean mg mb h₀ L m s.heap mu g (fun r s' => match r with | .ok (.ret v) => Q v s' | .ok _ => False | .error e => E e s') v ⟨h, s.gens, s.drawn, tk, s.os⟩)
    ⟨B', X', T', by show dp + 1 + k < recursionLimit; omega, by show un + 3 + (8 * k + 5) < cLine; omega⟩ ⟨XB, TB, rfl⟩ F' N' KS OM OF S S' ⟨fun v h' tk' g' m' mu' TT F2 N2 hmu hp =>
      ⟨g', L', m', mu', TT, F2, N2, hmu, fun h₀' T1 F1 B1 X1 P1 N1 K1 => hret.out v h' tk' h₀' mu' T1 F1 B1 X1 P1 N1 hmu K1 hp⟩⟩
  exact wpAny_mono this (fun fl s' ⟨h, tk, e, q⟩ => by rw [e]; exact q) fun e s' ⟨h, tk, e', q⟩ => by rw [e']; exact q
end Mine
end
section
namespace Mine
open PySem.Spec PySem.Calls
noncomputable def AtF (Q : Flow → Heap → Nat → Prop) (fl : Flow) (h : Heap) (tk : Nat) : Prop := Q fl h tk
structure TNrm {i : FI} {w : World} (C : Cx i w) (sh g : Heap) (fnd : Str) (Post : Heap → Heap → Value → Led → Prop) (Q : Flow → Heap → Nat → Prop) : Prop where
  out : ∀ h' tk' m' v, Fr g C.L h' m' → m' fnd = some v → Due (Post sh h' v []) → Q .next h' tk'
structure TExc {i : FI} {w : World} (C : Cx i w) (sh g : Heap) (Post : Heap → Heap → Value → Led → Prop) : Prop where
  out : ∀ e h h' m tk bs, Fr g C.L h m → Fly C.base (C.env :: C.outer) e bs h h' → Due (∀ h2 t, Post sh h2 (.bytes bs t) []) → C.E (.ref e) h' tk
section
variable {i : FI} {w : World} {C : Cx i w} {sh g h h' : Heap} {fnd : Str} {Post : Heap → Heap → Value → Led → Prop} {Q : Flow → Heap → Nat → Prop} {m : Str → Option Value} {v : Value} {tk : Nat} {e : Addr} {bs : Array UInt8}
theorem TNrm.go (R : TNrm C sh g fnd Post Q) (F : Fr g C.L h' m) (hv : m fnd = some v) (hp : Due (Post sh h' v [])) : AtF Q .next h' tk := R.out _ _ _ _ F hv hp
theorem TExc.go (R : TExc C sh g Post) (P : Fly C.base (C.env :: C.outer) e bs h h') (F : Fr g C.L h m) (hp : Due (∀ h2 t, Post sh h2 (.bytes bs t) [])) : AtE C (.ref e) h' tk := R.out _ _ _ _ _ _ F P hp
end
theorem told_intro {k : Nat} {w : World} {f : Addr} {vs : List Value} {G : Heap} {Post : Heap → Heap → Value → Led → Prop}
    {name qual fnd exn : Str} {params : Arguments} {tb : List Stmt} {p1 p2 p3 np hp tp rp rq sp1 sp2 sp3 sp4 : Pos} {j : Nat} {scope : Scope} {dV kV doc pm cdv ct oc : Value} {an od : Option Addr} {osl : Array (Option Value)} (binds : List (Str × Value))
    (ho : (hd.heap_39 w.params).lookup f = some ⟨oc, od, .func (fnOf name qual params
      [.Assign [.Name fnd p1] (.Constant .none j p2) p3, .Try tb [.ExceptHandler (some (.Name "PsError" np)) (some exn) [.Assign [.Name fnd sp1] (.Attribute (.Name exn sp2) "told" sp3) sp4] hp] [] [] tp, .Return (some (.Name fnd rp)) rq] scope dV kV doc pm an cdv ct), osl⟩)
    (hcd : codeIn (hd.heap_39 w.params) cdv qual = true)
    (hbind : ∀ s, (hd.heap_39 w.params).In s.heap → BindsTo s (fnOf name qual params
      [.Assign [.Name fnd p1] (.Constant .none j p2) p3, .Try tb [.ExceptHandler (some (.Name "PsError" np)) (some exn) [.Assign [.Name fnd sp1] (.Attribute (.Name exn sp2) "told" sp3) sp4] hp] [] [] tp, .Return (some (.Name fnd rp)) rq] scope dV kV doc pm an cdv ct) ⟨vs, []⟩ binds)
    (hloc : (binds.all fun y => decide (scope.names.lookup y.1 = some .local)) = true)
    (hcell : ∀ x ∈ scope.names, x.2 ≠ .cell) (hco : scope.isCoroutine = false) (hgen : scope.isGenerator = false) (hk : scope.kind = .function)
    (s1 : ∀ L, (envX qual scope L f cdv []).kindOf fnd = some .local) (s2 : ∀ L, (envX qual scope L f cdv []).kindOf exn = some .local) (s3 : ∀ L, (envX qual scope L f cdv []).kindOf "PsError" = some .globalImplicit)
    (d1 : (fnd == ("__debug__" : Str)) = false) (d2 : (exn == ("__debug__" : Str)) = false) (hne : (fnd == exn) = false)
    (walk : ∀ (C : Cx ⟨qual, scope, f, cdv⟩ w) (sh g h : Heap) (tk : Nat) (Q : Flow → Heap → Nat → Prop), Ok C g k → Fr g C.L h (upd (fun y => binds.reverse.lookup y) fnd .none) → News g C.L h [] → sh.StaysIn g → G.StaysIn g →
      TNrm C sh g fnd Post Q → TExc C sh g Post → W C h tk (execs tb C.env) (AtF Q)) :
    RT (k + 1) w f vs G [] Post := by
  refine RT.intro (k := k) binds ho hcd hbind hloc hcell hco hgen hk ?_
  intro C sh g h tk Q K KB F N KS OM OF S S' hret
  have KS' : sh.StaysIn g := fun b o e => KS b o e (fun h => nomatch h)
  refine W.cons (W.Assign (W.noneC (W.store F N (fun h1 F1 N1 => W.cons ?_) hk s1)) (fun _ => rfl))
  have key := walk { C with E := fun e h tk => wpAny (model PySem.Challenge.rw_on0261_01.row.prog w) C.A (noteFrame e C.env) (fun _ s₂ => wpAny (model PySem.Challenge.rw_on0261_01.row.prog w) C.A (setFlight e none) (fun _ s₃ =>
      wpAny (model PySem.Challenge.rw_on0261_01.row.prog w) C.A (handleBy e C.env [.ExceptHandler (some (.Name "PsError" np)) (some exn) [.Assign [.Name fnd sp1] (.Attribute (.Name exn sp2) "told" sp3) sp4] hp]) (Lf C (KSeq C [.Return (some (.Name fnd rp)) rq] (AtR Q))) (Lf C (AtE C)) s₃) (Lf C (AtE C)) s₂) (Lf C (AtE C)) ⟨h, C.gs, C.dr, tk, C.os⟩ }
    sh g h1 (tk + 1) (KSeq C [] (KSeq C [.Return (some (.Name fnd rp)) rq] (AtR Q))) ⟨K.B, K.X, K.T, K.d, K.u⟩ F1 N1 KS' S' ⟨?_⟩ ⟨?_⟩
  · exact wpAny_Try_except (wpAny_mono key (fun fl s ⟨h, tk, e, q⟩ => by rw [e]; cases fl <;> first | exact q | exact Lf.go q) fun e s ⟨h, tk, e', q⟩ => by rw [e']; exact q)
  · intro h' tk' m' v F' hv hp
    exact W.nil (W.cons (W.Return (W.name F' hv (hret.fin0 KtsTurn.refl F' hp) hk s1 d1)))
  · intro e h2 h3 m2 tk2 bs F2 R hq
    have hnf : fnd ≠ exn := fun q => by rw [q, beq_self_eq_true] at hne; cases hne
    show wpAny (model PySem.Challenge.rw_on0261_01.row.prog w) C.A (noteFrame (.ref e) C.env) (fun _ s₂ => wpAny (model PySem.Challenge.rw_on0261_01.row.prog w) C.A (setFlight (.ref e) none) (fun _ s₃ =>
      wpAny (model PySem.Challenge.rw_on0261_01.row.prog w) C.A (handleBy (.ref e) C.env [.ExceptHandler (some (.Name "PsError" np)) (some exn) [.Assign [.Name fnd sp1] (.Attribute (.Name exn sp2) "told" sp3) sp4] hp]) (Lf C (KSeq C [.Return (some (.Name fnd rp)) rq] (AtR Q))) (Lf C (AtE C)) s₃) (Lf C (AtE C)) s₂) (Lf C (AtE C)) ⟨h3, C.gs, C.dr, tk2, C.os⟩
    rw [← KB.A]
    refine caught_PS (A₀ := C.A₀) (s' := ⟨h3, C.gs, C.dr, tk2, C.os⟩) (name := qual) (scope := scope) (L := C.L) (a := f) (cd := cdv) R F2 K.B KB.X KB.T (fun h4 g4 tk4 T4 F4 B4 X4 P4 K4 Z4 => ?_) hk (s2 _) (s3 _)
    refine wpAny_execs_cons (wpAny_Assign_Name (Attribute_Name_ (nameX_L (s := ⟨h4, C.gs, C.dr, tk4, C.os⟩) F4 (if_pos rfl) (told_ln F4 X4 Z4 fun t => storeX_L (s := ⟨h4, C.gs, C.dr, tk4 + 1, C.os⟩) F4 (news := []) (fun _ h => nomatch h) (fun h5 F5 N5 => ?_) hk (s1 _)) hk (s2 _) d2) (by with_unfolding_all rfl)) rfl)
    refine wpAny_execs_nil (name_goes_here (s := ⟨h5, C.gs, C.dr, tk4 + 1 + 1, C.os⟩) F5 (fun h6 v F6 => Lf.go ?_) hk (s2 _))
    exact W.cons (W.Return (W.name F6 ((if_neg hnf).trans (if_pos rfl)) (hret.fin0 T4 F6 (Due.mk (hq.out _ t))) hk s1 d1))
end Mine
end
local macro_rules | `(tactic| k_lt $h:ident) => `(tactic| ((have hAl9 := allLt_of $h); (dsimp only [AllLt] at hAl9)))
local macro_rules | `(tactic| k_ne) => `(tactic| first | exact Mine.ne_led (by with_reducible assumption) (by k_mem) | exact Mine.ne_led2 (by with_reducible assumption) (by k_mem) | (refine neN ?_; (try dsimp only); omega))
local macro_rules | `(tactic| k_steps) => `(tactic| repeat' (first | (k_unfold; (try dsimp only)) | (k_end; wrow_close) | walk1 | ((with_reducible refine Mine.W.out ?_); walk1) | (dsimp only; walk1) | (leave1; walk_say "STEP leave1"; try dsimp only) | fail "no step"))
local macro_rules | `(tactic| walk_at $s:str) => do
  let mut p := "A:"
  for (n, q) in [(`Mine.grpB, "B:"), (`Mine.grpC, "C:"), (`Mine.grpD, "D:"), (`Mine.grpE, "E:"), (`Mine.grpF, "F:")] do
    if ← Lean.Macro.hasDecl n then p := q
  let t := Lean.Syntax.mkStrLit (p ++ s.getString)
  `(tactic| first | k_extra $t | k_extra $s)
namespace Mine
theorem grpA : True := trivial
end Mine
local macro_rules | `(tactic| walk_at $_:str) => Lean.Macro.throwUnsupported
section
namespace Mine
open PySem.Spec PySem.Calls
noncomputable def shares : TK → Bool
  | .str .. | .arr .. | .dict _ => true
  | _ => false
noncomputable def localU : TK → Bool
  | .str g _ _ | .arr _ g _ _ | .dict g => !g
  | _ => false
noncomputable def accU (U : TK) (ac : Int) : Int := if isDict U then 3 else ac
noncomputable def BodyR (G : Heap) (U : TK) (v r : Value) : Prop := match U with
  | .dict g => ∃ bd, r = .ref bd ∧ v = .ref bd ∧ DictH G bd g
  | .str g st mn => ∃ sp bd ts tm, v = .ref sp ∧ r = .ref bd ∧ SpF G sp bd st mn ts tm ∧ TextH G bd g
  | .arr _ g st mn => ∃ sp bd ts tm, v = .ref sp ∧ r = .ref bd ∧ SpF G sp bd st mn ts tm ∧ RowH G bd g
  | _ => r = .none
theorem BodyR.or {G : Heap} {U : TK} {v r : Value} (h : BodyR G U v r) : (∃ bd, r = .ref bd ∧ shares U = true) ∨ (r = .none ∧ shares U = false) := by
  cases U <;> first | exact .inr ⟨h, rfl⟩ | (obtain ⟨bd, h1, _⟩ := h; exact .inl ⟨bd, h1, rfl⟩) | (obtain ⟨sp, bd, ts, tm, h0, h1, _⟩ := h; exact .inl ⟨bd, h1, rfl⟩)
theorem kd_is (U : TK) (k : KD) : (kindS U == k.s) = decide (kdOf U = k) := kd_inj _ _
theorem isNum_eq (U : TK) : (kindS U == Str.ofString "integer" || kindS U == Str.ofString "real") = isNum U := by
  show (kindS U == KD.integer.s || kindS U == KD.real.s) = isNum U
  rw [kd_is, kd_is]
  cases U <;> first | rfl | (rename_i pk _ _ _; cases pk <;> rfl)
theorem isArr_eq (U : TK) : (kindS U == Str.ofString "array" || kindS U == Str.ofString "packed") = isArr U := by
  show (kindS U == KD.array.s || kindS U == KD.packed.s) = isArr U
  rw [kd_is, kd_is]
  cases U <;> first | rfl | (rename_i pk _ _ _; cases pk <;> rfl)
theorem isStr_eq (U : TK) : (kindS U == Str.ofString "string") = isStr U := by
  show (kindS U == KD.string.s) = isStr U
  rw [kd_is]
  cases U <;> first | rfl | (rename_i pk _ _ _; cases pk <;> rfl)
theorem isDict_eq (U : TK) : (kindS U == Str.ofString "dict") = isDict U := by
  show (kindS U == KD.dict.s) = isDict U
  rw [kd_is]
  cases U <;> first | rfl | (rename_i pk _ _ _; cases pk <;> rfl)
theorem no_gstate (U : TK) : (kindS U == Str.ofString "gstate") = false := by
  show ((kdOf U).s == _) = false
  cases kdOf U <;> kernel_rfl
theorem no_file (U : TK) : (kindS U == Str.ofString "file") = false := by
  show ((kdOf U).s == _) = false
  cases kdOf U <;> kernel_rfl
theorem arr_of {U : TK} (h : isArr U = true) : ∃ pk g st mn, U = .arr pk g st mn := by
  cases U <;> first | exact ⟨_, _, _, _, rfl⟩ | cases h
theorem lnRo20 (w : World) : (hd.heap_39 w.params).In = (hd.heap_39 w.params).In ∧ PySem.Challenge.rw_on0261_01 = PySem.Challenge.rw_on0261_01 := by
  k_fill
  k_with "getAttr ref" => (k_here; k_dflt (refine' getF ?F_q ?X_q ?I_q ?S_q ?c_q ?v_q ?_; (case F_q => with_reducible assumption); (case X_q => with_reducible assumption); (case I_q => with_reducible assumption); (case S_q => with_reducible assumption); (case c_q => exact cls_ok _ (_, _) (by repeat (first | exact List.Mem.head _ | apply List.Mem.tail))); (case v_q => rfl); k_whole))
  k_with "Lf" => with_reducible refine Lf.go ?_
  k_with "Lf" => with_reducible refine Lf.goI ?_
  k_with "execs cons" => with_reducible refine W.cons ?_
  k_with "execs nil" => with_reducible refine W.nil ?_
  k_with "exec If" => with_reducible refine W.If ?_
  k_with "eval IfExp" => with_reducible refine W.IfE ?_
  k_with "exec Return some" => with_reducible refine W.Return ?_
  k_with "exec Assign" => k_dflt ((with_reducible refine W.Assign ?_ ?h_q); (case h_q => (intro P9; rfl)))
  k_with "eval Constant int" => with_reducible refine W.int ?_
  k_with "eval Constant str" => with_reducible refine W.str ?_
  k_with "eval Constant bytes" => with_reducible refine W.bytes ?_
  k_with "eval Constant none" => with_reducible refine W.noneC ?_
  k_with "eval Name" => k_dflt (refine' W.nameK ?K_q ?F_q ?e_q ?_; (case K_q => with_reducible assumption); (case F_q => with_reducible assumption); (case e_q => (intro P9; k_is)); k_whole)
  k_with "eval Name" => k_dflt (refine' W.name ?F_q ?v_q ?_; (case F_q => with_reducible assumption); (case v_q => exact rfl); k_whole)
  k_with "eval Attribute Name" => k_dflt ((with_reducible refine W.attrN ?_ ?h_q); (case h_q => (intro P9; with_unfolding_all rfl)))
  k_with "getAttr ref" => k_dflt (refine' W.getF ?K_q ?F_q ?I_q ?S_q ?c_q ?v_q ?_; (case K_q => with_reducible assumption); (case F_q => with_reducible assumption); (case I_q => with_reducible assumption); (case S_q => with_reducible assumption); (case c_q => (intro P9; exact cls_ok _ (_, _) (by repeat (first | exact List.Mem.head _ | apply List.Mem.tail)))); (case v_q => rfl); k_whole)
  k_with "isTrue Compare" => k_dflt ((with_reducible refine W.cmpT ?_ ?h_q); (case h_q => with_unfolding_all rfl))
  k_with "eval Compare" => k_dflt ((with_reducible refine W.cmp ?_ ?h_q); (case h_q => with_unfolding_all rfl))
  k_with "truthy bool" => with_reducible refine W.truth ?_
  k_with "eval BinOp" => with_reducible refine W.bin ?_
  k_with "eval Subscript" => with_reducible refine W.sub ?_
  k_with "spliced" => k_dflt (first | with_reducible refine W.argN ?_ | ((with_reducible refine W.arg ?_ ?h_q); (case h_q => (intro P9; rfl))))
  k_with "eval Tuple" => with_reducible refine W.tuple ?_
  k_with "eval List" => with_reducible refine W.list ?_
  k_with "newTuple" => k_dflt (refine' W.newTuple ?F_q ?N_q ?_ ?z_q; (case F_q => with_reducible assumption); (case N_q => with_reducible assumption); (case z_q => size_fits); k_whole; intro D9 h9 F9 N9 b9; (try k_lt b9); (try k_sweep))
  k_with "newList" => k_dflt (refine' W.newList ?F_q ?N_q ?_ ?z_q; (case F_q => with_reducible assumption); (case N_q => with_reducible assumption); (case z_q => size_fits); k_whole; intro D9 h9 F9 N9 b9; (try k_lt b9); (try k_sweep))
  k_with "eval Call" => k_dflt ((with_reducible refine W.Call ?_ ?h_q); (case h_q => (intro P9; rfl)))
  k_with "callWith ref" => k_dflt (refine' W.callWith ?K_q ?k_q ?_; (case K_q => with_reducible assumption); (case k_q => (intro P9; k_is)); k_whole)
  k_with "KCallA" => k_dflt (refine' KCallA.go ?K_q ?F_q ?_; (case K_q => with_reducible assumption); (case F_q => with_reducible assumption); k_whole)
  k_with "storeName" => k_dflt (refine' W.store ?F_q ?N_q ?_; (case F_q => with_reducible assumption); (case N_q => with_reducible assumption); k_whole; intro h9 F9 N9; (try k_sweep))
  k_with "AtR" => k_dflt (first
      | (refine' RetR.ret ?a_q ?b_q ?_; (case a_q => with_reducible assumption); (case b_q => with_reducible assumption); k_whole)
      | (refine' RetR.nxt ?a_q ?b_q ?_; (case a_q => with_reducible assumption); (case b_q => with_reducible assumption); k_whole)
      | (refine' RetC.nxt ?a_q ?b_q ?c_q ?_; (case a_q => with_reducible assumption); (case b_q => with_reducible assumption); (case c_q => with_reducible assumption); k_whole))
  k_with "AtE" => k_dflt (first
          | (refine' ExcR.r ?a_q ?b_q ?c_q ?d_q ?_; (case a_q => with_reducible assumption); (case c_q => with_reducible assumption); (case b_q => with_reducible assumption); (case d_q => first | with_reducible assumption | exact fun _ _ h => h))
          | (refine' ExcR.p ?a_q ?b_q ?c_q ?_; (case a_q => with_reducible assumption); (case c_q => with_reducible assumption); (case b_q => with_reducible assumption)))
  k_with "isTrue BoolOp" => first | with_reducible refine W.andN ?_ | with_reducible refine W.orN ?_ | with_reducible refine W.and ?_ | with_reducible refine W.or ?_
  k_with "isTrue UnaryOp" => with_reducible refine W.notT ?_
  k_with "isTrue" => k_dflt ((with_reducible refine W.plain ?_ ?h_q); (case h_q => (intro P9 P8; rfl)))
  k_with "eval BoolOp" => first | with_reducible refine W.bool1 ?_ | with_reducible refine W.band ?_ | with_reducible refine W.bor ?_
  k_with "eval UnaryOp" => with_reducible refine W.un ?_
  k_with "eval Attribute" => k_dflt ((with_reducible refine W.attr ?_ ?h_q); (case h_q => (intro P9; with_unfolding_all rfl)))
  k_with "exec Raise some none" => with_reducible refine W.raise ?_
  k_with "KRaise" => k_dflt (refine' KRaise.go ?P_q ?F_q ?K_q ?_; (case P_q => with_reducible assumption); (case F_q => with_reducible assumption); (case K_q => with_reducible assumption); k_whole)
  k_with "KIf" => first | with_reducible refine KIf.t rfl ?_ | with_reducible refine KIf.f rfl ?_ | with_reducible refine KIf.t (by with_reducible assumption) ?_ | with_reducible refine KIf.f (by with_reducible assumption) ?_ | (refine KIf.t (by decide) ?_) | (refine KIf.f (by decide) ?_) | with_reducible refine KIf.go ?_
  k_with "KIfE" => first | with_reducible refine KIfE.t rfl ?_ | with_reducible refine KIfE.f rfl ?_ | with_reducible refine KIfE.t (by with_reducible assumption) ?_ | with_reducible refine KIfE.f (by with_reducible assumption) ?_ | (refine KIfE.t (by decide) ?_) | (refine KIfE.f (by decide) ?_) | with_reducible refine KIfE.go ?_
  k_with "KAnd" => first | with_reducible refine KAnd.t rfl ?_ | with_reducible refine KAnd.f rfl ?_ | with_reducible refine KAnd.t (by with_reducible assumption) ?_ | with_reducible refine KAnd.f (by with_reducible assumption) ?_ | (refine KAnd.t (by decide) ?_) | (refine KAnd.f (by decide) ?_) | with_reducible refine KAnd.go ?_
  k_with "KOr" => first | with_reducible refine KOr.t rfl ?_ | with_reducible refine KOr.f rfl ?_ | with_reducible refine KOr.t (by with_reducible assumption) ?_ | with_reducible refine KOr.f (by with_reducible assumption) ?_ | (refine KOr.t (by decide) ?_) | (refine KOr.f (by decide) ?_) | with_reducible refine KOr.go ?_
  k_with "KBAnd2" => first | with_reducible refine KBAnd2.t rfl ?_ | with_reducible refine KBAnd2.f rfl ?_ | with_reducible refine KBAnd2.t (by with_reducible assumption) ?_ | with_reducible refine KBAnd2.f (by with_reducible assumption) ?_ | (refine KBAnd2.t (by decide) ?_) | (refine KBAnd2.f (by decide) ?_) | with_reducible refine KBAnd2.go ?_
  k_with "KBOr2" => first | with_reducible refine KBOr2.t rfl ?_ | with_reducible refine KBOr2.f rfl ?_ | with_reducible refine KBOr2.t (by with_reducible assumption) ?_ | with_reducible refine KBOr2.f (by with_reducible assumption) ?_ | (refine KBOr2.t (by decide) ?_) | (refine KBOr2.f (by decide) ?_) | with_reducible refine KBOr2.go ?_
  k_with "eval Attribute Name" => k_dflt (refine' W.nattr ?K_q ?F_q ?v_q ?I_q ?S_q ?c_q ?l_q ?_; (case K_q => with_reducible assumption); (case F_q => with_reducible assumption); (case v_q => exact rfl); (case I_q => with_reducible assumption); (case S_q => with_reducible assumption); (case c_q => (intro P9; exact cls_ok _ (_, _) (by repeat (first | exact List.Mem.head _ | apply List.Mem.tail)))); (case l_q => rfl); k_whole)
  k_with "isTrue Compare" => ((with_reducible show W _ _ _ (isTrue (Expr.Compare (Expr.Attribute (Expr.Name _ _) _ _) [CmpOp.Eq] [Expr.Constant (Const.str _) _ _] _) _ _) _); k_dflt (refine' W.kcmpT ?K_q ?F_q ?v_q ?I_q ?S_q ?c_q ?l_q ?_; (case K_q => with_reducible assumption); (case F_q => with_reducible assumption); (case v_q => exact rfl); (case I_q => with_reducible assumption); (case S_q => with_reducible assumption); (case c_q => (intro P9; exact cls_ok _ (_, _) (by repeat (first | exact List.Mem.head _ | apply List.Mem.tail)))); (case l_q => rfl); k_whole))
  k_with "spliced" => ((with_reducible show W _ _ _ (spliced (backTo _ (starEach (Expr.Name _ _ :: _) _))) _); k_dflt (refine' W.argn ?F_q ?v_q ?_; (case F_q => with_reducible assumption); (case v_q => exact rfl); k_whole))
  k_with "spliced" => ((with_reducible show W _ _ _ (spliced (backTo _ (starEach [Expr.Name _ _] _))) _); k_dflt (refine' W.argn1 ?F_q ?v_q ?_; (case F_q => with_reducible assumption); (case v_q => exact rfl); k_whole))
  k_with "execs cons" => with_reducible refine W.retL ?_
  k_with "eval Call" => ((with_reducible show W _ _ _ (eval (Expr.Call (Expr.Name _ _) (_ :: _) [] _) _) _); k_dflt (refine' W.callG ?K_q ?F_q ?n_q ?f_q ?_; (case K_q => with_reducible assumption); (case F_q => with_reducible assumption); (case n_q => (intro P9; k_is)); (case f_q => (intro P9; k_is)); k_whole))
  exact ⟨rfl, rfl⟩
local macro_rules | `(tactic| k_inst) => `(tactic| (refine' instB ?ia ?ib ?ic ?id; (case ia => with_reducible assumption); (case ib => with_reducible assumption); (case ic => with_reducible assumption); (case id => with_reducible assumption)))
theorem lnRo21 (w : World) : (hd.heap_39 w.params).In = (hd.heap_39 w.params).In ∧ PySem.Challenge.rw_on0261_01 = PySem.Challenge.rw_on0261_01 := by
  k_with "subscriptTail" => (k_here; (with_reducible show wpAny _ _ (subscriptTail _ (PySem.Expr.Slice _ _ none _) (Value.ref _) (Value.ref _)) _ _ _); k_dflt (refine' slice_baG ?F_q ?S_q ?I_q ?p_q ?q_q ?z_q ?_; (case F_q => with_reducible assumption); (case I_q => with_reducible assumption); (case S_q => first | exact stay_of (by with_reducible assumption) (by with_reducible assumption) | exact fun _ _ h => h); (case p_q => constructor); (case q_q => constructor); (case z_q => first | exact octs_line _ | exact picked_line _ _ _); k_whole; intro D9 h9 F9 S9 B9; (try (have N9 := stay_news (by with_reducible assumption) S9)); (try k_sweep)))
  k_with "call type:bytes" => (k_here; (with_reducible show wpAny _ _ (call (Value.type "bytes") [Value.ref _]) _ _ _); k_dflt (refine' bytes_baG ?S_q ?I_q ?z_q ?_; (case I_q => with_reducible assumption); (case S_q => first | exact fun _ _ h => h | exact stay_of (by with_reducible assumption) (by with_reducible assumption)); (case z_q => first | exact octs_line _ | exact picked_line _ _ _); k_whole; intro t9 k9))
  k_with "compareOp Eq ref ref" => (k_here; (with_reducible show wpAny _ _ (compareOp CmpOp.Eq (Value.ref _) (Value.ref _)) _ _ _); k_dflt (refine' tupEq_ln ?h_q ?k_q ?S_q ?u_q ?_; (case h_q => with_reducible assumption); (case k_q => with_reducible assumption); (case S_q => first | with_reducible assumption | exact fun _ _ h => h); (case u_q => (first | exact lt_add (Ok.u (by with_reducible assumption)) (by decide) | exact lt_add0 (Ok.u (by with_reducible assumption)) | ktr_units)); k_whole))
  k_with "compareOp Lt bytes bytes" => (k_here; k_dflt (refine' ltB_ln ?_; k_whole))
  exact ⟨rfl, rfl⟩
theorem is_number_c (w : World) (G : Heap) (x : Addr) (U : TK) (v : Value) (e : Bool) (ac : Int) (tk ta : Tok) (I : ThF G x (kindS U) v e ac tk ta) :
    RO 3 w 197 [.ref x] G (fun _ _ r => r = .bool (isNum U)) (fun _ => False) := by
  refine RO.intro (k := 2) [(Str.ofString "thing", .ref x)] (by k_is) (by k_is) (by intro s X; exact BindsTo.of_eq rfl) rfl (by decide) rfl rfl rfl ?_
  intro C sh g h₁ tkk Q K F' N' KS' S' hret hexc
  have X' := K.X
  have T' := K.T
  k_steps
  all_goals refine Due.mk ?_
  all_goals (rw [← isNum_eq]; simp_all)
theorem is_in_array_c (w : World) (G : Heap) (x : Addr) (U : TK) (v : Value) (e : Bool) (ac : Int) (tk ta : Tok) (I : ThF G x (kindS U) v e ac tk ta) :
    RO 3 w 211 [.ref x] G (fun _ _ r => r = .bool (isArr U)) (fun _ => False) := by
  refine RO.intro (k := 2) [(Str.ofString "thing", .ref x)] (by k_is) (by k_is) (by intro s X; exact BindsTo.of_eq rfl) rfl (by decide) rfl rfl rfl ?_
  intro C sh g h₁ tkk Q K F' N' KS' S' hret hexc
  have X' := K.X
  have T' := K.T
  k_steps
  all_goals refine Due.mk ?_
  all_goals (rw [← isArr_eq]; simp_all)
theorem lnRo22 (w : World) : (hd.heap_39 w.params).In = (hd.heap_39 w.params).In ∧ PySem.Challenge.rw_on0261_01 = PySem.Challenge.rw_on0261_01 := by
  k_with "r0" => (k_here; (with_reducible show W _ _ _ (call (Value.ref 211) _) _); k_dflt (refine' W.ro_v (is_in_array_c _ _ _ _ _ _ _ _ _ ?I_q) ?KO_q ?FR_q ?ST_q ?_ ?exc_q ?HK_q; (case KO_q => with_reducible assumption); (case HK_q => decide); (case FR_q => with_reducible assumption); (case I_q => with_reducible assumption); (case ST_q => first | exact stay_of (by with_reducible assumption) (by with_reducible assumption) | exact fun _ _ h => h | exact noH_in _); (case exc_q => exact fun _ _ _ _ h => h.elim); k_whole; intro h9 tk9 F9 S9; (try (have N9 := stay_news (by with_reducible assumption) S9)); (try k_sweep)))
  k_with "A:call ref" => k_extra "r0"
  exact ⟨rfl, rfl⟩
theorem access_of_c (w : World) (G : Heap) (x : Addr) (U : TK) (v : Value) (e : Bool) (ac : Int) (tk ta : Tok) (I : ThF G x (kindS U) v e ac tk ta) (H : ValH G U v) :
    RO 3 w 239 [.ref x] G (fun _ _ r => ∃ t, r = .int (accU U ac) t) (fun _ => False) := by
  refine RO.intro (k := 2) [(Str.ofString "thing", .ref x)] (by k_is) (by k_is) (by intro s X; exact BindsTo.of_eq rfl) rfl (by decide) rfl rfl rfl ?_
  intro C sh g h₁ tkk Q K F' N' KS' S' hret hexc
  have X' := K.X
  have T' := K.T
  k_steps
  · obtain ⟨g1, rfl⟩ := kd_dict (by assumption)
    obtain ⟨bd, rfl, tn, ta', D⟩ := H
    k_steps
    exact Due.mk ⟨_, rfl⟩
  · refine Due.mk ⟨ta, ?_⟩
    rw [accU, ← isDict_eq]
    simp_all
theorem lnRo23 (w : World) : (hd.heap_39 w.params).In = (hd.heap_39 w.params).In ∧ PySem.Challenge.rw_on0261_01 = PySem.Challenge.rw_on0261_01 := by
  k_with "A:call ref" => (k_here; (with_reducible show W _ _ _ (call (Value.ref 239) _) _); k_dflt (refine' W.ro_t (access_of_c _ _ _ _ _ _ _ _ _ ?I_q ?H_q) ?KO_q ?FR_q ?ST_q ?_ ?exc_q ?HK_q; (case KO_q => with_reducible assumption); (case HK_q => decide); (case FR_q => with_reducible assumption); (case I_q => with_reducible assumption); (case H_q => with_reducible assumption); (case ST_q => first | exact stay_of (by with_reducible assumption) (by with_reducible assumption) | exact fun _ _ h => h | exact noH_in _); (case exc_q => exact fun _ _ _ _ h => h.elim); k_whole; intro t9 h9 tk9 F9 S9; (try (have N9 := stay_news (by with_reducible assumption) S9)); (try k_sweep)))
  exact ⟨rfl, rfl⟩
theorem can_read_c (w : World) (G : Heap) (x : Addr) (U : TK) (v : Value) (e : Bool) (ac : Int) (tk ta : Tok) (I : ThF G x (kindS U) v e ac tk ta) (H : ValH G U v) :
    RO 6 w 246 [.ref x] G (fun _ _ r => r = .bool (decide (2 ≤ accU U ac))) (fun _ => False) := by
  refine RO.intro (k := 5) [(Str.ofString "thing", .ref x)] (by k_is) (by k_is) (by intro s X; exact BindsTo.of_eq rfl) rfl (by decide) rfl rfl rfl ?_
  intro C sh g h₁ tkk Q K F' N' KS' S' hret hexc
  have X' := K.X
  have T' := K.T
  k_steps
  all_goals refine Due.mk ?_
  all_goals first | rfl | simp_all
theorem can_write_c (w : World) (G : Heap) (x : Addr) (U : TK) (v : Value) (e : Bool) (ac : Int) (tk ta : Tok) (I : ThF G x (kindS U) v e ac tk ta) (H : ValH G U v) :
    RO 6 w 253 [.ref x] G (fun _ _ r => r = .bool (decide (accU U ac = 3))) (fun _ => False) := by
  refine RO.intro (k := 5) [(Str.ofString "thing", .ref x)] (by k_is) (by k_is) (by intro s X; exact BindsTo.of_eq rfl) rfl (by decide) rfl rfl rfl ?_
  intro C sh g h₁ tkk Q K F' N' KS' S' hret hexc
  have X' := K.X
  have T' := K.T
  k_steps
  all_goals refine Due.mk ?_
  all_goals first | rfl | simp_all
theorem can_run_c (w : World) (G : Heap) (x : Addr) (U : TK) (v : Value) (e : Bool) (ac : Int) (tk ta : Tok) (I : ThF G x (kindS U) v e ac tk ta) (H : ValH G U v) :
    RO 6 w 260 [.ref x] G (fun _ _ r => r = .bool (decide (1 ≤ accU U ac))) (fun _ => False) := by
  refine RO.intro (k := 5) [(Str.ofString "thing", .ref x)] (by k_is) (by k_is) (by intro s X; exact BindsTo.of_eq rfl) rfl (by decide) rfl rfl rfl ?_
  intro C sh g h₁ tkk Q K F' N' KS' S' hret hexc
  have X' := K.X
  have T' := K.T
  k_steps
  all_goals refine Due.mk ?_
  all_goals first | rfl | simp_all
theorem body_of_c (w : World) (G : Heap) (x : Addr) (U : TK) (v : Value) (e : Bool) (ac : Int) (tk ta : Tok) (I : ThF G x (kindS U) v e ac tk ta) (H : ValH G U v) :
    RO 6 w 218 [.ref x] G (fun _ _ r => BodyR G U v r) (fun _ => False) := by
  refine RO.intro (k := 5) [(Str.ofString "thing", .ref x)] (by k_is) (by k_is) (by intro s X; exact BindsTo.of_eq rfl) rfl (by decide) rfl rfl rfl ?_
  intro C sh g h₁ tkk Q K F' N' KS' S' hret hexc
  have X' := K.X
  have T' := K.T
  k_steps
  · obtain ⟨g1, rfl⟩ := kd_dict (by assumption)
    obtain ⟨bd, rfl, D⟩ := H
    exact Due.mk ⟨bd, rfl, rfl, D⟩
  · obtain ⟨g1, st, mn, rfl⟩ := kd_string (by assumption)
    obtain ⟨sp, bd, ts, tm, rfl, I2, H2⟩ := H
    k_steps
    exact Due.mk ⟨sp, bd, ts, tm, rfl, rfl, I2, H2⟩
  · obtain ⟨pk, g1, st, mn, rfl⟩ := arr_of (by assumption)
    obtain ⟨sp, bd, ts, tm, rfl, I2, H2⟩ := H
    k_steps
    exact Due.mk ⟨sp, bd, ts, tm, rfl, rfl, I2, H2⟩
  · simp only [isDict_eq, isStr_eq] at *
    cases U <;> first | exact Due.mk rfl | simp_all [isDict, isStr, isArr]
theorem lnRo24 (w : World) : (hd.heap_39 w.params).In = (hd.heap_39 w.params).In ∧ PySem.Challenge.rw_on0261_01 = PySem.Challenge.rw_on0261_01 := by
  k_with "r1" => (k_here; (with_reducible show W _ _ _ (call (Value.ref 218) _) _); k_dflt (refine' W.ro (body_of_c _ _ _ _ _ _ _ _ _ ?I_q ?H_q) ?KO_q ?FR_q ?ST_q ?_ ?exc_q ?HK_q; (case KO_q => with_reducible assumption); (case HK_q => decide); (case FR_q => with_reducible assumption); (case I_q => with_reducible assumption); (case H_q => with_reducible assumption); (case ST_q => first | exact stay_of (by with_reducible assumption) (by with_reducible assumption) | exact fun _ _ h => h | exact noH_in _); (case exc_q => exact fun _ _ _ _ h => h.elim); k_whole; intro r9 h9 tk9 F9 S9 P9; (try (have N9 := stay_news (by with_reducible assumption) S9)); (try k_sweep)))
  k_with "A:call ref" => k_extra "r1"
  exact ⟨rfl, rfl⟩
theorem is_composite_c (w : World) (G : Heap) (x : Addr) (U : TK) (v : Value) (e : Bool) (ac : Int) (tk ta : Tok) (I : ThF G x (kindS U) v e ac tk ta) (H : ValH G U v) :
    RO 9 w 225 [.ref x] G (fun _ _ r => r = .bool (shares U)) (fun _ => False) := by
  refine RO.intro (k := 8) [(Str.ofString "thing", .ref x)] (by k_is) (by k_is) (by intro s X; exact BindsTo.of_eq rfl) rfl (by decide) rfl rfl rfl ?_
  intro C sh g h₁ tkk Q K F' N' KS' S' hret hexc
  have X' := K.X
  have T' := K.T
  have hgs := no_gstate U; have hfi := no_file U
  k_steps
  all_goals (have hor := BodyR.or (by assumption); rcases hor with ⟨bd, hr, hs⟩ | ⟨hr, hs⟩ <;> subst hr <;> k_steps)
  all_goals (refine Due.mk ?_; simp_all)
end Mine
end
section
namespace Mine
open PySem.Spec PySem.Calls
theorem lnRo30 (w : World) : (hd.heap_39 w.params).In = (hd.heap_39 w.params).In ∧ PySem.Challenge.rw_on0261_01 = PySem.Challenge.rw_on0261_01 := by
  k_fill
  exact ⟨rfl, rfl⟩
local macro_rules | `(tactic| k_inst) => `(tactic| (refine' instB ?ia ?ib ?ic ?id; (case ia => with_reducible assumption); (case ib => with_reducible assumption); (case ic => with_reducible assumption); (case id => with_reducible assumption)))
theorem lnRo31 (w : World) : (hd.heap_39 w.params).In = (hd.heap_39 w.params).In ∧ PySem.Challenge.rw_on0261_01 = PySem.Challenge.rw_on0261_01 := by
  exact ⟨rfl, rfl⟩
theorem call_Thing (w : World) (G : Heap) (a1 a2 a3 a4 : Value) (q1 : handedIn a1 = true) (q2 : handedIn a2 = true) (q3 : handedIn a3 = true) (q4 : handedIn a4 = true) :
    RO 3 w 73 [a1, a2, a3, a4] G (fun h h1 r => ∃ y, r = .ref y ∧ NewF h h1 y 73 [(Str.ofString "kind", a1), (Str.ofString "value", a2), (Str.ofString "is_exec", a3), (Str.ofString "access", a4)]) (fun _ => False) := by
  refine RO.introC (fun x => [(Str.ofString "self", .ref x), (Str.ofString "kind", a1), (Str.ofString "value", a2), (Str.ofString "is_exec", a3), (Str.ofString "access", a4)]) (by k_is) (by k_is) (by k_is) (by k_is) (by k_is) (by intro x s X; exact binds_K (by k_in) rfl (by k_is) rfl rfl rfl) (by intro x; rfl) (by decide) rfl rfl rfl ?_
  intro C sh h' g h₁ tkk x dx Q K F' N' S1 KS nx nd hlt S hret
  have X' := K.X
  have T' := K.T
  k_steps
  refine Due.mk ⟨_, rfl, _, _, _, nx, nd, News.get (by assumption) (.head _), News.get (by assumption) (.tail _ (.head _)), ?_⟩
  simp only [List.forall_mem_cons]
  exact ⟨⟨rfl, q1⟩, ⟨rfl, q2⟩, ⟨rfl, q3⟩, ⟨rfl, q4⟩, fun _ h => nomatch h⟩
theorem call_Span (w : World) (G : Heap) (a1 a2 a3 : Value) (q1 : handedIn a1 = true) (q2 : handedIn a2 = true) (q3 : handedIn a3 = true) :
    RO 3 w 171 [a1, a2, a3] G (fun h h1 r => ∃ y, r = .ref y ∧ NewF h h1 y 171 [(Str.ofString "body", a1), (Str.ofString "start", a2), (Str.ofString "many", a3)]) (fun _ => False) := by
  refine RO.introC (fun x => [(Str.ofString "self", .ref x), (Str.ofString "body", a1), (Str.ofString "start", a2), (Str.ofString "many", a3)]) (by k_is) (by k_is) (by k_is) (by k_is) (by k_is) (by intro x s X; exact BindsTo.of_eq rfl) (by intro x; rfl) (by decide) rfl rfl rfl ?_
  intro C sh h' g h₁ tkk x dx Q K F' N' S1 KS nx nd hlt S hret
  have X' := K.X
  have T' := K.T
  k_steps
  refine Due.mk ⟨_, rfl, _, _, _, nx, nd, News.get (by assumption) (.head _), News.get (by assumption) (.tail _ (.head _)), ?_⟩
  simp only [List.forall_mem_cons]
  exact ⟨⟨rfl, q1⟩, ⟨rfl, q2⟩, ⟨rfl, q3⟩, fun _ h => nomatch h⟩
end Mine
end
section
namespace Mine
open PySem.Spec PySem.Calls
theorem lnRo40 (w : World) : (hd.heap_39 w.params).In = (hd.heap_39 w.params).In ∧ PySem.Challenge.rw_on0261_01 = PySem.Challenge.rw_on0261_01 := by
  k_fill
  exact ⟨rfl, rfl⟩
local macro_rules | `(tactic| k_inst) => `(tactic| (refine' instB ?ia ?ib ?ic ?id; (case ia => with_reducible assumption); (case ib => with_reducible assumption); (case ic => with_reducible assumption); (case id => with_reducible assumption)))
theorem lnRo41 (w : World) : (hd.heap_39 w.params).In = (hd.heap_39 w.params).In ∧ PySem.Challenge.rw_on0261_01 = PySem.Challenge.rw_on0261_01 := by
  k_with "A:call ref" => k_extra "r1"
  k_with "r2" => (k_here; (with_reducible show W _ _ _ (call (Value.ref 73) _) _); k_dflt (refine' W.ro_e0 (call_Thing _ _ _ _ _ _ ?q1_q ?q2_q ?q3_q ?q4_q) ?KO_q ?FR_q ?ST_q ?_ ?exc_q ?HK_q; (case KO_q => with_reducible assumption); (case HK_q => decide); (case FR_q => with_reducible assumption); (case q1_q => first | exact rfl | assumption); (case q2_q => first | exact rfl | assumption); (case q3_q => first | exact rfl | assumption); (case q4_q => first | exact rfl | assumption); (case ST_q => first | exact stay_of (by with_reducible assumption) (by with_reducible assumption) | exact fun _ _ h => h | exact noH_in _); (case exc_q => exact fun _ _ _ _ h => h.elim); k_whole; intro y9 h9 tk9 F9 S9 P9; (try (have N9 := stay_news (by with_reducible assumption) S9)); (replace P9 := NewF.up (Fr.keep (by with_reducible assumption)) P9); (try k_sweep)))
  k_with "A:call ref" => k_extra "r2"
  exact ⟨rfl, rfl⟩
theorem ValH.handed {G : Heap} {U : TK} {v : Value} (H : ValH G U v) : handedIn v = true := by
  cases U <;> first | (obtain ⟨t, rfl⟩ := H; rfl) | (obtain rfl := H; rfl) | (obtain ⟨bd, rfl, _⟩ := H; rfl) | (obtain ⟨sp, bd, ts, tm, rfl, _⟩ := H; rfl)
noncomputable def milU : TK → Int
  | .int i => i * 1000000
  | .real i => i
  | _ => 0
noncomputable def numB : TK → Prop
  | .int i => -10 ≤ i ∧ i ≤ 10
  | .real i => -10000000 ≤ i ∧ i ≤ 10000000
  | _ => True
theorem num_of {U : TK} (h : isNum U = true) : (∃ i, U = .int i) ∨ ∃ i, U = .real i := by
  cases U <;> first | exact .inl ⟨_, rfl⟩ | exact .inr ⟨_, rfl⟩ | cases h
theorem has_access_c (w : World) (G : Heap) (x : Addr) (U : TK) (v : Value) (e : Bool) (ac : Int) (tk ta : Tok) (I : ThF G x (kindS U) v e ac tk ta) (H : ValH G U v) :
    RO 9 w 267 [.ref x] G (fun _ _ r => r = .bool (shares U)) (fun _ => False) := by
  refine RO.intro (k := 8) [(Str.ofString "thing", .ref x)] (by k_is) (by k_is) (by intro s X; exact BindsTo.of_eq rfl) rfl (by decide) rfl rfl rfl ?_
  intro C sh g h₁ tkk Q K F' N' KS' S' hret hexc
  have X' := K.X
  have T' := K.T
  have hfi := no_file U
  k_steps
  all_goals (have hor := BodyR.or (by assumption); rcases hor with ⟨bd, hr, hs⟩ | ⟨hr, hs⟩ <;> subst hr <;> k_steps)
  all_goals (refine Due.mk ?_; simp_all)
theorem Fld.sub {h : Heap} {x C : Addr} {fs fs' : List (Str × Value)} (I : Fld h x C fs) (k : ∀ p ∈ fs', p ∈ fs) : Fld h x C fs' :=
  let ⟨sl, d, es, n, h1, h2, h3⟩ := I; ⟨sl, d, es, n, h1, h2, fun p hp => h3 p (k p hp)⟩
noncomputable def numOf : TK → Int
  | .str g _ _ => if g then 2 else 1
  | .arr _ g _ _ => if g then 4 else 3
  | .dict g => if g then 6 else 5
  | _ => 0
theorem BodyR.glob {G : Heap} {U : TK} {v r : Value} (h : BodyR G U v r) :
    (∃ bd g tn, r = .ref bd ∧ localU U = !g ∧ shares U = true ∧ (Fld G bd 94 [(Str.ofString "number", .int (numOf U) tn), (Str.ofString "is_global", .bool g)] ∨ Fld G bd 115 [(Str.ofString "number", .int (numOf U) tn), (Str.ofString "is_global", .bool g)] ∨ Fld G bd 150 [(Str.ofString "number", .int (numOf U) tn), (Str.ofString "is_global", .bool g)]))
    ∨ (r = .none ∧ localU U = false ∧ shares U = false) := by
  cases U with
  | dict g => obtain ⟨bd, h1, h2, tn, ta, D⟩ := h; exact .inl ⟨bd, g, tn, h1, rfl, rfl, .inr (.inr (D.sub fun p hp => by simp only [List.mem_cons, List.not_mem_nil, or_false] at hp ⊢; rcases hp with rfl | rfl <;> simp [numOf]))⟩
  | str g st mn => obtain ⟨sp, bd, ts, tm, h0, h1, h2, ba, tn, D, _⟩ := h; exact .inl ⟨bd, g, tn, h1, rfl, rfl, .inl (D.sub fun p hp => by simp only [List.mem_cons, List.not_mem_nil, or_false] at hp ⊢; rcases hp with rfl | rfl <;> simp [numOf])⟩
  | arr pk g st mn => obtain ⟨sp, bd, ts, tm, h0, h1, h2, l, tn, D, _⟩ := h; exact .inl ⟨bd, g, tn, h1, rfl, rfl, .inr (.inl (D.sub fun p hp => by simp only [List.mem_cons, List.not_mem_nil, or_false] at hp ⊢; rcases hp with rfl | rfl <;> simp [numOf]))⟩
  | _ => exact .inr ⟨h, rfl, rfl⟩
theorem is_local_c (w : World) (G : Heap) (x : Addr) (U : TK) (v : Value) (e : Bool) (ac : Int) (tk ta : Tok) (I : ThF G x (kindS U) v e ac tk ta) (H : ValH G U v) :
    RO 9 w 232 [.ref x] G (fun _ _ r => r = .bool (localU U)) (fun _ => False) := by
  refine RO.intro (k := 8) [(Str.ofString "thing", .ref x)] (by k_is) (by k_is) (by intro s X; exact BindsTo.of_eq rfl) rfl (by decide) rfl rfl rfl ?_
  intro C sh g h₁ tkk Q K F' N' KS' S' hret hexc
  have X' := K.X
  have T' := K.T
  k_steps
  all_goals (have hor := BodyR.glob (by assumption); rcases hor with ⟨bd, g0, tn, hr, hs, hs2, D | D | D⟩ | ⟨hr, hs, hs2⟩ <;> subst hr <;> k_steps)
  all_goals (refine Due.mk ?_; simp_all)
theorem with_exec_c (w : World) (G : Heap) (x : Addr) (U : TK) (v : Value) (e : Bool) (ac : Int) (tk ta : Tok) (I : ThF G x (kindS U) v e ac tk ta) (H : ValH G U v) (e' : Bool) :
    RO 6 w 274 [.ref x, .bool e'] G (fun h h1 r => ∃ y tk' ta', r = .ref y ∧ NewF h h1 y 73 (ThFs (kindS U) v e' ac tk' ta')) (fun _ => False) := by
  refine RO.intro (k := 5) [(Str.ofString "thing", .ref x), (Str.ofString "is_exec", .bool e')] (by k_is) (by k_is) (by intro s X; exact BindsTo.of_eq rfl) rfl (by decide) rfl rfl rfl ?_
  intro C sh g h₁ tkk Q K F' N' KS' S' hret hexc
  have X' := K.X
  have T' := K.T
  have hv := ValH.handed H
  k_steps
  rename NewF _ _ _ _ _ => p1
  exact Due.mk ⟨_, _, _, rfl, p1.up KS'⟩
theorem in_millionths_c (w : World) (G : Heap) (x : Addr) (U : TK) (v : Value) (e : Bool) (ac : Int) (tk ta : Tok) (I : ThF G x (kindS U) v e ac tk ta) (H : ValH G U v) (hn : isNum U = true) (hb : numB U) :
    RO 6 w 204 [.ref x] G (fun _ _ r => ∃ t, r = .int (milU U) t) (fun _ => False) := by
  refine RO.intro (k := 5) [(Str.ofString "thing", .ref x)] (by k_is) (by k_is) (by intro s X; exact BindsTo.of_eq rfl) rfl (by decide) rfl rfl rfl ?_
  intro C sh g h₁ tkk Q K F' N' KS' S' hret hexc
  have X' := K.X
  have T' := K.T
  k_steps
  · obtain ⟨i, rfl⟩ := kd_integer (by assumption)
    obtain ⟨ti, rfl⟩ := H
    have hb1 : -10 ≤ i := hb.1
    have hb2 : i ≤ 10 := hb.2
    k_steps
    exact Due.mk ⟨_, rfl⟩
  · obtain ⟨i, rfl⟩ := kd_real (by assumption)
    obtain ⟨ti, rfl⟩ := H
    exact Due.mk ⟨_, rfl⟩
  · exfalso
    rw [← isNum_eq] at hn
    simp_all
theorem is_text_span_c (w : World) (G : Heap) (sp bd : Addr) (st mn : Int) (ts tm : Tok) (I : SpF G sp bd st mn ts tm) (tx g0 : Bool) (H : if tx then TextH G bd g0 else RowH G bd g0) :
    RO 6 w 309 [.ref sp] G (fun _ _ r => r = .bool tx) (fun _ => False) := by
  refine RO.intro (k := 5) [(Str.ofString "span", .ref sp)] (by k_is) (by k_is) (by intro s X; exact BindsTo.of_eq rfl) rfl (by decide) rfl rfl rfl ?_
  intro C sh g h₁ tkk Q K F' N' KS' S' hret hexc
  have X' := K.X
  have T' := K.T
  k_steps
  cases tx
  · obtain ⟨l, tn, D, _⟩ := H
    obtain ⟨sl, d, es, n, h1, h2, h3⟩ := D
    k_steps
    exact Due.mk rfl
  · obtain ⟨ba, tn, D, _⟩ := H
    obtain ⟨sl, d, es, n, h1, h2, h3⟩ := D
    k_steps
    exact Due.mk rfl
noncomputable def KD.ty : KD → Array UInt8
  | .integer => #[105, 110, 116, 101, 103, 101, 114, 116, 121, 112, 101]
  | .real => #[114, 101, 97, 108, 116, 121, 112, 101]
  | .boolean => #[98, 111, 111, 108, 101, 97, 110, 116, 121, 112, 101]
  | .null => #[110, 117, 108, 108, 116, 121, 112, 101]
  | .mark => #[109, 97, 114, 107, 116, 121, 112, 101]
  | .name => #[110, 97, 109, 101, 116, 121, 112, 101]
  | .operator => #[111, 112, 101, 114, 97, 116, 111, 114, 116, 121, 112, 101]
  | .string => #[115, 116, 114, 105, 110, 103, 116, 121, 112, 101]
  | .array => #[97, 114, 114, 97, 121, 116, 121, 112, 101]
  | .packed => #[112, 97, 99, 107, 101, 100, 97, 114, 114, 97, 121, 116, 121, 112, 101]
  | .dict => #[100, 105, 99, 116, 116, 121, 112, 101]
  | .save => #[115, 97, 118, 101, 116, 121, 112, 101]
theorem type_name_c (w : World) (G : Heap) (x : Addr) (k : KD) (v : Value) (e : Bool) (ac : Int) (tk ta : Tok) (I : ThF G x k.s v e ac tk ta) :
    RO 6 w 190 [.ref x] G (fun _ _ r => ∃ t, r = .bytes k.ty t) (fun _ => False) := by
  refine RO.intro (k := 5) [(Str.ofString "thing", .ref x)] (by k_is) (by k_is) (by intro s X; exact BindsTo.of_eq rfl) rfl (by decide) rfl rfl rfl ?_
  intro C sh g h₁ tkk Q K F' N' KS' S' hret hexc
  have X' := K.X
  have T' := K.T
  k_steps
  cases k <;> (unfold KD.s; dsimp only; k_steps) 
  all_goals exact Due.mk ⟨_, rfl⟩
end Mine
end
section
namespace Mine
open PySem.Spec PySem.Calls
theorem lnRo50 (w : World) : (hd.heap_39 w.params).In = (hd.heap_39 w.params).In ∧ PySem.Challenge.rw_on0261_01 = PySem.Challenge.rw_on0261_01 := by
  k_fill
  exact ⟨rfl, rfl⟩
local macro_rules | `(tactic| k_inst) => `(tactic| (refine' instB ?ia ?ib ?ic ?id; (case ia => with_reducible assumption); (case ib => with_reducible assumption); (case ic => with_reducible assumption); (case id => with_reducible assumption)))
theorem lnRo51 (w : World) : (hd.heap_39 w.params).In = (hd.heap_39 w.params).In ∧ PySem.Challenge.rw_on0261_01 = PySem.Challenge.rw_on0261_01 := by
  k_with "r3" => (k_here; (with_reducible show W _ _ _ (call (Value.ref 52) _) _); k_dflt (refine' W.ro (call_ps _ _ _ ) ?KO_q ?FR_q ?ST_q ?_ ?exc_q ?HK_q; (case KO_q => with_reducible assumption); (case HK_q => decide); (case FR_q => with_reducible assumption); (case ST_q => first | exact stay_of (by with_reducible assumption) (by with_reducible assumption) | exact fun _ _ h => h | exact noH_in _); (case exc_q => exact fun _ _ _ _ h => h.elim); k_whole; intro r9 h9 tk9 F9 S9 P9; (try (have N9 := stay_news (by with_reducible assumption) S9)); refine Exists.elim (PsPost.ref P9) ?_; clear P9; intro y9 P9; rcases P9 with ⟨z9, P9⟩; subst z9; skip))
  k_with "A:call ref" => k_extra "r3"
  exact ⟨rfl, rfl⟩
theorem check_part_c (w : World) (G : Heap) (sp bd : Addr) (st mn : Int) (ts tm : Tok) (p q : Int) (t1 t2 : Tok) (I : SpF G sp bd st mn ts tm) :
    RO 6 w 288 [.ref sp, .int p t1, .int q t2] G (fun _ _ r => r = .none ∧ 0 ≤ p ∧ 0 ≤ q ∧ p + q ≤ mn) (fun bs => bs = #[114, 97, 110, 103, 101, 99, 104, 101, 99, 107] ∧ ¬ (0 ≤ p ∧ 0 ≤ q ∧ p + q ≤ mn)) := by
  refine RO.intro (k := 5) [(Str.ofString "span", .ref sp), (Str.ofString "start", .int p t1), (Str.ofString "many", .int q t2)] (by k_is) (by k_is) (by intro s X; exact BindsTo.of_eq rfl) rfl (by decide) rfl rfl rfl ?_
  intro C sh g h₁ tkk Q K F' N' KS' S' hret hexc
  have X' := K.X
  have T' := K.T
  k_steps
  all_goals refine Due.mk ⟨rfl, ?_⟩
  all_goals try simp only [decide_eq_true_eq, decide_eq_false_iff_not] at *
  all_goals omega
end Mine
end
section
namespace Mine
open PySem.Spec PySem.Calls
theorem lnRo60 (w : World) : (hd.heap_39 w.params).In = (hd.heap_39 w.params).In ∧ PySem.Challenge.rw_on0261_01 = PySem.Challenge.rw_on0261_01 := by
  k_fill
  exact ⟨rfl, rfl⟩
local macro_rules | `(tactic| k_inst) => `(tactic| (refine' instB ?ia ?ib ?ic ?id; (case ia => with_reducible assumption); (case ib => with_reducible assumption); (case ic => with_reducible assumption); (case id => with_reducible assumption)))
theorem lnRo61 (w : World) : (hd.heap_39 w.params).In = (hd.heap_39 w.params).In ∧ PySem.Challenge.rw_on0261_01 = PySem.Challenge.rw_on0261_01 := by
  k_with "A:call ref" => k_extra "r2"
  k_with "A:call ref" => (k_here; (with_reducible show W _ _ _ (call (Value.ref 171) _) _); k_dflt (refine' W.ro_e0 (call_Span _ _ _ _ _ ?q1_q ?q2_q ?q3_q) ?KO_q ?FR_q ?ST_q ?_ ?exc_q ?HK_q; (case KO_q => with_reducible assumption); (case HK_q => decide); (case FR_q => with_reducible assumption); (case q1_q => first | exact rfl | assumption); (case q2_q => first | exact rfl | assumption); (case q3_q => first | exact rfl | assumption); (case ST_q => first | exact stay_of (by with_reducible assumption) (by with_reducible assumption) | exact fun _ _ h => h | exact noH_in _); (case exc_q => exact fun _ _ _ _ h => h.elim); k_whole; intro y9 h9 tk9 F9 S9 P9; (try (have N9 := stay_news (by with_reducible assumption) S9)); (replace P9 := NewF.up (Fr.keep (by with_reducible assumption)) P9); (try k_sweep)))
  k_with "r4" => (k_here; (with_reducible show W _ _ _ (call (Value.ref 288) _) _); k_dflt (refine' W.ro (check_part_c _ _ _ _ _ _ _ _ _ _ _ _ ?I_q) ?KO_q ?FR_q ?ST_q ?_ ?_ ?HK_q; (case KO_q => with_reducible assumption); (case HK_q => decide); (case FR_q => with_reducible assumption); (case I_q => with_reducible assumption); (case ST_q => first | exact stay_of (by with_reducible assumption) (by with_reducible assumption) | exact fun _ _ h => h | exact noH_in _); k_whole; rotate_left; intro e9 h9 tk9 bs9 X9 FL9; (try dsimp only); (try subst X9); rotate_right; intro r9 h9 tk9 F9 S9 P9; (try (have N9 := stay_news (by with_reducible assumption) S9)); rcases P9 with ⟨z9, P9⟩; subst z9; (try k_sweep)))
  k_with "A:call ref" => k_extra "r4"
  exact ⟨rfl, rfl⟩
theorem octets_of_span_c (w : World) (G : Heap) (sp bd : Addr) (st mn : Int) (ts tm : Tok) (g0 : Bool) (I : SpF G sp bd st mn ts tm) (hst : -1000 ≤ st ∧ st ≤ 1000) (hmn : -1000 ≤ mn ∧ mn ≤ 1000) (H : TextH G bd g0) :
    RO 6 w 323 [.ref sp] G (fun _ _ r => ∃ t, r = .bytes (KBy.picked (octs g0) (some st) (some (st + mn))) t) (fun _ => False) := by
  refine RO.intro (k := 5) [(Str.ofString "span", .ref sp)] (by k_is) (by k_is) (by intro s X; exact BindsTo.of_eq rfl) rfl (by decide) rfl rfl rfl ?_
  intro C sh g h₁ tkk Q K F' N' KS' S' hret hexc
  have X' := K.X
  have T' := K.T
  obtain ⟨ba, tn, D, hb⟩ := H
  k_steps
  all_goals exact Due.mk ⟨_, rfl⟩
theorem with_span_c (w : World) (G : Heap) (x : Addr) (kd : Str) (v : Value) (e : Bool) (ac : Int) (tk ta : Tok) (sp : Addr) (I : ThF G x kd v e ac tk ta) :
    RO 6 w 302 [.ref x, .ref sp] G (fun h h1 r => ∃ y tk' ta', r = .ref y ∧ NewF h h1 y 73 (ThFs kd (.ref sp) e ac tk' ta')) (fun _ => False) := by
  refine RO.intro (k := 5) [(Str.ofString "thing", .ref x), (Str.ofString "span", .ref sp)] (by k_is) (by k_is) (by intro s X; exact BindsTo.of_eq rfl) rfl (by decide) rfl rfl rfl ?_
  intro C sh g h₁ tkk Q K F' N' KS' S' hret hexc
  have X' := K.X
  have T' := K.T
  k_steps
  rename NewF _ _ _ _ _ => p1
  exact Due.mk ⟨_, _, _, rfl, p1.up KS'⟩
theorem part_of_c (w : World) (G : Heap) (sp bd : Addr) (st mn : Int) (ts tm : Tok) (p q : Int) (t1 t2 : Tok) (I : SpF G sp bd st mn ts tm) (hp : -1000 ≤ p ∧ p ≤ 1000) (hst : -1000 ≤ st ∧ st ≤ 1000) (hmn : -1000 ≤ mn ∧ mn ≤ 1000) :
    RO 9 w 295 [.ref sp, .int p t1, .int q t2] G (fun h h1 r => (0 ≤ p ∧ 0 ≤ q ∧ p + q ≤ mn) ∧ ∃ y ts' tm', r = .ref y ∧ NewF h h1 y 171 (SpFs bd (st + p) q ts' tm')) (fun bs => bs = #[114, 97, 110, 103, 101, 99, 104, 101, 99, 107] ∧ ¬ (0 ≤ p ∧ 0 ≤ q ∧ p + q ≤ mn)) := by
  refine RO.intro (k := 8) [(Str.ofString "span", .ref sp), (Str.ofString "start", .int p t1), (Str.ofString "many", .int q t2)] (by k_is) (by k_is) (by intro s X; exact BindsTo.of_eq rfl) rfl (by decide) rfl rfl rfl ?_
  intro C sh g h₁ tkk Q K F' N' KS' S' hret hexc
  have X' := K.X
  have T' := K.T
  k_steps
  · rename NewF _ _ _ _ _ => p1
    exact Due.mk ⟨by assumption, _, _, _, rfl, p1.up KS'⟩
  · k_steps
    refine Due.mk ?_
    assumption
theorem call_Thing3 (w : World) (G : Heap) (a1 a2 a3 : Value) (q1 : handedIn a1 = true) (q2 : handedIn a2 = true) (q3 : handedIn a3 = true) :
    RO 3 w 73 [a1, a2, a3] G (fun h h1 r => ∃ y t, r = .ref y ∧ NewF h h1 y 73 [(Str.ofString "kind", a1), (Str.ofString "value", a2), (Str.ofString "is_exec", a3), (Str.ofString "access", .int 3 t)]) (fun _ => False) := by
  refine RO.introC (fun x => [(Str.ofString "self", .ref x), (Str.ofString "kind", a1), (Str.ofString "value", a2), (Str.ofString "is_exec", a3), (Str.ofString "access", _)]) (by k_is) (by k_is) (by k_is) (by k_is) (by k_is) (by intro x s X; exact binds_K (by k_in) rfl (by k_is) rfl rfl rfl) (by intro x; rfl) (by decide) rfl rfl rfl ?_
  intro C sh h' g h₁ tkk x dx Q K F' N' S1 KS nx nd hlt S hret
  have X' := K.X
  have T' := K.T
  k_steps
  refine Due.mk ⟨_, 249, rfl, _, _, _, nx, nd, News.get (by assumption) (.head _), News.get (by assumption) (.tail _ (.head _)), ?_⟩
  simp only [List.forall_mem_cons]
  exact ⟨⟨rfl, q1⟩, ⟨rfl, q2⟩, ⟨rfl, q3⟩, ⟨rfl, rfl⟩, fun _ h => nomatch h⟩
theorem lnRo62 (w : World) : (hd.heap_39 w.params).In = (hd.heap_39 w.params).In ∧ PySem.Challenge.rw_on0261_01 = PySem.Challenge.rw_on0261_01 := by
  k_with "r5" => (k_here; (with_reducible show W _ _ _ (call (Value.ref 73) _) _); k_dflt (refine' W.ro_e1 (call_Thing3 _ _ _ _ _ ?q1_q ?q2_q ?q3_q) ?KO_q ?FR_q ?ST_q ?_ ?exc_q ?HK_q; (case KO_q => with_reducible assumption); (case HK_q => decide); (case FR_q => with_reducible assumption); (case q1_q => first | exact rfl | assumption); (case q2_q => first | exact rfl | assumption); (case q3_q => first | exact rfl | assumption); (case ST_q => first | exact stay_of (by with_reducible assumption) (by with_reducible assumption) | exact fun _ _ h => h | exact noH_in _); (case exc_q => exact fun _ _ _ _ h => h.elim); k_whole; intro y9 t9 h9 tk9 F9 S9 P9; (try (have N9 := stay_news (by with_reducible assumption) S9)); (replace P9 := NewF.up (Fr.keep (by with_reducible assumption)) P9); (try k_sweep)))
  k_with "A:call ref" => k_extra "r5"
  exact ⟨rfl, rfl⟩
theorem name_c (w : World) (G : Heap) (o : Array UInt8) (t0 : Tok) :
    RO 6 w 183 [.bytes o t0] G (fun h h1 r => ∃ y tk' ta', r = .ref y ∧ NewF h h1 y 73 (ThFs (Str.ofString "name") (.bytes o t0) false 3 tk' ta')) (fun _ => False) := by
  refine RO.intro (k := 5) [(Str.ofString "octets", .bytes o t0), (Str.ofString "is_exec", .bool false)] (by k_is) (by k_is) (by intro s X; exact binds_K (by k_in) rfl (by k_is) rfl rfl rfl) rfl (by decide) rfl rfl rfl ?_
  intro C sh g h₁ tkk Q K F' N' KS' S' hret hexc
  have X' := K.X
  have T' := K.T
  k_steps
  rename NewF _ _ _ _ _ => p1
  exact Due.mk ⟨_, _, _, rfl, p1.up KS'⟩
end Mine
end
section
namespace Mine
open PySem.Spec PySem.Calls
theorem lnRo70 (w : World) : (hd.heap_39 w.params).In = (hd.heap_39 w.params).In ∧ PySem.Challenge.rw_on0261_01 = PySem.Challenge.rw_on0261_01 := by
  k_fill
  exact ⟨rfl, rfl⟩
local macro_rules | `(tactic| k_inst) => `(tactic| (refine' instB ?ia ?ib ?ic ?id; (case ia => with_reducible assumption); (case ib => with_reducible assumption); (case ic => with_reducible assumption); (case id => with_reducible assumption)))
theorem lnRo71 (w : World) : (hd.heap_39 w.params).In = (hd.heap_39 w.params).In ∧ PySem.Challenge.rw_on0261_01 = PySem.Challenge.rw_on0261_01 := by
  k_with "r6" => (k_here; (with_reducible show W _ _ _ (call (Value.ref 197) _) _); k_dflt (refine' W.ro_v (is_number_c _ _ _ _ _ _ _ _ _ ?I_q) ?KO_q ?FR_q ?ST_q ?_ ?exc_q ?HK_q; (case KO_q => with_reducible assumption); (case HK_q => decide); (case FR_q => with_reducible assumption); (case I_q => with_reducible assumption); (case ST_q => first | exact stay_of (by with_reducible assumption) (by with_reducible assumption) | exact fun _ _ h => h | exact noH_in _); (case exc_q => exact fun _ _ _ _ h => h.elim); k_whole; intro h9 tk9 F9 S9; (try (have N9 := stay_news (by with_reducible assumption) S9)); (try k_sweep)))
  k_with "A:call ref" => k_extra "r6"
  k_with "A:call ref" => k_extra "r0"
  k_with "r7" => (k_here; (with_reducible show W _ _ _ (call (Value.ref 246) _) _); k_dflt (refine' W.ro_v (can_read_c _ _ _ _ _ _ _ _ _ ?I_q ?H_q) ?KO_q ?FR_q ?ST_q ?_ ?exc_q ?HK_q; (case KO_q => with_reducible assumption); (case HK_q => decide); (case FR_q => with_reducible assumption); (case I_q => with_reducible assumption); (case H_q => with_reducible assumption); (case ST_q => first | exact stay_of (by with_reducible assumption) (by with_reducible assumption) | exact fun _ _ h => h | exact noH_in _); (case exc_q => exact fun _ _ _ _ h => h.elim); k_whole; intro h9 tk9 F9 S9; (try (have N9 := stay_news (by with_reducible assumption) S9)); (try k_sweep)))
  k_with "A:call ref" => k_extra "r7"
  k_with "r8" => (k_here; (with_reducible show W _ _ _ (call (Value.ref 204) _) _); k_dflt (refine' W.ro_t (in_millionths_c _ _ _ _ _ _ _ _ _ ?I_q ?H_q ?hn_q ?hb_q) ?KO_q ?FR_q ?ST_q ?_ ?exc_q ?HK_q; (case KO_q => with_reducible assumption); (case HK_q => decide); (case FR_q => with_reducible assumption); (case I_q => with_reducible assumption); (case H_q => with_reducible assumption); (case hn_q => with_reducible assumption); (case hb_q => with_reducible assumption); (case ST_q => first | exact stay_of (by with_reducible assumption) (by with_reducible assumption) | exact fun _ _ h => h | exact noH_in _); (case exc_q => exact fun _ _ _ _ h => h.elim); k_whole; intro t9 h9 tk9 F9 S9; (try (have N9 := stay_news (by with_reducible assumption) S9)); (try k_sweep)))
  k_with "A:call ref" => k_extra "r8"
  k_with "A:call ref" => k_extra "r3"
  k_with "A:call ref" => (k_here; (with_reducible show W _ _ _ (call (Value.ref 323) _) _); k_dflt (refine' W.ro_t (octets_of_span_c _ _ _ _ _ _ _ _ _ ?I_q ?hst_q ?hmn_q ?H_q) ?KO_q ?FR_q ?ST_q ?_ ?exc_q ?HK_q; (case KO_q => with_reducible assumption); (case HK_q => decide); (case FR_q => with_reducible assumption); (case I_q => with_reducible assumption); (case hst_q => with_reducible assumption); (case hmn_q => with_reducible assumption); (case H_q => with_reducible assumption); (case ST_q => first | exact stay_of (by with_reducible assumption) (by with_reducible assumption) | exact fun _ _ h => h | exact noH_in _); (case exc_q => exact fun _ _ _ _ h => h.elim); k_whole; intro t9 h9 tk9 F9 S9; (try (have N9 := stay_news (by with_reducible assumption) S9)); (try k_sweep)))
  exact ⟨rfl, rfl⟩
noncomputable def wB : TK → Prop
  | .int i => -10 ≤ i ∧ i ≤ 10
  | .real i => -10000000 ≤ i ∧ i ≤ 10000000
  | .str _ st mn => (0 ≤ st ∧ st ≤ 5) ∧ (0 ≤ mn ∧ mn ≤ 5)
  | .arr _ _ st mn => (0 ≤ st ∧ st ≤ 3) ∧ (0 ≤ mn ∧ mn ≤ 3)
  | _ => True
theorem wB.num {U : TK} (h : wB U) : numB U := by cases U <;> first | exact h | trivial
noncomputable def octU : TK → Array UInt8
  | .str g st mn => KBy.picked (octs g) (some st) (some (st + mn))
  | .name o => o
  | _ => #[]
noncomputable def isName : TK → Bool
  | .name _ => true
  | _ => false
theorem isName_eq (U : TK) : (kindS U == Str.ofString "name") = isName U := by
  show (kindS U == KD.name.s) = isName U
  rw [kd_is]
  cases U <;> first | rfl | (rename_i pk _ _ _; cases pk <;> rfl)
theorem str_of {U : TK} (h : isStr U = true) : ∃ g st mn, U = .str g st mn := by cases U <;> first | exact ⟨_, _, _, rfl⟩ | cases h
theorem strNe {U : TK} {b : Bool} (h : (kindS U != Str.ofString "string") = b) : isStr U = !b := by
  rw [← isStr_eq, ← h]
  simp [bne]
theorem thing_octets_c (w : World) (G : Heap) (x : Addr) (U : TK) (v : Value) (e : Bool) (ac : Int) (tk ta : Tok) (I : ThF G x (kindS U) v e ac tk ta) (H : ValH G U v) (hw : wB U) :
    RO 12 w 337 [.ref x] G (fun _ _ r => (isName U = true ∨ isStr U = true ∧ 2 ≤ ac) ∧ ∃ t, r = .bytes (octU U) t) (fun bs => (bs = #[116, 121, 112, 101, 99, 104, 101, 99, 107] ∧ isName U = false ∧ isStr U = false) ∨ (bs = #[105, 110, 118, 97, 108, 105, 100, 97, 99, 99, 101, 115, 115] ∧ isStr U = true ∧ ac < 2)) := by
  refine RO.intro (k := 11) [(Str.ofString "thing", .ref x)] (by k_is) (by k_is) (by intro s X; exact BindsTo.of_eq rfl) rfl (by decide) rfl rfl rfl ?_
  intro C sh g h₁ tkk Q K F' N' KS' S' hret hexc
  have X' := K.X
  have T' := K.T
  k_steps
  · obtain ⟨o, rfl⟩ := kd_name (by assumption)
    obtain ⟨t, rfl⟩ := H
    exact Due.mk ⟨.inl rfl, t, rfl⟩
  · have hn := isName_eq U
    have hs : isStr U = !true := strNe (by assumption)
    exact Due.mk (.inl ⟨rfl, by simp_all, hs⟩)
  · have hs : isStr U = !false := strNe (by assumption)
    obtain ⟨g1, st, mn, rfl⟩ := str_of hs
    obtain ⟨sp, bd, ts, tm, rfl, I2, H2⟩ := H
    obtain ⟨⟨b1, b2⟩, b3, b4⟩ := hw
    have hst : -1000 ≤ st ∧ st ≤ 1000 := by omega
    have hmn : -1000 ≤ mn ∧ mn ≤ 1000 := by omega
    k_steps
    exact Due.mk ⟨.inr ⟨rfl, by assumption⟩, _, rfl⟩
  · have hs : isStr U = !false := strNe (by assumption)
    obtain ⟨g1, st, mn, rfl⟩ := str_of hs
    exact Due.mk (.inr ⟨rfl, rfl, Int.not_le.mp (show ¬ 2 ≤ accU (.str g1 st mn) ac by assumption)⟩)
theorem lnRo72 (w : World) : (hd.heap_39 w.params).In = (hd.heap_39 w.params).In ∧ PySem.Challenge.rw_on0261_01 = PySem.Challenge.rw_on0261_01 := by
  k_with "r9" => (k_here; (with_reducible show W _ _ _ (call (Value.ref 337) _) _); k_dflt (refine' W.ro (thing_octets_c _ _ _ _ _ _ _ _ _ ?I_q ?H_q ?hw_q) ?KO_q ?FR_q ?ST_q ?_ ?_ ?HK_q; (case KO_q => with_reducible assumption); (case HK_q => decide); (case FR_q => with_reducible assumption); (case I_q => with_reducible assumption); (case H_q => with_reducible assumption); (case hw_q => with_reducible assumption); (case ST_q => first | exact stay_of (by with_reducible assumption) (by with_reducible assumption) | exact fun _ _ h => h | exact noH_in _); k_whole; rotate_left; intro e9 h9 tk9 bs9 X9 FL9; (try dsimp only); (try subst X9); rotate_right; intro r9 h9 tk9 F9 S9 P9; (try (have N9 := stay_news (by with_reducible assumption) S9)); refine Exists.elim P9.2 ?_; intro t9 P8; replace P9 := P9.1; subst P8; (try k_sweep)))
  k_with "A:call ref" => k_extra "r9"
  exact ⟨rfl, rfl⟩
noncomputable def keyU : TK → List At
  | .int i => [.str (Str.ofString "number"), .int (i * 1000000)]
  | .real i => [.str (Str.ofString "number"), .int i]
  | .bool b => [.str (Str.ofString "boolean"), .int (if b then 1 else 0)]
  | .name o => [.str (Str.ofString "word"), .bytes o]
  | .oper o => [.str (Str.ofString "operator"), .bytes o]
  | .str g st mn => [.str (Str.ofString "word"), .bytes (KBy.picked (octs g) (some st) (some (st + mn)))]
  | .arr _ g st mn => [.str (Str.ofString "array"), .int (if g then 4 else 3), .int st, .int mn]
  | .null => []
  | .mark => [.str (Str.ofString "mark"), .none]
  | .dict g => [.str (Str.ofString "dict"), .int (if g then 6 else 5)]
  | .save i => [.str (Str.ofString "save"), .int i]
noncomputable def badU (U : TK) (ac : Int) : Option (Array UInt8) := match U with
  | .null => some #[116, 121, 112, 101, 99, 104, 101, 99, 107]
  | .str .. => if ac < 2 then some #[105, 110, 118, 97, 108, 105, 100, 97, 99, 99, 101, 115, 115] else none
  | _ => none
theorem tup_news {g h : Heap} {L D : Addr} {news : Led} {l : List At} {xs : List Value} {k : Nat} (N : News g L h news) (hm : (D, { cls := .type "tuple", data := .seq (List.toArray xs) k }) ∈ news) (r : AllR l xs) : TupR h l (.ref D) :=
  ⟨D, xs, rfl, ⟨_, N.get hm, rfl, k, rfl⟩, r⟩
theorem tup_fresh {g h H : Heap} {L D : Addr} {news : Led} {l : List At} {xs : List Value} {k : Nat} (KS : H.StaysIn g) (N : News g L h news) (hm : (D, { cls := .type "tuple", data := .seq (List.toArray xs) k }) ∈ news) (r : AllR l xs) :
    ∃ y, Value.ref D = .ref y ∧ H.get? y = none ∧ TupR h l (.ref y) := ⟨D, rfl, fresh_of KS (N _ hm).2.2, tup_news N hm r⟩
theorem key_of_c (w : World) (G : Heap) (x : Addr) (U : TK) (v : Value) (e : Bool) (ac : Int) (tk ta : Tok) (I : ThF G x (kindS U) v e ac tk ta) (H : ValH G U v) (hw : wB U) :
    RO 15 w 344 [.ref x] G (fun h h1 r => badU U ac = none ∧ ∃ y, r = .ref y ∧ h.get? y = none ∧ TupR h1 (keyU U) (.ref y)) (fun bs => badU U ac = some bs) := by
  refine RO.intro (k := 14) [(Str.ofString "thing", .ref x)] (by k_is) (by k_is) (by intro s X; exact BindsTo.of_eq rfl) rfl (by decide) rfl rfl rfl ?_
  intro C sh g h₁ tkk Q K F' N' KS' S' hret hexc
  have X' := K.X
  have T' := K.T
  k_steps
  · obtain rfl := kd_null (by assumption)
    exact Due.mk rfl
  · obtain ⟨o, rfl⟩ := kd_name (by assumption)
    exact Due.mk ⟨rfl, tup_fresh KS' (by assumption) (.head _) (.cons ⟨_, rfl⟩ (.cons ⟨_, rfl⟩ .nil))⟩
  · obtain ⟨o, rfl⟩ := kd_name (by assumption)
    obtain ⟨_, z, _⟩ | ⟨_, z, _⟩ : _ ∨ _ := by assumption
    all_goals cases z
  · obtain ⟨g1, st, mn, rfl⟩ := kd_string (by assumption)
    obtain z | ⟨_, z⟩ : isName _ = true ∨ _ := by assumption
    · cases z
    · exact Due.mk ⟨if_neg (by omega), tup_fresh KS' (by assumption) (.head _) (.cons ⟨_, rfl⟩ (.cons ⟨_, rfl⟩ .nil))⟩
  · obtain ⟨g1, st, mn, rfl⟩ := kd_string (by assumption)
    obtain ⟨_, _, z⟩ | ⟨z, _, y⟩ : _ ∨ _ := by assumption
    · cases z
    · subst z
      exact Due.mk (if_pos y)
  · have hb := wB.num hw
    have hn : isNum U = true := by assumption
    k_steps
    rcases num_of hn with ⟨i, rfl⟩ | ⟨i, rfl⟩ <;> exact Due.mk ⟨rfl, tup_fresh KS' (by assumption) (.head _) (.cons ⟨_, rfl⟩ (.cons ⟨_, rfl⟩ .nil))⟩
  · obtain ⟨pk, g1, st, mn, rfl⟩ := arr_of (by assumption)
    obtain ⟨sp, bd, ts, tm, rfl, I2, l, tn, D, H3⟩ := H
    k_steps
    exact Due.mk ⟨rfl, tup_fresh KS' (by assumption) (.head _) (.cons ⟨_, rfl⟩ (.cons ⟨_, rfl⟩ (.cons ⟨_, rfl⟩ (.cons ⟨_, rfl⟩ .nil))))⟩
  · obtain ⟨g1, rfl⟩ := kd_dict (by assumption)
    obtain ⟨bd, rfl, tn, ta', D⟩ := H
    k_steps
    exact Due.mk ⟨rfl, tup_fresh KS' (by assumption) (.head _) (.cons ⟨_, rfl⟩ (.cons ⟨_, rfl⟩ .nil))⟩
  · have hx := no_file U
    simp_all
  · have hx := no_gstate U
    simp_all
  · obtain ⟨b, rfl⟩ := kd_boolean (by assumption)
    obtain rfl := H
    cases b <;> k_steps
    all_goals exact Due.mk ⟨rfl, tup_fresh KS' (by assumption) (.head _) (.cons ⟨_, rfl⟩ (.cons ⟨_, rfl⟩ .nil))⟩
  · have q1 : (kindS U == KD.null.s) = false := by assumption
    have q2 : (kindS U == KD.name.s) = false := by assumption
    have q3 : (kindS U == KD.string.s) = false := by assumption
    have q4 : (kindS U == KD.dict.s) = false := by assumption
    have q5 : (kindS U == KD.boolean.s) = false := by assumption
    have q6 : isNum U = false := by assumption
    have q7 : isArr U = false := by assumption
    rw [kd_is] at q1 q2 q3 q4 q5
    cases U with
    | oper o =>
      obtain ⟨t, rfl⟩ := H
      exact Due.mk ⟨rfl, tup_fresh KS' (by assumption) (.head _) (.cons ⟨_, rfl⟩ (.cons ⟨_, rfl⟩ .nil))⟩
    | mark =>
      obtain rfl := H
      exact Due.mk ⟨rfl, tup_fresh KS' (by assumption) (.head _) (.cons ⟨_, rfl⟩ (.cons rfl .nil))⟩
    | save i =>
      obtain ⟨t, rfl⟩ := H
      exact Due.mk ⟨rfl, tup_fresh KS' (by assumption) (.head _) (.cons ⟨_, rfl⟩ (.cons ⟨_, rfl⟩ .nil))⟩
    | _ => simp [kdOf, isNum, isArr] at q1 q2 q3 q4 q5 q6 q7
end Mine
end
section
namespace Mine
open PySem.Spec PySem.Calls
theorem lnRo80 (w : World) : (hd.heap_39 w.params).In = (hd.heap_39 w.params).In ∧ PySem.Challenge.rw_on0261_01 = PySem.Challenge.rw_on0261_01 := by
  k_fill
  exact ⟨rfl, rfl⟩
local macro_rules | `(tactic| k_inst) => `(tactic| (refine' instB ?ia ?ib ?ic ?id; (case ia => with_reducible assumption); (case ib => with_reducible assumption); (case ic => with_reducible assumption); (case id => with_reducible assumption)))
theorem lnRo81 (w : World) : (hd.heap_39 w.params).In = (hd.heap_39 w.params).In ∧ PySem.Challenge.rw_on0261_01 = PySem.Challenge.rw_on0261_01 := by
  k_with "A:call ref" => k_extra "r6"
  k_with "A:call ref" => k_extra "r2"
  k_with "A:call ref" => (k_here; (with_reducible show W _ _ _ (call (Value.ref 267) _) _); k_dflt (refine' W.ro_v (has_access_c _ _ _ _ _ _ _ _ _ ?I_q ?H_q) ?KO_q ?FR_q ?ST_q ?_ ?exc_q ?HK_q; (case KO_q => with_reducible assumption); (case HK_q => decide); (case FR_q => with_reducible assumption); (case I_q => with_reducible assumption); (case H_q => with_reducible assumption); (case ST_q => first | exact stay_of (by with_reducible assumption) (by with_reducible assumption) | exact fun _ _ h => h | exact noH_in _); (case exc_q => exact fun _ _ _ _ h => h.elim); k_whole; intro h9 tk9 F9 S9; (try (have N9 := stay_news (by with_reducible assumption) S9)); (try k_sweep)))
  k_with "A:call ref" => k_extra "r8"
  k_with "A:call ref" => k_extra "r3"
  k_with "A:call ref" => k_extra "r5"
  k_with "A:call ref" => (k_here; (with_reducible show W _ _ _ (call (Value.ref 183) _) _); k_dflt (refine' W.ro_e2 (name_c _ _ _ _ ) ?KO_q ?FR_q ?ST_q ?_ ?exc_q ?HK_q; (case KO_q => with_reducible assumption); (case HK_q => decide); (case FR_q => with_reducible assumption); (case ST_q => first | exact stay_of (by with_reducible assumption) (by with_reducible assumption) | exact fun _ _ h => h | exact noH_in _); (case exc_q => exact fun _ _ _ _ h => h.elim); k_whole; intro y9 tk8 ta9 h9 tk9 F9 S9 P9; (try (have N9 := stay_news (by with_reducible assumption) S9)); (replace P9 := NewF.up (Fr.keep (by with_reducible assumption)) P9); (try k_sweep)))
  k_with "A:call ref" => k_extra "r9"
  k_with "A:call ref" => (k_here; (with_reducible show W _ _ _ (call (Value.ref 344) _) _); k_dflt (refine' W.ro (key_of_c _ _ _ _ _ _ _ _ _ ?I_q ?H_q ?hw_q) ?KO_q ?FR_q ?ST_q ?_ ?_ ?HK_q; (case KO_q => with_reducible assumption); (case HK_q => decide); (case FR_q => with_reducible assumption); (case I_q => with_reducible assumption); (case H_q => with_reducible assumption); (case hw_q => with_reducible assumption); (case ST_q => first | exact stay_of (by with_reducible assumption) (by with_reducible assumption) | exact fun _ _ h => h | exact noH_in _); k_whole; rotate_left; intro e9 h9 tk9 bs9 X9 FL9; (try dsimp only); (try subst X9); rotate_right; intro r9 h9 tk9 F9 S9 P9; (try (have N9 := stay_news (by with_reducible assumption) S9)); refine Exists.elim P9.2 ?_; intro y9 Y9; rcases Y9 with ⟨e9, f9, Y9⟩; subst e9; replace P9 := P9.1; (try k_sweep)))
  exact ⟨rfl, rfl⟩
noncomputable def isNull (U : TK) : Bool := decide (kdOf U = .null)
theorem isNull_eq {U : TK} {b : Bool} (h : (kindS U == Str.ofString "null") = b) : isNull U = b := by rw [← h]; exact (kd_inj _ .null).symm
theorem isNum_str {U : TK} (h : isStr U = true) : isNum U = false := by cases U <;> first | rfl | cases h
theorem isName_str {U : TK} (h : isStr U = true) : isName U = false := by cases U <;> first | rfl | cases h
theorem key_thing_c (w : World) (G : Heap) (x : Addr) (U : TK) (v : Value) (e : Bool) (ac : Int) (tk ta : Tok) (I : ThF G x (kindS U) v e ac tk ta) (H : ValH G U v) (hw : wB U) :
    RO 15 w 351 [.ref x] G (fun h h1 r => (isStr U = false ∧ r = .ref x) ∨ (isStr U = true ∧ 2 ≤ ac ∧ ∃ y t tk' ta', r = .ref y ∧ NewF h h1 y 73 (ThFs (Str.ofString "name") (.bytes (octU U) t) false 3 tk' ta'))) (fun bs => bs = #[105, 110, 118, 97, 108, 105, 100, 97, 99, 99, 101, 115, 115] ∧ isStr U = true ∧ ac < 2) := by
  refine RO.intro (k := 14) [(Str.ofString "thing", .ref x)] (by k_is) (by k_is) (by intro s X; exact BindsTo.of_eq rfl) rfl (by decide) rfl rfl rfl ?_
  intro C sh g h₁ tkk Q K F' N' KS' S' hret hexc
  have X' := K.X
  have T' := K.T
  k_steps
  · rename NewF _ _ _ _ _ => p1
    obtain ⟨g1, st, mn, rfl⟩ := kd_string (by assumption)
    obtain z | ⟨_, z⟩ : isName _ = true ∨ _ := by assumption
    · cases z
    · exact Due.mk (.inr ⟨rfl, z, _, _, _, _, rfl, p1.up KS'⟩)
  · obtain ⟨g1, st, mn, rfl⟩ := kd_string (by assumption)
    obtain ⟨_, _, z⟩ | ⟨z, _, y⟩ : _ ∨ _ := by assumption
    · cases z
    · exact Due.mk ⟨z, rfl, y⟩
  · exact Due.mk (.inl ⟨by rw [← isStr_eq]; assumption, rfl⟩)
noncomputable def eqU (U U' : TK) : Bool := if isNull U || isNull U' then decide (kdOf U = kdOf U') else tEq (keyU U) (keyU U')
theorem equal_things_c (w : World) (G : Heap) (x : Addr) (U : TK) (v : Value) (e : Bool) (ac : Int) (tk ta : Tok) (x' : Addr) (U' : TK) (v' : Value) (e' : Bool) (ac' : Int) (tk' ta' : Tok) (I : ThF G x (kindS U) v e ac tk ta) (H : ValH G U v) (hw : wB U) (I' : ThF G x' (kindS U') v' e' ac' tk' ta') (H' : ValH G U' v') (hw' : wB U') :
    RO 18 w 358 [.ref x, .ref x'] G (fun _ _ r => r = .bool (eqU U U') ∧ (isNull U = true ∨ isNull U' = true ∨ (badU U ac = none ∧ badU U' ac' = none))) (fun bs => isNull U = false ∧ isNull U' = false ∧ (badU U ac = some bs ∨ (badU U ac = none ∧ badU U' ac' = some bs))) := by
  refine RO.intro (k := 17) [(Str.ofString "one", .ref x), (Str.ofString "other", .ref x')] (by k_is) (by k_is) (by intro s X; exact BindsTo.of_eq rfl) rfl (by decide) rfl rfl rfl ?_
  intro C sh g h₁ tkk Q K F' N' KS' S' hret hexc
  have X' := K.X
  have T' := K.T
  k_steps
  · have n1 := isNull_eq (by assumption)
    refine Due.mk ⟨?_, .inl n1⟩
    show Value.bool (kindS U == kindS U') = _
    rw [kd_inj, eqU, n1]
    rfl
  · have n1 : isNull U' = true := isNull_eq (by assumption)
    refine Due.mk ⟨?_, .inr (.inl n1)⟩
    show Value.bool (kindS U == kindS U') = _
    rw [kd_inj, eqU, n1, Bool.or_true]
    rfl
  · have n1 : isNull U = false := isNull_eq (by assumption)
    have n2 : isNull U' = false := isNull_eq (by assumption)
    refine Due.mk ⟨?_, .inr (.inr ⟨by assumption, by assumption⟩)⟩
    rw [eqU, n1, n2]
    rfl
  · exact Due.mk ⟨isNull_eq (by assumption), isNull_eq (by assumption), .inr ⟨by assumption, by assumption⟩⟩
  · exact Due.mk ⟨isNull_eq (by assumption), isNull_eq (by assumption), .inl (by assumption)⟩
theorem less_than_c (w : World) (G : Heap) (x : Addr) (U : TK) (v : Value) (e : Bool) (ac : Int) (tk ta : Tok) (x' : Addr) (U' : TK) (v' : Value) (e' : Bool) (ac' : Int) (tk' ta' : Tok) (I : ThF G x (kindS U) v e ac tk ta) (H : ValH G U v) (hw : wB U) (I' : ThF G x' (kindS U') v' e' ac' tk' ta') (H' : ValH G U' v') (hw' : wB U') :
    RO 18 w 365 [.ref x, .ref x'] G (fun _ _ r => (isNum U = true ∧ isNum U' = true ∧ r = .bool (decide (milU U < milU U'))) ∨ (isStr U = true ∧ isStr U' = true ∧ 2 ≤ ac ∧ 2 ≤ ac' ∧ r = .bool (ltB (octU U) (octU U')))) (fun bs => (bs = #[116, 121, 112, 101, 99, 104, 101, 99, 107] ∧ (isNum U && isNum U') = false ∧ (isStr U && isStr U') = false) ∨ (bs = #[105, 110, 118, 97, 108, 105, 100, 97, 99, 99, 101, 115, 115] ∧ isStr U = true ∧ isStr U' = true ∧ (ac < 2 ∨ ac' < 2))) := by
  refine RO.intro (k := 17) [(Str.ofString "one", .ref x), (Str.ofString "other", .ref x')] (by k_is) (by k_is) (by intro s X; exact BindsTo.of_eq rfl) rfl (by decide) rfl rfl rfl ?_
  intro C sh g h₁ tkk Q K F' N' KS' S' hret hexc
  have X' := K.X
  have T' := K.T
  have hb := wB.num hw; have hb' := wB.num hw'
  k_steps
  all_goals simp only [bne, isStr_eq, Bool.not_eq_true', Bool.not_eq_false'] at *
  · exact Due.mk (.inl ⟨by assumption, by assumption, by first | rfl | trivial⟩)
  · exact Due.mk (.inl ⟨by first | rfl | trivial, by simp_all, by simp_all⟩)
  · exact Due.mk (.inl ⟨by first | rfl | trivial, by simp_all, by simp_all⟩)
  · have q1 : isStr U = true := by assumption
    have q2 := isNum_str q1
    simp_all
  · have q1 : isStr U = true := by assumption
    have q2 := isNum_str q1
    simp_all
  · have q1 : isStr U = true := by assumption
    have q2 := isNum_str q1
    simp_all
  · exact Due.mk (.inl ⟨by first | rfl | trivial, by simp_all, by simp_all⟩)
  · exact Due.mk (.inl ⟨by first | rfl | trivial, by simp_all, by simp_all⟩)
  · have q1 : isStr U = true := by assumption
    have q2 : isStr U' = true := by assumption
    have z1 : isName U = true ∨ isStr U = true ∧ 2 ≤ ac := by assumption
    have z2 : isName U' = true ∨ isStr U' = true ∧ 2 ≤ ac' := by assumption
    have w1 := isName_str q1
    have w2 := isName_str q2
    exact Due.mk (.inr ⟨q1, q2, by simp_all, by simp_all, by first | rfl | trivial⟩)
  · have q1 : isStr U = true := by assumption
    have q2 : isStr U' = true := by assumption
    obtain ⟨z, y, x⟩ | ⟨z, y, x⟩ : (_ ∧ isName U' = false ∧ _) ∨ _ := by assumption
    · rw [q2] at x; cases x
    · exact Due.mk (.inr ⟨z, q1, q2, .inr x⟩)
  · have q1 : isStr U = true := by assumption
    have q2 : isStr U' = true := by assumption
    obtain ⟨z, y, x⟩ | ⟨z, y, x⟩ : (_ ∧ isName U = false ∧ _) ∨ _ := by assumption
    · rw [q1] at x; cases x
    · exact Due.mk (.inr ⟨z, q1, q2, .inl x⟩)
theorem with_access_c (w : World) (G : Heap) (x : Addr) (U : TK) (v : Value) (e : Bool) (ac : Int) (tk ta : Tok) (p : Int) (t1 : Tok) (I : ThF G x (kindS U) v e ac tk ta) (H : ValH G U v) :
    RO 12 w 281 [.ref x, .int p t1] G (fun h h1 r => (shares U = true ∧ isDict U = false ∧ p ≤ ac) ∧ ∃ y tk' ta', r = .ref y ∧ NewF h h1 y 73 (ThFs (kindS U) v e p tk' ta')) (fun bs => (bs = #[116, 121, 112, 101, 99, 104, 101, 99, 107] ∧ (shares U = false ∨ isDict U = true)) ∨ (bs = #[105, 110, 118, 97, 108, 105, 100, 97, 99, 99, 101, 115, 115] ∧ (shares U = true ∧ isDict U = false) ∧ ac < p)) := by
  refine RO.intro (k := 11) [(Str.ofString "thing", .ref x), (Str.ofString "access", .int p t1)] (by k_is) (by k_is) (by intro s X; exact BindsTo.of_eq rfl) rfl (by decide) rfl rfl rfl ?_
  intro C sh g h₁ tkk Q K F' N' KS' S' hret hexc
  have X' := K.X
  have T' := K.T
  have hv := ValH.handed H
  k_steps
  · have q := isDict_eq U
    exact Due.mk (.inl ⟨rfl, .inr (by rw [← q]; assumption)⟩)
  · have q := isDict_eq U
    exact Due.mk (.inr ⟨rfl, ⟨by assumption, by rw [← q]; assumption⟩, by assumption⟩)
  · rename NewF _ _ _ _ _ => p1
    have q := isDict_eq U
    refine Due.mk ⟨⟨by assumption, by rw [← q]; assumption, by omega⟩, _, _, _, rfl, p1.up KS'⟩
  · exact Due.mk (.inl ⟨rfl, .inl (by assumption)⟩)
section
variable {prog : Program} {w : World} {A : Around} {E : Value → Shared → Prop} {hh g G : Heap} {L : Addr} {m : Str → Option Value} {gs : Array GenState} {dr : Drawn} {tk : Nat} {os : OsState} {l : Addr} {Q : Value → Shared → Prop}
theorem item_lnL {value slice : PySem.Expr} {vs : List Value} {i : Int} {ui : Tok} (S : G.StaysIn hh) (I : G.IsList l (List.toArray vs)) (h0 : 0 ≤ i) (h1 : i < (vs.length : Int)) (hz : vs.length < 2 ^ 62) (h : Q (vs.getD i.toNat .none) ⟨hh, gs, dr, tk, os⟩)
    (hs : subscripted slice false (.ref l) (.int i ui) = operate [.ref l, .int i ui] (getItem (.ref l) (.int i ui)) := by with_unfolding_all rfl) :
    wpAny (model prog w) A (subscriptTail value slice (.ref l) (.int i ui)) Q E ⟨hh, gs, dr, tk, os⟩ := by
  obtain ⟨o, g1, g2, n, g3⟩ := I
  have hl : i.toNat < vs.length := by omega
  exact item_litK (s := ⟨hh, gs, dr, tk, os⟩) ⟨o, S _ _ g1, g2, n, g3⟩ h0 (by omega) (v := vs.getD i.toNat .none) (by simp [hl]) h hs
theorem slice_lnL {value slice : PySem.Expr} {its : Array Value} {x u : Value} {lo hi : Option Int} (F : Fr g L hh m) (S : G.StaysIn hh) (I : G.IsList l its) (pl : IsPart x lo) (pu : IsPart u hi) (hz : its.size ≤ sizeLine)
    (h : ∀ D h', Fr g L h' m → hh.StaysIn h' → (hh.get? D = none ∧ h'.IsList D (slicePick its lo hi none)) → Q (.ref D) ⟨h', gs, dr, tk, os⟩)
    (hs : subscripted slice false (.ref l) (.ref hh.objs.size) = operate [.ref hh.objs.size, .ref l] (getItem (.ref l) (.ref hh.objs.size)) := by with_unfolding_all rfl) (ht : ∀ r, letTemporaryGo value (.ref l) r = pure () := by intro _; with_unfolding_all rfl) :
    wpAny (model prog w) A (subscriptTail value slice (.ref l) (.ref hh.objs.size)) Q E ⟨hh.push { cls := .type "slice", data := .fields #[x, u, .none] }, gs, dr, tk, os⟩ := by
  obtain ⟨o, g1, g2, n, g3⟩ := I
  have hl : hh.IsList l its := ⟨o, S _ _ g1, g2, n, g3⟩
  refine subscriptTail_ops (Heap.IsList.typeIs (s := ⟨hh.push { cls := .type "slice", data := .fields #[x, u, .none] }, gs, dr, tk, os⟩) (hl.push _)) list_getitem_lookup
    (wpAny_getItem_list_slice (hl.push _) (Heap.IsSliceOf.new ..) pl pu .none (by simp) ?_ hz) hs ht
  refine h _ _ ((F.push _).push _) (fun b o e => Heap.get?_push_of_some _ (Heap.get?_push_of_some _ e)) ⟨Heap.get?_none_of_le ?_, _, Heap.get?_push_size _ rfl, rfl, _, rfl⟩
  show hh.objs.size ≤ (hh.push _).objs.size
  rw [Heap.size_push]
  exact Nat.le_succ _
end
end Mine
end
section
namespace Mine
open PySem.Spec PySem.Calls
theorem lnRo90 (w : World) : (hd.heap_39 w.params).In = (hd.heap_39 w.params).In ∧ PySem.Challenge.rw_on0261_01 = PySem.Challenge.rw_on0261_01 := by
  k_fill
  exact ⟨rfl, rfl⟩
local macro_rules | `(tactic| k_inst) => `(tactic| (refine' instB ?ia ?ib ?ic ?id; (case ia => with_reducible assumption); (case ib => with_reducible assumption); (case ic => with_reducible assumption); (case id => with_reducible assumption)))
theorem lnRo91 (w : World) : (hd.heap_39 w.params).In = (hd.heap_39 w.params).In ∧ PySem.Challenge.rw_on0261_01 = PySem.Challenge.rw_on0261_01 := by
  k_with "r10" => (k_here; k_dflt (first
      | (refine' in2_no ?l_q ?a_q ?b_q ?_; (case l_q => exact News.isList (by with_reducible assumption) (by k_mem)); (case a_q => exact eq_t_b (tup_of (by with_reducible assumption) (by k_mem) (by assumption) (by assumption) (by assumption)) (by (first | exact lt_add (Ok.u (by with_reducible assumption)) (by decide) | exact lt_add0 (Ok.u (by with_reducible assumption)) | ktr_units))); (case b_q => exact eq_t_b (tup_of (by with_reducible assumption) (by k_mem) (by assumption) (by assumption) (by assumption)) (by (first | exact lt_add (Ok.u (by with_reducible assumption)) (by decide) | exact lt_add0 (Ok.u (by with_reducible assumption)) | ktr_units))); k_whole)
      | (refine' in2_1 ?l_q ?a_q ?b_q ?_; (case l_q => exact News.isList (by with_reducible assumption) (by k_mem)); (case a_q => exact eq_b_same _ _ _); (case b_q => first | exact eq_b_same _ _ _ | exact eq_t_b (tup_of (by with_reducible assumption) (by k_mem) (by assumption) (by assumption) (by assumption)) (by (first | exact lt_add (Ok.u (by with_reducible assumption)) (by decide) | exact lt_add0 (Ok.u (by with_reducible assumption)) | ktr_units))); k_whole)
      | (refine' in2_2 ?l_q ?a_q ?b_q ?_; (case l_q => exact News.isList (by with_reducible assumption) (by k_mem)); (case b_q => exact eq_b_same _ _ _); (case a_q => first | exact eq_b_same _ _ _ | exact eq_t_b (tup_of (by with_reducible assumption) (by k_mem) (by assumption) (by assumption) (by assumption)) (by (first | exact lt_add (Ok.u (by with_reducible assumption)) (by decide) | exact lt_add0 (Ok.u (by with_reducible assumption)) | ktr_units))); k_whole)))
  k_with "A:compareOp In bytes ref" => k_extra "r10"
  k_with "r11" => (k_here; (with_reducible show wpAny _ _ (compareOp CmpOp.Eq (Value.ref _) (Value.ref _)) _ _ _); k_dflt (refine' tupEq_ln ?h_q ?k_q ?S_q ?u_q ?_; (case h_q => exact tup_of (by with_reducible assumption) (by k_mem) (by assumption) (by assumption) (by assumption)); (case k_q => exact tup_of (by with_reducible assumption) (by k_mem) (by assumption) (by assumption) (by assumption)); (case S_q => exact fun _ _ h => h); (case u_q => (first | exact lt_add (Ok.u (by with_reducible assumption)) (by decide) | exact lt_add0 (Ok.u (by with_reducible assumption)) | ktr_units)); k_whole))
  k_with "A:compareOp Eq ref ref" => k_extra "r11"
  k_with "r12" => (k_here; (with_reducible show wpAny _ _ (subscriptTail _ _ (Value.ref _) (Value.int _ _)) _ _ _); k_dflt (refine' item_baG ?S_q ?I_q ?a_q ?b_q ?z_q ?_; (case I_q => with_reducible assumption); (case S_q => first | exact stay_of (by with_reducible assumption) (by with_reducible assumption) | exact fun _ _ h => h); (case a_q => omega); (case b_q => omega); (case z_q => exact Nat.le_trans (octs_size _) (by decide)); k_whole; intro t9 k9))
  k_with "A:subscriptTail" => k_extra "r12"
  k_with "r13" => (k_here; (with_reducible show wpAny _ _ (subscriptTail _ _ (Value.ref _) (Value.int _ _)) _ _ _); k_dflt (refine' item_lnL ?S_q ?I_q ?a_q ?b_q ?z_q ?_; (case I_q => with_reducible assumption); (case S_q => first | exact stay_of (by with_reducible assumption) (by with_reducible assumption) | exact fun _ _ h => h); (case a_q => omega); (case b_q => (simp only [List.length_cons, List.length_nil]; omega)); (case z_q => (simp only [List.length_cons, List.length_nil]; decide)); k_whole))
  k_with "A:subscriptTail" => k_extra "r13"
  k_with "r14" => (k_here; (with_reducible show wpAny _ _ (subscriptTail _ (PySem.Expr.Slice _ _ none _) (Value.bytes _ _) (Value.ref _)) _ _ _); k_dflt (refine' slice_byG ?F_q ?p_q ?q_q ?z_q ?_; (case F_q => with_reducible assumption); (case p_q => constructor); (case q_q => constructor); (case z_q => first | exact octs_line _ | exact picked_line _ _ _); k_whole; intro t9 k9 h9 F9 S9; (try (have N9 := stay_news (by with_reducible assumption) S9)); (try k_sweep)))
  k_with "A:subscriptTail" => k_extra "r14"
  k_with "r15" => (k_here; (with_reducible show wpAny _ _ (subscriptTail _ (PySem.Expr.Slice _ _ none _) (Value.ref _) (Value.ref _)) _ _ _); k_dflt (refine' slice_lnL ?F_q ?S_q ?I_q ?p_q ?q_q ?z_q ?_; (case F_q => with_reducible assumption); (case I_q => with_reducible assumption); (case S_q => first | exact stay_of (by with_reducible assumption) (by with_reducible assumption) | exact fun _ _ h => h); (case p_q => constructor); (case q_q => constructor); (case z_q => size_fits); k_whole; intro D9 h9 F9 S9 B9; (have Z9 := fresh_of (Fr.keep (by assumption)) B9.1); (try (have N9 := stay_news (by with_reducible assumption) S9)); (try k_sweep)))
  k_with "A:subscriptTail" => k_extra "r15"
  k_with "A:call ref" => k_extra "r4"
  exact ⟨rfl, rfl⟩
theorem is_text_t (w : World) (G : Heap) (sp bd : Addr) (st mn : Int) (ts tm : Tok) (g0 : Bool) (I : SpF G sp bd st mn ts tm) (H : TextH G bd g0) : RO 6 w 309 [.ref sp] G (fun _ _ r => r = .bool true) (fun _ => False) :=
  is_text_span_c w G sp bd st mn ts tm I true g0 H
theorem is_text_r (w : World) (G : Heap) (sp bd : Addr) (st mn : Int) (ts tm : Tok) (g0 : Bool) (I : SpF G sp bd st mn ts tm) (H : RowH G bd g0) : RO 6 w 309 [.ref sp] G (fun _ _ r => r = .bool false) (fun _ => False) :=
  is_text_span_c w G sp bd st mn ts tm I false g0 H
theorem lnRo92 (w : World) : (hd.heap_39 w.params).In = (hd.heap_39 w.params).In ∧ PySem.Challenge.rw_on0261_01 = PySem.Challenge.rw_on0261_01 := by
  k_with "A:call ref" => (k_here; (with_reducible show W _ _ _ (call (Value.ref 309) _) _); k_dflt (refine' W.ro_v (is_text_t _ _ _ _ _ _ _ _ _ ?I_q ?H_q) ?KO_q ?FR_q ?ST_q ?_ ?exc_q ?HK_q; (case KO_q => with_reducible assumption); (case HK_q => decide); (case FR_q => with_reducible assumption); (case I_q => with_reducible assumption); (case H_q => with_reducible assumption); (case ST_q => first | exact stay_of (by with_reducible assumption) (by with_reducible assumption) | exact fun _ _ h => h | exact noH_in _); (case exc_q => exact fun _ _ _ _ h => h.elim); k_whole; intro h9 tk9 F9 S9; (try (have N9 := stay_news (by with_reducible assumption) S9)); (try k_sweep)))
  k_with "A:call ref" => (k_here; (with_reducible show W _ _ _ (call (Value.ref 309) _) _); k_dflt (refine' W.ro_v (is_text_r _ _ _ _ _ _ _ _ _ ?I_q ?H_q) ?KO_q ?FR_q ?ST_q ?_ ?exc_q ?HK_q; (case KO_q => with_reducible assumption); (case HK_q => decide); (case FR_q => with_reducible assumption); (case I_q => with_reducible assumption); (case H_q => with_reducible assumption); (case ST_q => first | exact stay_of (by with_reducible assumption) (by with_reducible assumption) | exact fun _ _ h => h | exact noH_in _); (case exc_q => exact fun _ _ _ _ h => h.elim); k_whole; intro h9 tk9 F9 S9; (try (have N9 := stay_news (by with_reducible assumption) S9)); (try k_sweep)))
  exact ⟨rfl, rfl⟩
theorem item_t (w : World) (G : Heap) (sp bd : Addr) (st mn : Int) (ts tm : Tok) (g0 : Bool) (p : Int) (t1 : Tok) (I : SpF G sp bd st mn ts tm) (hp : -1000 ≤ p ∧ p ≤ 1000) (hst : 0 ≤ st ∧ st + mn ≤ (octs g0).size) (H : TextH G bd g0) :
    RO 9 w 316 [.ref sp, .int p t1] G (fun _ _ r => (0 ≤ p ∧ p < mn) ∧ ∃ t, r = .int (((octs g0).toList.getD (st + p).toNat 0).toNat : Nat) t) (fun bs => bs = #[114, 97, 110, 103, 101, 99, 104, 101, 99, 107] ∧ ¬ (0 ≤ p ∧ p < mn)) := by
  refine RO.intro (k := 8) [(Str.ofString "span", .ref sp), (Str.ofString "at", .int p t1)] (by k_is) (by k_is) (by intro s X; exact BindsTo.of_eq rfl) rfl (by decide) rfl rfl rfl ?_
  intro C sh g h₁ tkk Q K F' N' KS' S' hret hexc
  have X' := K.X
  have T' := K.T
  have h5 := octs_size g0; have H' := H; obtain ⟨ba, tn, D, hb⟩ := H'
  k_steps
  · obtain ⟨q0, _, q⟩ : 0 ≤ p ∧ (0 : Int) ≤ 1 ∧ p + 1 ≤ mn := by assumption
    exact Due.mk ⟨by omega, _, rfl⟩
  · obtain ⟨z, q⟩ : _ ∧ ¬(0 ≤ p ∧ (0 : Int) ≤ 1 ∧ p + 1 ≤ mn) := by assumption
    exact Due.mk ⟨z, by omega⟩
theorem item_r (w : World) (G : Heap) (sp bd : Addr) (st mn : Int) (ts tm : Tok) (g0 : Bool) (l c0 c1 c2 : Addr) (tn : Tok) (p : Int) (t1 : Tok) (I : SpF G sp bd st mn ts tm) (hp : -1000 ≤ p ∧ p ≤ 1000) (hst : 0 ≤ st ∧ st + mn ≤ 3) (H : RowH G bd g0) (D : Fld G bd 115 [(Str.ofString "number", .int (if g0 then 4 else 3) tn), (Str.ofString "things", .ref l), (Str.ofString "is_global", .bool g0)]) (hl : G.IsList l #[.ref c0, .ref c1, .ref c2]) :
    RO 9 w 316 [.ref sp, .int p t1] G (fun _ _ r => (0 ≤ p ∧ p < mn) ∧ r = [Value.ref c0, .ref c1, .ref c2].getD (st + p).toNat .none) (fun bs => bs = #[114, 97, 110, 103, 101, 99, 104, 101, 99, 107] ∧ ¬ (0 ≤ p ∧ p < mn)) := by
  refine RO.intro (k := 8) [(Str.ofString "span", .ref sp), (Str.ofString "at", .int p t1)] (by k_is) (by k_is) (by intro s X; exact BindsTo.of_eq rfl) rfl (by decide) rfl rfl rfl ?_
  intro C sh g h₁ tkk Q K F' N' KS' S' hret hexc
  have X' := K.X
  have T' := K.T
  k_steps
  · obtain ⟨q0, _, q⟩ : 0 ≤ p ∧ (0 : Int) ≤ 1 ∧ p + 1 ≤ mn := by assumption
    exact Due.mk ⟨by omega, rfl⟩
  · obtain ⟨z, q⟩ : _ ∧ ¬(0 ≤ p ∧ (0 : Int) ≤ 1 ∧ p + 1 ≤ mn) := by assumption
    exact Due.mk ⟨z, by omega⟩
theorem things_of_span_c (w : World) (G : Heap) (sp bd : Addr) (st mn : Int) (ts tm : Tok) (g0 : Bool) (l c0 c1 c2 : Addr) (tn : Tok) (I : SpF G sp bd st mn ts tm) (hst : 0 ≤ st ∧ 0 ≤ mn ∧ st + mn ≤ 3) (D : Fld G bd 115 [(Str.ofString "number", .int (if g0 then 4 else 3) tn), (Str.ofString "things", .ref l), (Str.ofString "is_global", .bool g0)]) (hl : G.IsList l #[.ref c0, .ref c1, .ref c2]) :
    RO 6 w 330 [.ref sp] G (fun h h1 r => ∃ y, r = .ref y ∧ h.get? y = none ∧ h1.IsList y (slicePick #[.ref c0, .ref c1, .ref c2] (some st) (some (st + mn)) none)) (fun _ => False) := by
  refine RO.intro (k := 5) [(Str.ofString "span", .ref sp)] (by k_is) (by k_is) (by intro s X; exact BindsTo.of_eq rfl) rfl (by decide) rfl rfl rfl ?_
  intro C sh g h₁ tkk Q K F' N' KS' S' hret hexc
  have X' := K.X
  have T' := K.T
  k_steps
  obtain ⟨p1, p2⟩ : _ ∧ Heap.IsList _ _ _ := by assumption
  exact Due.mk ⟨_, rfl, fresh_of KS' (by assumption), p2⟩
theorem slice_byG {prog : Program} {w : World} {A : Around} {E : Value → Shared → Prop} {hh g : Heap} {L : Addr} {m : Str → Option Value} {gs : Array GenState} {dr : Drawn} {tk : Nat} {os : OsState} {Q : Value → Shared → Prop} {value slice : PySem.Expr} {b : Array UInt8} {t : Tok} {x u : Value} {lo hi : Option Int}
    (F : Fr g L hh m) (pl : IsPart x lo) (pu : IsPart u hi) (hz : b.size ≤ sizeLine) (h : ∀ t' k h', Fr g L h' m → hh.StaysIn h' → Q (.bytes (KBy.picked b lo hi) t') ⟨h', gs, dr, k, os⟩)
    (hs : subscripted slice false (.bytes b t) (.ref hh.objs.size) = operate [.ref hh.objs.size, .bytes b t] (getItem (.bytes b t) (.ref hh.objs.size)) := by with_unfolding_all rfl) (ht : ∀ r, letTemporaryGo value (.bytes b t) r = pure () := by intro _; with_unfolding_all rfl) :
    wpAny (model prog w) A (subscriptTail value slice (.bytes b t) (.ref hh.objs.size)) Q E ⟨hh.push { cls := .type "slice", data := .fields #[x, u, .none] }, gs, dr, tk, os⟩ :=
  tail_of_ItemOn ⟨"bytes", _, FB.slot_bytes_getitem.lookup, PySem.W.typeIs_bytes _ _ _, getItem_meets (PySem.W.typeIs_bytes _ _ _) (by decide) FB.slot_bytes_getitem FB.entry_bytes_getitem (FB.args_bytes_getitem_2 _ _) (KBc.meets_slice2 b t _ pl pu)
    ⟨Heap.IsSliceOf.new _ _ _ _, Nat.le_trans (KBc.size_picked_le b lo hi) hz, fun t' k => h _ _ _ (F.push _) (fun b o e => Heap.get?_push_of_some _ e)⟩⟩ hs ht
end Mine
end
section
namespace Mine
open PySem.Spec PySem.Calls
theorem lnRo100 (w : World) : (hd.heap_39 w.params).In = (hd.heap_39 w.params).In ∧ PySem.Challenge.rw_on0261_01 = PySem.Challenge.rw_on0261_01 := by
  k_fill
  exact ⟨rfl, rfl⟩
local macro_rules | `(tactic| k_inst) => `(tactic| (refine' instB ?ia ?ib ?ic ?id; (case ia => with_reducible assumption); (case ib => with_reducible assumption); (case ic => with_reducible assumption); (case id => with_reducible assumption)))
theorem lnRo101 (w : World) : (hd.heap_39 w.params).In = (hd.heap_39 w.params).In ∧ PySem.Challenge.rw_on0261_01 = PySem.Challenge.rw_on0261_01 := by
  k_with "A:compareOp In bytes ref" => k_extra "r10"
  k_with "A:compareOp Eq ref ref" => k_extra "r11"
  k_with "A:subscriptTail" => k_extra "r12"
  k_with "A:subscriptTail" => k_extra "r13"
  k_with "A:subscriptTail" => k_extra "r14"
  k_with "A:subscriptTail" => k_extra "r15"
  exact ⟨rfl, rfl⟩
noncomputable def whatU : TK → List At
  | .int i => [.str (Str.ofString "number"), .int (i * 1000000)]
  | .real i => [.str (Str.ofString "number"), .int (i * 1)]
  | .bool b => [.str (Str.ofString "boolean"), .bool b]
  | .name o => [.str (Str.ofString "word"), .bytes o]
  | .oper o => [.str (Str.ofString "operator"), .bytes o]
  | .str g st mn => [.str (Str.ofString "word"), .bytes (KBy.picked (octs g) (some st) (some (st + mn)))]
  | .arr _ g st mn => [.str (Str.ofString "array"), .int (if g then 4 else 3), .int st, .int mn]
  | .null => []
  | .mark => [.str (Str.ofString "mark"), .none]
  | .dict g => [.str (Str.ofString "dict"), .int (if g then 6 else 5)]
  | .save i => [.str (Str.ofString "save"), .int i]
theorem law_what_c (w : World) (G : Heap) (x : Addr) (U : TK) (v : Value) (e : Bool) (ac : Int) (tk ta : Tok) (I : ThF G x (kindS U) v e ac tk ta) (H : ValH G U v) (hw : wB U) :
    RO 6 w 405 [.ref x] G (fun h h1 r => match badU U ac with | some bs => ∃ t, r = .bytes bs t | none => ∃ y, r = .ref y ∧ h.get? y = none ∧ TupR h1 (whatU U) (.ref y)) (fun _ => False) := by
  refine RO.intro (k := 5) [(Str.ofString "thing", .ref x)] (by k_is) (by k_is) (by intro s X; exact BindsTo.of_eq rfl) rfl (by decide) rfl rfl rfl ?_
  intro C sh g h₁ tkk Q K F' N' KS' S' hret hexc
  have X' := K.X
  have T' := K.T
  cases U with
  | int i =>
    obtain ⟨ti, rfl⟩ := H
    have hb1 : -10 ≤ i := hw.1
    have hb2 : i ≤ 10 := hw.2
    have I' : ThF G x (Str.ofString "integer") _ e ac tk ta := I
    clear I
    k_steps
    exact Due.mk (tup_fresh KS' (by assumption) (.head _) (.cons ⟨_, rfl⟩ (.cons ⟨_, rfl⟩ .nil)))
  | real i =>
    obtain ⟨ti, rfl⟩ := H
    have hb1 : -10000000 ≤ i := hw.1
    have hb2 : i ≤ 10000000 := hw.2
    have I' : ThF G x (Str.ofString "real") _ e ac tk ta := I
    clear I
    k_steps
    exact Due.mk (tup_fresh KS' (by assumption) (.head _) (.cons ⟨_, rfl⟩ (.cons ⟨_, rfl⟩ .nil)))
  | bool b =>
    obtain rfl := H
    have I' : ThF G x (Str.ofString "boolean") _ e ac tk ta := I
    clear I
    k_steps
    exact Due.mk (tup_fresh KS' (by assumption) (.head _) (.cons ⟨_, rfl⟩ (.cons rfl .nil)))
  | name o =>
    obtain ⟨ti, rfl⟩ := H
    have I' : ThF G x (Str.ofString "name") _ e ac tk ta := I
    clear I
    k_steps
    exact Due.mk (tup_fresh KS' (by assumption) (.head _) (.cons ⟨_, rfl⟩ (.cons ⟨_, rfl⟩ .nil)))
  | oper o =>
    obtain ⟨ti, rfl⟩ := H
    have I' : ThF G x (Str.ofString "operator") _ e ac tk ta := I
    clear I
    k_steps
    exact Due.mk (tup_fresh KS' (by assumption) (.head _) (.cons ⟨_, rfl⟩ (.cons ⟨_, rfl⟩ .nil)))
  | null =>
    obtain rfl := H
    have I' : ThF G x (Str.ofString "null") _ e ac tk ta := I
    clear I
    k_steps
    exact Due.mk ⟨_, rfl⟩
  | mark =>
    obtain rfl := H
    have I' : ThF G x (Str.ofString "mark") _ e ac tk ta := I
    clear I
    k_steps
    exact Due.mk (tup_fresh KS' (by assumption) (.head _) (.cons ⟨_, rfl⟩ (.cons rfl .nil)))
  | dict g0 =>
    obtain ⟨bd, rfl, tn, td, D⟩ := H
    have I' : ThF G x (Str.ofString "dict") _ e ac tk ta := I
    clear I
    k_steps
    exact Due.mk (tup_fresh KS' (by assumption) (.head _) (.cons ⟨_, rfl⟩ (.cons ⟨_, rfl⟩ .nil)))
  | save i =>
    obtain ⟨ti, rfl⟩ := H
    have I' : ThF G x (Str.ofString "save") _ e ac tk ta := I
    clear I
    k_steps
    exact Due.mk (tup_fresh KS' (by assumption) (.head _) (.cons ⟨_, rfl⟩ (.cons ⟨_, rfl⟩ .nil)))
  | str g0 st mn =>
    obtain ⟨sp, bd, ts, tm, rfl, I2, ba, tn, D, hb⟩ := H
    obtain ⟨⟨hs1, hs2⟩, hs3, hs4⟩ := hw
    have I' : ThF G x (Str.ofString "string") _ e ac tk ta := I
    clear I
    k_steps
    all_goals refine Due.mk ?_
    · rw [show badU (TK.str g0 st mn) ac = none from if_neg (by omega)]
      exact tup_fresh KS' (by assumption) (.head _) (.cons ⟨_, rfl⟩ (.cons ⟨_, rfl⟩ .nil))
    · rw [show badU (TK.str g0 st mn) ac = some #[105, 110, 118, 97, 108, 105, 100, 97, 99, 99, 101, 115, 115] from if_pos (by omega)]
      exact ⟨_, rfl⟩
  | arr pk g0 st mn =>
    obtain ⟨sp, bd, ts, tm, rfl, I2, l, tn, D, H3⟩ := H
    obtain ⟨⟨hs1, hs2⟩, hs3, hs4⟩ := hw
    cases pk
    · have I' : ThF G x (Str.ofString "array") _ e ac tk ta := I
      clear I
      k_steps
      exact Due.mk (tup_fresh KS' (by assumption) (.head _) (.cons ⟨_, rfl⟩ (.cons ⟨_, rfl⟩ (.cons ⟨_, rfl⟩ (.cons ⟨_, rfl⟩ .nil)))))
    · have I' : ThF G x (Str.ofString "packed") _ e ac tk ta := I
      clear I
      k_steps
      exact Due.mk (tup_fresh KS' (by assumption) (.head _) (.cons ⟨_, rfl⟩ (.cons ⟨_, rfl⟩ (.cons ⟨_, rfl⟩ (.cons ⟨_, rfl⟩ .nil)))))
theorem what_ok (w : World) (G : Heap) (x : Addr) (U : TK) (v : Value) (e : Bool) (ac : Int) (tk ta : Tok) (I : ThF G x (kindS U) v e ac tk ta) (H : ValH G U v) (hw : wB U) (hb : badU U ac = none) :
    RO 6 w 405 [.ref x] G (fun h h1 r => ∃ y, r = .ref y ∧ h.get? y = none ∧ TupR h1 (whatU U) (.ref y)) (fun _ => False) := by
  have h := law_what_c w G x U v e ac tk ta I H hw
  rw [hb] at h
  exact h
theorem what_bad (w : World) (G : Heap) (x : Addr) (U : TK) (v : Value) (e : Bool) (ac : Int) (tk ta : Tok) (bs : Array UInt8) (I : ThF G x (kindS U) v e ac tk ta) (H : ValH G U v) (hw : wB U) (hb : badU U ac = some bs) :
    RO 6 w 405 [.ref x] G (fun h h1 r => ∃ t, r = .bytes bs t) (fun _ => False) := by
  have h := law_what_c w G x U v e ac tk ta I H hw
  rw [hb] at h
  exact h
theorem news_tup {g hh h : Heap} {L y : Addr} {l : List At} {news : Led} {m : Str → Option Value} (F : Fr g L hh m) (N : News g L h news) (hy : hh.get? y = none) (T : TupR h l (.ref y)) :
    ∃ o k xs, News g L h ((y, o) :: news) ∧ o.cls = .type "tuple" ∧ o.data = .seq (List.toArray xs) k ∧ AllR l xs := by
  obtain ⟨a, xs, e, ⟨o, h1, h2, k, h3⟩, r⟩ := T
  cases e
  refine ⟨o, k, xs, fun p hp => ?_, h2, h3, r⟩
  rcases List.mem_cons.mp hp with rfl | hp
  · refine ⟨h1, fun z => ?_, fresh_of F.keep hy⟩
    have z' : y = L := z
    subst z'
    obtain ⟨oL, es, ep, hoL, _⟩ := F.1
    rw [hoL] at hy
    cases hy
  · exact N p hp
theorem news_tup_k {R : Prop} {g hh h : Heap} {L y : Addr} {l : List At} {news : Led} {m : Str → Option Value} (F : Fr g L hh m) (N : News g L h news) (hy : hh.get? y = none) (T : TupR h l (.ref y)) (k : ∀ o k xs, News g L h ((y, o) :: news) → o.cls = .type "tuple" → o.data = .seq (List.toArray xs) k → AllR l xs → R) : R := by
  obtain ⟨o, j, xs, a, b, c, e⟩ := news_tup F N hy T
  exact k o j xs a b c e
theorem tup_of {g h : Heap} {L y : Addr} {l : List At} {news : Led} {o : Obj} {k : Nat} {xs : List Value} (N : News g L h news) (hm : (y, o) ∈ news) (h2 : o.cls = .type "tuple") (h3 : o.data = .seq (List.toArray xs) k) (r : AllR l xs) : TupR h l (.ref y) :=
  ⟨y, xs, rfl, ⟨o, N.get hm, h2, k, h3⟩, r⟩
noncomputable def valD : TK → It
  | .int i => .at (.int i)
  | .real i => .at (.int i)
  | .bool b => .at (.bool b)
  | .name o => .at (.bytes o)
  | .oper o => .at (.bytes o)
  | .str g st mn => .tup [.int (if g then 2 else 1), .int st, .int mn]
  | .arr _ g st mn => .tup [.int (if g then 4 else 3), .int st, .int mn]
  | .null => .at .none
  | .mark => .at .none
  | .dict g => .at (.int (if g then 6 else 5))
  | .save i => .at (.int i)
noncomputable def faceD (U : TK) (e : Bool) (ac : Int) : List It := [.at (.str (kindS U)), valD U, .at (.bool e), .at (.int ac)]
theorem lst_news {g h : Heap} {L D : Addr} {news : Led} {l : List It} {xs : List Value} {k : Nat} (N : News g L h news) (hm : (D, { cls := .type "list", data := .seq (List.toArray xs) k }) ∈ news) (r : ItsR h l xs) : LstR h l (.ref D) :=
  ⟨D, xs, rfl, ⟨_, N.get hm, rfl, k, rfl⟩, r⟩
end Mine
end
section
namespace Mine
open PySem.Spec PySem.Calls
open PySem.SeqAt
section
variable {prog : Program} {w : World} {A : Around} {E : Value → Shared → Prop} {s : Shared} {D : Addr} {v1 v2 x : Value} {Q : Value → Shared → Prop}
theorem in2_no (hl : s.heap.IsList D #[v1, v2]) (e1 : EqAt A.in1 s v1 x false) (e2 : EqAt A.in1 s v2 x false) (q : Q (.bool false) s) : wpAny (model prog w) A (compareOp .In x (.ref D)) Q E s :=
  in_listAt (fun _ => false) hl (fun y hy => by
    rcases List.mem_cons.mp (Array.mem_toList_iff.mpr hy) with rfl | hy
    · exact e1
    · rw [List.mem_singleton.mp hy]; exact e2) (by simpa using q)
theorem in2_1 {b : Bool} (hl : s.heap.IsList D #[v1, v2]) (e1 : EqAt A.in1 s v1 x true) (e2 : EqAt A.in1 s v2 x b) (q : Q (.bool true) s) : wpAny (model prog w) A (compareOp .In x (.ref D)) Q E s :=
  in_listAt (fun y => if y = v1 then true else b) hl (fun y hy => by
    by_cases z : y = v1
    · simp only [z, if_true]; exact e1
    · rcases List.mem_cons.mp (Array.mem_toList_iff.mpr hy) with rfl | hy
      · exact absurd rfl z
      · simp only [z, if_false]; rw [List.mem_singleton.mp hy]; exact e2) (by simpa using q)
theorem in2_2 {b : Bool} (hl : s.heap.IsList D #[v1, v2]) (e1 : EqAt A.in1 s v1 x b) (e2 : EqAt A.in1 s v2 x true) (q : Q (.bool true) s) : wpAny (model prog w) A (compareOp .In x (.ref D)) Q E s :=
  in_listAt (fun y => if y = v2 then true else b) hl (fun y hy => by
    by_cases z : y = v2
    · simp only [z, if_true]; exact e2
    · rcases List.mem_cons.mp (Array.mem_toList_iff.mpr hy) with rfl | hy
      · simp only [z, if_false]; exact e1
      · exact absurd (List.mem_singleton.mp hy) z) (by simpa using q)
theorem eq_b_same (b : Array UInt8) (t u : Tok) : EqAt A s (.bytes b t) (.bytes b u) true := by
  have := eq_b_b (A := A) (s := s) b b t u
  rwa [decide_eq_true rfl] at this
theorem eq_t_b {l : List At} {b : Array UInt8} {u : Tok} (k : TupR s.heap l v1) (hu : A.units + 1 < cLine) : EqAt A.in1 s v1 (.bytes b u) false := tup_at (a := .bytes b) ⟨u, rfl⟩ k (by show A.units + 1 < cLine; exact hu)
end
theorem bad_IA {U : TK} {ac : Int} {bs : Array UInt8} (h : badU U ac = some bs) (n : isNull U = false) : bs = #[105, 110, 118, 97, 108, 105, 100, 97, 99, 99, 101, 115, 115] := by
  cases U <;> first | cases n | (simp only [badU] at h; done) | skip
  all_goals (simp only [badU] at h; first | (split at h <;> cases h; rfl) | cases h)
theorem any_null {U U' : TK} {b : Bool} (h : ([kindS U, kindS U'].any fun x => x == Str.ofString "null") = b) : (isNull U || isNull U') = b := by
  rw [← h]
  show _ = ((kindS U == KD.null.s) || ((kindS U' == KD.null.s) || false))
  rw [kd_is, kd_is, Bool.or_false]
  rfl
theorem W.ro_tup {i : FI} {w : World} {C : Cx i w} {g h G : Heap} {tk k : Nat} {m : Str → Option Value} {f : Addr} {vs : List Value} {kk : Nat} {l : List At} {Exc : Array UInt8 → Prop} {news : Led} {Q : Value → Heap → Nat → Prop} (c : RO kk w f vs G (fun h h1 r => ∃ y, r = .ref y ∧ h.get? y = none ∧ TupR h1 l (.ref y)) Exc)
    (K : Ok C g k) (F : Fr g C.L h m) (N : News g C.L h news) (S : G.StaysIn h)
    (ret : ∀ y o j xs h' tk', Fr g C.L h' m → h.StaysIn h' → News g C.L h' ((y, o) :: news) → o.cls = .type "tuple" → o.data = .seq (List.toArray xs) j → AllR l xs → Q (.ref y) h' tk')
    (exc : ∀ e h' tk' bs, Exc bs → Fly C.base (C.env :: C.outer) e bs h h' → AtE C (.ref e) h' tk') (hk : kk ≤ k := by decide) (hf : i.scope.kind = .function := by rfl) : W C h tk (call (.ref f) vs) Q :=
  W.ro c K F S (fun r h' tk' a b p => by
    obtain ⟨y, p, hy, T⟩ := p
    obtain ⟨o, j, xs, N2, h1, h2, h3⟩ := news_tup F (stay_news N b) hy T
    rw [p]; exact ret y o j xs h' tk' a b N2 h1 h2 h3) exc hk hf
end Mine
end
section
namespace Mine
open PySem.Spec PySem.Calls
theorem lnRo110 (w : World) : (hd.heap_39 w.params).In = (hd.heap_39 w.params).In ∧ PySem.Challenge.rw_on0261_01 = PySem.Challenge.rw_on0261_01 := by
  k_fill
  exact ⟨rfl, rfl⟩
local macro_rules | `(tactic| k_inst) => `(tactic| (refine' instB ?ia ?ib ?ic ?id; (case ia => with_reducible assumption); (case ib => with_reducible assumption); (case ic => with_reducible assumption); (case id => with_reducible assumption)))
theorem lnRo111 (w : World) : (hd.heap_39 w.params).In = (hd.heap_39 w.params).In ∧ PySem.Challenge.rw_on0261_01 = PySem.Challenge.rw_on0261_01 := by
  k_with "A:compareOp In bytes ref" => k_extra "r10"
  k_with "A:compareOp Eq ref ref" => k_extra "r11"
  k_with "A:subscriptTail" => k_extra "r12"
  k_with "A:subscriptTail" => k_extra "r13"
  k_with "A:subscriptTail" => k_extra "r14"
  k_with "A:subscriptTail" => k_extra "r15"
  k_with "r16" => (k_here; (with_reducible show W _ _ _ (call (Value.ref 405) _) _); k_dflt (refine' W.ro_tup (what_ok _ _ _ _ _ _ _ _ _ ?I_q ?H_q ?hw_q ?hb_q) ?KO_q ?FR_q ?NN_q ?ST_q ?_ ?exc_q ?HK_q; (case KO_q => with_reducible assumption); (case HK_q => decide); (case FR_q => with_reducible assumption); (case NN_q => with_reducible assumption); (case I_q => with_reducible assumption); (case H_q => with_reducible assumption); (case hw_q => with_reducible assumption); (case hb_q => with_reducible assumption); (case ST_q => first | exact stay_of (by with_reducible assumption) (by with_reducible assumption) | exact fun _ _ h => h | exact noH_in _); (case exc_q => exact fun _ _ _ _ h => h.elim); k_whole; intro y9 o9 k9 xs9 h9 tk9 F9 S9 N9 c9 d9 q9; (try k_sweep)))
  k_with "A:call ref" => k_extra "r16"
  k_with "r17" => (k_here; (with_reducible show W _ _ _ (call (Value.ref 405) _) _); k_dflt (refine' W.ro_t (what_bad _ _ _ _ _ _ _ _ _ _ ?I_q ?H_q ?hw_q ?hb_q) ?KO_q ?FR_q ?ST_q ?_ ?exc_q ?HK_q; (case KO_q => with_reducible assumption); (case HK_q => decide); (case FR_q => with_reducible assumption); (case I_q => with_reducible assumption); (case H_q => with_reducible assumption); (case hw_q => with_reducible assumption); (case hb_q => with_reducible assumption); (case ST_q => first | exact stay_of (by with_reducible assumption) (by with_reducible assumption) | exact fun _ _ h => h | exact noH_in _); (case exc_q => exact fun _ _ _ _ h => h.elim); k_whole; intro t9 h9 tk9 F9 S9; (try (have N9 := stay_news (by with_reducible assumption) S9)); (try k_sweep)))
  k_with "A:call ref" => k_extra "r17"
  exact ⟨rfl, rfl⟩
theorem law_equal_c (w : World) (G : Heap) (x : Addr) (U : TK) (v : Value) (e : Bool) (ac : Int) (tk ta : Tok) (x' : Addr) (U' : TK) (v' : Value) (e' : Bool) (ac' : Int) (tk' ta' : Tok) (I : ThF G x (kindS U) v e ac tk ta) (H : ValH G U v) (hw : wB U) (I' : ThF G x' (kindS U') v' e' ac' tk' ta') (H' : ValH G U' v') (hw' : wB U') :
    RO 12 w 426 [.ref x, .ref x'] G (fun _ _ r => if (isNull U || isNull U') = true then r = .bool (decide (kdOf U = kdOf U')) else if ((badU U ac).isSome || (badU U' ac').isSome) = true then ∃ t, r = .bytes #[105, 110, 118, 97, 108, 105, 100, 97, 99, 99, 101, 115, 115] t else r = .bool (tEq (whatU U) (whatU U'))) (fun _ => False) := by
  refine RO.intro (k := 11) [(Str.ofString "one", .ref x), (Str.ofString "other", .ref x')] (by k_is) (by k_is) (by intro s X; exact BindsTo.of_eq rfl) rfl (by decide) rfl rfl rfl ?_
  intro C sh g h₁ tkk Q K F' N' KS' S' hret hexc
  have X' := K.X
  have T' := K.T
  rcases Bool.eq_false_or_eq_true (isNull U || isNull U') with n | n
  · k_steps
    · refine Due.mk ?_
      rw [if_pos n]
      show Value.bool (kindS U == kindS U') = _
      rw [kd_inj]
    · have q := any_null (by assumption)
      rw [n] at q
      cases q
  · obtain ⟨n1, n2⟩ := Bool.or_eq_false_iff.mp n
    cases h1 : badU U ac with
    | none =>
      cases h2 : badU U' ac' with
      | none =>
        k_steps
        · have q := any_null (by assumption)
          rw [n] at q
          cases q
        · refine Due.mk ?_
          rw [if_neg (by rw [n]; exact Bool.false_ne_true), if_neg (by rw [h1, h2]; exact Bool.false_ne_true)]
      | some b2 =>
        obtain rfl := bad_IA h2 n2
        k_steps
        · have q := any_null (by assumption)
          rw [n] at q
          cases q
        · refine Due.mk ?_
          rw [if_neg (by rw [n]; exact Bool.false_ne_true), if_pos (by rw [h1, h2]; rfl)]
          exact ⟨_, rfl⟩
    | some b1 =>
      obtain rfl := bad_IA h1 n1
      cases h2 : badU U' ac' with
      | none =>
        k_steps
        · have q := any_null (by assumption)
          rw [n] at q
          cases q
        · refine Due.mk ?_
          rw [if_neg (by rw [n]; exact Bool.false_ne_true), if_pos (by rw [h1, h2]; rfl)]
          exact ⟨_, rfl⟩
      | some b2 =>
        obtain rfl := bad_IA h2 n2
        k_steps
        · have q := any_null (by assumption)
          rw [n] at q
          cases q
        · refine Due.mk ?_
          rw [if_neg (by rw [n]; exact Bool.false_ne_true), if_pos (by rw [h1, h2]; rfl)]
          exact ⟨_, rfl⟩
end Mine
end
section
namespace Mine
open PySem.Spec PySem.Calls
section
variable {prog : Program} {w : World} {A : Around} {E : Value → Shared → Prop} {s₁ : Shared} {h₀ : Heap} {L : Addr} {m : Str → Option Value} {news : List (Addr × Obj)}
theorem paired_all {R : Value → Value → Prop} {vs ys : List Value} (h : Paired R (vs.filter fun _ => true) ys) : Paired R vs ys := by
  rwa [List.filter_eq_self.mpr fun _ _ => rfl] at h
theorem compA_tup {name : Str} {fscope : Scope} {a : Addr} {cd : Value} {elt : Expr} {x z : Str} {scope : Scope} {Q : Flow → Shared → Prop} {l : Addr} {vs : List Value} (R : Value → Value → Prop)
    (hh : A.handled = none) (hl : IsTup s₁.heap l vs.toArray) (F : Fr h₀ L s₁.heap m) (N : News h₀ L s₁.heap news) (hsz : vs.length ≤ sizeLine)
    (el : ∀ C v s₃ m₃ E', v ∈ vs → s₃.heap.Ns C m₃ → m₃ x = some v → s₁.heap.StaysIn s₃.heap → wpAny (model prog w) A (eval elt (compEnv scope C (envOf name fscope L a cd))) (fun r s₄ => R v r ∧ Keeps s₃ s₄) E' s₃)
    (g3 : ∀ D ys n h' tk, Fr h₀ L h' (fun q => if q = z then some (.ref D) else m q) → News h₀ L h' ((D, { cls := .type "list", data := .seq (List.toArray ys) n }) :: news) → (∀ p ∈ news, p.1 ≠ D) → Paired R vs ys → Q .next { s₁ with heap := h', toks := tk }) :
    wpAny (model prog w) A (pyIter (.ref l)) (CompPostA prog w A (envOf name fscope L a cd) scope x z [] elt Q) E s₁ := by
  have hlt : l < s₁.heap.objs.size := by obtain ⟨_, e, _⟩ := hl; exact Heap.lt_size e
  have hls : s₁.heap.IsTuple l vs.toArray := hl
  refine wpAny_pyIter_tuple hls ?_
  refine ⟨fun _ => true, R, s₁.heap.objs.size, [s₁.heap.objs.size, l], [s₁.heap.objs.size], vs.toArray.size, _, _, m, rfl, Walks.tuple hh _ l (Nat.ne_of_lt hlt) vs.toArray, (by rw [List.size_toArray]; exact hsz),
    ⟨⟨_, Heap.get?_push_size _ rfl, rfl, rfl⟩, hls.at fun o e => Heap.get?_push_of_some _ e⟩, ?_, ?_, (F.push _).ns, ⟨?_, ?_⟩, ?_⟩
  · intro b hb
    show b < (s₁.heap.push _).objs.size
    rw [Heap.size_push]
    rcases List.mem_cons.mp hb with rfl | hb
    · exact Nat.lt_succ_self _
    · rw [List.mem_singleton.mp hb]; exact Nat.lt_succ_of_lt hlt
  · intro hm
    exact absurd F.ns.lt ((List.mem_singleton.mp hm) ▸ Nat.lt_irrefl _)
  · intro C i v s₃ m₃ E' hP hn hm _ htk
    exact wpAny_pure ⟨rfl, s₃.heap, s₃.toks, rfl, fun _ _ e => e⟩
  · intro C i v s₃ m₃ E' hP hp' hn hm hk htk
    refine el C v s₃ m₃ E' ?_ hn hm fun b o e => hk b o (not_iter_of_old e) (Heap.get?_push_of_some _ e)
    have hP' : vs.toArray[i]? = some v := hP
    exact List.mem_of_getElem? (by simpa using hP')
  · intro D h' tk ys vs' hnew hlD hplD hlen hP hF hn' hk
    have e' : vs' = vs := by simpa using walked_is hlen hP
    subst e'
    obtain ⟨n, hpl⟩ := hplD
    have hD : s₁.heap.get? D = none := by
      cases e : s₁.heap.get? D with
      | none => rfl
      | some o' => rw [Heap.get?_push_of_some _ e] at hnew; cases hnew
    refine g3 D ys.toList n h' tk ⟨hn', fun b o' e => hk b o' (Nat.ne_of_lt (Nat.lt_of_lt_of_le (Heap.lt_size e) F.above)) (not_iter_of_old (F.keep b o' e)) (Heap.get?_push_of_some _ (F.keep b o' e)), F.above⟩ (fun p hp => ?_) (fun p hp e => ?_) (paired_all hF)
    · rcases List.mem_cons.mp hp with rfl | hp
      · refine ⟨by rw [Array.toArray_toList]; exact hpl, fr_ne F hD, fresh_of F.keep hD⟩
      · exact ⟨hk _ _ (N p hp).2.1 (not_iter_of_old (N p hp).1) (Heap.get?_push_of_some _ (N p hp).1), (N p hp).2⟩
    · rw [← e, (N p hp).1] at hD; cases hD
end
theorem paired_two {R : Value → Value → Prop} {a b : Value} {ys : List Value} (h : Paired R [a, b] ys) : ∃ c d, ys = [c, d] ∧ R a c ∧ R b d := by
  cases h with
  | cons h1 h => cases h with
    | cons h2 h => cases h; exact ⟨_, _, rfl, h1, h2⟩
theorem dict_inj {es es' : List DictEntry} {n n' : Nat} (h : dictOf es n = dictOf es' n') : es = es' := by
  have h1 : (dictOf es n).data = (dictOf es' n').data := by rw [h]
  have h2 : Data.dict es.toArray n = Data.dict es'.toArray n' := h1
  injection h2 with h3
  simpa using congrArg Array.toList h3
theorem Fld.inj {h : Heap} {x C C' : Addr} {fs fs' : List (Str × Value)} {n : Str} {v v' : Value} (I : Fld h x C fs) (J : Fld h x C' fs') (e : (n, v) ∈ fs) (e' : (n, v') ∈ fs') : v = v' := by
  obtain ⟨sl, d, es, k, h1, h2, h3⟩ := I
  obtain ⟨sl', d', es', k', j1, j2, j3⟩ := J
  rw [h1] at j1
  cases j1
  rw [h2] at j2
  obtain rfl := dict_inj (Option.some.inj j2)
  have a := (h3 _ e).1
  have b := (j3 _ e').1
  have a' : getL n es = some (some v) := a
  have b' : getL n es = some (some v') := b
  rw [a'] at b'
  cases b'
  rfl
open PySem.SeqAt in
theorem lat_eq {A : Around} {s : Shared} {a b : Addr} {xs ys : List Value} {l l' : List At} (h1 : s.heap.IsList a (List.toArray xs)) (r1 : AllR l xs) (h2 : s.heap.IsList b (List.toArray ys)) (r2 : AllR l' ys) (hl : l.length = l'.length) (hu : A.units < cLine) : EqAt A s (.ref a) (.ref b) (tEq l l') := by
  by_cases hab : a = b
  · subst hab
    have : xs = ys := by
      obtain ⟨o, g1, g2, n, g3⟩ := h1
      obtain ⟨o', f1, f2, n', f3⟩ := h2
      rw [g1] at f1; cases f1
      rw [g3] at f3
      injection f3 with f3 f4
      simpa using congrArg Array.toList f3
    subst this
    rw [r1.inj r2, tEq_refl]
    exact EqAt.same _
  · refine EqAt.of_refs hab ?_
    have hsz : xs.toArray.size = ys.toArray.size := by rw [List.size_toArray, List.size_toArray, ← r1.length, ← r2.length, hl]
    have := RcAt.lists (A := A) (e := fun j => (l.getD j .none).eq (l'.getD j .none)) h1 h2 hsz hu fun j j1 j2 => by
      have e1 := r1.get j (by simpa using j1)
      have e2 := r2.get j (by simpa using j2)
      simpa using at_eq (A := A.in1) e1 e2
    have e := tEq_range l l'
    rw [← hl, Nat.min_self, beq_self_eq_true, Bool.and_true, r1.length] at e
    rw [← e]
    simpa using this
end Mine
end
section
namespace Mine
open PySem.Spec PySem.Calls
noncomputable def kindI (U : TK) : Str := if (kindS U != Str.ofString "real") = true then kindS U else Str.ofString "integer"
noncomputable def nkin (a b : Str) : Bool := !(tEq [.str (Str.ofString "integer"), .str (Str.ofString "integer")] [.str a, .str b] || tEq [.str (Str.ofString "string"), .str (Str.ofString "string")] [.str a, .str b])
noncomputable def lessR (U U' : TK) (ac ac' : Int) (r : Value) : Prop := if (isNum U && isNum U') = true then r = .bool (decide (milU U < milU U')) else if (isStr U && isStr U') = true then (if 2 ≤ ac ∧ 2 ≤ ac' then r = .bool (ltB (octU U) (octU U')) else ∃ t, r = .bytes #[105, 110, 118, 97, 108, 105, 100, 97, 99, 99, 101, 115, 115] t) else ∃ t, r = .bytes #[116, 121, 112, 101, 99, 104, 101, 99, 107] t
theorem kindI_int (U : TK) : (kindI U == Str.ofString "integer") = isNum U := by
  have h : ∀ k : KD, ((if (k.s != Str.ofString "real") = true then k.s else Str.ofString "integer") == Str.ofString "integer") = (decide (k = .integer) || decide (k = .real)) := by intro k; cases k <;> kernel_rfl
  show ((if ((kdOf U).s != Str.ofString "real") = true then (kdOf U).s else Str.ofString "integer") == _) = _
  rw [h]
  cases U <;> first | rfl | (rename_i pk _ _ _; cases pk <;> rfl)
theorem kindI_str (U : TK) : (kindI U == Str.ofString "string") = isStr U := by
  have h : ∀ k : KD, ((if (k.s != Str.ofString "real") = true then k.s else Str.ofString "integer") == Str.ofString "string") = (decide (k = .string)) := by intro k; cases k <;> kernel_rfl
  show ((if ((kdOf U).s != Str.ofString "real") = true then (kdOf U).s else Str.ofString "integer") == _) = _
  rw [h]
  cases U <;> first | rfl | (rename_i pk _ _ _; cases pk <;> rfl)
theorem nkin_eq (U U' : TK) : nkin (kindI U) (kindI U') = !((isNum U && isNum U') || (isStr U && isStr U')) := by
  unfold nkin
  simp only [tEq, At.eq, Bool.and_true]
  rw [← kindI_int, ← kindI_int, ← kindI_str, ← kindI_str]
  congr 1
  rw [Bool.beq_comm (a := kindI U), Bool.beq_comm (a := kindI U'), Bool.beq_comm (a := kindI U) (b := Str.ofString "string"), Bool.beq_comm (a := kindI U') (b := Str.ofString "string")]
theorem what_num (w : World) (G : Heap) (x : Addr) (U : TK) (v : Value) (e : Bool) (ac : Int) (tk ta : Tok) (I : ThF G x (kindS U) v e ac tk ta) (H : ValH G U v) (hw : wB U) (hn : isNum U = true) : RO 6 w 405 [.ref x] G (fun h h1 r => ∃ y, r = .ref y ∧ h.get? y = none ∧ TupR h1 [.str (Str.ofString "number"), .int (milU U)] (.ref y)) (fun _ => False) := by
  have hb : badU U ac = none := by cases U <;> first | rfl | cases hn
  have hw1 : whatU U = [.str (Str.ofString "number"), .int (milU U)] := by cases U <;> first | rfl | (simp [whatU, milU]; done) | cases hn
  rw [← hw1]
  exact what_ok w G x U v e ac tk ta I H hw hb
theorem what_sok (w : World) (G : Heap) (x : Addr) (U : TK) (v : Value) (e : Bool) (ac : Int) (tk ta : Tok) (I : ThF G x (kindS U) v e ac tk ta) (H : ValH G U v) (hw : wB U) (hs : isStr U = true) (ha : 2 ≤ ac) : RO 6 w 405 [.ref x] G (fun h h1 r => ∃ y, r = .ref y ∧ h.get? y = none ∧ TupR h1 [.str (Str.ofString "word"), .bytes (octU U)] (.ref y)) (fun _ => False) := by
  obtain ⟨g0, st, mn, rfl⟩ := str_of hs
  exact what_ok w G x _ v e ac tk ta I H hw (if_neg (by omega))
theorem what_sbad (w : World) (G : Heap) (x : Addr) (U : TK) (v : Value) (e : Bool) (ac : Int) (tk ta : Tok) (I : ThF G x (kindS U) v e ac tk ta) (H : ValH G U v) (hw : wB U) (hs : isStr U = true) (ha : ac < 2) : RO 6 w 405 [.ref x] G (fun h h1 r => ∃ t, r = .bytes #[105, 110, 118, 97, 108, 105, 100, 97, 99, 99, 101, 115, 115] t) (fun _ => False) := by
  obtain ⟨g0, st, mn, rfl⟩ := str_of hs
  exact what_bad w G x _ v e ac tk ta _ I H hw (if_pos (by omega))
theorem getH {prog : Program} {w : World} {A : Around} {hh : Heap} {gs : Array GenState} {dr : Drawn} {tk : Nat} {os : OsState} {E : Value → Shared → Prop} {K : Frag} {x C : Addr} {fs : List (Str × Value)} {name : Str} {v : Value} {expr : Bool} {Q : Value → Shared → Prop}
    (X : K.In hh) (I : Fld hh x C fs) (hc : ClsOk K C name) (hv : fs.lookup name = some v) (h : Q v ⟨hh, gs, dr, tk + 1, os⟩) : wpAny (model prog w) A (getAttr (.ref x) name expr) Q E ⟨hh, gs, dr, tk, os⟩ := by
  obtain ⟨sl, d, es, n, h1, h2, h3⟩ := I
  obtain ⟨c1, c2, attr, c3, c4⟩ := hc
  obtain ⟨e1, e2⟩ := h3 _ (mem_lookup hv)
  have J : InstAt hh x { cls := .ref C, dict := some d, data := .plain, slots := sl } C (some (dictOf es n)) := ⟨h1, rfl, rfl, h2⟩
  exact get_value (s := ⟨hh, gs, dr, tk, os⟩) X J (plainGet_of c1).1 (findObj_own c2 c3 c4 e1) e2 h
theorem attr_elt {prog : Program} {w : World} {A : Around} {hh : Heap} {gs : Array GenState} {dr : Drawn} {tk : Nat} {os : OsState} {E : Value → Shared → Prop} {env : Env} {m : Str → Option Value} {z : Addr} {n name : Str} {C : Addr} {fs : List (Str × Value)} {v : Value} {p1 p2 : Pos} {Q : Value → Shared → Prop}
    (hk : env.scope.kind = .function) (hx : env.kindOf n = some .local) (hn : hh.Ns env.locals m) (hm : m n = some (.ref z)) (hdb : (n == ("__debug__" : Str)) = false) (X : (hd.heap_39 w.params).In hh) (I : Fld hh z C fs) (hc : ClsOk (Mine.hd.heap_39 w.params) C name) (hv : fs.lookup name = some v)
    (h : Q v ⟨hh, gs, dr, tk + 1, os⟩) : wpAny (model prog w) A (eval (.Attribute (.Name n p1) name p2) env) Q E ⟨hh, gs, dr, tk, os⟩ :=
  Attribute_name (wpAny_Name (wpAny_loadName_local hk hx hn hm (getH X I hc hv h)) hdb)
theorem less_elt {prog : Program} {w : World} {A : Around} {s : Shared} {E : Value → Shared → Prop} {env : Env} {m : Str → Option Value} {z : Addr} {V : TK} {w1 : Value} {e1 : Bool} {a1 : Int} {k1 u1 : Tok} {p1 p2 p3 p4 p5 p6 p7 p8 : Pos} {q1 q2 : Nat}
    (hk : env.scope.kind = .function) (hx : env.kindOf "thing" = some .local) (hn : s.heap.Ns env.locals m) (hm : m "thing" = some (.ref z)) (X : (hd.heap_39 w.params).In s.heap) (J : ThF s.heap z (kindS V) w1 e1 a1 k1 u1) :
    wpAny (model prog w) A (eval (.IfExp (.Compare (.Attribute (.Name "thing" p1) "kind" p2) [.NotEq] [.Constant (.str "real") q1 p3] p4) (.Attribute (.Name "thing" p5) "kind" p6) (.Constant (.str "integer") q2 p7) p8) env)
      (fun r s₄ => (∃ t, r = .str (kindI V) t) ∧ Keeps s s₄) E s := by
  obtain ⟨hh, gs, dr, tk, os⟩ := s
  have hc : ClsOk (hd.heap_39 w.params) 73 (Str.ofString "kind") := cls_ok _ (_, _) (.head _)
  refine wpAny_IfExp (wpAny_isTrue_Compare1 (attr_elt hk hx hn hm (by decide) X J hc rfl (wpAny_Constant_str (PyProof.Rows.ne_str (wpAny_truthy_bool ?_)))))
  unfold kindI
  cases h : (kindS V != Str.ofString "real") with
  | true =>
    exact attr_elt hk hx hn hm (by decide) X J hc rfl ⟨⟨_, rfl⟩, hh, _, rfl, fun _ _ e => e⟩
  | false =>
    exact wpAny_Constant_str ⟨⟨_, rfl⟩, hh, _, rfl, fun _ _ e => e⟩
section
variable {prog : Program} {w : World} {A : Around} {E : Value → Shared → Prop} {hh g : Heap} {L : Addr} {news : Led} {gs : Array GenState} {dr : Drawn} {tk : Nat} {os : OsState} {Q : Value → Shared → Prop}
open PySem.SeqAt in
theorem notin_kinds {D T l1 l2 : Addr} {ys : List Value} {i1 i2 s1 s2 : Value} {a b : Str} {n1 n2 n3 n4 : Nat} {c : Bool} (N : News g L hh news)
    (hD : (D, { cls := .type "list", data := .seq (List.toArray ys) n1 }) ∈ news) (rD : AllR [.str a, .str b] ys) (hT : (T, { cls := .type "tuple", data := .seq #[.ref l1, .ref l2] n2 }) ∈ news)
    (h1 : (l1, W.listOf #[i1, i2] n3) ∈ news) (r1 : AllR [.str (Str.ofString "integer"), .str (Str.ofString "integer")] [i1, i2]) (h2 : (l2, W.listOf #[s1, s2] n4) ∈ news) (r2 : AllR [.str (Str.ofString "string"), .str (Str.ofString "string")] [s1, s2])
    (hu : A.units + 2 < cLine) (hb : nkin a b = c) (q : Q (.bool c) ⟨hh, gs, dr, tk, os⟩) : wpAny (model prog w) A (compareOp .NotIn (.ref D) (.ref T)) Q E ⟨hh, gs, dr, tk, os⟩ := by
  have e1 : EqAt A.in1 ⟨hh, gs, dr, tk, os⟩ (.ref l1) (.ref D) _ := lat_eq (xs := [i1, i2]) (News.isList N h1) r1 (News.isList N hD) rD rfl (by show A.units + 1 < cLine; omega)
  have e2 : EqAt A.in1 ⟨hh, gs, dr, tk, os⟩ (.ref l2) (.ref D) _ := lat_eq (xs := [s1, s2]) (News.isList N h2) r2 (News.isList N hD) rD rfl (by show A.units + 1 < cLine; omega)
  by_cases h12 : l1 = l2
  · subst h12
    have := N.get h1
    rw [N.get h2] at this
    have : W.listOf #[s1, s2] n4 = W.listOf #[i1, i2] n3 := Option.some.inj this
    have h3 : (W.listOf #[s1, s2] n4).data = (W.listOf #[i1, i2] n3).data := by rw [this]
    have h4 : Data.seq #[s1, s2] n4 = Data.seq #[i1, i2] n3 := h3
    injection h4 with h5
    have h6 : [s1, s2] = [i1, i2] := by simpa using congrArg Array.toList h5
    rw [h6] at r2
    exact absurd (r1.inj r2) (by decide)
  · refine notIn_tupleAt (fun y => if y = .ref l1 then tEq [.str (Str.ofString "integer"), .str (Str.ofString "integer")] [.str a, .str b] else tEq [.str (Str.ofString "string"), .str (Str.ofString "string")] [.str a, .str b]) (items := #[.ref l1, .ref l2])
      ⟨_, N.get hT, rfl, n2, rfl⟩ (fun y hy => ?_) ?_
    · rcases List.mem_cons.mp (Array.mem_toList_iff.mpr hy) with rfl | hy
      · simp only [if_true]; exact e1
      · rw [List.mem_singleton.mp hy]
        rw [if_neg fun z => h12 (by cases z; rfl)]
        exact e2
    · have : (!(#[Value.ref l1, Value.ref l2].toList.any fun y => if y = .ref l1 then tEq [.str (Str.ofString "integer"), .str (Str.ofString "integer")] [.str a, .str b] else tEq [.str (Str.ofString "string"), .str (Str.ofString "string")] [.str a, .str b])) = c := by
        rw [← hb]
        have z : ¬ (Value.ref l2 = Value.ref l1) := fun z => h12 (by cases z; rfl)
        simp [nkin, z]
      first
        | (rw [← this] at q; exact q)
        | simpa [← this] using q
theorem tup1_int {y : Addr} {a0 : At} {i k : Int} {value slice : PySem.Expr} {u : Tok} (T : TupR hh [a0, .int i] (.ref y)) (hk : k = 1) (q : ∀ t, Q (.int i t) ⟨hh, gs, dr, tk, os⟩)
    (hs : subscripted slice false (.ref y) (.int k u) = operate [.ref y, .int k u] (getItem (.ref y) (.int k u)) := by with_unfolding_all rfl) : wpAny (model prog w) A (subscriptTail value slice (.ref y) (.int k u)) Q E ⟨hh, gs, dr, tk, os⟩ := by
  subst hk
  obtain ⟨a, xs, e, I, r⟩ := T
  cases e
  cases r with | cons _ r => cases r with | cons h2 r =>
    cases r
    obtain ⟨t, rfl⟩ := h2
    exact item_tupleT (s := ⟨hh, gs, dr, tk, os⟩) I (by decide) (by decide) (j := 1) rfl rfl (q t) hs
theorem tup1_bytes {y : Addr} {a0 : At} {i : Array UInt8} {k : Int} {value slice : PySem.Expr} {u : Tok} (T : TupR hh [a0, .bytes i] (.ref y)) (hk : k = 1) (q : ∀ t, Q (.bytes i t) ⟨hh, gs, dr, tk, os⟩)
    (hs : subscripted slice false (.ref y) (.int k u) = operate [.ref y, .int k u] (getItem (.ref y) (.int k u)) := by with_unfolding_all rfl) : wpAny (model prog w) A (subscriptTail value slice (.ref y) (.int k u)) Q E ⟨hh, gs, dr, tk, os⟩ := by
  subst hk
  obtain ⟨a, xs, e, I, r⟩ := T
  cases e
  cases r with | cons _ r => cases r with | cons h2 r =>
    cases r
    obtain ⟨t, rfl⟩ := h2
    exact item_tupleT (s := ⟨hh, gs, dr, tk, os⟩) I (by decide) (by decide) (j := 1) rfl rfl (q t) hs
end
end Mine
end
section
namespace Mine
theorem eq_boolL (b : Bool) (x : At) : (At.int (if b then 1 else 0)).eq x = (At.bool b).eq x := by
  cases x <;> first | rfl | (rename_i c; cases b <;> first | rfl | (cases c <;> rfl))
theorem eq_boolR (b : Bool) (x : At) : x.eq (At.int (if b then 1 else 0)) = x.eq (At.bool b) := by
  cases x <;> first | rfl | (rename_i c; cases b <;> first | rfl | (cases c <;> rfl))
inductive Like : At → At → Prop
  | same (a : At) : Like a a
  | truth (b : Bool) : Like (.int (if b then 1 else 0)) (.bool b)
theorem Like.eq {a a' b b' : At} (h : Like a a') (k : Like b b') : a.eq b = a'.eq b' := by
  cases h with
  | same =>
    cases k with
    | same => rfl
    | truth c => exact eq_boolR c _
  | truth c =>
    cases k with
    | same => exact eq_boolL c _
    | truth d => rw [eq_boolL, eq_boolR]
inductive Likes : List At → List At → Prop
  | nil : Likes [] []
  | cons {a a' : At} {l l' : List At} : Like a a' → Likes l l' → Likes (a :: l) (a' :: l')
theorem Likes.refl : ∀ l : List At, Likes l l
  | [] => .nil
  | a :: r => .cons (.same a) (Likes.refl r)
theorem Likes.eq {l l' : List At} (h : Likes l l') : ∀ {m m' : List At}, Likes m m' → tEq l m = tEq l' m' := by
  induction h with
  | nil => intro m m' k; cases k <;> rfl
  | cons h1 _ ih =>
    intro m m' k
    cases k with
    | nil => rfl
    | cons k1 k2 => rw [tEq, tEq, h1.eq k1, ih k2]
theorem key_like (U : TK) : Likes (keyU U) (whatU U) := by
  cases U with
  | bool b => exact .cons (.same _) (.cons (.truth b) .nil)
  | real i =>
    show Likes [.str (Str.ofString "number"), .int i] [.str (Str.ofString "number"), .int (i * 1)]
    rw [Int.mul_one]; exact Likes.refl _
  | _ => exact Likes.refl _
theorem key_what (U U' : TK) : tEq (keyU U) (keyU U') = tEq (whatU U) (whatU U') := (key_like U).eq (key_like U')
end Mine
end
section
namespace Mine
open PySem.Spec PySem.Calls
theorem lnLess0 (w : World) : (hd.heap_39 w.params).In = (hd.heap_39 w.params).In ∧ PySem.Challenge.rw_on0261_01 = PySem.Challenge.rw_on0261_01 := by
  k_fill
  exact ⟨rfl, rfl⟩
local macro_rules | `(tactic| k_inst) => `(tactic| (refine' instB ?ia ?ib ?ic ?id; (case ia => with_reducible assumption); (case ib => with_reducible assumption); (case ic => with_reducible assumption); (case id => with_reducible assumption)))
theorem lnLess1 (w : World) : (hd.heap_39 w.params).In = (hd.heap_39 w.params).In ∧ PySem.Challenge.rw_on0261_01 = PySem.Challenge.rw_on0261_01 := by
  k_with "A:compareOp In bytes ref" => k_extra "r10"
  k_with "A:compareOp Eq ref ref" => k_extra "r11"
  k_with "A:subscriptTail" => k_extra "r12"
  k_with "A:subscriptTail" => k_extra "r13"
  k_with "A:subscriptTail" => k_extra "r14"
  k_with "A:subscriptTail" => k_extra "r15"
  k_with "A:call ref" => (k_here; (with_reducible show W _ _ _ (call (Value.ref 405) _) _); k_dflt (refine' W.ro_tup (what_num _ _ _ _ _ _ _ _ _ ?I_q ?H_q ?hw_q ?hn_q) ?KO_q ?FR_q ?NN_q ?ST_q ?_ ?exc_q ?HK_q; (case KO_q => with_reducible assumption); (case HK_q => decide); (case FR_q => with_reducible assumption); (case NN_q => with_reducible assumption); (case I_q => with_reducible assumption); (case H_q => with_reducible assumption); (case hw_q => with_reducible assumption); (case hn_q => with_reducible assumption); (case ST_q => first | exact stay_of (by with_reducible assumption) (by with_reducible assumption) | exact fun _ _ h => h | exact noH_in _); (case exc_q => exact fun _ _ _ _ h => h.elim); k_whole; intro y9 o9 k9 xs9 h9 tk9 F9 S9 N9 c9 d9 q9; (try k_sweep)))
  k_with "r18" => (k_here; (with_reducible show W _ _ _ (call (Value.ref 405) _) _); k_dflt (refine' W.ro_tup (what_sok _ _ _ _ _ _ _ _ _ ?I_q ?H_q ?hw_q ?hs_q ?ha_q) ?KO_q ?FR_q ?NN_q ?ST_q ?_ ?exc_q ?HK_q; (case KO_q => with_reducible assumption); (case HK_q => decide); (case FR_q => with_reducible assumption); (case NN_q => with_reducible assumption); (case I_q => with_reducible assumption); (case H_q => with_reducible assumption); (case hw_q => with_reducible assumption); (case hs_q => with_reducible assumption); (case ha_q => with_reducible assumption); (case ST_q => first | exact stay_of (by with_reducible assumption) (by with_reducible assumption) | exact fun _ _ h => h | exact noH_in _); (case exc_q => exact fun _ _ _ _ h => h.elim); k_whole; intro y9 o9 k9 xs9 h9 tk9 F9 S9 N9 c9 d9 q9; (try k_sweep)))
  k_with "A:call ref" => k_extra "r18"
  k_with "A:call ref" => (k_here; (with_reducible show W _ _ _ (call (Value.ref 405) _) _); k_dflt (refine' W.ro_t (what_sbad _ _ _ _ _ _ _ _ _ ?I_q ?H_q ?hw_q ?hs_q ?ha_q) ?KO_q ?FR_q ?ST_q ?_ ?exc_q ?HK_q; (case KO_q => with_reducible assumption); (case HK_q => decide); (case FR_q => with_reducible assumption); (case I_q => with_reducible assumption); (case H_q => with_reducible assumption); (case hw_q => with_reducible assumption); (case hs_q => with_reducible assumption); (case ha_q => with_reducible assumption); (case ST_q => first | exact stay_of (by with_reducible assumption) (by with_reducible assumption) | exact fun _ _ h => h | exact noH_in _); (case exc_q => exact fun _ _ _ _ h => h.elim); k_whole; intro t9 h9 tk9 F9 S9; (try (have N9 := stay_news (by with_reducible assumption) S9)); (try k_sweep)))
  k_with "A:compareOp NotIn ref ref" => (k_here; k_dflt (refine' notin_kinds ?N_q ?hD_q ?rD_q ?hT_q ?h1_q ?r1_q ?h2_q ?r2_q ?hu_q ?hb_q ?_; (case N_q => with_reducible assumption); (case hD_q => k_mem); (case rD_q => with_reducible assumption); (case hT_q => k_mem); (case h1_q => k_mem); (case r1_q => exact .cons ⟨_, rfl⟩ (.cons ⟨_, rfl⟩ .nil)); (case h2_q => k_mem); (case r2_q => exact .cons ⟨_, rfl⟩ (.cons ⟨_, rfl⟩ .nil)); (case hu_q => (first | exact lt_add (Ok.u (by with_reducible assumption)) (by decide) | exact lt_add0 (Ok.u (by with_reducible assumption)) | ktr_units)); (case hb_q => with_reducible assumption); k_whole))
  k_with "A:subscriptTail" => (k_here; (with_reducible show wpAny _ _ (subscriptTail _ _ (Value.ref _) (Value.int 1 _)) _ _ _); k_dflt (first
      | (refine' tup1_int ?T_q ?k_q ?_; (case T_q => exact tup_of (by with_reducible assumption) (by k_mem) (by assumption) (by assumption) (by assumption)); (case k_q => rfl); k_whole; intro t9)
      | (refine' tup1_bytes ?T_q ?k_q ?_; (case T_q => exact tup_of (by with_reducible assumption) (by k_mem) (by assumption) (by assumption) (by assumption)); (case k_q => rfl); k_whole; intro t9)))
  exact ⟨rfl, rfl⟩
theorem law_less_c (w : World) (G : Heap) (x : Addr) (U : TK) (v : Value) (e : Bool) (ac : Int) (tk ta : Tok) (x' : Addr) (U' : TK) (v' : Value) (e' : Bool) (ac' : Int) (tk' ta' : Tok) (I : ThF G x (kindS U) v e ac tk ta) (H : ValH G U v) (hw : wB U) (I' : ThF G x' (kindS U') v' e' ac' tk' ta') (H' : ValH G U' v') (hw' : wB U') :
    RO 12 w 431 [.ref x, .ref x'] G (fun _ _ r => lessR U U' ac ac' r) (fun _ => False) := by
  refine RO.intro (k := 11) [(Str.ofString "one", .ref x), (Str.ofString "other", .ref x')] (by k_is) (by k_is) (by intro s X; exact BindsTo.of_eq rfl) rfl (by decide) rfl rfl rfl ?_
  intro C sh g h₁ tkk Q K F' N' KS' S' hret hexc
  have X' := K.X
  have T' := K.T
  k_steps
  rename News _ _ _ [_] => NN
  rename Fr _ _ _ _ => FF
  have XX := X'.keeps FF.keep
  have Ig := I.keep (stay_of FF S')
  have Ig' := I'.keep (stay_of FF S')
  refine' compA_tup (R := fun v r => (v = .ref x ∧ ∃ t, r = .str (kindI U) t) ∨ (v = .ref x' ∧ ∃ t, r = .str (kindI U') t)) ?hh ?hl ?F ?N ?hsz ?el ?g3
  case hh => rfl
  case F => exact FF
  case N => exact NN
  case hl => exact ⟨_, NN.get (.head _), rfl, _, rfl⟩
  case hsz => rw [sizeLine_eq]; exact (by decide : (2 : Nat) ≤ 16777216)
  case el =>
    intro C v s₃ m₃ E' hv hn hm hS
    have X3 := XX.keeps hS
    rcases List.mem_cons.mp hv with rfl | hv
    · exact wpAny_mono (less_elt (w := w) rfl rfl hn hm X3 (Ig.keep hS)) (fun r s₄ h => ⟨.inl ⟨rfl, h.1⟩, h.2⟩) fun _ _ z => z
    · obtain rfl := List.mem_singleton.mp hv
      exact wpAny_mono (less_elt (w := w) rfl rfl hn hm X3 (Ig'.keep hS)) (fun r s₄ h => ⟨.inr ⟨rfl, h.1⟩, h.2⟩) fun _ _ z => z
  case g3 =>
    intro D ys n h' tk F9 N9 hne hp
    obtain ⟨y1, y2, rfl, r1, r2⟩ := paired_two hp
    have key : ∀ (e : Value.ref x = Value.ref x'), kindS U = kindS U' := fun e => by
      cases e
      have := Fld.inj I I' (.head _) (.head _)
      injection this
    have r1' : ∃ t, y1 = .str (kindI U) t := by
      rcases r1 with ⟨_, h⟩ | ⟨e, h⟩
      · exact h
      · rw [kindI, key e]; exact h
    have r2' : ∃ t, y2 = .str (kindI U') t := by
      rcases r2 with ⟨e, h⟩ | ⟨_, h⟩
      · rw [kindI, ← key e.symm]; exact h
      · exact h
    have rD : AllR [.str (kindI U), .str (kindI U')] [y1, y2] := .cons r1' (.cons r2' .nil)
    clear r1 r2 r1' r2' hp hne key Ig Ig' XX NN FF
    dsimp only
    have nk := nkin_eq U U'
    rcases Bool.eq_false_or_eq_true (isNum U && isNum U') with a1 | a1
    · obtain ⟨n1, n2⟩ := Bool.and_eq_true_iff.mp a1
      have hN : nkin (kindI U) (kindI U') = false := by rw [nk, a1]; rfl
      clear nk
      k_steps
      refine Due.mk ?_
      unfold lessR
      rw [if_pos a1]
    rcases Bool.eq_false_or_eq_true (isStr U && isStr U') with a2 | a2
    · obtain ⟨n1, n2⟩ := Bool.and_eq_true_iff.mp a2
      have hN : nkin (kindI U) (kindI U') = false := by rw [nk, a2, Bool.or_true]; rfl
      clear nk
      by_cases a3 : 2 ≤ ac
      · by_cases a4 : 2 ≤ ac'
        · k_steps
          refine Due.mk ?_
          unfold lessR
          rw [if_neg (by rw [isNum_str n1]; exact Bool.false_ne_true), if_pos a2, if_pos ⟨a3, a4⟩]
        · have a4' : ac' < 2 := by omega
          k_steps
          refine Due.mk ?_
          unfold lessR
          rw [if_neg (by rw [isNum_str n1]; exact Bool.false_ne_true), if_pos a2, if_neg (by omega)]
          exact ⟨_, rfl⟩
      · have a3' : ac < 2 := by omega
        by_cases a4 : 2 ≤ ac'
        · k_steps
          refine Due.mk ?_
          unfold lessR
          rw [if_neg (by rw [isNum_str n1]; exact Bool.false_ne_true), if_pos a2, if_neg (by omega)]
          exact ⟨_, rfl⟩
        · have a4' : ac' < 2 := by omega
          k_steps
          refine Due.mk ?_
          unfold lessR
          rw [if_neg (by rw [isNum_str n1]; exact Bool.false_ne_true), if_pos a2, if_neg (by omega)]
          exact ⟨_, rfl⟩
    · have hN : nkin (kindI U) (kindI U') = true := by rw [nk, a1, a2]; rfl
      k_steps
      refine Due.mk ?_
      unfold lessR
      rw [if_neg (by rw [a1]; exact Bool.false_ne_true), if_neg (by rw [a2]; exact Bool.false_ne_true)]
      exact ⟨_, rfl⟩
end Mine
end
section
namespace Mine
open PySem.Spec PySem.Calls
theorem t_end {w : World} {A₀ : Around} {base : Heap} {outer : List Env} {mean : ExcName → Option Value} {mg mb : Str → Option Value} {h₀ g g' : Heap} {L L' : Addr} {m m' : Str → Option Value} {s s' : Shared} {Post : Heap → Heap → Value → Led → Prop} {Q : Value → Shared → Prop} {R : Result → Shared → Prop} {fs : List Addr} {v : Value}
    (hret : RetT w A₀ base outer mean mg mb h₀ L m s [] Post Q) (TT : KtsTurn fs g g') (F' : Fr g' L' s'.heap m') (e : s' = { s with heap := s'.heap, toks := s'.toks }) (hR : Q v s' → R (.ok (.ret v)) s') (hp : Due (Post s.heap s'.heap v [])) :
    LeaveT fs A₀ base outer w mean mg mb h₀ L m s.heap [] g R v s' :=
  ⟨g', L', m', [], TT, F', fun _ hp => (nomatch hp), rfl, fun h₀' T1 F1 B1 X1 P1 N1 K1 => hR (e ▸ hret.out v s'.heap s'.toks h₀' [] T1 F1 B1 X1 P1 N1 rfl K1 hp.out)⟩
theorem tup_back {H g h : Heap} {L y : Addr} {l : List At} {news : Led} {o : Obj} {k : Nat} {xs : List Value} (KS : H.StaysIn g) (N : News g L h news) (hm : (y, o) ∈ news) (h2 : o.cls = .type "tuple") (h3 : o.data = .seq (List.toArray xs) k) (r : AllR l xs) :
    ∃ z, Value.ref y = .ref z ∧ H.get? z = none ∧ TupR h l (.ref z) := ⟨y, rfl, fresh_of KS (N _ hm).2.2, tup_of N hm h2 h3 r⟩
theorem nil_of {g h : Heap} {L : Addr} {m : Str → Option Value} (F : Fr g L h m) : News g L h [] := News.nil
end Mine
end
section
namespace Mine
open PySem.Spec PySem.Calls
theorem lnTold0 (w : World) : (hd.heap_39 w.params).In = (hd.heap_39 w.params).In ∧ PySem.Challenge.rw_on0261_01 = PySem.Challenge.rw_on0261_01 := by
  k_fill
  exact ⟨rfl, rfl⟩
local macro_rules | `(tactic| k_inst) => `(tactic| (refine' instB ?ia ?ib ?ic ?id; (case ia => with_reducible assumption); (case ib => with_reducible assumption); (case ic => with_reducible assumption); (case id => with_reducible assumption)))
theorem lnTold1 (w : World) : (hd.heap_39 w.params).In = (hd.heap_39 w.params).In ∧ PySem.Challenge.rw_on0261_01 = PySem.Challenge.rw_on0261_01 := by
  k_with "r19" => k_dflt (refine' TNrm.go ?RR_q ?FF_q ?VV_q ?_; (case RR_q => with_reducible assumption); (case FF_q => with_reducible assumption); (case VV_q => exact rfl); k_whole)
  k_with "A:AtF" => k_extra "r19"
  k_with "r20" => k_dflt (refine' TExc.go ?RR_q ?PP_q ?FF_q ?_; (case RR_q => with_reducible assumption); (case PP_q => with_reducible assumption); (case FF_q => with_reducible assumption); k_whole)
  k_with "A:AtE" => k_extra "r20"
  k_with "A:compareOp In bytes ref" => k_extra "r10"
  k_with "A:compareOp Eq ref ref" => k_extra "r11"
  k_with "A:subscriptTail" => k_extra "r12"
  k_with "A:subscriptTail" => k_extra "r13"
  k_with "A:subscriptTail" => k_extra "r14"
  k_with "A:subscriptTail" => k_extra "r15"
  exact ⟨rfl, rfl⟩
theorem key_ok (w : World) (G : Heap) (x : Addr) (U : TK) (v : Value) (e : Bool) (ac : Int) (tk ta : Tok) (I : ThF G x (kindS U) v e ac tk ta) (H : ValH G U v) (hw : wB U) (hb : badU U ac = none) : RO 15 w 344 [.ref x] G (fun h h1 r => ∃ y, r = .ref y ∧ h.get? y = none ∧ TupR h1 (keyU U) (.ref y)) (fun _ => False) :=
  (key_of_c w G x U v e ac tk ta I H hw).mono (fun _ _ _ h => h.2) fun bs h => by rw [hb] at h; cases h
theorem key_bad (w : World) (G : Heap) (x : Addr) (U : TK) (v : Value) (e : Bool) (ac : Int) (tk ta : Tok) (b0 : Array UInt8) (I : ThF G x (kindS U) v e ac tk ta) (H : ValH G U v) (hw : wB U) (hb : badU U ac = some b0) : RO 15 w 344 [.ref x] G (fun _ _ _ => False) (fun bs => bs = b0) :=
  (key_of_c w G x U v e ac tk ta I H hw).mono (fun _ _ _ h => by rw [hb] at h; cases h.1) fun bs h => by rw [hb] at h; exact (Option.some.inj h).symm
theorem kt_n (w : World) (G : Heap) (x : Addr) (U : TK) (v : Value) (e : Bool) (ac : Int) (tk ta : Tok) (I : ThF G x (kindS U) v e ac tk ta) (H : ValH G U v) (hw : wB U) (hs : isStr U = false) : RO 15 w 351 [.ref x] G (fun _ _ r => r = .ref x) (fun _ => False) :=
  (key_thing_c w G x U v e ac tk ta I H hw).mono (fun _ _ _ h => h.elim (·.2) fun h => by rw [hs] at h; cases h.1) fun bs h => by rw [hs] at h; cases h.2.1
theorem kt_ok (w : World) (G : Heap) (x : Addr) (U : TK) (v : Value) (e : Bool) (ac : Int) (tk ta : Tok) (I : ThF G x (kindS U) v e ac tk ta) (H : ValH G U v) (hw : wB U) (hs : isStr U = true) (ha : 2 ≤ ac) : RO 15 w 351 [.ref x] G (fun h h1 r => ∃ y t tk' ta', r = .ref y ∧ NewF h h1 y 73 (ThFs (Str.ofString "name") (.bytes (octU U) t) false 3 tk' ta')) (fun _ => False) :=
  (key_thing_c w G x U v e ac tk ta I H hw).mono (fun _ _ _ h => h.elim (fun h => by rw [hs] at h; cases h.1) fun h => h.2.2) fun bs h => by have := h.2.2; omega
theorem kt_bad (w : World) (G : Heap) (x : Addr) (U : TK) (v : Value) (e : Bool) (ac : Int) (tk ta : Tok) (I : ThF G x (kindS U) v e ac tk ta) (H : ValH G U v) (hw : wB U) (hs : isStr U = true) (ha : ac < 2) : RO 15 w 351 [.ref x] G (fun _ _ _ => False) (fun bs => bs = #[105, 110, 118, 97, 108, 105, 100, 97, 99, 99, 101, 115, 115]) :=
  (key_thing_c w G x U v e ac tk ta I H hw).mono (fun _ _ _ h => h.elim (fun h => by rw [hs] at h; cases h.1) fun h => by have := h.2.1; omega) fun bs h => h.1
theorem wa_ok (w : World) (G : Heap) (x : Addr) (U : TK) (v : Value) (e : Bool) (ac : Int) (tk ta : Tok) (p : Int) (t1 : Tok) (I : ThF G x (kindS U) v e ac tk ta) (H : ValH G U v) (hs : (shares U && !isDict U) = true) (ha : p ≤ ac) :
    RO 12 w 281 [.ref x, .int p t1] G (fun h h1 r => ∃ y tk' ta', r = .ref y ∧ NewF h h1 y 73 (ThFs (kindS U) v e p tk' ta')) (fun _ => False) :=
  (with_access_c w G x U v e ac tk ta p t1 I H).mono (fun _ _ _ h => h.2) fun bs h => by
    rcases h with ⟨_, h | h⟩ | ⟨_, _, h⟩
    · rw [h] at hs; cases hs
    · rw [h] at hs; simp at hs
    · omega
theorem wa_ia (w : World) (G : Heap) (x : Addr) (U : TK) (v : Value) (e : Bool) (ac : Int) (tk ta : Tok) (p : Int) (t1 : Tok) (I : ThF G x (kindS U) v e ac tk ta) (H : ValH G U v) (hs : (shares U && !isDict U) = true) (ha : ac < p) :
    RO 12 w 281 [.ref x, .int p t1] G (fun _ _ _ => False) (fun bs => bs = #[105, 110, 118, 97, 108, 105, 100, 97, 99, 99, 101, 115, 115]) :=
  (with_access_c w G x U v e ac tk ta p t1 I H).mono (fun _ _ _ h => by have := h.1.2.2; omega) fun bs h => by
    rcases h with ⟨_, h | h⟩ | ⟨h, _⟩
    · rw [h] at hs; cases hs
    · rw [h] at hs; simp at hs
    · exact h
theorem wa_tc (w : World) (G : Heap) (x : Addr) (U : TK) (v : Value) (e : Bool) (ac : Int) (tk ta : Tok) (p : Int) (t1 : Tok) (I : ThF G x (kindS U) v e ac tk ta) (H : ValH G U v) (hs : (shares U && !isDict U) = false) :
    RO 12 w 281 [.ref x, .int p t1] G (fun _ _ _ => False) (fun bs => bs = #[116, 121, 112, 101, 99, 104, 101, 99, 107]) :=
  (with_access_c w G x U v e ac tk ta p t1 I H).mono (fun _ _ _ h => by rw [h.1.1, h.1.2.1] at hs; cases hs) fun bs h => by
    rcases h with ⟨h, _⟩ | ⟨_, h, _⟩
    · exact h
    · rw [h.1, h.2] at hs; cases hs
theorem po_ok (w : World) (G : Heap) (sp bd : Addr) (st mn : Int) (ts tm : Tok) (p q : Int) (t1 t2 : Tok) (I : SpF G sp bd st mn ts tm) (hp : -1000 ≤ p ∧ p ≤ 1000) (hst : -1000 ≤ st ∧ st ≤ 1000) (hmn : -1000 ≤ mn ∧ mn ≤ 1000) (hr : 0 ≤ p ∧ 0 ≤ q ∧ p + q ≤ mn) :
    RO 9 w 295 [.ref sp, .int p t1, .int q t2] G (fun h h1 r => ∃ y ts' tm', r = .ref y ∧ NewF h h1 y 171 (SpFs bd (st + p) q ts' tm')) (fun _ => False) :=
  (part_of_c w G sp bd st mn ts tm p q t1 t2 I hp hst hmn).mono (fun _ _ _ h => h.2) fun bs h => h.2 hr
theorem po_bad (w : World) (G : Heap) (sp bd : Addr) (st mn : Int) (ts tm : Tok) (p q : Int) (t1 t2 : Tok) (I : SpF G sp bd st mn ts tm) (hp : -1000 ≤ p ∧ p ≤ 1000) (hst : -1000 ≤ st ∧ st ≤ 1000) (hmn : -1000 ≤ mn ∧ mn ≤ 1000) (hr : ¬ (0 ≤ p ∧ 0 ≤ q ∧ p + q ≤ mn)) :
    RO 9 w 295 [.ref sp, .int p t1, .int q t2] G (fun _ _ _ => False) (fun bs => bs = #[114, 97, 110, 103, 101, 99, 104, 101, 99, 107]) :=
  (part_of_c w G sp bd st mn ts tm p q t1 t2 I hp hst hmn).mono (fun _ _ _ h => hr h.1) fun bs h => h.1
theorem lnTold2 (w : World) : (hd.heap_39 w.params).In = (hd.heap_39 w.params).In ∧ PySem.Challenge.rw_on0261_01 = PySem.Challenge.rw_on0261_01 := by
  k_with "A:call ref" => (k_here; (with_reducible show W _ _ _ (call (Value.ref 344) _) _); k_dflt (refine' W.ro_tup (key_ok _ _ _ _ _ _ _ _ _ ?I_q ?H_q ?hw_q ?hb_q) ?KO_q ?FR_q ?NN_q ?ST_q ?_ ?exc_q ?HK_q; (case KO_q => with_reducible assumption); (case HK_q => decide); (case FR_q => with_reducible assumption); (case NN_q => with_reducible assumption); (case I_q => with_reducible assumption); (case H_q => with_reducible assumption); (case hw_q => with_reducible assumption); (case hb_q => with_reducible assumption); (case ST_q => first | exact stay_of (by with_reducible assumption) (by with_reducible assumption) | exact fun _ _ h => h | exact noH_in _); (case exc_q => exact fun _ _ _ _ h => h.elim); k_whole; intro y9 o9 k9 xs9 h9 tk9 F9 S9 N9 c9 d9 q9; (try k_sweep)))
  k_with "A:call ref" => (k_here; (with_reducible show W _ _ _ (call (Value.ref 344) _) _); k_dflt (refine' W.ro (key_bad _ _ _ _ _ _ _ _ _ _ ?I_q ?H_q ?hw_q ?hb_q) ?KO_q ?FR_q ?ST_q ?_ ?_ ?HK_q; (case KO_q => with_reducible assumption); (case HK_q => decide); (case FR_q => with_reducible assumption); (case I_q => with_reducible assumption); (case H_q => with_reducible assumption); (case hw_q => with_reducible assumption); (case hb_q => with_reducible assumption); (case ST_q => first | exact stay_of (by with_reducible assumption) (by with_reducible assumption) | exact fun _ _ h => h | exact noH_in _); k_whole; rotate_left; intro e9 h9 tk9 bs9 X9 FL9; (try dsimp only); (try subst X9); rotate_right; intro r9 h9 tk9 F9 S9 P9; (try (have N9 := stay_news (by with_reducible assumption) S9)); exact P9.elim; skip))
  k_with "A:call ref" => (k_here; (with_reducible show W _ _ _ (call (Value.ref 351) _) _); k_dflt (refine' W.ro_v (kt_n _ _ _ _ _ _ _ _ _ ?I_q ?H_q ?hw_q ?hs_q) ?KO_q ?FR_q ?ST_q ?_ ?exc_q ?HK_q; (case KO_q => with_reducible assumption); (case HK_q => decide); (case FR_q => with_reducible assumption); (case I_q => with_reducible assumption); (case H_q => with_reducible assumption); (case hw_q => with_reducible assumption); (case hs_q => with_reducible assumption); (case ST_q => first | exact stay_of (by with_reducible assumption) (by with_reducible assumption) | exact fun _ _ h => h | exact noH_in _); (case exc_q => exact fun _ _ _ _ h => h.elim); k_whole; intro h9 tk9 F9 S9; (try (have N9 := stay_news (by with_reducible assumption) S9)); (try k_sweep)))
  k_with "A:call ref" => (k_here; (with_reducible show W _ _ _ (call (Value.ref 351) _) _); k_dflt (refine' W.ro_e3 (kt_ok _ _ _ _ _ _ _ _ _ ?I_q ?H_q ?hw_q ?hs_q ?ha_q) ?KO_q ?FR_q ?ST_q ?_ ?exc_q ?HK_q; (case KO_q => with_reducible assumption); (case HK_q => decide); (case FR_q => with_reducible assumption); (case I_q => with_reducible assumption); (case H_q => with_reducible assumption); (case hw_q => with_reducible assumption); (case hs_q => with_reducible assumption); (case ha_q => with_reducible assumption); (case ST_q => first | exact stay_of (by with_reducible assumption) (by with_reducible assumption) | exact fun _ _ h => h | exact noH_in _); (case exc_q => exact fun _ _ _ _ h => h.elim); k_whole; intro y9 t9 tk8 ta9 h9 tk9 F9 S9 P9; (try (have N9 := stay_news (by with_reducible assumption) S9)); refine news_fld_k (by with_reducible assumption) N9 P9 ?_; clear N9; intro d9 es9 n9 N9 q9; clear P9; (try k_sweep)))
  k_with "A:call ref" => (k_here; (with_reducible show W _ _ _ (call (Value.ref 351) _) _); k_dflt (refine' W.ro (kt_bad _ _ _ _ _ _ _ _ _ ?I_q ?H_q ?hw_q ?hs_q ?ha_q) ?KO_q ?FR_q ?ST_q ?_ ?_ ?HK_q; (case KO_q => with_reducible assumption); (case HK_q => decide); (case FR_q => with_reducible assumption); (case I_q => with_reducible assumption); (case H_q => with_reducible assumption); (case hw_q => with_reducible assumption); (case hs_q => with_reducible assumption); (case ha_q => with_reducible assumption); (case ST_q => first | exact stay_of (by with_reducible assumption) (by with_reducible assumption) | exact fun _ _ h => h | exact noH_in _); k_whole; rotate_left; intro e9 h9 tk9 bs9 X9 FL9; (try dsimp only); (try subst X9); rotate_right; intro r9 h9 tk9 F9 S9 P9; (try (have N9 := stay_news (by with_reducible assumption) S9)); exact P9.elim; skip))
  k_with "A:call ref" => (k_here; (with_reducible show W _ _ _ (call (Value.ref 358) _) _); k_dflt (refine' W.ro (equal_things_c _ _ _ _ _ _ _ _ _ _ _ _ _ _ _ _ ?I_q ?H_q ?hw_q ?I_q' ?H_q' ?hw_q') ?KO_q ?FR_q ?ST_q ?_ ?_ ?HK_q; (case KO_q => with_reducible assumption); (case HK_q => decide); (case FR_q => with_reducible assumption); (case I_q => with_reducible assumption); (case H_q => with_reducible assumption); (case hw_q => with_reducible assumption); (case I_q' => with_reducible assumption); (case H_q' => with_reducible assumption); (case hw_q' => with_reducible assumption); (case ST_q => first | exact stay_of (by with_reducible assumption) (by with_reducible assumption) | exact fun _ _ h => h | exact noH_in _); k_whole; rotate_left; intro e9 h9 tk9 bs9 X9 FL9; (try dsimp only); (try subst X9); rotate_right; intro r9 h9 tk9 F9 S9 P9; (try (have N9 := stay_news (by with_reducible assumption) S9)); rcases P9 with ⟨e9, P9⟩; subst e9; (try k_sweep)))
  k_with "A:call ref" => (k_here; (with_reducible show W _ _ _ (call (Value.ref 365) _) _); k_dflt (refine' W.ro (less_than_c _ _ _ _ _ _ _ _ _ _ _ _ _ _ _ _ ?I_q ?H_q ?hw_q ?I_q' ?H_q' ?hw_q') ?KO_q ?FR_q ?ST_q ?_ ?_ ?HK_q; (case KO_q => with_reducible assumption); (case HK_q => decide); (case FR_q => with_reducible assumption); (case I_q => with_reducible assumption); (case H_q => with_reducible assumption); (case hw_q => with_reducible assumption); (case I_q' => with_reducible assumption); (case H_q' => with_reducible assumption); (case hw_q' => with_reducible assumption); (case ST_q => first | exact stay_of (by with_reducible assumption) (by with_reducible assumption) | exact fun _ _ h => h | exact noH_in _); k_whole; rotate_left; intro e9 h9 tk9 bs9 X9 FL9; (try dsimp only); (try subst X9); rotate_right; intro r9 h9 tk9 F9 S9 P9; (try (have N9 := stay_news (by with_reducible assumption) S9)); (try k_sweep)))
  k_with "A:call ref" => (k_here; (with_reducible show W _ _ _ (call (Value.ref 281) _) _); k_dflt (refine' W.ro_e2 (wa_ok _ _ _ _ _ _ _ _ _ _ _ ?I_q ?H_q ?hs_q ?ha_q) ?KO_q ?FR_q ?ST_q ?_ ?exc_q ?HK_q; (case KO_q => with_reducible assumption); (case HK_q => decide); (case FR_q => with_reducible assumption); (case I_q => with_reducible assumption); (case H_q => with_reducible assumption); (case hs_q => with_reducible assumption); (case ha_q => with_reducible assumption); (case ST_q => first | exact stay_of (by with_reducible assumption) (by with_reducible assumption) | exact fun _ _ h => h | exact noH_in _); (case exc_q => exact fun _ _ _ _ h => h.elim); k_whole; intro y9 tk8 ta9 h9 tk9 F9 S9 P9; (try (have N9 := stay_news (by with_reducible assumption) S9)); refine news_fld_k (by with_reducible assumption) N9 P9 ?_; clear N9; intro d9 es9 n9 N9 q9; clear P9; (try k_sweep)))
  k_with "A:call ref" => (k_here; (with_reducible show W _ _ _ (call (Value.ref 281) _) _); k_dflt (refine' W.ro (wa_ia _ _ _ _ _ _ _ _ _ _ _ ?I_q ?H_q ?hs_q ?ha_q) ?KO_q ?FR_q ?ST_q ?_ ?_ ?HK_q; (case KO_q => with_reducible assumption); (case HK_q => decide); (case FR_q => with_reducible assumption); (case I_q => with_reducible assumption); (case H_q => with_reducible assumption); (case hs_q => with_reducible assumption); (case ha_q => with_reducible assumption); (case ST_q => first | exact stay_of (by with_reducible assumption) (by with_reducible assumption) | exact fun _ _ h => h | exact noH_in _); k_whole; rotate_left; intro e9 h9 tk9 bs9 X9 FL9; (try dsimp only); (try subst X9); rotate_right; intro r9 h9 tk9 F9 S9 P9; (try (have N9 := stay_news (by with_reducible assumption) S9)); exact P9.elim; skip))
  k_with "A:call ref" => (k_here; (with_reducible show W _ _ _ (call (Value.ref 281) _) _); k_dflt (refine' W.ro (wa_tc _ _ _ _ _ _ _ _ _ _ _ ?I_q ?H_q ?hs_q) ?KO_q ?FR_q ?ST_q ?_ ?_ ?HK_q; (case KO_q => with_reducible assumption); (case HK_q => decide); (case FR_q => with_reducible assumption); (case I_q => with_reducible assumption); (case H_q => with_reducible assumption); (case hs_q => with_reducible assumption); (case ST_q => first | exact stay_of (by with_reducible assumption) (by with_reducible assumption) | exact fun _ _ h => h | exact noH_in _); k_whole; rotate_left; intro e9 h9 tk9 bs9 X9 FL9; (try dsimp only); (try subst X9); rotate_right; intro r9 h9 tk9 F9 S9 P9; (try (have N9 := stay_news (by with_reducible assumption) S9)); exact P9.elim; skip))
  k_with "r21" => (k_here; (with_reducible show W _ _ _ (call (Value.ref 295) _) _); k_dflt (refine' W.ro_e2 (po_ok _ _ _ _ _ _ _ _ _ _ _ _ ?I_q ?hp_q ?hst_q ?hmn_q ?hr_q) ?KO_q ?FR_q ?ST_q ?_ ?exc_q ?HK_q; (case KO_q => with_reducible assumption); (case HK_q => decide); (case FR_q => with_reducible assumption); (case I_q => with_reducible assumption); (case hp_q => with_reducible assumption); (case hst_q => with_reducible assumption); (case hmn_q => with_reducible assumption); (case hr_q => with_reducible assumption); (case ST_q => first | exact stay_of (by with_reducible assumption) (by with_reducible assumption) | exact fun _ _ h => h | exact noH_in _); (case exc_q => exact fun _ _ _ _ h => h.elim); k_whole; intro y9 ts9 tm9 h9 tk9 F9 S9 P9; (try (have N9 := stay_news (by with_reducible assumption) S9)); refine news_fld_k (by with_reducible assumption) N9 P9 ?_; clear N9; intro d9 es9 n9 N9 q9; clear P9; (try k_sweep)))
  k_with "A:call ref" => k_extra "r21"
  k_with "r22" => (k_here; (with_reducible show W _ _ _ (call (Value.ref 295) _) _); k_dflt (refine' W.ro (po_bad _ _ _ _ _ _ _ _ _ _ _ _ ?I_q ?hp_q ?hst_q ?hmn_q ?hr_q) ?KO_q ?FR_q ?ST_q ?_ ?_ ?HK_q; (case KO_q => with_reducible assumption); (case HK_q => decide); (case FR_q => with_reducible assumption); (case I_q => with_reducible assumption); (case hp_q => with_reducible assumption); (case hst_q => with_reducible assumption); (case hmn_q => with_reducible assumption); (case hr_q => with_reducible assumption); (case ST_q => first | exact stay_of (by with_reducible assumption) (by with_reducible assumption) | exact fun _ _ h => h | exact noH_in _); k_whole; rotate_left; intro e9 h9 tk9 bs9 X9 FL9; (try dsimp only); (try subst X9); rotate_right; intro r9 h9 tk9 F9 S9 P9; (try (have N9 := stay_news (by with_reducible assumption) S9)); exact P9.elim; skip))
  k_with "A:call ref" => k_extra "r22"
  k_with "r23" => (k_here; (with_reducible show W _ _ _ (call (Value.ref 316) _) _); k_dflt (refine' W.ro (item_t _ _ _ _ _ _ _ _ _ _ _ ?I_q ?hp_q ?hst_q ?H_q) ?KO_q ?FR_q ?ST_q ?_ ?_ ?HK_q; (case KO_q => with_reducible assumption); (case HK_q => decide); (case FR_q => with_reducible assumption); (case I_q => with_reducible assumption); (case hp_q => with_reducible assumption); (case hst_q => with_reducible assumption); (case H_q => with_reducible assumption); (case ST_q => first | exact stay_of (by with_reducible assumption) (by with_reducible assumption) | exact fun _ _ h => h | exact noH_in _); k_whole; rotate_left; intro e9 h9 tk9 bs9 X9 FL9; (try dsimp only); (try subst X9); rotate_right; intro r9 h9 tk9 F9 S9 P9; (try (have N9 := stay_news (by with_reducible assumption) S9)); rcases P9 with ⟨a9, P9⟩; refine Exists.elim P9 ?_; clear P9; intro t9 P9; subst P9; (try k_sweep)))
  k_with "A:call ref" => k_extra "r23"
  k_with "r24" => (k_here; (with_reducible show W _ _ _ (call (Value.ref 316) _) _); k_dflt (refine' W.ro (item_r _ _ _ _ _ _ _ _ _ _ _ _ _ _ _ _ ?I_q ?hp_q ?hst_q ?H_q ?D_q ?hl_q) ?KO_q ?FR_q ?ST_q ?_ ?_ ?HK_q; (case KO_q => with_reducible assumption); (case HK_q => decide); (case FR_q => with_reducible assumption); (case I_q => with_reducible assumption); (case hp_q => with_reducible assumption); (case hst_q => with_reducible assumption); (case H_q => with_reducible assumption); (case D_q => with_reducible assumption); (case hl_q => with_reducible assumption); (case ST_q => first | exact stay_of (by with_reducible assumption) (by with_reducible assumption) | exact fun _ _ h => h | exact noH_in _); k_whole; rotate_left; intro e9 h9 tk9 bs9 X9 FL9; (try dsimp only); (try subst X9); rotate_right; intro r9 h9 tk9 F9 S9 P9; (try (have N9 := stay_news (by with_reducible assumption) S9)); (try k_sweep)))
  k_with "A:call ref" => k_extra "r24"
  k_with "A:call ref" => k_extra "r4"
  exact ⟨rfl, rfl⟩
theorem told0_ok (w : World) (G : Heap) (t0 : Tok) (x : Addr) (U : TK) (v : Value) (e : Bool) (ac : Int) (tk ta : Tok) (I : ThF G x (kindS U) v e ac tk ta) (H : ValH G U v) (hw : wB U) (hb : badU U ac = none) :
    RT 21 w 419 [.int 0 t0, .ref x, .none] G [] (fun h h1 r _ => ∃ y, r = .ref y ∧ h.get? y = none ∧ TupR h1 (keyU U) (.ref y)) := by
  refine told_intro (k := 20) [(Str.ofString "way", .int 0 t0), (Str.ofString "one", .ref x), (Str.ofString "other", .none)] (by k_is) (by k_is) (by intro s X; exact BindsTo.of_eq rfl) rfl (by decide) rfl rfl rfl (fun _ => rfl) (fun _ => rfl) (fun _ => rfl) (by decide) (by decide) (by decide) ?_
  intro C sh g h₁ tkk Q K F' N' KS' S' tnrm texc
  have X' := K.X
  have T' := K.T
  k_steps
  exact Due.mk (tup_back KS' (by assumption) (.head _) (by assumption) (by assumption) (by assumption))
theorem told0_bad (w : World) (G : Heap) (t0 : Tok) (x : Addr) (U : TK) (v : Value) (e : Bool) (ac : Int) (tk ta : Tok) (b0 : Array UInt8) (I : ThF G x (kindS U) v e ac tk ta) (H : ValH G U v) (hw : wB U) (hb : badU U ac = some b0) :
    RT 21 w 419 [.int 0 t0, .ref x, .none] G [] (fun h h1 r _ => ∃ t, r = .bytes b0 t) := by
  refine told_intro (k := 20) [(Str.ofString "way", .int 0 t0), (Str.ofString "one", .ref x), (Str.ofString "other", .none)] (by k_is) (by k_is) (by intro s X; exact BindsTo.of_eq rfl) rfl (by decide) rfl rfl rfl (fun _ => rfl) (fun _ => rfl) (fun _ => rfl) (by decide) (by decide) (by decide) ?_
  intro C sh g h₁ tkk Q K F' N' KS' S' tnrm texc
  have X' := K.X
  have T' := K.T
  k_steps
  k_steps
  exact Due.mk fun _ _ => ⟨_, rfl⟩
theorem told1_n (w : World) (G : Heap) (t0 : Tok) (x : Addr) (U : TK) (v : Value) (e : Bool) (ac : Int) (tk ta : Tok) (I : ThF G x (kindS U) v e ac tk ta) (H : ValH G U v) (hw : wB U) (hs : isStr U = false) :
    RT 21 w 419 [.int 1 t0, .ref x, .none] G [] (fun h h1 r _ => r = .ref x) := by
  refine told_intro (k := 20) [(Str.ofString "way", .int 1 t0), (Str.ofString "one", .ref x), (Str.ofString "other", .none)] (by k_is) (by k_is) (by intro s X; exact BindsTo.of_eq rfl) rfl (by decide) rfl rfl rfl (fun _ => rfl) (fun _ => rfl) (fun _ => rfl) (by decide) (by decide) (by decide) ?_
  intro C sh g h₁ tkk Q K F' N' KS' S' tnrm texc
  have X' := K.X
  have T' := K.T
  k_steps
  exact Due.mk rfl
theorem told1_ok (w : World) (G : Heap) (t0 : Tok) (x : Addr) (U : TK) (v : Value) (e : Bool) (ac : Int) (tk ta : Tok) (I : ThF G x (kindS U) v e ac tk ta) (H : ValH G U v) (hw : wB U) (hs : isStr U = true) (ha : 2 ≤ ac) :
    RT 21 w 419 [.int 1 t0, .ref x, .none] G [] (fun h h1 r _ => ∃ y t tk' ta', r = .ref y ∧ NewF h h1 y 73 (ThFs (Str.ofString "name") (.bytes (octU U) t) false 3 tk' ta')) := by
  refine told_intro (k := 20) [(Str.ofString "way", .int 1 t0), (Str.ofString "one", .ref x), (Str.ofString "other", .none)] (by k_is) (by k_is) (by intro s X; exact BindsTo.of_eq rfl) rfl (by decide) rfl rfl rfl (fun _ => rfl) (fun _ => rfl) (fun _ => rfl) (by decide) (by decide) (by decide) ?_
  intro C sh g h₁ tkk Q K F' N' KS' S' tnrm texc
  have X' := K.X
  have T' := K.T
  k_steps
  exact Due.mk ⟨_, _, _, _, rfl, newf_back KS' (by assumption) (.head _) (.tail _ (.head _)) (by assumption)⟩
theorem told1_bad (w : World) (G : Heap) (t0 : Tok) (x : Addr) (U : TK) (v : Value) (e : Bool) (ac : Int) (tk ta : Tok) (I : ThF G x (kindS U) v e ac tk ta) (H : ValH G U v) (hw : wB U) (hs : isStr U = true) (ha : ac < 2) :
    RT 21 w 419 [.int 1 t0, .ref x, .none] G [] (fun h h1 r _ => ∃ t, r = .bytes #[105, 110, 118, 97, 108, 105, 100, 97, 99, 99, 101, 115, 115] t) := by
  refine told_intro (k := 20) [(Str.ofString "way", .int 1 t0), (Str.ofString "one", .ref x), (Str.ofString "other", .none)] (by k_is) (by k_is) (by intro s X; exact BindsTo.of_eq rfl) rfl (by decide) rfl rfl rfl (fun _ => rfl) (fun _ => rfl) (fun _ => rfl) (by decide) (by decide) (by decide) ?_
  intro C sh g h₁ tkk Q K F' N' KS' S' tnrm texc
  have X' := K.X
  have T' := K.T
  k_steps
  k_steps
  exact Due.mk fun _ _ => ⟨_, rfl⟩
noncomputable def eqR (U U' : TK) (ac ac' : Int) (r : Value) : Prop := if (isNull U || isNull U') = true then r = .bool (decide (kdOf U = kdOf U')) else if ((badU U ac).isSome || (badU U' ac').isSome) = true then ∃ t, r = .bytes #[105, 110, 118, 97, 108, 105, 100, 97, 99, 99, 101, 115, 115] t else r = .bool (tEq (keyU U) (keyU U'))
theorem told2_c (w : World) (G : Heap) (t0 : Tok) (x : Addr) (U : TK) (v : Value) (e : Bool) (ac : Int) (tk ta : Tok) (x' : Addr) (U' : TK) (v' : Value) (e' : Bool) (ac' : Int) (tk' ta' : Tok) (I : ThF G x (kindS U) v e ac tk ta) (H : ValH G U v) (hw : wB U) (I' : ThF G x' (kindS U') v' e' ac' tk' ta') (H' : ValH G U' v') (hw' : wB U') :
    RT 24 w 419 [.int 2 t0, .ref x, .ref x'] G [] (fun h h1 r _ => eqR U U' ac ac' r) := by
  refine told_intro (k := 23) [(Str.ofString "way", .int 2 t0), (Str.ofString "one", .ref x), (Str.ofString "other", .ref x')] (by k_is) (by k_is) (by intro s X; exact BindsTo.of_eq rfl) rfl (by decide) rfl rfl rfl (fun _ => rfl) (fun _ => rfl) (fun _ => rfl) (by decide) (by decide) (by decide) ?_
  intro C sh g h₁ tkk Q K F' N' KS' S' tnrm texc
  have X' := K.X
  have T' := K.T
  k_steps
  · have hp : isNull U = true ∨ isNull U' = true ∨ (badU U ac = none ∧ badU U' ac' = none) := by assumption
    refine Due.mk ?_
    unfold eqR
    rcases Bool.eq_false_or_eq_true (isNull U || isNull U') with n | n
    · rw [if_pos n, eqU, if_pos n]
    · obtain ⟨n1, n2⟩ := Bool.or_eq_false_iff.mp n
      rcases hp with q | q | ⟨q, q'⟩
      · rw [n1] at q; cases q
      · rw [n2] at q; cases q
      · rw [if_neg (by rw [n]; exact Bool.false_ne_true), if_neg (by rw [q, q']; exact Bool.false_ne_true), eqU, if_neg (by rw [n]; exact Bool.false_ne_true)]
  · k_steps
    obtain ⟨n1, n2, q⟩ : isNull U = false ∧ isNull U' = false ∧ _ := by assumption
    refine Due.mk fun _ t9 => ?_
    unfold eqR
    rw [if_neg (by rw [n1, n2]; exact Bool.false_ne_true)]
    rcases q with q | ⟨q, q'⟩
    · rw [if_pos (by rw [q]; rfl)]
      obtain rfl := bad_IA q n1
      exact ⟨_, rfl⟩
    · rw [if_pos (by rw [q']; simp)]
      obtain rfl := bad_IA q' n2
      exact ⟨_, rfl⟩
theorem told3_c (w : World) (G : Heap) (t0 : Tok) (x : Addr) (U : TK) (v : Value) (e : Bool) (ac : Int) (tk ta : Tok) (x' : Addr) (U' : TK) (v' : Value) (e' : Bool) (ac' : Int) (tk' ta' : Tok) (I : ThF G x (kindS U) v e ac tk ta) (H : ValH G U v) (hw : wB U) (I' : ThF G x' (kindS U') v' e' ac' tk' ta') (H' : ValH G U' v') (hw' : wB U') :
    RT 24 w 419 [.int 3 t0, .ref x, .ref x'] G [] (fun h h1 r _ => lessR U U' ac ac' r) := by
  refine told_intro (k := 23) [(Str.ofString "way", .int 3 t0), (Str.ofString "one", .ref x), (Str.ofString "other", .ref x')] (by k_is) (by k_is) (by intro s X; exact BindsTo.of_eq rfl) rfl (by decide) rfl rfl rfl (fun _ => rfl) (fun _ => rfl) (fun _ => rfl) (by decide) (by decide) (by decide) ?_
  intro C sh g h₁ tkk Q K F' N' KS' S' tnrm texc
  have X' := K.X
  have T' := K.T
  k_steps
  · obtain ⟨a1, a2, e⟩ | ⟨a1, a2, a3, a4, e⟩ : (isNum U = true ∧ isNum U' = true ∧ _) ∨ _ := by assumption
    all_goals refine Due.mk ?_
    all_goals unfold lessR
    · rw [if_pos (by rw [a1, a2]; rfl)]
      exact e
    · rw [if_neg (by rw [isNum_str a1]; exact Bool.false_ne_true), if_pos (by rw [a1, a2]; rfl), if_pos ⟨a3, a4⟩]
      exact e
  · k_steps
    obtain ⟨rfl, a1, a2⟩ | ⟨rfl, a1, a2, a3⟩ : (_ ∧ (isNum U && isNum U') = false ∧ (isStr U && isStr U') = false) ∨ _ := by assumption
    all_goals refine Due.mk fun _ t9 => ?_
    all_goals unfold lessR
    · rw [if_neg (by rw [a1]; exact Bool.false_ne_true), if_neg (by rw [a2]; exact Bool.false_ne_true)]
      exact ⟨_, rfl⟩
    · rw [if_neg (by rw [isNum_str a1]; exact Bool.false_ne_true), if_pos (by rw [a1, a2]; rfl), if_neg (by omega)]
      exact ⟨_, rfl⟩
theorem told4_ok (w : World) (G : Heap) (t0 : Tok) (x : Addr) (U : TK) (v : Value) (e : Bool) (ac : Int) (tk ta : Tok) (p : Int) (t1 : Tok) (I : ThF G x (kindS U) v e ac tk ta) (H : ValH G U v) (hs : (shares U && !isDict U) = true) (ha : p ≤ ac) :
    RT 21 w 419 [.int 4 t0, .ref x, .int p t1] G [] (fun h h1 r _ => ∃ y tk' ta', r = .ref y ∧ NewF h h1 y 73 (ThFs (kindS U) v e p tk' ta')) := by
  refine told_intro (k := 20) [(Str.ofString "way", .int 4 t0), (Str.ofString "one", .ref x), (Str.ofString "other", .int p t1)] (by k_is) (by k_is) (by intro s X; exact BindsTo.of_eq rfl) rfl (by decide) rfl rfl rfl (fun _ => rfl) (fun _ => rfl) (fun _ => rfl) (by decide) (by decide) (by decide) ?_
  intro C sh g h₁ tkk Q K F' N' KS' S' tnrm texc
  have X' := K.X
  have T' := K.T
  k_steps
  exact Due.mk ⟨_, _, _, rfl, newf_back KS' (by assumption) (.head _) (.tail _ (.head _)) (by assumption)⟩
theorem told4_ia (w : World) (G : Heap) (t0 : Tok) (x : Addr) (U : TK) (v : Value) (e : Bool) (ac : Int) (tk ta : Tok) (p : Int) (t1 : Tok) (I : ThF G x (kindS U) v e ac tk ta) (H : ValH G U v) (hs : (shares U && !isDict U) = true) (ha : ac < p) :
    RT 21 w 419 [.int 4 t0, .ref x, .int p t1] G [] (fun h h1 r _ => ∃ t, r = .bytes #[105, 110, 118, 97, 108, 105, 100, 97, 99, 99, 101, 115, 115] t) := by
  refine told_intro (k := 20) [(Str.ofString "way", .int 4 t0), (Str.ofString "one", .ref x), (Str.ofString "other", .int p t1)] (by k_is) (by k_is) (by intro s X; exact BindsTo.of_eq rfl) rfl (by decide) rfl rfl rfl (fun _ => rfl) (fun _ => rfl) (fun _ => rfl) (by decide) (by decide) (by decide) ?_
  intro C sh g h₁ tkk Q K F' N' KS' S' tnrm texc
  have X' := K.X
  have T' := K.T
  k_steps
  k_steps
  exact Due.mk fun _ _ => ⟨_, rfl⟩
theorem told4_tc (w : World) (G : Heap) (t0 : Tok) (x : Addr) (U : TK) (v : Value) (e : Bool) (ac : Int) (tk ta : Tok) (p : Int) (t1 : Tok) (I : ThF G x (kindS U) v e ac tk ta) (H : ValH G U v) (hs : (shares U && !isDict U) = false) :
    RT 21 w 419 [.int 4 t0, .ref x, .int p t1] G [] (fun h h1 r _ => ∃ t, r = .bytes #[116, 121, 112, 101, 99, 104, 101, 99, 107] t) := by
  refine told_intro (k := 20) [(Str.ofString "way", .int 4 t0), (Str.ofString "one", .ref x), (Str.ofString "other", .int p t1)] (by k_is) (by k_is) (by intro s X; exact BindsTo.of_eq rfl) rfl (by decide) rfl rfl rfl (fun _ => rfl) (fun _ => rfl) (fun _ => rfl) (by decide) (by decide) (by decide) ?_
  intro C sh g h₁ tkk Q K F' N' KS' S' tnrm texc
  have X' := K.X
  have T' := K.T
  k_steps
  k_steps
  exact Due.mk fun _ _ => ⟨_, rfl⟩
end Mine
end
section
namespace Mine
open PySem.Spec PySem.Calls
theorem item_tup2 {prog : Program} {w : World} {A : Around} {E : Value → Shared → Prop} {G hh : Heap} {gs : Array GenState} {dr : Drawn} {tk : Nat} {os : OsState} {Q : Value → Shared → Prop} {value slice : PySem.Expr} {t : Addr} {a b x : Value} {k : Int} {u : Tok}
    (S : G.StaysIn hh) (I : G.IsTuple t #[a, b]) (hk : (k = 0 ∧ x = a) ∨ (k = 1 ∧ x = b)) (h : Q x ⟨hh, gs, dr, tk, os⟩)
    (hs : subscripted slice false (.ref t) (.int k u) = operate [.ref t, .int k u] (getItem (.ref t) (.int k u)) := by with_unfolding_all rfl) :
    wpAny (model prog w) A (subscriptTail value slice (.ref t) (.int k u)) Q E ⟨hh, gs, dr, tk, os⟩ := by
  obtain ⟨o, g1, g2, n, g3⟩ := I
  have I' : IsTup hh t [a, b].toArray := ⟨o, S _ _ g1, g2, n, g3⟩
  rcases hk with ⟨rfl, rfl⟩ | ⟨rfl, rfl⟩
  · exact item_tupleT (s := ⟨hh, gs, dr, tk, os⟩) I' (by decide) (by decide) (j := 0) rfl rfl h hs
  · exact item_tupleT (s := ⟨hh, gs, dr, tk, os⟩) I' (by decide) (by decide) (j := 1) rfl rfl h hs
theorem lnTold20 (w : World) : (hd.heap_39 w.params).In = (hd.heap_39 w.params).In ∧ PySem.Challenge.rw_on0261_01 = PySem.Challenge.rw_on0261_01 := by
  k_fill
  exact ⟨rfl, rfl⟩
local macro_rules | `(tactic| k_inst) => `(tactic| (refine' instB ?ia ?ib ?ic ?id; (case ia => with_reducible assumption); (case ib => with_reducible assumption); (case ic => with_reducible assumption); (case id => with_reducible assumption)))
theorem lnTold21 (w : World) : (hd.heap_39 w.params).In = (hd.heap_39 w.params).In ∧ PySem.Challenge.rw_on0261_01 = PySem.Challenge.rw_on0261_01 := by
  k_with "A:AtF" => k_extra "r19"
  k_with "A:AtE" => k_extra "r20"
  k_with "A:compareOp In bytes ref" => k_extra "r10"
  k_with "A:compareOp Eq ref ref" => k_extra "r11"
  k_with "A:subscriptTail" => k_extra "r12"
  k_with "A:subscriptTail" => k_extra "r13"
  k_with "A:subscriptTail" => k_extra "r14"
  k_with "A:subscriptTail" => k_extra "r15"
  k_with "A:subscriptTail" => (k_here; (with_reducible show wpAny _ _ (subscriptTail _ _ (Value.ref _) (Value.int _ _)) _ _ _); k_dflt (refine' item_tup2 ?S_q ?I_q ?k_q ?_; (case I_q => with_reducible assumption); (case S_q => first | exact stay_of (by with_reducible assumption) (by with_reducible assumption) | exact fun _ _ h => h); (case k_q => first | exact .inl ⟨rfl, rfl⟩ | exact .inr ⟨rfl, rfl⟩); k_whole))
  k_with "A:call ref" => k_extra "r21"
  k_with "A:call ref" => k_extra "r22"
  k_with "A:call ref" => k_extra "r23"
  k_with "A:call ref" => k_extra "r24"
  k_with "A:call ref" => k_extra "r4"
  exact ⟨rfl, rfl⟩
theorem told5_ok (w : World) (G : Heap) (t0 : Tok) (sp bd : Addr) (st mn : Int) (ts tm : Tok) (t : Addr) (p q : Int) (t1 t2 : Tok) (I : SpF G sp bd st mn ts tm) (It : G.IsTuple t #[.int p t1, .int q t2]) (hp : -1000 ≤ p ∧ p ≤ 1000) (hst : -1000 ≤ st ∧ st ≤ 1000) (hmn : -1000 ≤ mn ∧ mn ≤ 1000) (hr : 0 ≤ p ∧ 0 ≤ q ∧ p + q ≤ mn) :
    RT 18 w 419 [.int 5 t0, .ref sp, .ref t] G [] (fun h h1 r _ => ∃ y ts' tm', r = .ref y ∧ NewF h h1 y 171 (SpFs bd (st + p) q ts' tm')) := by
  refine told_intro (k := 17) [(Str.ofString "way", .int 5 t0), (Str.ofString "one", .ref sp), (Str.ofString "other", .ref t)] (by k_is) (by k_is) (by intro s X; exact BindsTo.of_eq rfl) rfl (by decide) rfl rfl rfl (fun _ => rfl) (fun _ => rfl) (fun _ => rfl) (by decide) (by decide) (by decide) ?_
  intro C sh g h₁ tkk Q K F' N' KS' S' tnrm texc
  have X' := K.X
  have T' := K.T
  k_steps
  exact Due.mk ⟨_, _, _, rfl, newf_back KS' (by assumption) (.head _) (.tail _ (.head _)) (by assumption)⟩
theorem told5_bad (w : World) (G : Heap) (t0 : Tok) (sp bd : Addr) (st mn : Int) (ts tm : Tok) (t : Addr) (p q : Int) (t1 t2 : Tok) (I : SpF G sp bd st mn ts tm) (It : G.IsTuple t #[.int p t1, .int q t2]) (hp : -1000 ≤ p ∧ p ≤ 1000) (hst : -1000 ≤ st ∧ st ≤ 1000) (hmn : -1000 ≤ mn ∧ mn ≤ 1000) (hr : ¬ (0 ≤ p ∧ 0 ≤ q ∧ p + q ≤ mn)) :
    RT 18 w 419 [.int 5 t0, .ref sp, .ref t] G [] (fun h h1 r _ => ∃ t, r = .bytes #[114, 97, 110, 103, 101, 99, 104, 101, 99, 107] t) := by
  refine told_intro (k := 17) [(Str.ofString "way", .int 5 t0), (Str.ofString "one", .ref sp), (Str.ofString "other", .ref t)] (by k_is) (by k_is) (by intro s X; exact BindsTo.of_eq rfl) rfl (by decide) rfl rfl rfl (fun _ => rfl) (fun _ => rfl) (fun _ => rfl) (by decide) (by decide) (by decide) ?_
  intro C sh g h₁ tkk Q K F' N' KS' S' tnrm texc
  have X' := K.X
  have T' := K.T
  k_steps
  k_steps
  exact Due.mk fun _ _ => ⟨_, rfl⟩
theorem told7_c (w : World) (G : Heap) (t0 : Tok) (sp bd : Addr) (st mn : Int) (ts tm : Tok) (t : Addr) (p q : Int) (t1 t2 : Tok) (I : SpF G sp bd st mn ts tm) (It : G.IsTuple t #[.int p t1, .int q t2]) :
    RT 18 w 419 [.int 7 t0, .ref sp, .ref t] G [] (fun h h1 r _ => ((0 ≤ p ∧ 0 ≤ q ∧ p + q ≤ mn) ∧ r = .none) ∨ (¬ (0 ≤ p ∧ 0 ≤ q ∧ p + q ≤ mn) ∧ ∃ t, r = .bytes #[114, 97, 110, 103, 101, 99, 104, 101, 99, 107] t)) := by
  refine told_intro (k := 17) [(Str.ofString "way", .int 7 t0), (Str.ofString "one", .ref sp), (Str.ofString "other", .ref t)] (by k_is) (by k_is) (by intro s X; exact BindsTo.of_eq rfl) rfl (by decide) rfl rfl rfl (fun _ => rfl) (fun _ => rfl) (fun _ => rfl) (by decide) (by decide) (by decide) ?_
  intro C sh g h₁ tkk Q K F' N' KS' S' tnrm texc
  have X' := K.X
  have T' := K.T
  k_steps
  · exact Due.mk (.inl ⟨by assumption, rfl⟩)
  · k_steps
    obtain ⟨rfl, z⟩ : _ ∧ ¬ (0 ≤ p ∧ 0 ≤ q ∧ p + q ≤ mn) := by assumption
    exact Due.mk fun _ _ => .inr ⟨z, _, rfl⟩
theorem told6_t (w : World) (G : Heap) (t0 : Tok) (sp bd : Addr) (st mn : Int) (ts tm : Tok) (g0 : Bool) (p : Int) (t1 : Tok) (I : SpF G sp bd st mn ts tm) (hp : -1000 ≤ p ∧ p ≤ 1000) (hst : 0 ≤ st ∧ st + mn ≤ (octs g0).size) (H : TextH G bd g0) :
    RT 18 w 419 [.int 6 t0, .ref sp, .int p t1] G [] (fun h h1 r _ => ((0 ≤ p ∧ p < mn) ∧ ∃ t, r = .int (((octs g0).toList.getD (st + p).toNat 0).toNat : Nat) t) ∨ (¬ (0 ≤ p ∧ p < mn) ∧ ∃ t, r = .bytes #[114, 97, 110, 103, 101, 99, 104, 101, 99, 107] t)) := by
  refine told_intro (k := 17) [(Str.ofString "way", .int 6 t0), (Str.ofString "one", .ref sp), (Str.ofString "other", .int p t1)] (by k_is) (by k_is) (by intro s X; exact BindsTo.of_eq rfl) rfl (by decide) rfl rfl rfl (fun _ => rfl) (fun _ => rfl) (fun _ => rfl) (by decide) (by decide) (by decide) ?_
  intro C sh g h₁ tkk Q K F' N' KS' S' tnrm texc
  have X' := K.X
  have T' := K.T
  k_steps
  · exact Due.mk (.inl ⟨by assumption, _, rfl⟩)
  · k_steps
    obtain ⟨rfl, z⟩ : _ ∧ ¬ (0 ≤ p ∧ p < mn) := by assumption
    exact Due.mk fun _ _ => .inr ⟨z, _, rfl⟩
theorem told6_r (w : World) (G : Heap) (t0 : Tok) (sp bd : Addr) (st mn : Int) (ts tm : Tok) (g0 : Bool) (l c0 c1 c2 : Addr) (tn : Tok) (p : Int) (t1 : Tok) (I : SpF G sp bd st mn ts tm) (hp : -1000 ≤ p ∧ p ≤ 1000) (hst : 0 ≤ st ∧ st + mn ≤ 3) (H : RowH G bd g0) (D : Fld G bd 115 [(Str.ofString "number", .int (if g0 then 4 else 3) tn), (Str.ofString "things", .ref l), (Str.ofString "is_global", .bool g0)]) (hl : G.IsList l #[.ref c0, .ref c1, .ref c2]) :
    RT 18 w 419 [.int 6 t0, .ref sp, .int p t1] G [] (fun h h1 r _ => ((0 ≤ p ∧ p < mn) ∧ r = [Value.ref c0, .ref c1, .ref c2].getD (st + p).toNat .none) ∨ (¬ (0 ≤ p ∧ p < mn) ∧ ∃ t, r = .bytes #[114, 97, 110, 103, 101, 99, 104, 101, 99, 107] t)) := by
  refine told_intro (k := 17) [(Str.ofString "way", .int 6 t0), (Str.ofString "one", .ref sp), (Str.ofString "other", .int p t1)] (by k_is) (by k_is) (by intro s X; exact BindsTo.of_eq rfl) rfl (by decide) rfl rfl rfl (fun _ => rfl) (fun _ => rfl) (fun _ => rfl) (by decide) (by decide) (by decide) ?_
  intro C sh g h₁ tkk Q K F' N' KS' S' tnrm texc
  have X' := K.X
  have T' := K.T
  k_steps
  · obtain ⟨a1, a2⟩ : (0 ≤ p ∧ p < mn) ∧ _ := by assumption
    exact Due.mk (.inl ⟨a1, a2⟩)
  · k_steps
    obtain ⟨rfl, z⟩ : _ ∧ ¬ (0 ≤ p ∧ p < mn) := by assumption
    exact Due.mk fun _ _ => .inr ⟨z, _, rfl⟩
end Mine
end
section
namespace Mine
open PySem.Spec PySem.Calls
theorem lnTypes0 (w : World) : (hd.heap_39 w.params).In = (hd.heap_39 w.params).In ∧ PySem.Challenge.rw_on0261_01 = PySem.Challenge.rw_on0261_01 := by
  k_fill
  exact ⟨rfl, rfl⟩
local macro_rules | `(tactic| k_inst) => `(tactic| (refine' instB ?ia ?ib ?ic ?id; (case ia => with_reducible assumption); (case ib => with_reducible assumption); (case ic => with_reducible assumption); (case id => with_reducible assumption)))
theorem lnTypes1 (w : World) : (hd.heap_39 w.params).In = (hd.heap_39 w.params).In ∧ PySem.Challenge.rw_on0261_01 = PySem.Challenge.rw_on0261_01 := by
  exact ⟨rfl, rfl⟩
noncomputable def TypesOk (w : World) (o : Obj) : Prop := ∃ kvs, o.IsDictOf (PySem.strKind PySem.Challenge.rw_on0261_01.row.prog w) kvs ∧ ∀ k : KD, ∃ t, valueAt kvs k.s = some (.bytes k.ty t)
theorem law_types_c (w : World) (G : Heap)  :
    RO 6 w 372 [] G (fun h h1 r => ∃ D o, r = .ref D ∧ h.get? D = none ∧ h1.get? D = some o ∧ (D == sysModules) = false ∧ TypesOk w o) (fun _ => False) := by
  refine RO.intro (k := 5) [] (by k_is) (by k_is) (by intro s X; exact BindsTo.of_eq rfl) rfl (by decide) rfl rfl rfl ?_
  intro C sh g h₁ tkk Q K F' N' KS' S' hret hexc
  have X' := K.X
  have T' := K.T
  k_steps
  rename Obj.IsDictOf _ _ _ => hdict
  rename (_ == sysModules) = false => hlo
  rename News _ _ _ [_] => NN
  refine Due.mk ⟨_, _, rfl, fresh_of KS' (NN _ (.head _)).2.2, NN.get (.head _), hlo, _, hdict, ?_⟩
  intro k
  cases k <;> exact ⟨_, rfl⟩
end Mine
end
section
namespace Mine
open PySem.Spec PySem.Calls
theorem IsL_of {G h : Heap} {a : Addr} {vs : Array Value} (I : G.IsList a vs) (S : G.StaysIn h) : h.IsList a vs := let ⟨o, h1, h2, n, h3⟩ := I; ⟨o, S _ _ h1, h2, n, h3⟩
noncomputable def DkOk (w : World) (dk l : Addr) (od ol : Obj) : Prop :=
  ∃ mx t xs ns n, od.IsDictOf (PySem.strKind PySem.Challenge.rw_on0261_01.row.prog w) [(Str.ofString "left", .ref l), (Str.ofString "mixed", .int mx t)] ∧ (dk == sysModules) = false ∧
    ol = W.listOf (List.toArray xs) n ∧ IntsAre xs ns ∧ (∀ i ∈ ns, 0 ≤ i ∧ i < 1000003) ∧ (0 ≤ mx ∧ mx < 1000003) ∧ xs.length ≤ 63
theorem fmod_bd (a : Int) : 0 ≤ a.fmod 1000003 ∧ a.fmod 1000003 < 1000003 := ⟨Int.fmod_nonneg_of_pos _ (by decide), Int.fmod_lt_of_pos _ (by decide)⟩
theorem mix_bd : ∀ (l : List Int) (a : Int), 0 ≤ a ∧ a < 1000003 → 0 ≤ l.foldl (fun a' n' => (a' * 31 + n' + 1).fmod 1000003) a ∧ l.foldl (fun a' n' => (a' * 31 + n' + 1).fmod 1000003) a < 1000003
  | [], _, h => h
  | _ :: r, _, _ => mix_bd r _ (fmod_bd _)
theorem lnDeckA0 (w : World) : (hd.heap_39 w.params).In = (hd.heap_39 w.params).In ∧ PySem.Challenge.rw_on0261_01 = PySem.Challenge.rw_on0261_01 := by
  k_fill
  k_with "r25" => (k_here; k_dflt (refine' raise_psP ?xa_q ?_; (case xa_q => first | exact rfl | assumption)))
  k_with "A:exec Raise some none" => k_extra "r25"
  k_with "r26" => k_dflt (refine' ps_ex ?xa_q ?xb_q ?xc_q ?_; (case xa_q => with_reducible assumption); (case xb_q => with_reducible assumption); (case xc_q => with_reducible assumption); (try dsimp only))
  k_with "A:RaiseP" => k_extra "r26"
  k_with "r27" => k_dflt (first
      | (refine' ro_raise ?xa_q ?xb_q ?xc_q ?xd_q ?xe_q ?xf_q ?xg_q ?xh_q ?xi_q ?_; (case xa_q => with_reducible assumption); (case xb_q => with_reducible assumption); (case xc_q => with_reducible assumption); (case xd_q => with_reducible assumption); (case xe_q => with_reducible assumption); (case xf_q => with_reducible assumption); (case xg_q => rfl); (case xh_q => rfl); (case xi_q => exact fun _ h => h))
      | (refine' ro_pass ?xa_q ?xb_q ?xc_q ?xd_q ?xe_q ?xg_q ?xi_q ?_; (case xa_q => with_reducible assumption); (case xb_q => with_reducible assumption); (case xc_q => assumption); (case xd_q => with_reducible assumption); (case xe_q => with_reducible assumption); (case xg_q => rfl); (case xi_q => exact fun _ h => h)))
  k_with "A:leaving ref" => k_extra "r27"
  exact ⟨rfl, rfl⟩
local macro_rules | `(tactic| k_inst) => `(tactic| (refine' instB ?ia ?ib ?ic ?id; (case ia => with_reducible assumption); (case ib => with_reducible assumption); (case ic => with_reducible assumption); (case id => with_reducible assumption)))
theorem lnDeckA1 (w : World) : (hd.heap_39 w.params).In = (hd.heap_39 w.params).In ∧ PySem.Challenge.rw_on0261_01 = PySem.Challenge.rw_on0261_01 := by
  k_with "r28" => k_dflt (refine' ro_end ?a_q ?b_q ?c_q ?d_q ?f_q ?_; (case a_q => with_reducible assumption); (case b_q => with_reducible assumption); (case c_q => with_reducible assumption); (case d_q => rfl); (case f_q => exact fun h => h); k_whole)
  k_with "A:LeaveK" => k_extra "r28"
  k_with "r29" => k_dflt (refine' cls_end ?a_q ?b_q ?c_q ?d1_q ?d2_q ?e_q ?g_q ?i_q ?f_q ?_; (case a_q => with_reducible assumption); (case b_q => with_reducible assumption); (case c_q => with_reducible assumption); (case d1_q => with_reducible assumption); (case d2_q => with_reducible assumption); (case e_q => with_reducible assumption); (case g_q => with_reducible assumption); (case i_q => rfl); (case f_q => exact fun h => h); k_whole)
  k_with "A:LeaveK" => k_extra "r29"
  k_with "r30" => (k_here; (with_reducible show wpAny _ _ (compareOp CmpOp.Eq (Value.ref _) (Value.ref _)) _ _ _); k_dflt (refine' tupEq_ln ?h_q ?k_q ?S_q ?u_q ?_; (case h_q => with_reducible assumption); (case k_q => with_reducible assumption); (case S_q => first | with_reducible assumption | exact fun _ _ h => h); (case u_q => ktr_units); k_whole))
  k_with "A:compareOp Eq ref ref" => k_extra "r30"
  exact ⟨rfl, rfl⟩
theorem law_deck_c (w : World) (G : Heap) (sc : Addr) (vs : List Value) (ns : List Int) (I : G.IsList sc (List.toArray vs)) (hi : IntsAre vs ns) (hn : ns.length ≤ 63) :
    RO 6 w 377 [.ref sc] G (fun h h1 r => ∃ dk l od ol, r = .ref dk ∧ h.get? dk = none ∧ h.get? l = none ∧ h1.get? dk = some od ∧ h1.get? l = some ol ∧ l < dk ∧ DkOk w dk l od ol) (fun _ => False) := by
  unfold RO
  k_fill
  intro dp un gd cn cs a ccd cl outer A₀ base h₀ L m mg mb mean s Q E B F X T hk hd hu S hret hexc
  refine wpAny_call ?_
  refine enter [(Str.ofString "script", .ref sc)] B F X T (mu := []) (fun _ h => nomatch h) rfl rfl hk (by k_is) (by k_is) (by ktr_room) (BindsTo.of_eq rfl) rfl (by decide) rfl rfl rfl ?_
  intro g L' h₁ FG KS F' N' B' X' T' hL
  have KS' : s.heap.StaysIn g := fun b o e => KS b o e (fun h => nomatch h)
  have S' : G.StaysIn g := fun b o e => KS' b o (S b o e)
  clear KS
  have Ig := IsL_of I S'
  k_steps
  rename Obj.IsDictOf _ _ _ => hdict
  rename _ ∧ _ ∧ _ => hlt
  rename (_ == sysModules) = false => hlo
  rename IntsAre _ (List.map _ _) => hys
  rename News _ _ _ [_, _, _, _] => NN
  refine Due.mk ⟨_, _, _, _, rfl, fresh_of KS' (NN _ (.head _)).2.2, fresh_of KS' (NN _ (.tail _ (.tail _ (.head _)))).2.2, NN.get (.head _), NN.get (.tail _ (.tail _ (.head _))), hlt.2.1, _, _, _, _, _, hdict, hlo, rfl, hys, ?_, mix_bd _ _ (by decide), ?_⟩
  · intro i hi
    obtain ⟨j, _, rfl⟩ := List.mem_map.mp hi
    exact fmod_bd j
  · rw [hys.length, List.length_map, List.length_take]
    omega
end Mine
end
section
namespace Mine
open PySem.Spec PySem.Calls
structure RetM (h₀ : Heap) (L : Addr) (m : Str → Option Value) (s : Shared) (mu : Led) (Post : Heap → Heap → Value → Led → Prop) (Q : Value → Shared → Prop) : Prop where
  out : ∀ r h' tk' mu', Fr h₀ L h' m → News h₀ L h' mu' → mu'.map (·.1) = mu.map (·.1) → Keep (mu.map (·.1)) s.heap h' → Post s.heap h' r mu' → Q r { s with heap := h', toks := tk' }
noncomputable def RM (k : Nat) (w : World) (f : Addr) (vs : List Value) (G : Heap) (mu : Led) (Post : Heap → Heap → Value → Led → Prop) : Prop :=
  ∀ (dp un : Nat) (gd : Option (List Code)) (cn : Str) (cs : Scope) (a : Addr) (ccd : Value) (cl : List (Str × Addr)) (outer : List Env) (A₀ : Around) (base h₀ : Heap) (L : Addr) (m mg mb : Str → Option Value) (mean : ExcName → Option Value) (s : Shared)
    (Q E : Value → Shared → Prop),
    Below A₀ base outer h₀ → Fr h₀ L s.heap m → (hd.heap_39 w.params).In h₀ → Top hd.view_39 (looseW hd.view_39 [Str.ofString "PostError", Str.ofString "THING_TYPES", Str.ofString "Thing", Str.ofString "name"]) mean mg mb h₀ →
    News h₀ L s.heap mu → (∀ b ∈ mu.map (·.1), G.get? b = none) → cs.kind = .function → dp + k < recursionLimit → un + 8 * k < cLine → G.StaysIn s.heap →
    RetM h₀ L m s mu Post Q →
    wpAny (model PySem.Challenge.rw_on0261_01.row.prog w) (ktrTop dp un gd cn cs L a ccd cl outer) (call (.ref f) vs) Q E s
theorem m_end {h₀ g : Heap} {L L' : Addr} {m m' : Str → Option Value} {v : Value} {s s' : Shared} {mu mu' : Led} {Q : Value → Shared → Prop} {Post : Heap → Heap → Value → Led → Prop} {R : Result → Shared → Prop}
    (hret : RetM h₀ L m s mu Post Q) (F' : Fr g L' s'.heap m') (KS : Keep (mu.map (·.1)) s.heap g) (N' : News g L' s'.heap mu') (hmu : mu'.map (·.1) = mu.map (·.1)) (e : s' = { s with heap := s'.heap, toks := s'.toks }) (hR : Q v s' → R (.ok (.ret v)) s') (hp : Post s.heap s'.heap v mu') :
    LeaveK h₀ L m g R v s' :=
  ⟨L', m', mu', F', N', fun kF kN => hR (e ▸ hret.out v s'.heap s'.toks mu' kF kN hmu (fun b o q hn => F'.keep b o (KS b o q hn)) hp)⟩
theorem news_two {g h : Heap} {L a b : Addr} {oa ob : Obj} {news : Led} (N : News g L h news) (h1 : (a, oa) ∈ news) (h2 : (b, ob) ∈ news) : News g L h [(a, oa), (b, ob)] := fun p hp => by
  rcases List.mem_cons.mp hp with rfl | hp
  · exact N _ h1
  · rw [List.mem_singleton.mp hp]; exact N _ h2
structure RetMW {i : FI} {w : World} (C : Cx i w) (sh g : Heap) (mu : Led) (Post : Heap → Heap → Value → Led → Prop) (Q : Value → Heap → Nat → Prop) : Prop where
  out : ∀ v h' tk' m' mu', Fr g C.L h' m' → News g C.L h' mu' → mu'.map (·.1) = mu.map (·.1) → Post sh h' v mu' → Q v h' tk'
theorem RetMW.fin {i : FI} {w : World} {C : Cx i w} {sh g h' : Heap} {mu mu' : Led} {Post : Heap → Heap → Value → Led → Prop} {Q : Value → Heap → Nat → Prop} {v : Value} {m : Str → Option Value} {tk : Nat}
    (R : RetMW C sh g mu Post Q) (F : Fr g C.L h' m) (N : News g C.L h' mu') (hmu : mu'.map (·.1) = mu.map (·.1)) (hp : Post sh h' v mu') : AtR Q (.ret v) h' tk := R.out _ _ _ _ _ F N hmu hp
theorem RM.intro {k : Nat} {w : World} {f : Addr} {vs : List Value} {G : Heap} {mu : Led} {Post : Heap → Heap → Value → Led → Prop}
    {name qual : Str} {params : Arguments} {body : List Stmt} {scope : Scope} {dV kV doc pm cdv ct oc : Value} {an od : Option Addr} {osl : Array (Option Value)} (binds : List (Str × Value))
    (ho : (hd.heap_39 w.params).lookup f = some ⟨oc, od, .func (fnOf name qual params body scope dV kV doc pm an cdv ct), osl⟩) (hcd : codeIn (hd.heap_39 w.params) cdv qual = true)
    (hbind : ∀ s, (hd.heap_39 w.params).In s.heap → BindsTo s (fnOf name qual params body scope dV kV doc pm an cdv ct) ⟨vs, []⟩ binds) (hloc : (binds.all fun y => decide (scope.names.lookup y.1 = some .local)) = true)
    (hcell : ∀ x ∈ scope.names, x.2 ≠ .cell) (hco : scope.isCoroutine = false) (hgen : scope.isGenerator = false) (hk : scope.kind = .function)
    (walk : ∀ (C : Cx ⟨qual, scope, f, cdv⟩ w) (sh g h : Heap) (tk : Nat) (Q : Value → Heap → Nat → Prop), Ok C g k → Fr g C.L h (fun y => binds.reverse.lookup y) → News g C.L h mu → Keep (mu.map (·.1)) sh g → (∀ b ∈ mu.map (·.1), G.get? b = none) → G.StaysIn sh → RetMW C sh g mu Post Q →
      W C h tk (execs body C.env) (AtR Q)) :
    RM (k + 1) w f vs G mu Post := by
  unfold RM
  intro dp un gd cn cs a ccd cl outer A₀ base h₀ L m mg mb mean s Q E B F X T N OM hk' hd hu S hret
  refine wpAny_call ?_
  refine enter binds B F X T N rfl rfl hk' ho hcd (by show dp < recursionLimit; omega) (hbind _ (X.keeps F.keep)) hloc hcell hco hgen hk ?_
  intro g L' h₁ FG KS F' N' B' X' T' hL
  have := walk ⟨dp + 1, un + 3, gd, envX cn cs L a ccd cl :: outer, ktrTop dp un gd cn cs L a ccd cl outer, base, L', mg, mb, mean, s.gens, s.drawn, s.os, fun e h tk => wpAny (model PySem.Challenge.rw_on0261_01.row.prog w) ((ktrTop dp un gd cn cs L a ccd cl outer).deeper (envOf qual scope L' f cdv)) (leaving (envOf qual scope L' f cdv) e) (fun _ s'' => E e s'') (fun e' s'' => E e' s'') ⟨h, s.gens, s.drawn, tk, s.os⟩⟩
    s.heap g h₁ (s.toks + binds.length) (fun v h tk => LeaveK h₀ L m g (fun r s' => match r with | .ok (.ret v) => Q v s' | .ok _ => False | .error e => E e s') v ⟨h, s.gens, s.drawn, tk, s.os⟩)
    ⟨B', X', T', by show dp + 1 + k < recursionLimit; omega, by show un + 3 + (8 * k + 5) < cLine; omega⟩ F' N' KS OM S ⟨fun v h' tk' m' mu' F2 N2 hmu hp => m_end hret F2 KS N2 hmu rfl (fun h => h) hp⟩
  exact wpAny_mono this (fun fl s' ⟨h, tk, e, q⟩ => by rw [e]; exact q) fun e s' ⟨h, tk, e', q⟩ => by rw [e']; exact q
theorem lnDeck0 (w : World) : (hd.heap_39 w.params).In = (hd.heap_39 w.params).In ∧ PySem.Challenge.rw_on0261_01 = PySem.Challenge.rw_on0261_01 := by
  k_fill
  exact ⟨rfl, rfl⟩
local macro_rules | `(tactic| k_inst) => `(tactic| (refine' instB ?ia ?ib ?ic ?id; (case ia => with_reducible assumption); (case ib => with_reducible assumption); (case ic => with_reducible assumption); (case id => with_reducible assumption)))
theorem lnDeck1 (w : World) : (hd.heap_39 w.params).In = (hd.heap_39 w.params).In ∧ PySem.Challenge.rw_on0261_01 = PySem.Challenge.rw_on0261_01 := by
  exact ⟨rfl, rfl⟩
section
open PySem.SeqAt
variable {prog : Program} {w : World} {A : Around} {E : Value → Shared → Prop} {g hh : Heap} {L a b : Addr} {news : Led} {gs : Array GenState} {dr : Drawn} {tk n k : Nat} {os : OsState} {Q : Value → Shared → Prop}
theorem ne_nil0 (N : News g L hh news) (h1 : (a, W.listOf #[] n) ∈ news) (h2 : (b, W.listOf #[] k) ∈ news) (hu : A.units < cLine) (q : Q (.bool false) ⟨hh, gs, dr, tk, os⟩) : wpAny (model prog w) A (compareOp .NotEq (.ref a) (.ref b)) Q E ⟨hh, gs, dr, tk, os⟩ :=
  RcNeAt.lists (A := A) (s := ⟨hh, gs, dr, tk, os⟩) (e := fun _ => true) (News.isList N h1) (News.isList N h2) rfl hu (fun j j1 _ => absurd j1 (Nat.not_lt_zero _)) prog w E Q q
theorem ne_nil1 {x : Value} {xs : List Value} (N : News g L hh news) (h1 : (a, W.listOf (List.toArray (x :: xs)) n) ∈ news) (h2 : (b, W.listOf #[] k) ∈ news) (hu : A.units < cLine) (q : Q (.bool true) ⟨hh, gs, dr, tk, os⟩) : wpAny (model prog w) A (compareOp .NotEq (.ref a) (.ref b)) Q E ⟨hh, gs, dr, tk, os⟩ :=
  RcNeAt.lists_lengths (A := A) (s := ⟨hh, gs, dr, tk, os⟩) (News.isList N h1) (News.isList N h2) (by simp) hu prog w E Q q
end
theorem lnDeck2 (w : World) : (hd.heap_39 w.params).In = (hd.heap_39 w.params).In ∧ PySem.Challenge.rw_on0261_01 = PySem.Challenge.rw_on0261_01 := by
  k_with "A:compareOp NotEq ref ref" => (k_here; k_dflt (first
      | (refine' ne_nil0 ?N_q ?a_q ?b_q ?u_q ?_; (case N_q => with_reducible assumption); (case a_q => k_mem); (case b_q => k_mem); (case u_q => (first | exact lt_add (Ok.u (by with_reducible assumption)) (by decide) | exact lt_add0 (Ok.u (by with_reducible assumption)) | ktr_units)); k_whole)
      | (refine' ne_nil1 ?N_q ?a_q ?b_q ?u_q ?_; (case N_q => with_reducible assumption); (case a_q => k_mem); (case b_q => k_mem); (case u_q => (first | exact lt_add (Ok.u (by with_reducible assumption)) (by decide) | exact lt_add0 (Ok.u (by with_reducible assumption)) | ktr_units)); k_whole)))
  exact ⟨rfl, rfl⟩
structure Stop (P : Prop) : Prop where
  out : P
theorem seq0 (v : Value) (vs : List Value) : seqIndex? 0 (List.toArray (v :: vs)).size = some 0 := by simp [seqIndex?]
theorem pop0 {prog : Program} {w : World} {A : Around} {E : Value → Shared → Prop} {h₀ hh : Heap} {L D : Addr} {m : Str → Option Value} {news news' : Led} {gs : Array GenState} {dr : Drawn} {tk : Nat} {os : OsState} {n : Nat} {Q : Value → Shared → Prop} {u : Tok} {v : Value} {vs : List Value}
    (F : Fr h₀ L hh m) (N : News h₀ L hh news) (U : Upd D (W.listOf (List.toArray (v :: vs)) n) (W.listOf (List.toArray vs) (n + 1)) news news') (hz : (v :: vs).length ≤ 63) (h : ∀ h', Fr h₀ L h' m → News h₀ L h' news' → Q v ⟨h', gs, dr, tk, os⟩) :
    wpAny (model prog w) A (call (.builtin "list.pop") [.ref D, .int 0 u]) Q E ⟨hh, gs, dr, tk, os⟩ :=
  kl_popAt (s := ⟨hh, gs, dr, tk, os⟩) (k := 0) (p := []) (q := vs) (y := v) F N rfl (seq0 v vs) rfl U (by rw [sizeLine_eq]; simp only [List.length_cons] at hz ⊢; omega) h
theorem lnDeck3 (w : World) : (hd.heap_39 w.params).In = (hd.heap_39 w.params).In ∧ PySem.Challenge.rw_on0261_01 = PySem.Challenge.rw_on0261_01 := by
  k_with "r31" => refine Stop.out (P := AtR _ _ _ _) ?_
  k_with "A:AtR" => k_extra "r31"
  k_with "A:call builtin:list.pop" => (k_here; k_dflt (refine' pop0 ?F_q ?N_q ?U_q ?z_q ?_; (case F_q => with_reducible assumption); (case N_q => with_reducible assumption); (case U_q => k_upd); (case z_q => with_reducible assumption); k_whole; intro h9 F9 N9; (try dsimp only [List.nil_append, List.cons_append] at N9)))
  exact ⟨rfl, rfl⟩
theorem law_draw_c (w : World) (G : Heap) (dk l : Addr) (od ol : Obj) (many : Int) (tm : Tok) (hm : 1 ≤ many ∧ many ≤ 100) (hlt : l < dk) (D : DkOk w dk l od ol) :
    RM 6 w 384 [.ref dk, .int many tm] G [(dk, od), (l, ol)] (fun h h1 r mu => (∃ i t, r = .int i t ∧ 0 ≤ i ∧ i < many) ∧ ∃ od' ol', mu = [(dk, od'), (l, ol')] ∧ DkOk w dk l od' ol') := by
  refine RM.intro (k := 5) [(Str.ofString "deck", .ref dk), (Str.ofString "many", .int many tm)] (by k_is) (by k_is) (by intro s X; exact BindsTo.of_eq rfl) rfl (by decide) rfl rfl rfl ?_
  intro C sh g h₁ tkk Q K F' N' KS OM S hret
  have X' := K.X
  have T' := K.T
  obtain ⟨mx, t, xs, ns, n, hdict, hlo, rfl, hi, hb, hmx, hlen⟩ := D
  obtain ⟨hm1, hm2⟩ := hm
  obtain ⟨hx1, hx2⟩ := hmx
  replace hlt := ltN hlt
  cases hi with
  | nil =>
    k_steps
    rename Obj.IsDictOf _ _ _ => hd2
    rename News _ _ _ [_, _, _] => NN
    have N2 := news_two NN (a := dk) (b := l) (by k_mem) (by k_mem)
    refine Stop.mk ?_
    refine hret.fin (by assumption) N2 rfl ⟨⟨_, _, rfl, Int.fmod_nonneg_of_pos _ (by omega), Int.fmod_lt_of_pos _ (by omega)⟩, _, _, rfl, _, _, _, _, _, hd2, hlo, rfl, .nil, hb, fmod_bd _, hlen⟩
  | cons i ti hr =>
    obtain ⟨hb1, hb2⟩ := hb i (.head _)
    k_steps
    rename News _ _ _ [_, _, _] => NN
    have N2 := news_two NN (a := dk) (b := l) (by k_mem) (by k_mem)
    refine Stop.mk ?_
    refine hret.fin (by assumption) N2 rfl ⟨⟨_, _, rfl, Int.fmod_nonneg_of_pos _ (by omega), Int.fmod_lt_of_pos _ (by omega)⟩, _, _, rfl, _, _, _, _, _, hdict, hlo, rfl, hr, fun j hj => hb j (.tail _ hj), ⟨hx1, hx2⟩, by simp only [List.length_cons] at hlen; omega⟩
end Mine
end
section
namespace Mine
open PySem.Spec PySem.Calls
noncomputable def noH : Heap := { objs := #[] }
theorem noH_get (b : Addr) : noH.get? b = none := Heap.get?_none_of_le (Nat.zero_le _)
theorem noH_in (h : Heap) : noH.StaysIn h := fun b o e => by rw [noH_get] at e; cases e
inductive Deck2 (dk l : Addr) (od ol : Obj) : Led → (Obj → Obj → Led) → Prop
  | here : Deck2 dk l od ol [(dk, od), (l, ol)] (fun a b => [(dk, a), (l, b)])
  | there {p : Addr × Obj} {news : Led} {g : Obj → Obj → Led} : @Ne Nat p.1 dk → @Ne Nat p.1 l → Deck2 dk l od ol news g → Deck2 dk l od ol (p :: news) (fun a b => p :: g a b)
theorem Deck2.news {dk l : Addr} {od ol : Obj} {news : Led} {g : Obj → Obj → Led} (U : Deck2 dk l od ol news g) {h₀ h h' : Heap} {L : Addr} {a b : Obj} (N : News h₀ L h news) (K : Keep [dk, l] h h') (N' : News h₀ L h' [(dk, a), (l, b)]) : News h₀ L h' (g a b) := by
  induction U with
  | here => exact N'
  | there h1 h2 _ ih =>
    intro p hp
    rcases List.mem_cons.mp hp with rfl | hp
    · obtain ⟨x1, x2, x3⟩ := N _ (.head _)
      refine ⟨K _ _ x1 fun hm => ?_, x2, x3⟩
      rcases List.mem_cons.mp hm with z | hm
      · exact h1 z
      · exact h2 (List.mem_singleton.mp hm)
    · exact ih (fun q hq => N q (.tail _ hq)) p hp
theorem Deck2.deck {dk l : Addr} {od ol : Obj} {news : Led} {g : Obj → Obj → Led} (U : Deck2 dk l od ol news g) {h₀ h : Heap} {L : Addr} (N : News h₀ L h news) : News h₀ L h [(dk, od), (l, ol)] := by
  induction U with
  | here => exact N
  | there _ _ _ ih => exact ih fun q hq => N q (.tail _ hq)
theorem draw_use {w : World} {dk l : Addr} {od ol : Obj} {many : Int} {tm : Tok} {news : Led} {g : Obj → Obj → Led}
    {dp un : Nat} {gd : Option (List Code)} {cn : Str} {cs : Scope} {a : Addr} {ccd : Value} {cl : List (Str × Addr)} {outer : List Env} {A₀ : Around} {base h₀ : Heap} {L : Addr} {m mg mb : Str → Option Value} {mean : ExcName → Option Value}
    {hh : Heap} {gs : Array GenState} {dr : Drawn} {tk : Nat} {os : OsState} {Q E : Value → Shared → Prop}
    (D : DkOk w dk l od ol) (hlt : l < dk) (hm : 1 ≤ many ∧ many ≤ 100)
    (B : Below A₀ base outer h₀) (F : Fr h₀ L hh m) (X : (hd.heap_39 w.params).In h₀)
    (T : Top hd.view_39 (looseW hd.view_39 [Str.ofString "PostError", Str.ofString "THING_TYPES", Str.ofString "Thing", Str.ofString "name"]) mean mg mb h₀)
    (N : News h₀ L hh news) (U : Deck2 dk l od ol news g)
    (hk : cs.kind = .function) (hdp : dp + 6 < recursionLimit) (hu : un + 8 * 6 < cLine)
    (ret : ∀ i t h' tk' od' ol', Fr h₀ L h' m → News h₀ L h' (g od' ol') → DkOk w dk l od' ol' → Keep [dk, l] hh h' → 0 ≤ i → i < many → Q (.int i t) ⟨h', gs, dr, tk', os⟩) :
    wpAny (model PySem.Challenge.rw_on0261_01.row.prog w) (ktrTop dp un gd cn cs L a ccd cl outer) (call (.ref 384) [.ref dk, .int many tm]) Q E ⟨hh, gs, dr, tk, os⟩ := by
  refine law_draw_c w noH dk l od ol many tm hm hlt D dp un gd cn cs a ccd cl outer A₀ base h₀ L m mg mb mean ⟨hh, gs, dr, tk, os⟩ Q E B F X T (U.deck N) (fun b _ => noH_get b) hk hdp hu (noH_in _) ⟨fun r h' tk' mu' F' N' hmu K P => ?_⟩
  obtain ⟨⟨i, t, rfl, b1, b2⟩, od', ol', rfl, D'⟩ := P
  exact ret i t h' tk' od' ol' F' (U.news N K N') D' K b1 b2
section
variable {i : FI} {w : World} {C : Cx i w} {h : Heap} {tk : Nat}
@[reducible] noncomputable def KCut (P : Heap → Nat → Prop) (fl : Flow) (h : Heap) (tk : Nat) : Prop := Due (fl = .next ∧ P h tk)
theorem W.cut {st : Stmt} {rest : List Stmt} {Q : Flow → Heap → Nat → Prop} (P : Heap → Nat → Prop) (x : W C h tk (exec st C.env) (KCut P)) (y : ∀ h1 tk1, P h1 tk1 → W C h1 tk1 (execs rest C.env) Q) : W C h tk (execs (st :: rest) C.env) Q :=
  W.cons (wpAny_mono x (fun fl s ⟨h1, tk1, e, q⟩ => ⟨h1, tk1, e, by rw [q.out.1]; exact y h1 tk1 q.out.2⟩) fun _ _ z => z)
end
theorem W.draw {i : FI} {w : World} {C : Cx i w} {g h : Heap} {tk k : Nat} {m : Str → Option Value} {dk l : Addr} {od ol : Obj} {many : Int} {tm : Tok} {news : Led} {gf : Obj → Obj → Led} {Q : Value → Heap → Nat → Prop}
    (D : DkOk w dk l od ol) (hlt : l < dk) (hm : 1 ≤ many ∧ many ≤ 100) (K : Ok C g k) (F : Fr g C.L h m) (N : News g C.L h news) (U : Deck2 dk l od ol news gf) (hk : 6 ≤ k) (hf : i.scope.kind = .function)
    (ret : ∀ i t h' tk' od' ol', Fr g C.L h' m → News g C.L h' (gf od' ol') → DkOk w dk l od' ol' → Keep [dk, l] h h' → 0 ≤ i → i < many → Q (.int i t) h' tk') : W C h tk (call (.ref 384) [.ref dk, .int many tm]) Q :=
  draw_use D hlt hm K.B F K.X K.T N U hf (lt_add K.d hk) (lt_add K.u (Nat.le_trans (Nat.mul_le_mul_left 8 hk) (Nat.le_add_right _ _))) fun i t h' tk' od' ol' a b c d e f => Lf.go (ret i t h' tk' od' ol' a b c d e f)
end Mine
end
section
namespace Mine
open PySem.Spec PySem.Calls
theorem news_fldD {g hh h : Heap} {L y C dk l : Addr} {od ol : Obj} {m : Str → Option Value} {news news0 : Led} {fs : List (Str × Value)} {w : World} (D : DkOk w dk l od ol) (F : Fr g L hh m) (N0 : News g L hh news0) (N : News g L h news) (h1 : (dk, od) ∈ news0) (h2 : (l, ol) ∈ news0) (P : NewF hh h y C fs) :
    ∃ d es n, News g L h ((y, instObj C d) :: (d, dictOf es n) :: news) ∧ (∀ p ∈ fs, getL p.1 es = some (some p.2) ∧ handedIn p.2 = true) ∧ @Ne Nat y dk ∧ @Ne Nat y l ∧ @Ne Nat d dk ∧ @Ne Nat d l := by
  have P' := P
  obtain ⟨d, es, n, q1, q2, q3, q4, q5⟩ := P
  have k1 := (N0 _ h1).1
  have k2 := (N0 _ h2).1
  refine ⟨d, es, n, fun p hp => ?_, q5, fun z => ?_, fun z => ?_, fun z => ?_, fun z => ?_⟩
  · rcases List.mem_cons.mp hp with rfl | hp
    · exact ⟨q3, fr_ne F q1, fresh_of F.keep q1⟩
    rcases List.mem_cons.mp hp with rfl | hp
    · exact ⟨q4, fr_ne F q2, fresh_of F.keep q2⟩
    · exact N p hp
  · have z' : y = dk := z
    rw [z'] at q1; exact nomatch q1.symm.trans k1
  · have z' : y = l := z
    rw [z'] at q1; exact nomatch q1.symm.trans k2
  · have z' : d = dk := z
    rw [z'] at q2; exact nomatch q2.symm.trans k1
  · have z' : d = l := z
    rw [z'] at q2; exact nomatch q2.symm.trans k2
theorem news_fldD_k {R : Prop} {g hh h : Heap} {L y C dk l : Addr} {od ol : Obj} {m : Str → Option Value} {news news0 : Led} {fs : List (Str × Value)} {w : World} (D : DkOk w dk l od ol) (F : Fr g L hh m) (N0 : News g L hh news0) (N : News g L h news) (h1 : (dk, od) ∈ news0) (h2 : (l, ol) ∈ news0) (P : NewF hh h y C fs) (k : ∀ d es n, News g L h ((y, instObj C d) :: (d, dictOf es n) :: news) → (∀ p ∈ fs, getL p.1 es = some (some p.2) ∧ handedIn p.2 = true) → @Ne Nat y dk → @Ne Nat y l → @Ne Nat d dk → @Ne Nat d l → R) : R := by
  obtain ⟨d, es, n, a, b, c, e, f, q⟩ := news_fldD D F N0 N h1 h2 P
  exact k d es n a b c e f q
theorem fresh_mu {H g h : Heap} {L b dk l : Addr} {o : Obj} {news : Led} (KS : Keep [dk, l] H g) (N : News g L h news) (hm : (b, o) ∈ news) (n1 : @Ne Nat b dk) (n2 : @Ne Nat b l) : H.get? b = none := by
  cases e : H.get? b with
  | none => rfl
  | some o' =>
    have := (N _ hm).2.2
    rw [KS _ _ e fun hm => by
      rcases List.mem_cons.mp hm with z | hm
      · exact n1 z
      · exact n2 (List.mem_singleton.mp hm)] at this
    cases this
theorem newf_mu {H g h : Heap} {L y C d dk l : Addr} {es : List DictEntry} {n : Nat} {news : Led} {fs : List (Str × Value)} (KS : Keep [dk, l] H g) (N : News g L h news) (h1 : (y, instObj C d) ∈ news) (h2 : (d, dictOf es n) ∈ news)
    (h3 : ∀ p ∈ fs, getL p.1 es = some (some p.2) ∧ handedIn p.2 = true) (n1 : @Ne Nat y dk) (n2 : @Ne Nat y l) (n3 : @Ne Nat d dk) (n4 : @Ne Nat d l) : NewF H h y C fs :=
  ⟨d, es, n, fresh_mu KS N h1 n1 n2, fresh_mu KS N h2 n3 n4, N.get h1, N.get h2, h3⟩
theorem lnDeck30 (w : World) : (hd.heap_39 w.params).In = (hd.heap_39 w.params).In ∧ PySem.Challenge.rw_on0261_01 = PySem.Challenge.rw_on0261_01 := by
  k_fill
  exact ⟨rfl, rfl⟩
local macro_rules | `(tactic| k_inst) => `(tactic| (refine' instB ?ia ?ib ?ic ?id; (case ia => with_reducible assumption); (case ib => with_reducible assumption); (case ic => with_reducible assumption); (case id => with_reducible assumption)))
theorem lnDeck31 (w : World) : (hd.heap_39 w.params).In = (hd.heap_39 w.params).In ∧ PySem.Challenge.rw_on0261_01 = PySem.Challenge.rw_on0261_01 := by
  k_with "A:compareOp In bytes ref" => k_extra "r10"
  k_with "A:compareOp Eq ref ref" => k_extra "r11"
  k_with "A:subscriptTail" => k_extra "r12"
  k_with "A:subscriptTail" => k_extra "r13"
  k_with "A:subscriptTail" => k_extra "r14"
  k_with "A:subscriptTail" => k_extra "r15"
  exact ⟨rfl, rfl⟩
local macro_rules | `(tactic| k_upd) => `(tactic| first | exact Deck2.here | (refine' Deck2.there ?a ?b ?c; (case a => k_ne); (case b => k_ne); (case c => k_upd)))
theorem lnDeck32 (w : World) : (hd.heap_39 w.params).In = (hd.heap_39 w.params).In ∧ PySem.Challenge.rw_on0261_01 = PySem.Challenge.rw_on0261_01 := by
  k_with "r32" => (k_here; (with_reducible show W _ _ _ (call (Value.ref 384) _) _); k_dflt (refine' W.draw ?DD_q ?HLT_q ?HM_q ?KO_q ?FR_q ?NN_q ?UU_q ?HK_q ?HF_q ?_; (case KO_q => with_reducible assumption); (case FR_q => with_reducible assumption); (case NN_q => with_reducible assumption); (case DD_q => with_reducible assumption); (case HLT_q => with_reducible assumption); (case HM_q => first | exact ⟨by decide, by decide⟩ | (constructor <;> omega)); (case UU_q => k_upd); (case HK_q => decide); (case HF_q => rfl); k_whole; intro i9 t9 h9 tk9 od9 ol9 F9 N9 D9 K9 b9 c9; (try dsimp only at N9); (try k_sweep)))
  k_with "A:call ref" => k_extra "r32"
  k_with "A:AtR" => k_extra "r31"
  exact ⟨rfl, rfl⟩
theorem call_Span0 (w : World) (a1 a2 a3 : Value) (q1 : handedIn a1 = true) (q2 : handedIn a2 = true) (q3 : handedIn a3 = true) : RO 3 w 171 [a1, a2, a3] noH (fun h h1 r => ∃ y, r = .ref y ∧ NewF h h1 y 171 [(Str.ofString "body", a1), (Str.ofString "start", a2), (Str.ofString "many", a3)]) (fun _ => False) := call_Span w noH a1 a2 a3 q1 q2 q3
theorem lnDeck33 (w : World) : (hd.heap_39 w.params).In = (hd.heap_39 w.params).In ∧ PySem.Challenge.rw_on0261_01 = PySem.Challenge.rw_on0261_01 := by
  k_with "A:call ref" => (k_here; (with_reducible show W _ _ _ (call (Value.ref 171) _) _); k_dflt (refine' W.ro_e0 (call_Span0 _ _ _ _ ?q1_q ?q2_q ?q3_q) ?KO_q ?FR_q ?ST_q ?_ ?exc_q ?HK_q; (case KO_q => with_reducible assumption); (case HK_q => decide); (case FR_q => with_reducible assumption); (case q1_q => first | exact rfl | assumption); (case q2_q => first | exact rfl | assumption); (case q3_q => first | exact rfl | assumption); (case ST_q => first | exact stay_of (by with_reducible assumption) (by with_reducible assumption) | exact fun _ _ h => h | exact noH_in _); (case exc_q => exact fun _ _ _ _ h => h.elim); k_whole; intro y9 h9 tk9 F9 S9 P9; (try (have N9 := stay_news (by with_reducible assumption) S9)); refine news_fldD_k (by with_reducible assumption) (by with_reducible assumption) (by with_reducible assumption) N9 (by k_mem) (by k_mem) P9 ?_; clear N9; intro d9 es9 n9 N9 q9 a9 b9 c9 e9; clear P9; (try k_sweep)))
  exact ⟨rfl, rfl⟩
theorem law_span_c (w : World) (G : Heap) (dk l : Addr) (od ol : Obj) (bd : Addr) (many : Int) (tm : Tok) (hm : 0 ≤ many ∧ many ≤ 5) (hlt : l < dk) (D : DkOk w dk l od ol) :
    RM 12 w 391 [.ref dk, .ref bd, .int many tm] G [(dk, od), (l, ol)] (fun h h1 r mu => ∃ y st mn ts tm', r = .ref y ∧ NewF h h1 y 171 (SpFs bd st mn ts tm') ∧ (0 ≤ st ∧ st ≤ many ∧ 0 ≤ mn ∧ st + mn ≤ many) ∧ ∃ od' ol', mu = [(dk, od'), (l, ol')] ∧ DkOk w dk l od' ol') := by
  refine RM.intro (k := 11) [(Str.ofString "deck", .ref dk), (Str.ofString "body", .ref bd), (Str.ofString "many", .int many tm)] (by k_is) (by k_is) (by intro s X; exact BindsTo.of_eq rfl) rfl (by decide) rfl rfl rfl ?_
  intro C sh g h₁ tkk Q K F' N' KS OM S hret
  have X' := K.X
  have T' := K.T
  replace hlt := ltN hlt
  obtain ⟨hm1, hm2⟩ := hm
  k_steps
  have N2 := news_two (a := dk) (b := l) (by assumption) (by k_mem) (by k_mem)
  refine Stop.mk ?_
  refine hret.fin (by assumption) N2 rfl ⟨_, _, _, _, _, rfl, newf_mu KS (by assumption) (.head _) (.tail _ (.head _)) (by assumption) (by assumption) (by assumption) (by assumption) (by assumption), by omega, _, _, rfl, by assumption⟩
end Mine
end
namespace Mine
theorem grpB : True := trivial
end Mine
local macro_rules | `(tactic| walk_at $_:str) => Lean.Macro.throwUnsupported
section
namespace Mine
open PySem.Spec PySem.Calls
theorem idx_bd (i : Nat) : 0 ≤ [(0 : Int), 1, 2, 3, 6, 7, 7, 7, 4, 5, 7, 7].getD i 0 ∧ [(0 : Int), 1, 2, 3, 6, 7, 7, 7, 4, 5, 7, 7].getD i 0 < 8 := by
  have := kmn_any (l := [0, 1, 2, 3, 6, 7, 7, 7, 4, 5, 7, 7]) (i := i) (d := 0) (lo := 0) (hi := 7) (by decide)
  omega
theorem handed_getD {l : List Value} (i : Nat) (h : l.all handedIn = true) : handedIn (l.getD i .none) = true := by
  by_cases hi : i < l.length
  · rw [List.getD_eq_getElem?_getD, List.getElem?_eq_getElem hi, Option.getD_some]
    exact List.all_eq_true.mp h _ (List.getElem_mem hi)
  · rw [List.getD_eq_getElem?_getD, List.getElem?_eq_none (by omega)]
    rfl
theorem item_menu {prog : Program} {w : World} {A : Around} {E : Value → Shared → Prop} {g hh : Heap} {L a : Addr} {news : Led} {its : List Value} {n : Nat} {k : Int} {u : Tok} {gs : Array GenState} {dr : Drawn} {tk : Nat} {os : OsState} {Q : Value → Shared → Prop} {value slice : PySem.Expr}
    (N : News g L hh news) (hm : (a, W.listOf (List.toArray its) n) ∈ news) (h0 : 0 ≤ k) (h1 : k < (its.length : Int)) (hz : its.length ≤ 100) (h : Q (its.getD k.toNat .none) ⟨hh, gs, dr, tk, os⟩)
    (hs : subscripted slice false (.ref a) (.int k u) = operate [.ref a, .int k u] (getItem (.ref a) (.int k u)) := by with_unfolding_all rfl) : wpAny (model prog w) A (subscriptTail value slice (.ref a) (.int k u)) Q E ⟨hh, gs, dr, tk, os⟩ := by
  have hl : k.toNat < its.length := by omega
  exact item_litK (s := ⟨hh, gs, dr, tk, os⟩) (News.isList N hm) h0 (by omega) (v := its.getD k.toNat .none) (by simp [hl]) h hs
structure Bods (G : Heap) (bs b0 b1 b2 b3 b4 b5 : Addr) : Prop where
  ls : G.IsList bs #[.ref b0, .ref b1, .ref b2, .ref b3, .ref b4, .ref b5]
  t0 : TextH G b0 false
  t1 : TextH G b1 true
  r0 : RowH G b2 false
  r1 : RowH G b3 true
  d0 : DictH G b4 false
  d1 : DictH G b5 true
noncomputable abbrev bodAt (b0 b1 b2 b3 b4 b5 : Addr) (k : Int) : Addr := [b0, b1, b2, b3, b4, b5].getD k.toNat 0
theorem bod_item {prog : Program} {w : World} {A : Around} {E : Value → Shared → Prop} {G hh : Heap} {bs b0 b1 b2 b3 b4 b5 : Addr} {k : Int} {u : Tok} {gs : Array GenState} {dr : Drawn} {tk : Nat} {os : OsState} {Q : Value → Shared → Prop} {value slice : PySem.Expr}
    (HB : Bods G bs b0 b1 b2 b3 b4 b5) (S : G.StaysIn hh) (h0 : 0 ≤ k) (h1 : k < 6) (h : Q (.ref (bodAt b0 b1 b2 b3 b4 b5 k)) ⟨hh, gs, dr, tk, os⟩)
    (hs : subscripted slice false (.ref bs) (.int k u) = operate [.ref bs, .int k u] (getItem (.ref bs) (.int k u)) := by with_unfolding_all rfl) : wpAny (model prog w) A (subscriptTail value slice (.ref bs) (.int k u)) Q E ⟨hh, gs, dr, tk, os⟩ := by
  refine item_lnL S HB.ls h0 h1 (by simp only [List.length_cons, List.length_nil]; decide) ?_ hs
  have e : [Value.ref b0, .ref b1, .ref b2, .ref b3, .ref b4, .ref b5].getD k.toNat .none = .ref (bodAt b0 b1 b2 b3 b4 b5 k) := by
    have : k = 0 ∨ k = 1 ∨ k = 2 ∨ k = 3 ∨ k = 4 ∨ k = 5 := by omega
    rcases this with rfl | rfl | rfl | rfl | rfl | rfl <;> rfl
  rw [e]; exact h
theorem span_use {w : World} {dk l : Addr} {od ol : Obj} {bd : Addr} {many : Int} {tm : Tok} {news : Led} {g : Obj → Obj → Led}
    {dp un : Nat} {gd : Option (List Code)} {cn : Str} {cs : Scope} {a : Addr} {ccd : Value} {cl : List (Str × Addr)} {outer : List Env} {A₀ : Around} {base h₀ : Heap} {L : Addr} {m mg mb : Str → Option Value} {mean : ExcName → Option Value}
    {hh : Heap} {gs : Array GenState} {dr : Drawn} {tk : Nat} {os : OsState} {Q E : Value → Shared → Prop}
    (D : DkOk w dk l od ol) (hlt : l < dk) (hm : 0 ≤ many ∧ many ≤ 5)
    (B : Below A₀ base outer h₀) (F : Fr h₀ L hh m) (X : (hd.heap_39 w.params).In h₀)
    (T : Top hd.view_39 (looseW hd.view_39 [Str.ofString "PostError", Str.ofString "THING_TYPES", Str.ofString "Thing", Str.ofString "name"]) mean mg mb h₀)
    (N : News h₀ L hh news) (U : Deck2 dk l od ol news g)
    (hk : cs.kind = .function) (hdp : dp + 12 < recursionLimit) (hu : un + 8 * 12 < cLine)
    (ret : ∀ y st mn ts tm' h' tk' od' ol' d es n, Fr h₀ L h' m → News h₀ L h' ((y, instObj 171 d) :: (d, dictOf es n) :: g od' ol') → (∀ p ∈ SpFs bd st mn ts tm', getL p.1 es = some (some p.2) ∧ handedIn p.2 = true) → @Ne Nat y dk → @Ne Nat y l → @Ne Nat d dk → @Ne Nat d l →
      (0 ≤ st ∧ st ≤ many ∧ 0 ≤ mn ∧ st + mn ≤ many) → DkOk w dk l od' ol' → Q (.ref y) ⟨h', gs, dr, tk', os⟩) :
    wpAny (model PySem.Challenge.rw_on0261_01.row.prog w) (ktrTop dp un gd cn cs L a ccd cl outer) (call (.ref 391) [.ref dk, .ref bd, .int many tm]) Q E ⟨hh, gs, dr, tk, os⟩ := by
  refine law_span_c w noH dk l od ol bd many tm hm hlt D dp un gd cn cs a ccd cl outer A₀ base h₀ L m mg mb mean ⟨hh, gs, dr, tk, os⟩ Q E B F X T (U.deck N) (fun b _ => noH_get b) hk hdp hu (noH_in _) ⟨fun r h' tk' mu' F' N' hmu K P => ?_⟩
  obtain ⟨y, st, mn, ts, tm', rfl, I, b, od', ol', rfl, D'⟩ := P
  have ND := U.deck N
  obtain ⟨d, es, n, N9, q, n1, n2, n3, n4⟩ := news_fldD D F ND (U.news N K N') (.head _) (.tail _ (.head _)) I
  exact ret y st mn ts tm' h' tk' od' ol' d es n F' N9 q n1 n2 n3 n4 b D'
section
variable {i : FI} {w : World} {C : Cx i w} {h : Heap} {tk : Nat}
@[reducible] noncomputable def KUnp2 (C : Cx i w) (names : List Str) (Q : Flow → Heap → Nat → Prop) (items : List Value) (h : Heap) (tk : Nat) : Prop := W C h tk (assignInOrder (names.reverse.map fun n => bindName C.env n) items.reverse) (KNext Q)
@[reducible] noncomputable def KUnp (C : Cx i w) (names : List Str) (Q : Flow → Heap → Nat → Prop) (v : Value) (h : Heap) (tk : Nat) : Prop := W C h tk (unpackItems v names.length none) (KUnp2 C names Q)
theorem W.AssignT {elts : List PySem.Expr} {k : Nat} {tpos pos : Pos} {value : PySem.Expr} {names : List Str} {Q : Flow → Heap → Nat → Prop} (y : W C h tk (eval value C.env) (KUnp C names Q))
    (hs : ∀ L, swapsWithSole [.Tuple elts k tpos] value pos.line (envX i.qual i.scope L i.f i.cdv []) = pure false) (hw : swappedStores [.Tuple elts k tpos] value C.env = pure (some names)) : W C h tk (exec (.Assign [.Tuple elts k tpos] value pos) C.env) Q :=
  Assign_Tuple_swapped (seqP y fun v h1 tk1 q => seqP q fun items h2 tk2 q => wpAny_mono q (fun _ _ z => z) fun _ _ z => z) (hs _) hw
@[reducible] noncomputable def KAsg (C : Cx i w) (elts : List PySem.Expr) (k : Nat) (tpos : Pos) (Q : Flow → Heap → Nat → Prop) (v : Value) (h : Heap) (tk : Nat) : Prop := W C h tk (assign (.Tuple elts k tpos) C.env v) (KNext Q)
theorem W.AssignU {elts : List PySem.Expr} {k : Nat} {tpos pos : Pos} {value : PySem.Expr} {Q : Flow → Heap → Nat → Prop} (y : W C h tk (eval value C.env) (KAsg C elts k tpos Q))
    (hs : ∀ L, swapsWithSole [.Tuple elts k tpos] value pos.line (envX i.qual i.scope L i.f i.cdv []) = pure false) (hw : swappedStores [.Tuple elts k tpos] value C.env = pure none) : W C h tk (exec (.Assign [.Tuple elts k tpos] value pos) C.env) Q :=
  Assign_Tuple (seqP y fun v h1 tk1 q => wpAny_mono q (fun _ _ z => z) fun _ _ z => z) (hs _) hw
end
theorem W.span {i : FI} {w : World} {C : Cx i w} {g h : Heap} {tk k : Nat} {m : Str → Option Value} {dk l bd : Addr} {od ol : Obj} {many : Int} {tm : Tok} {news : Led} {gf : Obj → Obj → Led} {Q : Value → Heap → Nat → Prop}
    (D : DkOk w dk l od ol) (hlt : l < dk) (hm : 0 ≤ many ∧ many ≤ 5) (K : Ok C g k) (F : Fr g C.L h m) (N : News g C.L h news) (U : Deck2 dk l od ol news gf) (hk : 12 ≤ k) (hf : i.scope.kind = .function)
    (ret : ∀ y st mn ts tm' h' tk' od' ol' d es n, Fr g C.L h' m → News g C.L h' ((y, instObj 171 d) :: (d, dictOf es n) :: gf od' ol') → (∀ p ∈ SpFs bd st mn ts tm', getL p.1 es = some (some p.2) ∧ handedIn p.2 = true) → @Ne Nat y dk → @Ne Nat y l → @Ne Nat d dk → @Ne Nat d l →
      (0 ≤ st ∧ st ≤ many ∧ 0 ≤ mn ∧ st + mn ≤ many) → DkOk w dk l od' ol' → Q (.ref y) h' tk') : W C h tk (call (.ref 391) [.ref dk, .ref bd, .int many tm]) Q :=
  span_use D hlt hm K.B F K.X K.T N U hf (lt_add K.d hk) (lt_add K.u (Nat.le_trans (Nat.mul_le_mul_left 8 hk) (Nat.le_add_right _ _))) fun y st mn ts tm' h' tk' od' ol' d es n a b c e f p q r s => Lf.go (ret y st mn ts tm' h' tk' od' ol' d es n a b c e f p q r s)
theorem five_sub {x : Int} (h0 : 0 ≤ x) (h1 : x < 2) : 0 ≤ 5 - x ∧ 5 - x ≤ 5 := ⟨Int.sub_nonneg_of_le (Int.le_trans (Int.le_of_lt h1) (by decide)), Int.sub_le_self 5 h0⟩
theorem lnDeck40 (w : World) : (hd.heap_39 w.params).In = (hd.heap_39 w.params).In ∧ PySem.Challenge.rw_on0261_01 = PySem.Challenge.rw_on0261_01 := by
  k_fill
  exact ⟨rfl, rfl⟩
local macro_rules | `(tactic| k_inst) => `(tactic| (refine' instB ?ia ?ib ?ic ?id; (case ia => with_reducible assumption); (case ib => with_reducible assumption); (case ic => with_reducible assumption); (case id => with_reducible assumption)))
theorem lnDeck41 (w : World) : (hd.heap_39 w.params).In = (hd.heap_39 w.params).In ∧ PySem.Challenge.rw_on0261_01 = PySem.Challenge.rw_on0261_01 := by
  k_with "r33" => k_dflt (first
      | ((with_reducible refine W.AssignU ?_ ?h_q ?hh_q); (case h_q => (intro P9; rfl)); (case hh_q => rfl))
      | ((with_reducible refine' W.AssignT ?_ ?h_q ?hh_q); (case h_q => (intro P9; rfl)); (case hh_q => rfl)))
  k_with "B:exec Assign" => k_extra "r33"
  k_with "B:compareOp In bytes ref" => k_extra "r10"
  k_with "B:compareOp Eq ref ref" => k_extra "r11"
  k_with "B:subscriptTail" => k_extra "r12"
  k_with "B:subscriptTail" => k_extra "r13"
  k_with "B:subscriptTail" => k_extra "r14"
  k_with "B:subscriptTail" => k_extra "r15"
  exact ⟨rfl, rfl⟩
local macro_rules | `(tactic| k_upd) => `(tactic| first | exact Deck2.here | (refine' Deck2.there ?a ?b ?c; (case a => k_ne); (case b => k_ne); (case c => k_upd)))
theorem lnDeck42 (w : World) : (hd.heap_39 w.params).In = (hd.heap_39 w.params).In ∧ PySem.Challenge.rw_on0261_01 = PySem.Challenge.rw_on0261_01 := by
  k_with "B:call ref" => k_extra "r32"
  k_with "B:AtR" => k_extra "r31"
  k_with "B:call ref" => (k_here; (with_reducible show W _ _ _ (call (Value.ref 391) _) _); k_dflt (refine' W.span ?DD_q ?HLT_q ?HM_q ?KO_q ?FR_q ?NN_q ?UU_q ?HK_q ?HF_q ?_; (case KO_q => with_reducible assumption); (case FR_q => with_reducible assumption); (case NN_q => with_reducible assumption); (case DD_q => with_reducible assumption); (case HLT_q => with_reducible assumption); (case HM_q => first | exact ⟨by decide, by decide⟩ | exact five_sub (by with_reducible assumption) (by with_reducible assumption) | ((try k_fmods); constructor <;> omega)); (case UU_q => k_upd); (case HK_q => decide); (case HF_q => rfl); k_whole; intro y9 st9 mn9 ts9 tm9 h9 tk9 od9 ol9 d9 es9 n9 F9 N9 q9 a9 b9 c9 e9 bd9 D9; (try dsimp only at N9); (try k_sweep)))
  k_with "B:subscriptTail" => (k_here; k_dflt (first
      | ((with_reducible show wpAny _ _ (subscriptTail _ _ (Value.ref _) (Value.int _ _)) _ _ _); refine' item_menu (its := [Value.bytes _ _, Value.bytes _ _, Value.bytes _ _, Value.bytes _ _]) ?N_q ?hm_q ?h0_q ?h1_q ?hz_q ?_; (case N_q => with_reducible assumption); (case hm_q => k_mem); (case h0_q => first | with_reducible assumption | omega); (case h1_q => first | exact (by with_reducible assumption : _ < (4 : Int)) | exact (by with_reducible assumption : _ < (12 : Int)) | (simp only [List.length_cons, List.length_nil]; omega)); (case hz_q => exact Nat.le_of_ble_eq_true rfl); k_whole)
      | ((with_reducible show wpAny _ _ (subscriptTail _ _ (Value.ref _) (Value.int (List.getD _ _ _) _)) _ _ _); refine' item_menu (its := [_, _, _, _, _, _, _, _]) ?N_q ?hm_q ?h0_q ?h1_q ?hz_q ?_; (case N_q => with_reducible assumption); (case hm_q => k_mem); (case h0_q => exact (idx_bd _).1); (case h1_q => exact (idx_bd _).2); (case hz_q => exact Nat.le_of_ble_eq_true rfl); k_whole)
      | ((with_reducible show wpAny _ _ (subscriptTail _ _ (Value.ref _) (Value.int _ _)) _ _ _); refine' item_menu (its := [Value.str _ _, Value.str _ _, Value.str _ _, Value.str _ _, Value.str _ _, Value.str _ _, Value.str _ _, Value.str _ _, Value.str _ _, Value.str _ _, Value.str _ _, Value.str _ _]) ?N_q ?hm_q ?h0_q ?h1_q ?hz_q ?_; (case N_q => with_reducible assumption); (case hm_q => k_mem); (case h0_q => first | with_reducible assumption | omega); (case h1_q => first | exact (by with_reducible assumption : _ < (4 : Int)) | exact (by with_reducible assumption : _ < (12 : Int)) | (simp only [List.length_cons, List.length_nil]; omega)); (case hz_q => exact Nat.le_of_ble_eq_true rfl); k_whole)
      | (refine' bod_item ?HB_q ?S_q ?h0_q ?h1_q ?_; (case HB_q => with_reducible assumption); (case S_q => exact stay_of (by with_reducible assumption) (by with_reducible assumption)); (case h0_q => first | with_reducible assumption | exact Int.add_nonneg (by decide) (by with_reducible assumption) | ((try k_fmods); omega)); (case h1_q => first | exact Int.lt_trans (by with_reducible assumption : _ < (2 : Int)) (by decide) | exact Int.lt_of_lt_of_le (Int.add_lt_add_left (by with_reducible assumption : _ < (2 : Int)) _) (by decide) | ((try k_fmods); omega)); k_whole)))
  exact ⟨rfl, rfl⟩
theorem call_Thing0 (w : World) (a1 a2 a3 a4 : Value) (q1 : handedIn a1 = true) (q2 : handedIn a2 = true) (q3 : handedIn a3 = true) (q4 : handedIn a4 = true) : RO 3 w 73 [a1, a2, a3, a4] noH (fun h h1 r => ∃ y, r = .ref y ∧ NewF h h1 y 73 [(Str.ofString "kind", a1), (Str.ofString "value", a2), (Str.ofString "is_exec", a3), (Str.ofString "access", a4)]) (fun _ => False) := call_Thing w noH a1 a2 a3 a4 q1 q2 q3 q4
theorem lnDeck43 (w : World) : (hd.heap_39 w.params).In = (hd.heap_39 w.params).In ∧ PySem.Challenge.rw_on0261_01 = PySem.Challenge.rw_on0261_01 := by
  k_with "B:call ref" => (k_here; (with_reducible show W _ _ _ (call (Value.ref 73) _) _); k_dflt (refine' W.ro_e0 (call_Thing0 _ _ _ _ _ ?q1_q ?q2_q ?q3_q ?q4_q) ?KO_q ?FR_q ?ST_q ?_ ?exc_q ?HK_q; (case KO_q => with_reducible assumption); (case HK_q => decide); (case FR_q => with_reducible assumption); (case q1_q => first | exact rfl | assumption | exact handed_getD _ rfl); (case q2_q => first | exact rfl | assumption | exact handed_getD _ rfl); (case q3_q => first | exact rfl | assumption); (case q4_q => first | exact rfl | assumption); (case ST_q => first | exact stay_of (by with_reducible assumption) (by with_reducible assumption) | exact fun _ _ h => h | exact noH_in _); (case exc_q => exact fun _ _ _ _ h => h.elim); k_whole; intro y9 h9 tk9 F9 S9 P9; (try (have N9 := stay_news (by with_reducible assumption) S9)); refine news_fldD_k (by with_reducible assumption) (by with_reducible assumption) (by with_reducible assumption) N9 (by k_mem) (by k_mem) P9 ?_; clear N9; intro d9 es9 n9 N9 q9 a9 b9 c9 e9; clear P9; (try k_sweep)))
  exact ⟨rfl, rfl⟩
theorem fm2 (i : Int) : 0 ≤ i.fmod 2 ∧ i.fmod 2 < 2 := ⟨Int.fmod_nonneg_of_pos _ (by decide), Int.fmod_lt_of_pos _ (by decide)⟩
theorem fm01 (n : Int) : n.fmod 2 = 0 ∨ n.fmod 2 = 1 := by have := fm2 n; omega
noncomputable def ValN (G h h1 : Heap) : TK → Value → Prop
  | .str g st mn, v => ∃ sp bd ts tm, v = .ref sp ∧ NewF h h1 sp 171 (SpFs bd st mn ts tm) ∧ TextH G bd g
  | .arr _ g st mn, v => ∃ sp bd ts tm, v = .ref sp ∧ NewF h h1 sp 171 (SpFs bd st mn ts tm) ∧ RowH G bd g
  | U, v => ValH G U v
noncomputable def spB : TK → Prop
  | .str g st mn => 0 ≤ st ∧ 0 ≤ mn ∧ st + mn ≤ (octs g).size
  | .arr _ _ st mn => 0 ≤ st ∧ 0 ≤ mn ∧ st + mn ≤ 3
  | _ => True
inductive ThPost (w : World) (G : Heap) (dk l : Addr) (h h1 : Heap) (r : Value) (mu : Led) : Prop
  | mk (x : Addr) (U : TK) (v : Value) (e : Bool) (ac : Int) (tk ta : Tok) (er : r = .ref x) (P : NewF h h1 x 73 (ThFs (kindS U) v e ac tk ta)) (V : ValN G h h1 U v) (hw : wB U) (hs : spB U) (ha : 0 ≤ ac ∧ ac ≤ 3) (hd : isDict U = true → ac = 3)
    (od' ol' : Obj) (em : mu = [(dk, od'), (l, ol')]) (D : DkOk w dk l od' ol')
theorem bod_t {G : Heap} {bs b0 b1 b2 b3 b4 b5 : Addr} (HB : Bods G bs b0 b1 b2 b3 b4 b5) (n : Int) : TextH G (bodAt b0 b1 b2 b3 b4 b5 (n.fmod 2)) (decide (n.fmod 2 = 1)) := by
  rcases fm01 n with h | h <;> rw [h]
  · exact HB.t0
  · exact HB.t1
theorem bod_r {G : Heap} {bs b0 b1 b2 b3 b4 b5 : Addr} (HB : Bods G bs b0 b1 b2 b3 b4 b5) (n : Int) : RowH G (bodAt b0 b1 b2 b3 b4 b5 (2 + n.fmod 2)) (decide (n.fmod 2 = 1)) := by
  rcases fm01 n with h | h <;> rw [h]
  · exact HB.r0
  · exact HB.r1
theorem bod_d {G : Heap} {bs b0 b1 b2 b3 b4 b5 : Addr} (HB : Bods G bs b0 b1 b2 b3 b4 b5) (n : Int) : DictH G (bodAt b0 b1 b2 b3 b4 b5 (4 + n.fmod 2)) (decide (n.fmod 2 = 1)) := by
  rcases fm01 n with h | h <;> rw [h]
  · exact HB.d0
  · exact HB.d1
theorem octs_fm (n : Int) : ((octs (decide (n.fmod 2 = 1))).size : Int) = 5 - n.fmod 2 := by
  rcases fm01 n with h | h <;> rw [h] <;> rfl
theorem acc_bd (i : Nat) : 0 ≤ [(3 : Int), 3, 2, 1, 0].getD i 0 ∧ [(3 : Int), 3, 2, 1, 0].getD i 0 ≤ 3 := kmn_any (l := [3, 3, 2, 1, 0]) (i := i) (d := 0) (lo := 0) (hi := 3) (by decide)
section
variable {prog : Program} {w : World} {A : Around} {E : Value → Shared → Prop} {g hh : Heap} {L T : Addr} {news : Led} {n : Nat} {gs : Array GenState} {dr : Drawn} {tk : Nat} {os : OsState} {Q : Value → Shared → Prop} {i a b c : Int} {t ta tb tc : Tok}
open PySem.SeqAt in
theorem in_no2 (N : News g L hh news) (hm : (T, { cls := .type "tuple", data := .seq #[.int a ta, .int b tb] n }) ∈ news) (h1 : i ≠ a) (h2 : i ≠ b) (q : Q (.bool false) ⟨hh, gs, dr, tk, os⟩) : wpAny (model prog w) A (compareOp .In (.int i t) (.ref T)) Q E ⟨hh, gs, dr, tk, os⟩ :=
  in_tupleAt (fun _ => false) ⟨_, N.get hm, rfl, n, rfl⟩ (fun y hy => by
    rcases List.mem_cons.mp (Array.mem_toList_iff.mpr hy) with rfl | hy
    · have := EqAt.int_int (A := A.in1) (s := ⟨hh, gs, dr, tk, os⟩) a ta i t
      rwa [beq_eq_false_iff_ne.mpr (Ne.symm h1)] at this
    · rw [List.mem_singleton.mp hy]
      have := EqAt.int_int (A := A.in1) (s := ⟨hh, gs, dr, tk, os⟩) b tb i t
      rwa [beq_eq_false_iff_ne.mpr (Ne.symm h2)] at this) (by simpa using q)
open PySem.SeqAt in
theorem in_no3 (N : News g L hh news) (hm : (T, { cls := .type "tuple", data := .seq #[.int a ta, .int b tb, .int c tc] n }) ∈ news) (h1 : i ≠ a) (h2 : i ≠ b) (h3 : i ≠ c) (q : Q (.bool false) ⟨hh, gs, dr, tk, os⟩) : wpAny (model prog w) A (compareOp .In (.int i t) (.ref T)) Q E ⟨hh, gs, dr, tk, os⟩ :=
  in_tupleAt (fun _ => false) ⟨_, N.get hm, rfl, n, rfl⟩ (fun y hy => by
    rcases List.mem_cons.mp (Array.mem_toList_iff.mpr hy) with rfl | hy
    · have := EqAt.int_int (A := A.in1) (s := ⟨hh, gs, dr, tk, os⟩) a ta i t
      rwa [beq_eq_false_iff_ne.mpr (Ne.symm h1)] at this
    rcases List.mem_cons.mp hy with rfl | hy
    · have := EqAt.int_int (A := A.in1) (s := ⟨hh, gs, dr, tk, os⟩) b tb i t
      rwa [beq_eq_false_iff_ne.mpr (Ne.symm h2)] at this
    · rw [List.mem_singleton.mp hy]
      have := EqAt.int_int (A := A.in1) (s := ⟨hh, gs, dr, tk, os⟩) c tc i t
      rwa [beq_eq_false_iff_ne.mpr (Ne.symm h3)] at this) (by simpa using q)
end
theorem lnDeck44 (w : World) : (hd.heap_39 w.params).In = (hd.heap_39 w.params).In ∧ PySem.Challenge.rw_on0261_01 = PySem.Challenge.rw_on0261_01 := by
  k_with "B:compareOp In int ref" => (k_here; k_dflt (first
      | (refine' in_no2 ?N_q ?hm_q ?a_q ?b_q ?_; (case N_q => with_reducible assumption); (case hm_q => k_mem); (case a_q => first | with_reducible assumption | decide); (case b_q => first | with_reducible assumption | decide); k_whole)
      | (refine' in_no3 ?N_q ?hm_q ?a_q ?b_q ?c_q ?_; (case N_q => with_reducible assumption); (case hm_q => k_mem); (case a_q => first | with_reducible assumption | decide); (case b_q => first | with_reducible assumption | decide); (case c_q => first | with_reducible assumption | decide); k_whole)))
  exact ⟨rfl, rfl⟩
theorem cut1 {M : Model} {A : Around} {E : Value → Shared → Prop} {s : Shared} {env : Env} {st : Stmt} {rest : List Stmt} {Q : Flow → Shared → Prop} (P : Shared → Prop)
    (h1 : wpAny M A (exec st env) (fun f s' => Due (f = .next ∧ P s')) E s) (h2 : ∀ s', P s' → wpAny M A (execs rest env) Q E s') : wpAny M A (execs (st :: rest) env) Q E s :=
  wpAny_execs_cons (wpAny_mono h1 (fun f s' h => by obtain ⟨rfl, hp⟩ := h.out; exact h2 _ hp) fun _ _ h => h)
theorem news_one {g h : Heap} {L a : Addr} {oa : Obj} {news news' : Led} (N : News g L h news) (h1 : (a, oa) ∈ news) (N' : News g L h news') : News g L h ((a, oa) :: news') := fun p hp => by
  rcases List.mem_cons.mp hp with rfl | hp
  · exact N _ h1
  · exact N' _ hp
noncomputable def valT (n : Int) (u0 u1 u2 c0 c1 c2 c3 d0 d1 d2 d3 : Tok) : List Value :=
  [.int (n - 1) u0, .int ((n - 1) * 500000) u1, .bool (n.fmod 2 == 1), [Value.bytes #[] c0, .bytes #[97, 98] c1, .bytes #[98] c2, .bytes #[97, 98, 99] c3].getD n.toNat .none, .none, .none,
    [Value.bytes #[97, 100, 100] d0, .bytes #[97, 98] d1, .bytes #[112, 111, 112] d2, .bytes #[97, 100, 100] d3].getD n.toNat .none, .int n u2]
inductive ValOk (way n : Int) (v : Value) : Prop
  | mk (u0 u1 u2 c0 c1 c2 c3 d0 d1 d2 d3 : Tok) (e : v = (valT n u0 u1 u2 c0 c1 c2 c3 d0 d1 d2 d3).getD ([(0 : Int), 1, 2, 3, 6, 7, 7, 7, 4, 5, 7, 7].getD way.toNat 0).toNat .none)
noncomputable def kindT (k0 k1 k2 k3 k4 k5 k6 k7 k8 k9 k10 k11 : Tok) : List Value :=
  [.str (Str.ofString "integer") k0, .str (Str.ofString "real") k1, .str (Str.ofString "boolean") k2, .str (Str.ofString "name") k3, .str (Str.ofString "operator") k4, .str (Str.ofString "string") k5,
    .str (Str.ofString "array") k6, .str (Str.ofString "packed") k7, .str (Str.ofString "null") k8, .str (Str.ofString "mark") k9, .str (Str.ofString "dict") k10, .str (Str.ofString "save") k11]
inductive KindL (o : Obj) : Prop
  | mk (k0 k1 k2 k3 k4 k5 k6 k7 k8 k9 k10 k11 : Tok) (e : o = W.listOf (List.toArray (kindT k0 k1 k2 k3 k4 k5 k6 k7 k8 k9 k10 k11)) 0)
inductive SpanSt {i : FI} {w : World} (C : Cx i w) (g : Heap) (dk l kl : Addr) (ok : Obj) (bd : Addr) (many : Int) (mp : Value → Str → Option Value) (h' : Heap) (tk' : Nat) : Prop
  | mk (y d : Addr) (es : List DictEntry) (nn : Nat) (st mn : Int) (ts tm : Tok) (od' ol' : Obj) (F : Fr g C.L h' (mp (.ref y))) (N : News g C.L h' [(y, instObj 171 d), (d, dictOf es nn), (kl, ok), (dk, od'), (l, ol')])
    (q : ∀ p ∈ SpFs bd st mn ts tm, getL p.1 es = some (some p.2) ∧ handedIn p.2 = true) (n1 : @Ne Nat y dk) (n2 : @Ne Nat y l) (n3 : @Ne Nat d dk) (n4 : @Ne Nat d l) (b : 0 ≤ st ∧ st ≤ many ∧ 0 ≤ mn ∧ st + mn ≤ many) (D : DkOk w dk l od' ol')
theorem val_handed {way n : Int} {v : Value} (h : ValOk way n v) : handedIn v = true := by
  obtain ⟨u0, u1, u2, c0, c1, c2, c3, d0, d1, d2, d3, rfl⟩ := h
  refine handed_getD _ ?_
  simp only [valT, List.all_cons, List.all_nil, Bool.and_true]
  rw [handed_getD _ rfl, handed_getD _ rfl]
  rfl
theorem four : ∀ {k : Int}, 0 ≤ k → k < 4 → k = 0 ∨ k = 1 ∨ k = 2 ∨ k = 3
  | .ofNat 0, _, _ => .inl rfl
  | .ofNat 1, _, _ => .inr (.inl rfl)
  | .ofNat 2, _, _ => .inr (.inr (.inl rfl))
  | .ofNat 3, _, _ => .inr (.inr (.inr rfl))
  | .ofNat (n + 4), _, h => absurd (Int.ofNat_lt.mp h) (Nat.not_lt.mpr (Nat.le_add_left 4 n))
  | .negSucc _, h, _ => nomatch h
theorem twelve {k : Int} (h0 : 0 ≤ k) (h1 : k < 12) : k = 0 ∨ k = 1 ∨ k = 2 ∨ k = 3 ∨ k = 4 ∨ k = 5 ∨ k = 6 ∨ k = 7 ∨ k = 8 ∨ k = 9 ∨ k = 10 ∨ k = 11 := by
  have h : ∀ n : Fin 12, ((n.val : Int) = 0 ∨ (n.val : Int) = 1 ∨ (n.val : Int) = 2 ∨ (n.val : Int) = 3 ∨ (n.val : Int) = 4 ∨ (n.val : Int) = 5 ∨ (n.val : Int) = 6 ∨ (n.val : Int) = 7 ∨ (n.val : Int) = 8 ∨ (n.val : Int) = 9 ∨ (n.val : Int) = 10 ∨ (n.val : Int) = 11) := by decide
  have e := Int.toNat_of_nonneg h0
  have := h ⟨k.toNat, (Int.toNat_lt h0).mpr h1⟩
  rwa [show ((⟨k.toNat, (Int.toNat_lt h0).mpr h1⟩ : Fin 12).val : Int) = k from e] at this
theorem ways (k : Int) : k = 5 ∨ k = 6 ∨ k = 7 ∨ k = 10 ∨ (k ≠ 5 ∧ k ≠ 6 ∧ k ≠ 7 ∧ k ≠ 10) :=
  (Decidable.em (k = 5)).imp id fun a => (Decidable.em (k = 6)).imp id fun b => (Decidable.em (k = 7)).imp id fun c => (Decidable.em (k = 10)).imp id fun e => ⟨a, b, c, e⟩
theorem wb_part {st mn many K : Int} (b1 : 0 ≤ st) (b3 : 0 ≤ mn) (b4 : st + mn ≤ many) (hm : many ≤ K) : (0 ≤ st ∧ st ≤ K) ∧ (0 ≤ mn ∧ mn ≤ K) :=
  ⟨⟨b1, Int.le_trans (Int.le_add_of_nonneg_right b3) (Int.le_trans b4 hm)⟩, b3, Int.le_trans (Int.le_add_of_nonneg_left b1) (Int.le_trans b4 hm)⟩
theorem thing_other {way n : Int} {v : Value} {k0 k1 k2 k3 k4 k5 k6 k7 k8 k9 k10 k11 : Tok} (hv : ValOk way n v) (w1 : 0 ≤ way) (w2 : way < 12) (n1 : 0 ≤ n) (n2 : n < 4) (x5 : way ≠ 5) (x6 : way ≠ 6) (x7 : way ≠ 7) (x10 : way ≠ 10) :
    ∃ U tk, (kindT k0 k1 k2 k3 k4 k5 k6 k7 k8 k9 k10 k11).getD way.toNat .none = .str (kindS U) tk ∧ (∀ G h h1, ValN G h h1 U v) ∧ wB U ∧ spB U ∧ isDict U = false := by
  obtain ⟨u0, u1, u2, c0, c1, c2, c3, d0, d1, d2, d3, rfl⟩ := hv
  have hw := twelve w1 w2
  have hn := four n1 n2
  rcases hw with rfl | rfl | rfl | rfl | rfl | rfl | rfl | rfl | rfl | rfl | rfl | rfl
  · exact ⟨.int (n - 1), _, rfl, fun _ _ _ => ⟨_, rfl⟩, ⟨by omega, by omega⟩, trivial, rfl⟩
  · exact ⟨.real ((n - 1) * 500000), _, rfl, fun _ _ _ => ⟨_, rfl⟩, ⟨by omega, by omega⟩, trivial, rfl⟩
  · exact ⟨.bool (n.fmod 2 == 1), _, rfl, fun _ _ _ => rfl, trivial, trivial, rfl⟩
  · rcases hn with rfl | rfl | rfl | rfl
    · exact ⟨.name #[], _, rfl, fun _ _ _ => ⟨_, rfl⟩, trivial, trivial, rfl⟩
    · exact ⟨.name #[97, 98], _, rfl, fun _ _ _ => ⟨_, rfl⟩, trivial, trivial, rfl⟩
    · exact ⟨.name #[98], _, rfl, fun _ _ _ => ⟨_, rfl⟩, trivial, trivial, rfl⟩
    · exact ⟨.name #[97, 98, 99], _, rfl, fun _ _ _ => ⟨_, rfl⟩, trivial, trivial, rfl⟩
  · rcases hn with rfl | rfl | rfl | rfl
    · exact ⟨.oper #[97, 100, 100], _, rfl, fun _ _ _ => ⟨_, rfl⟩, trivial, trivial, rfl⟩
    · exact ⟨.oper #[97, 98], _, rfl, fun _ _ _ => ⟨_, rfl⟩, trivial, trivial, rfl⟩
    · exact ⟨.oper #[112, 111, 112], _, rfl, fun _ _ _ => ⟨_, rfl⟩, trivial, trivial, rfl⟩
    · exact ⟨.oper #[97, 100, 100], _, rfl, fun _ _ _ => ⟨_, rfl⟩, trivial, trivial, rfl⟩
  · exact absurd rfl x5
  · exact absurd rfl x6
  · exact absurd rfl x7
  · exact ⟨.null, _, rfl, fun _ _ _ => rfl, trivial, trivial, rfl⟩
  · exact ⟨.mark, _, rfl, fun _ _ _ => rfl, trivial, trivial, rfl⟩
  · exact absurd rfl x10
  · exact ⟨.save n, _, rfl, fun _ _ _ => ⟨_, rfl⟩, trivial, trivial, rfl⟩
inductive ThS1 {i : FI} {w : World} (C : Cx i w) (g : Heap) (dk l bs : Addr) (h' : Heap) (tk' : Nat) : Prop
  | mk (way n : Int) (t1 t2 : Tok) (od' ol' : Obj) (F : Fr g C.L h' (fun y => if y = Str.ofString "way" then some (.int way t1) else if y = Str.ofString "number" then some (.int n t2) else List.lookup y [(Str.ofString "deck", .ref dk), (Str.ofString "bodies", .ref bs)].reverse))
    (N : News g C.L h' [(dk, od'), (l, ol')]) (D : DkOk w dk l od' ol') (w1 : 0 ≤ way ∧ way < 12) (n1 : 0 ≤ n) (n2 : n < 4)
inductive ThS2 {i : FI} {w : World} (C : Cx i w) (g : Heap) (dk l bs : Addr) (od1 ol1 : Obj) (way n : Int) (t1 t2 : Tok) (h' : Heap) (tk' : Nat) : Prop
  | mk (v : Value) (F : Fr g C.L h' (fun y => if y = Str.ofString "value" then some v else if y = Str.ofString "way" then some (.int way t1) else if y = Str.ofString "number" then some (.int n t2) else List.lookup y [(Str.ofString "deck", .ref dk), (Str.ofString "bodies", .ref bs)].reverse))
    (N : News g C.L h' [(dk, od1), (l, ol1)]) (V : ValOk way n v)
inductive ThS3 {i : FI} {w : World} (C : Cx i w) (g : Heap) (dk l bs : Addr) (od1 ol1 : Obj) (way n : Int) (t1 t2 : Tok) (v : Value) (h' : Heap) (tk' : Nat) : Prop
  | mk (kl : Addr) (ok : Obj) (F : Fr g C.L h' (fun y => if y = Str.ofString "kinds" then some (.ref kl) else if y = Str.ofString "value" then some v else if y = Str.ofString "way" then some (.int way t1) else if y = Str.ofString "number" then some (.int n t2) else List.lookup y [(Str.ofString "deck", .ref dk), (Str.ofString "bodies", .ref bs)].reverse))
    (N : News g C.L h' [(kl, ok), (dk, od1), (l, ol1)]) (K : KindL ok) (n1 : @Ne Nat kl dk) (n2 : @Ne Nat kl l)
theorem law_thing_c (w : World) (G : Heap) (dk l : Addr) (od ol : Obj) (bs b0 b1 b2 b3 b4 b5 : Addr) (HB : Bods G bs b0 b1 b2 b3 b4 b5) (hlt : l < dk) (D : DkOk w dk l od ol) :
    RM 18 w 398 [.ref dk, .ref bs] G [(dk, od), (l, ol)] (ThPost w G dk l) := by
  refine RM.intro (k := 17) [(Str.ofString "deck", .ref dk), (Str.ofString "bodies", .ref bs)] (by k_is) (by k_is) (by intro s X; exact BindsTo.of_eq rfl) rfl (by decide) rfl rfl rfl ?_
  intro C sh g h₁ tkk Q K F' N' KS OM S hret
  have X' := K.X
  have T' := K.T
  replace hlt := ltN hlt
  have S' : G.StaysIn g := fun b o e => KS b o (S b o e) fun hm => by rw [OM b hm] at e; cases e
  with_reducible refine W.cut (ThS1 C g dk l bs) ?_ ?_
  · k_steps
    rename Fr _ _ _ _ => FF
    rename News _ _ _ _ => NN
    rename DkOk _ _ _ _ _ => DD
    have N2 := news_two (a := dk) (b := l) NN (by k_mem) (by k_mem)
    exact Due.mk ⟨rfl, _, _, _, _, _, _, FF, N2, DD, ⟨by with_reducible assumption, by with_reducible assumption⟩, by with_reducible assumption, by with_reducible assumption⟩
  clear F' N' D
  rintro h1 tk1 ⟨way, n, t1, t2, od1, ol1, F1, N1, D1, ⟨w1, w2⟩, n1, n2⟩
  with_reducible refine W.cut (ThS2 C g dk l bs od1 ol1 way n t1 t2) ?_ ?_
  · k_steps
    rename Fr _ _ _ _ => FF
    rename News _ _ _ _ => NN
    have N2 := news_two (a := dk) (b := l) NN (by k_mem) (by k_mem)
    refine Due.mk ⟨rfl, _, FF, N2, ?_⟩
    exact ⟨_, _, _, _, _, _, _, _, _, _, _, rfl⟩
  clear F1 N1
  rintro h2 tk2 ⟨v, F2, N2, HV⟩
  with_reducible refine W.cut (ThS3 C g dk l bs od1 ol1 way n t1 t2 v) ?_ ?_
  · k_steps
    rename Fr _ _ _ _ => FF
    rename News _ _ _ _ => NN
    rename _ ∧ _ => hl9
    refine Due.mk ⟨rfl, _, _, FF, news_one NN (.head _) (news_two (a := dk) (b := l) NN (by k_mem) (by k_mem)), ?_, Nat.ne_of_gt hl9.1, Nat.ne_of_gt hl9.2.1⟩
    exact ⟨_, _, _, _, _, _, _, _, _, _, _, _, rfl⟩
  clear F2 N2
  rintro h3 tk3 ⟨kl, ok, F3, N3, hk3, k1, k2⟩
  have hvh := val_handed HV
  have m2 := fm2 n
  obtain ⟨m3, m4⟩ := m2
  have hw := ways way
  rcases hw with rfl | rfl | rfl | rfl | ⟨x5, x6, x7, x10⟩
  · with_reducible refine W.cut (SpanSt C g dk l kl ok (bodAt b0 b1 b2 b3 b4 b5 (n.fmod 2)) (5 - n.fmod 2) (fun (vv : Value) (y : Str) => if y = Str.ofString "value" then some vv else if y = Str.ofString "kinds" then some (.ref kl) else if y = Str.ofString "value" then some v else if y = Str.ofString "way" then some (.int 5 t1) else if y = Str.ofString "number" then some (.int n t2) else List.lookup y [(Str.ofString "deck", .ref dk), (Str.ofString "bodies", .ref bs)].reverse)) ?_ ?_
    · k_steps
      rename Fr _ _ _ _ => FF
      rename News _ _ _ _ => NN
      refine' Due.mk ⟨?zW5, _, _, _, _, _, _, _, _, _, _, FF, news_one NN (.head _) (news_one NN (.tail _ (.head _)) (news_one NN (by k_mem) (news_two NN (by k_mem) (by k_mem)))), ?qW5, ?aW5, ?bW5, ?cW5, ?eW5, ?fW5, ?DW5⟩
      case zW5 => first | exact True.intro | exact rfl
      case qW5 => with_reducible assumption
      all_goals with_reducible assumption
    clear F3 N3 D1
    rintro h4 tk4 ⟨y4, d4, es4, nn4, st, mn, ts, tm, od4, ol4, F4, N4, q4, na, nb, nc, ne, ⟨bd1, bd2, bd3, bd4⟩, D4⟩
    (try dsimp only at F4)
    obtain ⟨g0, g1, g2, g3, g4, g5, g6, g7, g8, g9, g10, g11, rfl⟩ := hk3
    unfold kindT at N4
    k_steps
    rename News _ _ _ _ => NN
    rename DkOk _ _ _ _ _ => DD
    rename Fr _ _ _ _ => FF
    have N2 := news_two (a := dk) (b := l) NN (by k_mem) (by k_mem)
    refine Stop.mk ?_
    refine hret.fin FF N2 rfl ?_
    exact ⟨_, .str (decide (n.fmod 2 = 1)) st mn, .ref y4, _, _, _, _, rfl, newf_mu KS NN (.head _) (.tail _ (.head _)) q9 a9 b9 c9 e9, ⟨y4, _, _, _, rfl, newf_mu KS NN (by k_mem) (by k_mem) q4 na nb nc ne, bod_t HB n⟩, wb_part bd1 bd3 bd4 (five_sub m3 m4).2, ⟨bd1, bd3, by rw [octs_fm]; exact bd4⟩, acc_bd _, (fun h => nomatch h), _, _, rfl, DD⟩
  · with_reducible refine W.cut (SpanSt C g dk l kl ok (bodAt b0 b1 b2 b3 b4 b5 (2 + n.fmod 2)) (3) (fun (vv : Value) (y : Str) => if y = Str.ofString "value" then some vv else if y = Str.ofString "kinds" then some (.ref kl) else if y = Str.ofString "value" then some v else if y = Str.ofString "way" then some (.int 6 t1) else if y = Str.ofString "number" then some (.int n t2) else List.lookup y [(Str.ofString "deck", .ref dk), (Str.ofString "bodies", .ref bs)].reverse)) ?_ ?_
    · k_steps
      rename Fr _ _ _ _ => FF
      rename News _ _ _ _ => NN
      refine' Due.mk ⟨?zW6, _, _, _, _, _, _, _, _, _, _, FF, news_one NN (.head _) (news_one NN (.tail _ (.head _)) (news_one NN (by k_mem) (news_two NN (by k_mem) (by k_mem)))), ?qW6, ?aW6, ?bW6, ?cW6, ?eW6, ?fW6, ?DW6⟩
      case zW6 => first | exact True.intro | exact rfl
      case qW6 => with_reducible assumption
      all_goals with_reducible assumption
    clear F3 N3 D1
    rintro h4 tk4 ⟨y4, d4, es4, nn4, st, mn, ts, tm, od4, ol4, F4, N4, q4, na, nb, nc, ne, ⟨bd1, bd2, bd3, bd4⟩, D4⟩
    (try dsimp only at F4)
    obtain ⟨g0, g1, g2, g3, g4, g5, g6, g7, g8, g9, g10, g11, rfl⟩ := hk3
    unfold kindT at N4
    k_steps
    rename News _ _ _ _ => NN
    rename DkOk _ _ _ _ _ => DD
    rename Fr _ _ _ _ => FF
    have N2 := news_two (a := dk) (b := l) NN (by k_mem) (by k_mem)
    refine Stop.mk ?_
    refine hret.fin FF N2 rfl ?_
    exact ⟨_, .arr false (decide (n.fmod 2 = 1)) st mn, .ref y4, _, _, _, _, rfl, newf_mu KS NN (.head _) (.tail _ (.head _)) q9 a9 b9 c9 e9, ⟨y4, _, _, _, rfl, newf_mu KS NN (by k_mem) (by k_mem) q4 na nb nc ne, bod_r HB n⟩, wb_part bd1 bd3 bd4 (Int.le_refl 3), ⟨bd1, bd3, bd4⟩, acc_bd _, (fun h => nomatch h), _, _, rfl, DD⟩
  · with_reducible refine W.cut (SpanSt C g dk l kl ok (bodAt b0 b1 b2 b3 b4 b5 (2 + n.fmod 2)) (3) (fun (vv : Value) (y : Str) => if y = Str.ofString "value" then some vv else if y = Str.ofString "kinds" then some (.ref kl) else if y = Str.ofString "value" then some v else if y = Str.ofString "way" then some (.int 7 t1) else if y = Str.ofString "number" then some (.int n t2) else List.lookup y [(Str.ofString "deck", .ref dk), (Str.ofString "bodies", .ref bs)].reverse)) ?_ ?_
    · k_steps
      rename Fr _ _ _ _ => FF
      rename News _ _ _ _ => NN
      refine' Due.mk ⟨?zW7, _, _, _, _, _, _, _, _, _, _, FF, news_one NN (.head _) (news_one NN (.tail _ (.head _)) (news_one NN (by k_mem) (news_two NN (by k_mem) (by k_mem)))), ?qW7, ?aW7, ?bW7, ?cW7, ?eW7, ?fW7, ?DW7⟩
      case zW7 => first | exact True.intro | exact rfl
      case qW7 => with_reducible assumption
      all_goals with_reducible assumption
    clear F3 N3 D1
    rintro h4 tk4 ⟨y4, d4, es4, nn4, st, mn, ts, tm, od4, ol4, F4, N4, q4, na, nb, nc, ne, ⟨bd1, bd2, bd3, bd4⟩, D4⟩
    (try dsimp only at F4)
    obtain ⟨g0, g1, g2, g3, g4, g5, g6, g7, g8, g9, g10, g11, rfl⟩ := hk3
    unfold kindT at N4
    k_steps
    rename News _ _ _ _ => NN
    rename DkOk _ _ _ _ _ => DD
    rename Fr _ _ _ _ => FF
    have N2 := news_two (a := dk) (b := l) NN (by k_mem) (by k_mem)
    refine Stop.mk ?_
    refine hret.fin FF N2 rfl ?_
    exact ⟨_, .arr true (decide (n.fmod 2 = 1)) st mn, .ref y4, _, _, _, _, rfl, newf_mu KS NN (.head _) (.tail _ (.head _)) q9 a9 b9 c9 e9, ⟨y4, _, _, _, rfl, newf_mu KS NN (by k_mem) (by k_mem) q4 na nb nc ne, bod_r HB n⟩, wb_part bd1 bd3 bd4 (Int.le_refl 3), ⟨bd1, bd3, bd4⟩, acc_bd _, (fun h => nomatch h), _, _, rfl, DD⟩
  · obtain ⟨g0, g1, g2, g3, g4, g5, g6, g7, g8, g9, g10, g11, rfl⟩ := hk3
    unfold kindT at N3
    k_steps
    rename News _ _ _ _ => NN
    rename DkOk _ _ _ _ _ => DD
    rename Fr _ _ _ _ => FF
    have N2 := news_two (a := dk) (b := l) NN (by k_mem) (by k_mem)
    refine Stop.mk ?_
    refine hret.fin FF N2 rfl ?_
    exact ⟨_, .dict (decide (n.fmod 2 = 1)), _, _, _, _, _, rfl, newf_mu KS NN (.head _) (.tail _ (.head _)) q9 a9 b9 c9 e9, ⟨_, rfl, bod_d HB n⟩, trivial, trivial, ⟨by decide, by decide⟩, fun _ => rfl, _, _, rfl, DD⟩
  · obtain ⟨g0, g1, g2, g3, g4, g5, g6, g7, g8, g9, g10, g11, rfl⟩ := hk3
    obtain ⟨U, tkU, hkU, hvU, hwU, hsU, hdU⟩ := thing_other (k0 := g0) (k1 := g1) (k2 := g2) (k3 := g3) (k4 := g4) (k5 := g5) (k6 := g6) (k7 := g7) (k8 := g8) (k9 := g9) (k10 := g10) (k11 := g11) HV w1 w2 n1 n2 x5 x6 x7 x10
    unfold kindT at N3 hkU
    have hb5 : (way == 5) = false := beq_eq_false_iff_ne.mpr x5
    have hb10 : (way == 10) = false := beq_eq_false_iff_ne.mpr x10
    k_steps
    rename News _ _ _ _ => NN
    rename DkOk _ _ _ _ _ => DD
    rename Fr _ _ _ _ => FF
    have N2 := news_two (a := dk) (b := l) NN (by k_mem) (by k_mem)
    rw [hkU] at q9
    refine Stop.mk ?_
    refine hret.fin FF N2 rfl ?_
    exact ⟨_, U, _, _, _, _, _, rfl, newf_mu KS NN (.head _) (.tail _ (.head _)) q9 a9 b9 c9 e9, hvU _ _ _, hwU, hsU, ⟨by decide, by decide⟩, fun h => absurd (hdU.symm.trans h) Bool.false_ne_true, _, _, rfl, DD⟩
end Mine
end
namespace Mine
theorem grpC : True := trivial
end Mine
local macro_rules | `(tactic| walk_at $_:str) => Lean.Macro.throwUnsupported
section
namespace Mine
open PySem.Spec PySem.Calls
theorem execs_app (env : Env) (ys : List Stmt) : ∀ xs : List Stmt, execs (xs ++ ys) env = (do match ← execs xs env with | .next => execs ys env | f => pure f)
  | [] => rfl
  | x :: xs => by
    show (do match ← exec x env with | .next => execs (xs ++ ys) env | f => pure f) = ((do match ← exec x env with | .next => execs xs env | f => pure f) >>= _)
    rw [bind_assoc]
    congr 1
    funext f
    cases f with
    | next => exact execs_app env ys xs
    | _ => rfl
theorem cutN {M : Model} {A : Around} {E : Value → Shared → Prop} {s : Shared} {env : Env} {xs rest : List Stmt} {Q : Flow → Shared → Prop} (P : Shared → Prop)
    (h1 : wpAny M A (execs xs env) (fun f s' => Due (f = .next ∧ P s')) E s) (h2 : ∀ s', P s' → wpAny M A (execs rest env) Q E s') : wpAny M A (execs (xs ++ rest) env) Q E s := by
  rw [execs_app]
  refine wpAny_bind (wpAny_mono h1 (fun f s' h => ?_) fun _ _ h => h)
  obtain ⟨rfl, hp⟩ := h.out
  exact h2 _ hp
theorem cut2 {M : Model} {A : Around} {E : Value → Shared → Prop} {s : Shared} {env : Env} {a b : Stmt} {rest : List Stmt} {Q : Flow → Shared → Prop} (P : Shared → Prop)
    (h1 : wpAny M A (execs [a, b] env) (fun f s' => Due (f = .next ∧ P s')) E s) (h2 : ∀ s', P s' → wpAny M A (execs rest env) Q E s') : wpAny M A (execs (a :: b :: rest) env) Q E s := cutN (xs := [a, b]) P h1 h2
theorem cut4 {M : Model} {A : Around} {E : Value → Shared → Prop} {s : Shared} {env : Env} {a b c d : Stmt} {rest : List Stmt} {Q : Flow → Shared → Prop} (P : Shared → Prop)
    (h1 : wpAny M A (execs [a, b, c, d] env) (fun f s' => Due (f = .next ∧ P s')) E s) (h2 : ∀ s', P s' → wpAny M A (execs rest env) Q E s') : wpAny M A (execs (a :: b :: c :: d :: rest) env) Q E s := cutN (xs := [a, b, c, d]) P h1 h2
theorem cut5 {M : Model} {A : Around} {E : Value → Shared → Prop} {s : Shared} {env : Env} {a b c d e : Stmt} {rest : List Stmt} {Q : Flow → Shared → Prop} (P : Shared → Prop)
    (h1 : wpAny M A (execs [a, b, c, d, e] env) (fun f s' => Due (f = .next ∧ P s')) E s) (h2 : ∀ s', P s' → wpAny M A (execs rest env) Q E s') : wpAny M A (execs (a :: b :: c :: d :: e :: rest) env) Q E s := cutN (xs := [a, b, c, d, e]) P h1 h2
theorem rt_use {k : Nat} {w : World} {f : Addr} {vs : List Value} {G : Heap} {Post : Heap → Heap → Value → Led → Prop} (C : RT k w f vs G [] Post)
    {dp un : Nat} {gd : Option (List Code)} {cn : Str} {cs : Scope} {a : Addr} {ccd : Value} {cl : List (Str × Addr)} {outer : List Env} {A₀ : Around} {base h₀ : Heap} {L : Addr} {m mg mb : Str → Option Value} {mean : ExcName → Option Value}
    {hh : Heap} {gs : Array GenState} {dr : Drawn} {tk : Nat} {os : OsState} {Q E : Value → Shared → Prop} {news : Led}
    (B : Below A₀ base outer h₀) (F : Fr h₀ L hh m) (X : (hd.heap_39 w.params).In h₀) (T : TopH mean mg mb h₀) (XB : (hd.heap_39 w.params).In base) (TB : TopH mean mg mb base) (N : News h₀ L hh news) (S : G.StaysIn h₀) (OF : Off G (frsOf outer))
    (hk : cs.kind = .function) (hdp : dp + k < recursionLimit) (hu : un + 8 * k < cLine)
    (ret : ∀ r h' tk' g', KtsTurn (frsOf outer) h₀ g' → Fr g' L h' m → Below A₀ base outer g' → (hd.heap_39 w.params).In g' → TopH mean mg mb g' → News g' L h' news → G.StaysIn g' → Post hh h' r [] → Q r ⟨h', gs, dr, tk', os⟩) :
    wpAny (model PySem.Challenge.rw_on0261_01.row.prog w) (ktrTop dp un gd cn cs L a ccd cl outer) (call (.ref f) vs) Q E ⟨hh, gs, dr, tk, os⟩ := by
  refine C dp un gd cn cs a ccd cl outer A₀ base h₀ L m mg mb mean ⟨hh, gs, dr, tk, os⟩ Q E B F X T XB TB (fun _ hp => nomatch hp) (fun _ hb => nomatch hb) (off_cons F S OF rfl) hk hdp hu (stay_of F S) ⟨fun r h' tk' g' mu' T' F' B' X' P' N' hmu K P => ?_⟩
  have hz : mu' = [] := List.map_eq_nil_iff.mp hmu
  subst hz
  exact ret r h' tk' g' T' F' B' X' P' (news_turn F N T' K (frs_in B)) (off_turn S OF T') P
section
variable {i : FI} {w : World} {C : Cx i w} {h g : Heap} {tk k : Nat} {m : Str → Option Value}
theorem W.cutN {xs rest : List Stmt} {Q : Flow → Heap → Nat → Prop} (P : Heap → Nat → Prop) (x : W C h tk (execs xs C.env) (KCut P)) (y : ∀ h1 tk1, P h1 tk1 → W C h1 tk1 (execs rest C.env) Q) : W C h tk (execs (xs ++ rest) C.env) Q :=
  Mine.cutN (fun s => ∃ h1 tk1, s = ⟨h1, C.gs, C.dr, tk1, C.os⟩ ∧ P h1 tk1) (wpAny_mono x (fun f s ⟨h1, tk1, e, q⟩ => ⟨q.out.1, h1, tk1, e, q.out.2⟩) fun _ _ z => z) fun s ⟨h1, tk1, e, p⟩ => by rw [e]; exact y h1 tk1 p
theorem W.cut4 {a b c d : Stmt} {rest : List Stmt} {Q : Flow → Heap → Nat → Prop} (P : Heap → Nat → Prop) (x : W C h tk (execs [a, b, c, d] C.env) (KCut P)) (y : ∀ h1 tk1, P h1 tk1 → W C h1 tk1 (execs rest C.env) Q) : W C h tk (execs (a :: b :: c :: d :: rest) C.env) Q := W.cutN (xs := [a, b, c, d]) P x y
theorem W.cut5 {a b c d e : Stmt} {rest : List Stmt} {Q : Flow → Heap → Nat → Prop} (P : Heap → Nat → Prop) (x : W C h tk (execs [a, b, c, d, e] C.env) (KCut P)) (y : ∀ h1 tk1, P h1 tk1 → W C h1 tk1 (execs rest C.env) Q) : W C h tk (execs (a :: b :: c :: d :: e :: rest) C.env) Q := W.cutN (xs := [a, b, c, d, e]) P x y
theorem W.cut3 {a b c : Stmt} {rest : List Stmt} {Q : Flow → Heap → Nat → Prop} (P : Heap → Nat → Prop) (x : W C h tk (execs [a, b, c] C.env) (KCut P)) (y : ∀ h1 tk1, P h1 tk1 → W C h1 tk1 (execs rest C.env) Q) : W C h tk (execs (a :: b :: c :: rest) C.env) Q := W.cutN (xs := [a, b, c]) P x y
theorem W.cut2 {a b : Stmt} {rest : List Stmt} {Q : Flow → Heap → Nat → Prop} (P : Heap → Nat → Prop) (x : W C h tk (execs [a, b] C.env) (KCut P)) (y : ∀ h1 tk1, P h1 tk1 → W C h1 tk1 (execs rest C.env) Q) : W C h tk (execs (a :: b :: rest) C.env) Q := W.cutN (xs := [a, b]) P x y
end
theorem news_tupT {g g9 hh h9 : Heap} {L y : Addr} {l : List At} {news : Led} {m m' : Str → Option Value} {fs : List Addr} (F : Fr g L hh m) (T9 : KtsTurn fs g g9) (F9 : Fr g9 L h9 m') (N : News g9 L h9 news) (hy : hh.get? y = none) (T : TupR h9 l (.ref y)) :
    ∃ o k xs, News g9 L h9 ((y, o) :: news) ∧ o.cls = .type "tuple" ∧ o.data = .seq (List.toArray xs) k ∧ AllR l xs := by
  obtain ⟨a, xs, e, ⟨o, h1, h2, k, h3⟩, r⟩ := T
  cases e
  refine ⟨o, k, xs, fun p hp => ?_, h2, h3, r⟩
  rcases List.mem_cons.mp hp with rfl | hp
  · exact ⟨h1, fr_ne F hy, T9.none_ _ (fresh_of F.keep hy)⟩
  · exact N p hp
theorem news_tupT_k {R : Prop} {g g9 hh h9 : Heap} {L y : Addr} {l : List At} {news : Led} {m m' : Str → Option Value} {fs : List Addr} (F : Fr g L hh m) (T9 : KtsTurn fs g g9) (F9 : Fr g9 L h9 m') (N : News g9 L h9 news) (hy : hh.get? y = none) (T : TupR h9 l (.ref y)) (k : ∀ o k xs, News g9 L h9 ((y, o) :: news) → o.cls = .type "tuple" → o.data = .seq (List.toArray xs) k → AllR l xs → R) : R := by
  obtain ⟨o, j, xs, a, b, c, e⟩ := news_tupT F T9 F9 N hy T
  exact k o j xs a b c e
theorem W.rt_tup {i : FI} {w : World} {C : Cx i w} {g h G : Heap} {tk k : Nat} {m : Str → Option Value} {f : Addr} {vs : List Value} {kk : Nat} {l : List At} {news : Led} {Q : Value → Heap → Nat → Prop} (c : RT kk w f vs G [] (fun h h1 r _ => ∃ y, r = .ref y ∧ h.get? y = none ∧ TupR h1 l (.ref y)))
    (K : Ok C g k) (KB : OkB C) (F : Fr g C.L h m) (N : News g C.L h news) (S : G.StaysIn g) (OF : Off G (frsOf C.outer)) (hk : kk ≤ k) (hf : i.scope.kind = .function)
    (ret : ∀ y o j xs h' tk' g', KtsTurn (frsOf C.outer) g g' → Fr g' C.L h' m → Ok C g' k → News g' C.L h' ((y, o) :: news) → G.StaysIn g' → o.cls = .type "tuple" → o.data = .seq (List.toArray xs) j → AllR l xs → Q (.ref y) h' tk') : W C h tk (call (.ref f) vs) Q :=
  W.rt c K KB F N S OF hk hf fun r h' tk' g' a b d e s p => by
    obtain ⟨y, p, hy, T⟩ := p
    obtain ⟨o, j, xs, N2, h1, h2, h3⟩ := news_tupT F a b e hy T
    rw [p]; exact ret y o j xs h' tk' g' a b d N2 s h1 h2 h3
theorem news_fldT {g g9 hh h9 : Heap} {L y C : Addr} {m m' : Str → Option Value} {news : Led} {fs : List (Str × Value)} {frs : List Addr} (F : Fr g L hh m) (T9 : KtsTurn frs g g9) (F9 : Fr g9 L h9 m') (N : News g9 L h9 news) (P : NewF hh h9 y C fs) :
    ∃ d es n, News g9 L h9 ((y, instObj C d) :: (d, dictOf es n) :: news) ∧ ∀ p ∈ fs, getL p.1 es = some (some p.2) ∧ handedIn p.2 = true := by
  obtain ⟨d, es, n, q1, q2, q3, q4, q5⟩ := P
  refine ⟨d, es, n, fun p hp => ?_, q5⟩
  rcases List.mem_cons.mp hp with rfl | hp
  · exact ⟨q3, fr_ne F q1, T9.none_ _ (fresh_of F.keep q1)⟩
  rcases List.mem_cons.mp hp with rfl | hp
  · exact ⟨q4, fr_ne F q2, T9.none_ _ (fresh_of F.keep q2)⟩
  · exact N p hp
theorem news_fldT_k {R : Prop} {g g9 hh h9 : Heap} {L y C : Addr} {m m' : Str → Option Value} {news : Led} {fs : List (Str × Value)} {frs : List Addr} (F : Fr g L hh m) (T9 : KtsTurn frs g g9) (F9 : Fr g9 L h9 m') (N : News g9 L h9 news) (P : NewF hh h9 y C fs) (k : ∀ d es n, News g9 L h9 ((y, instObj C d) :: (d, dictOf es n) :: news) → (∀ p ∈ fs, getL p.1 es = some (some p.2) ∧ handedIn p.2 = true) → R) : R := by
  obtain ⟨d, es, n, a, b⟩ := news_fldT F T9 F9 N P
  exact k d es n a b
theorem isi_no {prog : Program} {w : World} {A : Around} {E : Value → Shared → Prop} {g hh : Heap} {L y : Addr} {o : Obj} {news : Led} {gs : Array GenState} {dr : Drawn} {tk : Nat} {os : OsState} {Q : Value → Shared → Prop}
    (N : News g L hh news) (hm : (y, o) ∈ news) (c : o.cls = .type "tuple") (h : Q (.bool false) ⟨hh, gs, dr, tk + 1, os⟩) : wpAny (model prog w) A (call (.builtin "isinstance") [.ref y, .type "bytes"]) Q E ⟨hh, gs, dr, tk, os⟩ :=
  PySem.IsiPair.tuple_bytes (s := ⟨hh, gs, dr, tk, os⟩) (N _ hm).1 c h
end Mine
end
section
namespace Mine
open PySem.Spec PySem.Calls
noncomputable def FaceN (h h1 : Heap) (U : TK) (e : Bool) (ac : Int) (r : Value) : Prop :=
  ∃ y t0 t1 n v1, r = .ref y ∧ h.get? y = none ∧ h1.get? y = some (W.listOf #[.str (kindS U) t0, v1, .bool e, .int ac t1] n) ∧
    (match valD U with | .at a => a.R v1 | .tup l => ∃ z, v1 = .ref z ∧ h.get? z = none ∧ TupR h1 l (.ref z))
theorem faceN_at {H g h : Heap} {L D : Addr} {U : TK} {e : Bool} {ac : Int} {t0 t1 : Tok} {n : Nat} {v1 : Value} {news : Led} {a : At} (KS : H.StaysIn g) (N : News g L h news) (hm : (D, W.listOf #[.str (kindS U) t0, v1, .bool e, .int ac t1] n) ∈ news) (hv : valD U = .at a) (r : a.R v1) :
    FaceN H h U e ac (.ref D) := ⟨D, t0, t1, n, v1, rfl, fresh_of KS (N _ hm).2.2, N.get hm, by rw [hv]; exact r⟩
theorem faceN_tup {H g h : Heap} {L D z : Addr} {U : TK} {e : Bool} {ac : Int} {t0 t1 : Tok} {n k : Nat} {xs : List Value} {news : Led} {l : List At} (KS : H.StaysIn g) (N : News g L h news) (hm : (D, W.listOf #[.str (kindS U) t0, .ref z, .bool e, .int ac t1] n) ∈ news)
    (hm2 : (z, { cls := .type "tuple", data := .seq (List.toArray xs) k }) ∈ news) (hv : valD U = .tup l) (r : AllR l xs) :
    FaceN H h U e ac (.ref D) := ⟨D, t0, t1, n, _, rfl, fresh_of KS (N _ hm).2.2, N.get hm, by rw [hv]; exact ⟨z, rfl, fresh_of KS (N _ hm2).2.2, tup_news N hm2 r⟩⟩
theorem lnFace0 (w : World) : (hd.heap_39 w.params).In = (hd.heap_39 w.params).In ∧ PySem.Challenge.rw_on0261_01 = PySem.Challenge.rw_on0261_01 := by
  k_fill
  exact ⟨rfl, rfl⟩
local macro_rules | `(tactic| k_inst) => `(tactic| (refine' instB ?ia ?ib ?ic ?id; (case ia => with_reducible assumption); (case ib => with_reducible assumption); (case ic => with_reducible assumption); (case id => with_reducible assumption)))
theorem lnFace1 (w : World) : (hd.heap_39 w.params).In = (hd.heap_39 w.params).In ∧ PySem.Challenge.rw_on0261_01 = PySem.Challenge.rw_on0261_01 := by
  k_with "C:exec Assign" => k_extra "r33"
  k_with "C:compareOp In bytes ref" => k_extra "r10"
  k_with "C:compareOp Eq ref ref" => k_extra "r11"
  k_with "C:subscriptTail" => k_extra "r12"
  k_with "C:subscriptTail" => k_extra "r13"
  k_with "C:subscriptTail" => k_extra "r14"
  k_with "C:subscriptTail" => k_extra "r15"
  exact ⟨rfl, rfl⟩
theorem face_c (w : World) (G : Heap) (x : Addr) (U : TK) (v : Value) (e : Bool) (ac : Int) (tk ta : Tok) (I : ThF G x (kindS U) v e ac tk ta) (H : ValH G U v) (hw : wB U) :
    RO 6 w 412 [.ref x] G (fun h h1 r => FaceN h h1 U e ac r) (fun _ => False) := by
  refine RO.intro (k := 5) [(Str.ofString "thing", .ref x)] (by k_is) (by k_is) (by intro s X; exact BindsTo.of_eq rfl) rfl (by decide) rfl rfl rfl ?_
  intro C sh g h₁ tkk Q K F' N' KS' S' hret hexc
  have X' := K.X
  have T' := K.T
  cases U with
  | int i =>
    obtain ⟨ti, rfl⟩ := H
    have I' : ThF G x (Str.ofString "integer") _ e ac tk ta := I
    clear I
    k_steps
    exact Due.mk (faceN_at KS' (by assumption) (.head _) rfl ⟨_, rfl⟩)
  | real i =>
    obtain ⟨ti, rfl⟩ := H
    have I' : ThF G x (Str.ofString "real") _ e ac tk ta := I
    clear I
    k_steps
    exact Due.mk (faceN_at KS' (by assumption) (.head _) rfl ⟨_, rfl⟩)
  | bool b =>
    obtain rfl := H
    have I' : ThF G x (Str.ofString "boolean") _ e ac tk ta := I
    clear I
    k_steps
    exact Due.mk (faceN_at KS' (by assumption) (.head _) rfl rfl)
  | name o =>
    obtain ⟨ti, rfl⟩ := H
    have I' : ThF G x (Str.ofString "name") _ e ac tk ta := I
    clear I
    k_steps
    exact Due.mk (faceN_at KS' (by assumption) (.head _) rfl ⟨_, rfl⟩)
  | oper o =>
    obtain ⟨ti, rfl⟩ := H
    have I' : ThF G x (Str.ofString "operator") _ e ac tk ta := I
    clear I
    k_steps
    exact Due.mk (faceN_at KS' (by assumption) (.head _) rfl ⟨_, rfl⟩)
  | null =>
    obtain rfl := H
    have I' : ThF G x (Str.ofString "null") _ e ac tk ta := I
    clear I
    k_steps
    exact Due.mk (faceN_at KS' (by assumption) (.head _) rfl rfl)
  | mark =>
    obtain rfl := H
    have I' : ThF G x (Str.ofString "mark") _ e ac tk ta := I
    clear I
    k_steps
    exact Due.mk (faceN_at KS' (by assumption) (.head _) rfl rfl)
  | dict g0 =>
    obtain ⟨bd, rfl, tn, td, D⟩ := H
    have I' : ThF G x (Str.ofString "dict") _ e ac tk ta := I
    clear I
    k_steps
    exact Due.mk (faceN_at KS' (by assumption) (.head _) rfl ⟨_, rfl⟩)
  | save i =>
    obtain ⟨ti, rfl⟩ := H
    have I' : ThF G x (Str.ofString "save") _ e ac tk ta := I
    clear I
    k_steps
    exact Due.mk (faceN_at KS' (by assumption) (.head _) rfl ⟨_, rfl⟩)
  | str g0 st mn =>
    obtain ⟨sp, bd, ts, tm, rfl, I2, ba, tn, D, hb⟩ := H
    have I' : ThF G x (Str.ofString "string") _ e ac tk ta := I
    clear I
    k_steps
    exact Due.mk (faceN_tup KS' (by assumption) (.head _) (.tail _ (.head _)) rfl (.cons ⟨_, rfl⟩ (.cons ⟨_, rfl⟩ (.cons ⟨_, rfl⟩ .nil))))
  | arr pk g0 st mn =>
    obtain ⟨sp, bd, ts, tm, rfl, I2, l, tn, D, H3⟩ := H
    cases pk
    · have I' : ThF G x (Str.ofString "array") _ e ac tk ta := I
      clear I
      k_steps
      exact Due.mk (faceN_tup KS' (by assumption) (.head _) (.tail _ (.head _)) rfl (.cons ⟨_, rfl⟩ (.cons ⟨_, rfl⟩ (.cons ⟨_, rfl⟩ .nil))))
    · have I' : ThF G x (Str.ofString "packed") _ e ac tk ta := I
      clear I
      k_steps
      exact Due.mk (faceN_tup KS' (by assumption) (.head _) (.tail _ (.head _)) rfl (.cons ⟨_, rfl⟩ (.cons ⟨_, rfl⟩ (.cons ⟨_, rfl⟩ .nil))))
theorem face_at (w : World) (G : Heap) (x : Addr) (U : TK) (v : Value) (e : Bool) (ac : Int) (tk ta : Tok) (a0 : At) (I : ThF G x (kindS U) v e ac tk ta) (H : ValH G U v) (hw : wB U) (hv : valD U = .at a0) :
    RO 6 w 412 [.ref x] G (fun h h1 r => ∃ y t0 t1 n v1, r = .ref y ∧ h.get? y = none ∧ h1.get? y = some (W.listOf #[.str (kindS U) t0, v1, .bool e, .int ac t1] n) ∧ a0.R v1) (fun _ => False) :=
  (face_c w G x U v e ac tk ta I H hw).mono (fun _ _ _ h => by unfold FaceN at h; rw [hv] at h; exact h) fun _ h => h
theorem face_tup (w : World) (G : Heap) (x : Addr) (U : TK) (v : Value) (e : Bool) (ac : Int) (tk ta : Tok) (l0 : List At) (I : ThF G x (kindS U) v e ac tk ta) (H : ValH G U v) (hw : wB U) (hv : valD U = .tup l0) :
    RO 6 w 412 [.ref x] G (fun h h1 r => ∃ y t0 t1 n z, r = .ref y ∧ h.get? y = none ∧ h1.get? y = some (W.listOf #[.str (kindS U) t0, .ref z, .bool e, .int ac t1] n) ∧ h.get? z = none ∧ TupR h1 l0 (.ref z)) (fun _ => False) :=
  (face_c w G x U v e ac tk ta I H hw).mono (fun _ _ _ h => by
    unfold FaceN at h; rw [hv] at h
    obtain ⟨y, t0, t1, n, v1, e1, h1, h2, z, rfl, h3, h4⟩ := h
    exact ⟨y, t0, t1, n, z, e1, h1, h2, h3, h4⟩) fun _ h => h
theorem news_obj {g hh h : Heap} {L y : Addr} {o : Obj} {m : Str → Option Value} {news : Led} (F : Fr g L hh m) (N : News g L h news) (hy : hh.get? y = none) (ho : h.get? y = some o) : News g L h ((y, o) :: news) := fun p hp => by
  rcases List.mem_cons.mp hp with rfl | hp
  · exact ⟨ho, fr_ne F hy, fresh_of F.keep hy⟩
  · exact N p hp
section
variable {prog : Program} {w : World} {A : Around} {E : Value → Shared → Prop} {hh g : Heap} {L a b : Addr} {news : Led} {gs : Array GenState} {dr : Drawn} {tk n1 n2 : Nat} {os : OsState} {Q : Value → Shared → Prop} {xs ys : List Value} {l l' : List It}
theorem lstNe (N : News g L hh news) (h1 : (a, W.listOf (List.toArray xs) n1) ∈ news) (h2 : (b, W.listOf (List.toArray ys) n2) ∈ news) (r1 : ItsR hh l xs) (r2 : ItsR hh l' ys) (hu : A.units + 1 < cLine) {c : Bool} (hc : (!lEq l l') = c) (q : Q (.bool c) ⟨hh, gs, dr, tk, os⟩) :
    wpAny (model prog w) A (compareOp .NotEq (.ref a) (.ref b)) Q E ⟨hh, gs, dr, tk, os⟩ := by
  subst hc
  exact lst_ne (A := A) (s := ⟨hh, gs, dr, tk, os⟩) ⟨a, xs, rfl, ⟨_, N.get h1, rfl, n1, rfl⟩, r1⟩ ⟨b, ys, rfl, ⟨_, N.get h2, rfl, n2, rfl⟩, r2⟩ hu prog w E Q q
theorem lstEq (N : News g L hh news) (h1 : (a, W.listOf (List.toArray xs) n1) ∈ news) (h2 : (b, W.listOf (List.toArray ys) n2) ∈ news) (r1 : ItsR hh l xs) (r2 : ItsR hh l' ys) (hu : A.units + 1 < cLine) {c : Bool} (hc : lEq l l' = c) (q : Q (.bool c) ⟨hh, gs, dr, tk, os⟩) :
    wpAny (model prog w) A (compareOp .Eq (.ref a) (.ref b)) Q E ⟨hh, gs, dr, tk, os⟩ := by
  subst hc
  exact lst_rc (A := A) (s := ⟨hh, gs, dr, tk, os⟩) ⟨a, xs, rfl, ⟨_, N.get h1, rfl, n1, rfl⟩, r1⟩ ⟨b, ys, rfl, ⟨_, N.get h2, rfl, n2, rfl⟩, r2⟩ hu prog w E Q q
theorem tupNe {l l' : List At} (N : News g L hh news) (h1 : (a, { cls := .type "tuple", data := .seq (List.toArray xs) n1 }) ∈ news) (h2 : (b, { cls := .type "tuple", data := .seq (List.toArray ys) n2 }) ∈ news) (r1 : AllR l xs) (r2 : AllR l' ys) (hu : A.units < cLine) {c : Bool} (hc : (!tEq l l') = c) (q : Q (.bool c) ⟨hh, gs, dr, tk, os⟩) :
    wpAny (model prog w) A (compareOp .NotEq (.ref a) (.ref b)) Q E ⟨hh, gs, dr, tk, os⟩ := by
  subst hc
  exact tup_ne (A := A) (s := ⟨hh, gs, dr, tk, os⟩) (tup_news N h1 r1) (tup_news N h2 r2) hu prog w E Q q
end
end Mine
end
section
namespace Mine
open PySem.Spec PySem.Calls
theorem lnOne0 (w : World) : (hd.heap_39 w.params).In = (hd.heap_39 w.params).In ∧ PySem.Challenge.rw_on0261_01 = PySem.Challenge.rw_on0261_01 := by
  k_fill
  exact ⟨rfl, rfl⟩
local macro_rules | `(tactic| k_inst) => `(tactic| (refine' instB ?ia ?ib ?ic ?id; (case ia => with_reducible assumption); (case ib => with_reducible assumption); (case ic => with_reducible assumption); (case id => with_reducible assumption)))
theorem lnOne1 (w : World) : (hd.heap_39 w.params).In = (hd.heap_39 w.params).In ∧ PySem.Challenge.rw_on0261_01 = PySem.Challenge.rw_on0261_01 := by
  k_with "C:exec Assign" => k_extra "r33"
  k_with "C:compareOp In bytes ref" => k_extra "r10"
  k_with "C:compareOp Eq ref ref" => k_extra "r11"
  k_with "C:subscriptTail" => k_extra "r12"
  k_with "C:subscriptTail" => k_extra "r13"
  k_with "C:subscriptTail" => k_extra "r14"
  k_with "C:subscriptTail" => k_extra "r15"
  k_with "C:call ref" => k_extra "r7"
  k_with "C:call ref" => (k_here; (with_reducible show W _ _ _ (call (Value.ref 253) _) _); k_dflt (refine' W.ro_v (can_write_c _ _ _ _ _ _ _ _ _ ?I_q ?H_q) ?KO_q ?FR_q ?ST_q ?_ ?exc_q ?HK_q; (case KO_q => with_reducible assumption); (case HK_q => decide); (case FR_q => with_reducible assumption); (case I_q => with_reducible assumption); (case H_q => with_reducible assumption); (case ST_q => first | exact stay_of (by with_reducible assumption) (by with_reducible assumption) | exact fun _ _ h => h | exact noH_in _); (case exc_q => exact fun _ _ _ _ h => h.elim); k_whole; intro h9 tk9 F9 S9; (try (have N9 := stay_news (by with_reducible assumption) S9)); (try k_sweep)))
  k_with "C:call ref" => (k_here; (with_reducible show W _ _ _ (call (Value.ref 260) _) _); k_dflt (refine' W.ro_v (can_run_c _ _ _ _ _ _ _ _ _ ?I_q ?H_q) ?KO_q ?FR_q ?ST_q ?_ ?exc_q ?HK_q; (case KO_q => with_reducible assumption); (case HK_q => decide); (case FR_q => with_reducible assumption); (case I_q => with_reducible assumption); (case H_q => with_reducible assumption); (case ST_q => first | exact stay_of (by with_reducible assumption) (by with_reducible assumption) | exact fun _ _ h => h | exact noH_in _); (case exc_q => exact fun _ _ _ _ h => h.elim); k_whole; intro h9 tk9 F9 S9; (try (have N9 := stay_news (by with_reducible assumption) S9)); (try k_sweep)))
  k_with "C:call ref" => k_extra "r1"
  k_with "C:call ref" => (k_here; (with_reducible show W _ _ _ (call (Value.ref 225) _) _); k_dflt (refine' W.ro_v (is_composite_c _ _ _ _ _ _ _ _ _ ?I_q ?H_q) ?KO_q ?FR_q ?ST_q ?_ ?exc_q ?HK_q; (case KO_q => with_reducible assumption); (case HK_q => decide); (case FR_q => with_reducible assumption); (case I_q => with_reducible assumption); (case H_q => with_reducible assumption); (case ST_q => first | exact stay_of (by with_reducible assumption) (by with_reducible assumption) | exact fun _ _ h => h | exact noH_in _); (case exc_q => exact fun _ _ _ _ h => h.elim); k_whole; intro h9 tk9 F9 S9; (try (have N9 := stay_news (by with_reducible assumption) S9)); (try k_sweep)))
  k_with "C:call ref" => (k_here; (with_reducible show W _ _ _ (call (Value.ref 232) _) _); k_dflt (refine' W.ro_v (is_local_c _ _ _ _ _ _ _ _ _ ?I_q ?H_q) ?KO_q ?FR_q ?ST_q ?_ ?exc_q ?HK_q; (case KO_q => with_reducible assumption); (case HK_q => decide); (case FR_q => with_reducible assumption); (case I_q => with_reducible assumption); (case H_q => with_reducible assumption); (case ST_q => first | exact stay_of (by with_reducible assumption) (by with_reducible assumption) | exact fun _ _ h => h | exact noH_in _); (case exc_q => exact fun _ _ _ _ h => h.elim); k_whole; intro h9 tk9 F9 S9; (try (have N9 := stay_news (by with_reducible assumption) S9)); (try k_sweep)))
  k_with "C:call ref" => (k_here; (with_reducible show W _ _ _ (call (Value.ref 190) _) _); k_dflt (refine' W.ro_t (type_name_c _ _ _ _ _ _ _ _ _ ?I_q) ?KO_q ?FR_q ?ST_q ?_ ?exc_q ?HK_q; (case KO_q => with_reducible assumption); (case HK_q => decide); (case FR_q => with_reducible assumption); (case I_q => with_reducible assumption); (case ST_q => first | exact stay_of (by with_reducible assumption) (by with_reducible assumption) | exact fun _ _ h => h | exact noH_in _); (case exc_q => exact fun _ _ _ _ h => h.elim); k_whole; intro t9 h9 tk9 F9 S9; (try (have N9 := stay_news (by with_reducible assumption) S9)); (try k_sweep)))
  exact ⟨rfl, rfl⟩
local macro_rules | `(tactic| k_upd) => `(tactic| first | exact Deck2.here | (refine' Deck2.there ?a ?b ?c; (case a => k_ne); (case b => k_ne); (case c => k_upd)))
theorem lnOne2 (w : World) : (hd.heap_39 w.params).In = (hd.heap_39 w.params).In ∧ PySem.Challenge.rw_on0261_01 = PySem.Challenge.rw_on0261_01 := by
  k_with "C:call ref" => k_extra "r32"
  k_with "C:call ref" => k_extra "r16"
  k_with "C:call ref" => k_extra "r17"
  k_with "C:call ref" => k_extra "r18"
  k_with "C:call ref" => (k_here; (with_reducible show W _ _ _ (call (Value.ref 412) _) _); k_dflt (refine' W.ro_e4 (face_at _ _ _ _ _ _ _ _ _ _ ?I_q ?H_q ?hw_q ?hv_q) ?KO_q ?FR_q ?ST_q ?_ ?exc_q ?HK_q; (case KO_q => with_reducible assumption); (case HK_q => decide); (case FR_q => with_reducible assumption); (case I_q => with_reducible assumption); (case H_q => with_reducible assumption); (case hw_q => with_reducible assumption); (case hv_q => with_reducible assumption); (case ST_q => first | exact stay_of (by with_reducible assumption) (by with_reducible assumption) | exact fun _ _ h => h | exact noH_in _); (case exc_q => exact fun _ _ _ _ h => h.elim); k_whole; intro y9 t8 t9 n9 v9 h9 tk9 F9 S9 P9; (try (have N9 := stay_news (by with_reducible assumption) S9)); rcases P9 with ⟨f9, g9, q9⟩; replace N9 := news_obj (by with_reducible assumption) N9 f9 g9; clear g9; (try k_sweep)))
  k_with "C:call ref" => (k_here; (with_reducible show W _ _ _ (call (Value.ref 412) _) _); k_dflt (refine' W.ro_e4 (face_tup _ _ _ _ _ _ _ _ _ _ ?I_q ?H_q ?hw_q ?hv_q) ?KO_q ?FR_q ?ST_q ?_ ?exc_q ?HK_q; (case KO_q => with_reducible assumption); (case HK_q => decide); (case FR_q => with_reducible assumption); (case I_q => with_reducible assumption); (case H_q => with_reducible assumption); (case hw_q => with_reducible assumption); (case hv_q => with_reducible assumption); (case ST_q => first | exact stay_of (by with_reducible assumption) (by with_reducible assumption) | exact fun _ _ h => h | exact noH_in _); (case exc_q => exact fun _ _ _ _ h => h.elim); k_whole; intro y9 t8 t9 n9 z9 h9 tk9 F9 S9 P9; (try (have N9 := stay_news (by with_reducible assumption) S9)); rcases P9 with ⟨f9, g9, z8, q8⟩; replace N9 := news_obj (by with_reducible assumption) N9 f9 g9; clear g9; refine news_tup_k (by assumption) N9 z8 q8 ?_; clear N9; intro o9 k9 xs9 N9 c9 d9 q9; clear q8; (try k_sweep)))
  k_with "C:call ref" => (k_here; (with_reducible show W _ _ _ (call (Value.ref 419) _) _); k_dflt (refine' W.rt_tup (told0_ok _ _ _ _ _ _ _ _ _ _ ?I_q ?H_q ?hw_q ?hb_q) ?KO_q ?KB_q ?FR_q ?NN_q ?ST_q ?OF_q ?HK_q ?HF_q ?_; (case KO_q => with_reducible assumption); (case KB_q => with_reducible assumption); (case FR_q => with_reducible assumption); (case NN_q => with_reducible assumption); (case I_q => with_reducible assumption); (case H_q => with_reducible assumption); (case hw_q => with_reducible assumption); (case hb_q => with_reducible assumption); (case ST_q => with_reducible assumption); (case OF_q => with_reducible assumption); (case HK_q => decide); (case HF_q => rfl); k_whole; intro y9 o9 k9 xs9 h9 tk9 g9 T9 F9 K9 N9 S9 c9 d9 q9; (have X9 := Ok.X K9); (have p9 := Ok.T K9); (have TT9 := KtsTurn.trans (by with_reducible assumption) T9); (try k_sweep)))
  k_with "C:call ref" => (k_here; (with_reducible show W _ _ _ (call (Value.ref 419) _) _); k_dflt (refine' W.rt_t (told0_bad _ _ _ _ _ _ _ _ _ _ _ ?I_q ?H_q ?hw_q ?hb_q) ?KO_q ?KB_q ?FR_q ?NN_q ?ST_q ?OF_q ?HK_q ?HF_q ?_; (case KO_q => with_reducible assumption); (case KB_q => with_reducible assumption); (case FR_q => with_reducible assumption); (case NN_q => with_reducible assumption); (case I_q => with_reducible assumption); (case H_q => with_reducible assumption); (case hw_q => with_reducible assumption); (case hb_q => with_reducible assumption); (case ST_q => with_reducible assumption); (case OF_q => with_reducible assumption); (case HK_q => decide); (case HF_q => rfl); k_whole; intro t9 h9 tk9 g9 T9 F9 K9 N9 S9; (have X9 := Ok.X K9); (have p9 := Ok.T K9); (have TT9 := KtsTurn.trans (by with_reducible assumption) T9); (try k_sweep)))
  k_with "C:call ref" => (k_here; (with_reducible show W _ _ _ (call (Value.ref 419) _) _); k_dflt (refine' W.rt_v (told1_n _ _ _ _ _ _ _ _ _ _ ?I_q ?H_q ?hw_q ?hs_q) ?KO_q ?KB_q ?FR_q ?NN_q ?ST_q ?OF_q ?HK_q ?HF_q ?_; (case KO_q => with_reducible assumption); (case KB_q => with_reducible assumption); (case FR_q => with_reducible assumption); (case NN_q => with_reducible assumption); (case I_q => with_reducible assumption); (case H_q => with_reducible assumption); (case hw_q => with_reducible assumption); (case hs_q => with_reducible assumption); (case ST_q => with_reducible assumption); (case OF_q => with_reducible assumption); (case HK_q => decide); (case HF_q => rfl); k_whole; intro h9 tk9 g9 T9 F9 K9 N9 S9; (have X9 := Ok.X K9); (have p9 := Ok.T K9); (have TT9 := KtsTurn.trans (by with_reducible assumption) T9); (try k_sweep)))
  k_with "C:call ref" => (k_here; (with_reducible show W _ _ _ (call (Value.ref 419) _) _); k_dflt (refine' W.rt_e3 (told1_ok _ _ _ _ _ _ _ _ _ _ ?I_q ?H_q ?hw_q ?hs_q ?ha_q) ?KO_q ?KB_q ?FR_q ?NN_q ?ST_q ?OF_q ?HK_q ?HF_q ?_; (case KO_q => with_reducible assumption); (case KB_q => with_reducible assumption); (case FR_q => with_reducible assumption); (case NN_q => with_reducible assumption); (case I_q => with_reducible assumption); (case H_q => with_reducible assumption); (case hw_q => with_reducible assumption); (case hs_q => with_reducible assumption); (case ha_q => with_reducible assumption); (case ST_q => with_reducible assumption); (case OF_q => with_reducible assumption); (case HK_q => decide); (case HF_q => rfl); k_whole; intro y9 t9 tk8 ta9 h9 tk9 g9 T9 F9 K9 N9 S9 P9; (have X9 := Ok.X K9); (have p9 := Ok.T K9); (have TT9 := KtsTurn.trans (by with_reducible assumption) T9); refine news_fldT_k (by with_reducible assumption) T9 F9 N9 P9 ?_; clear N9; intro d9 es9 n9 N9 q9; clear P9; (try k_sweep)))
  k_with "C:call ref" => (k_here; (with_reducible show W _ _ _ (call (Value.ref 419) _) _); k_dflt (refine' W.rt_t (told1_bad _ _ _ _ _ _ _ _ _ _ ?I_q ?H_q ?hw_q ?hs_q ?ha_q) ?KO_q ?KB_q ?FR_q ?NN_q ?ST_q ?OF_q ?HK_q ?HF_q ?_; (case KO_q => with_reducible assumption); (case KB_q => with_reducible assumption); (case FR_q => with_reducible assumption); (case NN_q => with_reducible assumption); (case I_q => with_reducible assumption); (case H_q => with_reducible assumption); (case hw_q => with_reducible assumption); (case hs_q => with_reducible assumption); (case ha_q => with_reducible assumption); (case ST_q => with_reducible assumption); (case OF_q => with_reducible assumption); (case HK_q => decide); (case HF_q => rfl); k_whole; intro t9 h9 tk9 g9 T9 F9 K9 N9 S9; (have X9 := Ok.X K9); (have p9 := Ok.T K9); (have TT9 := KtsTurn.trans (by with_reducible assumption) T9); (try k_sweep)))
  k_with "C:call ref" => (k_here; (with_reducible show W _ _ _ (call (Value.ref 419) _) _); k_dflt (refine' W.rt_e2 (told4_ok _ _ _ _ _ _ _ _ _ _ _ _ ?I_q ?H_q ?hs_q ?ha_q) ?KO_q ?KB_q ?FR_q ?NN_q ?ST_q ?OF_q ?HK_q ?HF_q ?_; (case KO_q => with_reducible assumption); (case KB_q => with_reducible assumption); (case FR_q => with_reducible assumption); (case NN_q => with_reducible assumption); (case I_q => with_reducible assumption); (case H_q => with_reducible assumption); (case hs_q => with_reducible assumption); (case ha_q => with_reducible assumption); (case ST_q => with_reducible assumption); (case OF_q => with_reducible assumption); (case HK_q => decide); (case HF_q => rfl); k_whole; intro y9 tk8 ta9 h9 tk9 g9 T9 F9 K9 N9 S9 P9; (have X9 := Ok.X K9); (have p9 := Ok.T K9); (have TT9 := KtsTurn.trans (by with_reducible assumption) T9); refine news_fldT_k (by with_reducible assumption) T9 F9 N9 P9 ?_; clear N9; intro d9 es9 n9 N9 q9; clear P9; (try k_sweep)))
  k_with "C:call ref" => (k_here; (with_reducible show W _ _ _ (call (Value.ref 419) _) _); k_dflt (refine' W.rt_t (told4_ia _ _ _ _ _ _ _ _ _ _ _ _ ?I_q ?H_q ?hs_q ?ha_q) ?KO_q ?KB_q ?FR_q ?NN_q ?ST_q ?OF_q ?HK_q ?HF_q ?_; (case KO_q => with_reducible assumption); (case KB_q => with_reducible assumption); (case FR_q => with_reducible assumption); (case NN_q => with_reducible assumption); (case I_q => with_reducible assumption); (case H_q => with_reducible assumption); (case hs_q => with_reducible assumption); (case ha_q => with_reducible assumption); (case ST_q => with_reducible assumption); (case OF_q => with_reducible assumption); (case HK_q => decide); (case HF_q => rfl); k_whole; intro t9 h9 tk9 g9 T9 F9 K9 N9 S9; (have X9 := Ok.X K9); (have p9 := Ok.T K9); (have TT9 := KtsTurn.trans (by with_reducible assumption) T9); (try k_sweep)))
  k_with "C:call ref" => (k_here; (with_reducible show W _ _ _ (call (Value.ref 419) _) _); k_dflt (refine' W.rt_t (told4_tc _ _ _ _ _ _ _ _ _ _ _ _ ?I_q ?H_q ?hs_q) ?KO_q ?KB_q ?FR_q ?NN_q ?ST_q ?OF_q ?HK_q ?HF_q ?_; (case KO_q => with_reducible assumption); (case KB_q => with_reducible assumption); (case FR_q => with_reducible assumption); (case NN_q => with_reducible assumption); (case I_q => with_reducible assumption); (case H_q => with_reducible assumption); (case hs_q => with_reducible assumption); (case ST_q => with_reducible assumption); (case OF_q => with_reducible assumption); (case HK_q => decide); (case HF_q => rfl); k_whole; intro t9 h9 tk9 g9 T9 F9 K9 N9 S9; (have X9 := Ok.X K9); (have p9 := Ok.T K9); (have TT9 := KtsTurn.trans (by with_reducible assumption) T9); (try k_sweep)))
  k_with "C:AtR" => k_extra "r31"
  k_with "r34" => (k_here; k_dflt (refine' isi_no ?N_q ?m_q ?c_q ?_; (case N_q => with_reducible assumption); (case m_q => k_mem); (case c_q => with_reducible assumption); k_whole))
  k_with "C:call builtin:isinstance" => k_extra "r34"
  k_with "r35" => with_reducible refine Stop.out (P := W _ _ _ _ _) ?_
  k_with "C:compareOp NotEq ref ref" => k_extra "r35"
  k_with "C:subscriptTail" => (k_here; (with_reducible show wpAny _ _ (subscriptTail _ _ (Value.ref _) (Value.int 1 _)) _ _ _); k_dflt (refine' tup1_bytes ?T_q ?k_q ?_; (case T_q => exact tup_of (by with_reducible assumption) (by k_mem) (by assumption) (by assumption) (by assumption)); (case k_q => rfl); k_whole; intro t9))
  exact ⟨rfl, rfl⟩
theorem itAt {a : At} {h : Heap} {v : Value} (r : a.R v) : It.R h (.at a) v := r
theorem getN {prog : Program} {w : World} {A : Around} {hh g : Heap} {L : Addr} {m : Str → Option Value} {gs : Array GenState} {dr : Drawn} {tk : Nat} {os : OsState} {E : Value → Shared → Prop} {K : Frag} {x C d : Addr} {es : List DictEntry} {n : Nat} {fs : List (Str × Value)} {name : Str} {v : Value} {expr : Bool} {news : Led} {Q : Value → Shared → Prop}
    (F : Fr g L hh m) (X : K.In g) (N : News g L hh news) (h1 : (x, instObj C d) ∈ news) (h2 : (d, dictOf es n) ∈ news) (q : ∀ p ∈ fs, getL p.1 es = some (some p.2) ∧ handedIn p.2 = true) (hc : ClsOk K C name) (hv : fs.lookup name = some v) (h : Q v ⟨hh, gs, dr, tk + 1, os⟩) :
    wpAny (model prog w) A (getAttr (.ref x) name expr) Q E ⟨hh, gs, dr, tk, os⟩ := getH (X.keeps F.keep) ⟨_, d, es, n, N.get h1, N.get h2, q⟩ hc hv h
theorem W.getN {i : FI} {w : World} {C : Cx i w} {g h : Heap} {tk k : Nat} {m : Str → Option Value} {x Cl d : Addr} {es : List DictEntry} {n : Nat} {fs : List (Str × Value)} {name : Str} {v : Value} {e : Bool} {news : Led} {Q : Value → Heap → Nat → Prop} (K : Ok C g k) (F : Fr g C.L h m) (N : News g C.L h news)
    (h1 : (x, instObj Cl d) ∈ news) (h2 : (d, dictOf es n) ∈ news) (q : ∀ p ∈ fs, getL p.1 es = some (some p.2) ∧ handedIn p.2 = true) (hc : ∀ P, ClsOk (hd.heap_39 P) Cl name) (hv : fs.lookup name = some v) (y : Q v h (tk + 1)) : W C h tk (getAttr (.ref x) name e) Q :=
  Mine.getN F K.X N h1 h2 q (hc _) hv (Lf.go y)
theorem lnOne3 (w : World) : (hd.heap_39 w.params).In = (hd.heap_39 w.params).In ∧ PySem.Challenge.rw_on0261_01 = PySem.Challenge.rw_on0261_01 := by
  k_with "C:getAttr ref" => k_dflt (refine' W.getN ?KO_q ?FR_q ?NN_q ?A1_q ?A2_q ?Q1_q ?C1_q ?V1_q ?_; (case KO_q => with_reducible assumption); (case FR_q => with_reducible assumption); (case NN_q => with_reducible assumption); (case A1_q => k_mem); (case A2_q => k_mem); (case Q1_q => with_reducible assumption); (case C1_q => (intro P9; exact cls_ok _ (_, _) (by repeat (first | exact List.Mem.head _ | apply List.Mem.tail)))); (case V1_q => rfl); k_whole)
  exact ⟨rfl, rfl⟩
noncomputable abbrev mpA (dk x : Addr) (made what told : Value) : Str → Option Value := fun y => if y = Str.ofString "made" then some made else if y = Str.ofString "what" then some what else if y = Str.ofString "told" then some told else List.lookup y [(Str.ofString "deck", .ref dk), (Str.ofString "thing", .ref x)].reverse
noncomputable abbrev mpC (dk x : Addr) (near body shares made what told : Value) : Str → Option Value := fun y => if y = Str.ofString "near" then some near else if y = Str.ofString "body" then some body else if y = Str.ofString "shares" then some shares else mpA dk x made what told y
structure OneSt {i : FI} {w : World} (C : Cx i w) (g : Heap) (G : Heap) (dk l : Addr) (m : Str → Option Value) (h : Heap) (g' : Heap) (od ol : Obj) : Prop where
  T : KtsTurn (frsOf C.outer) g g'
  F : Fr g' C.L h m
  K : Ok C g' 29
  S : G.StaysIn g'
  N : News g' C.L h [(dk, od), (l, ol)]
  D : DkOk w dk l od ol
inductive OneA {i : FI} {w : World} (C : Cx i w) (g G : Heap) (dk l x : Addr) (h : Heap) (tk : Nat) : Prop
  | mk (made what told : Value) (g' : Heap) (od ol : Obj) (st : OneSt C g G dk l (mpA dk x made what told) h g' od ol)
inductive OneC {i : FI} {w : World} (C : Cx i w) (g G : Heap) (dk l x : Addr) (h : Heap) (tk : Nat) : Prop
  | mk (near body shares made what told : Value) (g' : Heap) (od ol : Obj) (st : OneSt C g G dk l (mpC dk x near body shares made what told) h g' od ol)
theorem acc_eq {U : TK} {ac : Int} (h : isDict U = true → ac = 3) : accU U ac = ac := by
  unfold accU
  split
  · exact (h (by assumption)).symm
  · rfl
section
variable {prog : Program} {w : World} {A : Around} {E : Value → Shared → Prop} {hh g : Heap} {L T D : Addr} {news : Led} {gs : Array GenState} {dr : Drawn} {tk n : Nat} {os : OsState} {Q : Value → Shared → Prop}
open PySem.SeqAt
theorem in_strs {ks : List Str} {ts : List Value} (hr : AllR (ks.map At.str) ts) {k : Str} {t : Tok} (N : News g L hh news) (hm : (T, { cls := .type "tuple", data := .seq (List.toArray ts) n }) ∈ news) {c : Bool} (hc : ks.any (fun q => q == k) = c) (q : Q (.bool c) ⟨hh, gs, dr, tk, os⟩) :
    wpAny (model prog w) A (compareOp .In (.str k t) (.ref T)) Q E ⟨hh, gs, dr, tk, os⟩ := by
  have key : ∀ (ks : List Str) (ts : List Value), AllR (ks.map At.str) ts → ts.any (fun y => match y with | .str q _ => q == k | _ => false) = ks.any (fun q => q == k) := by
    intro ks
    induction ks with
    | nil => intro ts h; cases h; rfl
    | cons a r ih => intro ts h; cases h with | cons h1 h2 => obtain ⟨u, rfl⟩ := h1; rw [List.any_cons, List.any_cons, ih _ h2]
  have all : ∀ (ks : List Str) (ts : List Value), AllR (ks.map At.str) ts → ∀ y ∈ ts, ∃ q u, y = .str q u := by
    intro ks
    induction ks with
    | nil => intro ts h y hy; cases h; cases hy
    | cons a r ih => intro ts h y hy; cases h with | cons h1 h2 => 
        obtain ⟨u, rfl⟩ := h1
        rcases List.mem_cons.mp hy with rfl | hy
        · exact ⟨_, _, rfl⟩
        · exact ih _ h2 y hy
  refine in_tupleAt (s := ⟨hh, gs, dr, tk, os⟩) (fun y => match y with | .str q _ => q == k | _ => false) (items := List.toArray ts) ⟨_, N.get hm, rfl, n, rfl⟩ (fun y hy => ?_) ?_
  · obtain ⟨q, u, rfl⟩ := all ks ts hr y (by simpa using hy)
    exact EqAt.str_str _ _ _ _
  · rw [← hc, ← key ks ts hr] at q
    simpa using q
theorem ne_b_same {b : Array UInt8} {t u : Tok} (q : Q (.bool false) ⟨hh, gs, dr, tk, os⟩) : wpAny (model prog w) A (compareOp .NotEq (.bytes b t) (.bytes b u)) Q E ⟨hh, gs, dr, tk, os⟩ :=
  PySem.W.ne_bytes (by rw [bne_self_eq_false]; exact q)
theorem types_ln {o : Obj} {k : KD} {kd : Str} {t : Tok} {value slice : PySem.Expr} (hk : kd = k.s) (N : News g L hh news) (hm : (D, o) ∈ news) (hT : TypesOk w o) (q : ∀ t2 tk2, Q (.bytes k.ty t2) ⟨hh, gs, dr, tk2, os⟩)
    (hs : subscripted slice false (.ref D) (.str kd t) = operate [.ref D, .str kd t] (getItem (.ref D) (.str kd t)) := by with_unfolding_all rfl) (hg : ∀ r, letTemporaryGo value (.ref D) r = pure () := by intro _; with_unfolding_all rfl) :
    wpAny (model PySem.Challenge.rw_on0261_01.row.prog w) A (subscriptTail value slice (.ref D) (.str kd t)) Q E ⟨hh, gs, dr, tk, os⟩ := by
  subst hk
  obtain ⟨kvs, hd, hv⟩ := hT
  obtain ⟨t2, e⟩ := hv k
  exact kda_item (s := ⟨hh, gs, dr, tk, os⟩) N hm hd (strKind_is _ _ _ _) e (q _ _) hs hg
end
theorem lnOne4 (w : World) : (hd.heap_39 w.params).In = (hd.heap_39 w.params).In ∧ PySem.Challenge.rw_on0261_01 = PySem.Challenge.rw_on0261_01 := by
  k_with "C:compareOp In str ref" => (k_here; k_dflt (first
      | (refine' in_strs (ks := [Str.ofString "string", Str.ofString "array", Str.ofString "packed", Str.ofString "dict"]) (ts := [_, _, _, _]) ?r_q ?N_q ?m_q ?c_q ?_; (case N_q => with_reducible assumption); (case m_q => k_mem); (case r_q => exact .cons ⟨_, rfl⟩ (.cons ⟨_, rfl⟩ (.cons ⟨_, rfl⟩ (.cons ⟨_, rfl⟩ .nil)))); (case c_q => with_reducible assumption); k_whole)
      | (refine' in_strs (ks := [Str.ofString "string", Str.ofString "array", Str.ofString "packed"]) (ts := [_, _, _]) ?r_q ?N_q ?m_q ?c_q ?_; (case N_q => with_reducible assumption); (case m_q => k_mem); (case r_q => exact .cons ⟨_, rfl⟩ (.cons ⟨_, rfl⟩ (.cons ⟨_, rfl⟩ .nil))); (case c_q => with_reducible assumption); k_whole)))
  k_with "C:compareOp NotEq bytes bytes" => (k_here; k_dflt (refine' ne_b_same ?_; k_whole))
  k_with "C:subscriptTail" => (k_here; (with_reducible show wpAny _ _ (subscriptTail _ _ (Value.ref _) (Value.str _ _)) _ _ _); k_dflt (refine' types_ln ?hk_q ?N_q ?m_q ?T_q ?_; (case hk_q => with_reducible assumption); (case T_q => with_reducible assumption); (case N_q => with_reducible assumption); (case m_q => k_mem); k_whole; intro t9 tk9))
  exact ⟨rfl, rfl⟩
theorem type_name2 (w : World) (G : Heap) (x : Addr) (k : KD) (kd : Str) (v : Value) (e : Bool) (ac : Int) (tk ta : Tok) (I : ThF G x kd v e ac tk ta) (hk : kd = k.s) : RO 6 w 190 [.ref x] G (fun _ _ r => ∃ t, r = .bytes k.ty t) (fun _ => False) := by
  subst hk; exact type_name_c w G x k v e ac tk ta I
theorem lnOne5 (w : World) : (hd.heap_39 w.params).In = (hd.heap_39 w.params).In ∧ PySem.Challenge.rw_on0261_01 = PySem.Challenge.rw_on0261_01 := by
  k_with "C:call ref" => (k_here; (with_reducible show W _ _ _ (call (Value.ref 190) _) _); k_dflt (refine' W.ro_t (type_name2 _ _ _ _ _ _ _ _ _ _ ?I_q ?hk_q) ?KO_q ?FR_q ?ST_q ?_ ?exc_q ?HK_q; (case KO_q => with_reducible assumption); (case HK_q => decide); (case FR_q => with_reducible assumption); (case I_q => with_reducible assumption); (case hk_q => with_reducible assumption); (case ST_q => first | exact stay_of (by with_reducible assumption) (by with_reducible assumption) | exact fun _ _ h => h | exact noH_in _); (case exc_q => exact fun _ _ _ _ h => h.elim); k_whole; intro t9 h9 tk9 F9 S9; (try (have N9 := stay_news (by with_reducible assumption) S9)); (try k_sweep)))
  exact ⟨rfl, rfl⟩
theorem is_composite2 (w : World) (G : Heap) (x : Addr) (U : TK) (v : Value) (e : Bool) (ac : Int) (tk ta : Tok) (c : Bool) (I : ThF G x (kindS U) v e ac tk ta) (H : ValH G U v) (hsh : shares U = c) : RO 9 w 225 [.ref x] G (fun _ _ r => r = .bool c) (fun _ => False) := by
  subst hsh; exact is_composite_c w G x U v e ac tk ta I H
theorem is_local2 (w : World) (G : Heap) (x : Addr) (U : TK) (v : Value) (e : Bool) (ac : Int) (tk ta : Tok) (c : Bool) (I : ThF G x (kindS U) v e ac tk ta) (H : ValH G U v) (hlo : localU U = c) : RO 9 w 232 [.ref x] G (fun _ _ r => r = .bool c) (fun _ => False) := by
  subst hlo; exact is_local_c w G x U v e ac tk ta I H
theorem body_n (w : World) (G : Heap) (x : Addr) (U : TK) (v : Value) (e : Bool) (ac : Int) (tk ta : Tok) (I : ThF G x (kindS U) v e ac tk ta) (H : ValH G U v) (hn : shares U = false) : RO 6 w 218 [.ref x] G (fun _ _ r => r = .none) (fun _ => False) :=
  (body_of_c w G x U v e ac tk ta I H).mono (fun _ _ _ h => by
    rcases BodyR.or h with ⟨_, _, h2⟩ | ⟨h1, _⟩
    · rw [hn] at h2; cases h2
    · exact h1) fun _ h => h
theorem body_d (w : World) (G : Heap) (x : Addr) (g0 : Bool) (bd : Addr) (e : Bool) (ac : Int) (tk ta : Tok) (I : ThF G x (kindS (.dict g0)) (.ref bd) e ac tk ta) (H : ValH G (.dict g0) (.ref bd)) : RO 6 w 218 [.ref x] G (fun _ _ r => r = .ref bd) (fun _ => False) :=
  (body_of_c w G x (.dict g0) (.ref bd) e ac tk ta I H).mono (fun _ _ _ h => by
    obtain ⟨b2, h1, h2, _⟩ := h
    cases h2; exact h1) fun _ h => h
theorem sp_same {G : Heap} {sp bd bd' : Addr} {st mn st' mn' : Int} {ts tm ts' tm' : Tok} (I : SpF G sp bd st mn ts tm) (J : SpF G sp bd' st' mn' ts' tm') : bd' = bd := by
  have := Fld.inj I J (.head _) (.head _)
  cases this; rfl
theorem body_s (w : World) (G : Heap) (x : Addr) (U : TK) (sp bd : Addr) (st mn : Int) (ts tm : Tok) (e : Bool) (ac : Int) (tk ta : Tok) (I : ThF G x (kindS U) (.ref sp) e ac tk ta) (H : ValH G U (.ref sp)) (J : SpF G sp bd st mn ts tm) (hs : (shares U && !isDict U) = true) : RO 6 w 218 [.ref x] G (fun _ _ r => r = .ref bd) (fun _ => False) :=
  (body_of_c w G x U (.ref sp) e ac tk ta I H).mono (fun _ _ r h => by
    cases U with
    | str g st mn =>
      obtain ⟨sp', bd', ts', tm', h0, h1, h2, _⟩ := h
      cases h0
      rw [h1, sp_same J h2]
    | arr pk g st mn =>
      obtain ⟨sp', bd', ts', tm', h0, h1, h2, _⟩ := h
      cases h0
      rw [h1, sp_same J h2]
    | _ => cases hs) fun _ h => h
theorem lnOne6 (w : World) : (hd.heap_39 w.params).In = (hd.heap_39 w.params).In ∧ PySem.Challenge.rw_on0261_01 = PySem.Challenge.rw_on0261_01 := by
  k_with "C:call ref" => (k_here; (with_reducible show W _ _ _ (call (Value.ref 225) _) _); k_dflt (refine' W.ro_v (is_composite2 _ _ _ _ _ _ _ _ _ _ ?I_q ?H_q ?hsh_q) ?KO_q ?FR_q ?ST_q ?_ ?exc_q ?HK_q; (case KO_q => with_reducible assumption); (case HK_q => decide); (case FR_q => with_reducible assumption); (case I_q => with_reducible assumption); (case H_q => with_reducible assumption); (case hsh_q => with_reducible assumption); (case ST_q => first | exact stay_of (by with_reducible assumption) (by with_reducible assumption) | exact fun _ _ h => h | exact noH_in _); (case exc_q => exact fun _ _ _ _ h => h.elim); k_whole; intro h9 tk9 F9 S9; (try (have N9 := stay_news (by with_reducible assumption) S9)); (try k_sweep)))
  k_with "C:call ref" => (k_here; (with_reducible show W _ _ _ (call (Value.ref 232) _) _); k_dflt (refine' W.ro_v (is_local2 _ _ _ _ _ _ _ _ _ _ ?I_q ?H_q ?hlo_q) ?KO_q ?FR_q ?ST_q ?_ ?exc_q ?HK_q; (case KO_q => with_reducible assumption); (case HK_q => decide); (case FR_q => with_reducible assumption); (case I_q => with_reducible assumption); (case H_q => with_reducible assumption); (case hlo_q => with_reducible assumption); (case ST_q => first | exact stay_of (by with_reducible assumption) (by with_reducible assumption) | exact fun _ _ h => h | exact noH_in _); (case exc_q => exact fun _ _ _ _ h => h.elim); k_whole; intro h9 tk9 F9 S9; (try (have N9 := stay_news (by with_reducible assumption) S9)); (try k_sweep)))
  k_with "C:call ref" => (k_here; (with_reducible show W _ _ _ (call (Value.ref 218) _) _); k_dflt (refine' W.ro_v (body_n _ _ _ _ _ _ _ _ _ ?I_q ?H_q ?hn_q) ?KO_q ?FR_q ?ST_q ?_ ?exc_q ?HK_q; (case KO_q => with_reducible assumption); (case HK_q => decide); (case FR_q => with_reducible assumption); (case I_q => with_reducible assumption); (case H_q => with_reducible assumption); (case hn_q => with_reducible assumption); (case ST_q => first | exact stay_of (by with_reducible assumption) (by with_reducible assumption) | exact fun _ _ h => h | exact noH_in _); (case exc_q => exact fun _ _ _ _ h => h.elim); k_whole; intro h9 tk9 F9 S9; (try (have N9 := stay_news (by with_reducible assumption) S9)); (try k_sweep)))
  k_with "C:call ref" => (k_here; (with_reducible show W _ _ _ (call (Value.ref 218) _) _); k_dflt (refine' W.ro_v (body_d _ _ _ _ _ _ _ _ _ ?I_q ?H_q) ?KO_q ?FR_q ?ST_q ?_ ?exc_q ?HK_q; (case KO_q => with_reducible assumption); (case HK_q => decide); (case FR_q => with_reducible assumption); (case I_q => with_reducible assumption); (case H_q => with_reducible assumption); (case ST_q => first | exact stay_of (by with_reducible assumption) (by with_reducible assumption) | exact fun _ _ h => h | exact noH_in _); (case exc_q => exact fun _ _ _ _ h => h.elim); k_whole; intro h9 tk9 F9 S9; (try (have N9 := stay_news (by with_reducible assumption) S9)); (try k_sweep)))
  k_with "C:call ref" => (k_here; (with_reducible show W _ _ _ (call (Value.ref 218) _) _); k_dflt (refine' W.ro_v (body_s _ _ _ _ _ _ _ _ _ _ _ _ _ _ ?I_q ?H_q ?J_q ?hs_q) ?KO_q ?FR_q ?ST_q ?_ ?exc_q ?HK_q; (case KO_q => with_reducible assumption); (case HK_q => decide); (case FR_q => with_reducible assumption); (case I_q => with_reducible assumption); (case H_q => with_reducible assumption); (case J_q => with_reducible assumption); (case hs_q => with_reducible assumption); (case ST_q => first | exact stay_of (by with_reducible assumption) (by with_reducible assumption) | exact fun _ _ h => h | exact noH_in _); (case exc_q => exact fun _ _ _ _ h => h.elim); k_whole; intro h9 tk9 F9 S9; (try (have N9 := stay_news (by with_reducible assumption) S9)); (try k_sweep)))
  k_with "C:call ref" => (k_here; (with_reducible show W _ _ _ (call (Value.ref 372) _) _); k_dflt (refine' W.ro_e1 (law_types_c _ _ ) ?KO_q ?FR_q ?ST_q ?_ ?exc_q ?HK_q; (case KO_q => with_reducible assumption); (case HK_q => decide); (case FR_q => with_reducible assumption); (case ST_q => first | exact stay_of (by with_reducible assumption) (by with_reducible assumption) | exact fun _ _ h => h | exact noH_in _); (case exc_q => exact fun _ _ _ _ h => h.elim); k_whole; intro D9 o9 h9 tk9 F9 S9 P9; (try (have N9 := stay_news (by with_reducible assumption) S9)); rcases P9 with ⟨f9, g9, l9, P9⟩; replace N9 := news_obj (by with_reducible assumption) N9 f9 g9; clear g9; (try k_sweep)))
  exact ⟨rfl, rfl⟩
theorem sh4 (U : TK) : [Str.ofString "string", Str.ofString "array", Str.ofString "packed", Str.ofString "dict"].any (fun q => q == kindS U) = shares U := by
  have h : ∀ k : KD, [Str.ofString "string", Str.ofString "array", Str.ofString "packed", Str.ofString "dict"].any (fun q => q == k.s) = (decide (k = .string) || decide (k = .array) || decide (k = .packed) || decide (k = .dict)) := by intro k; cases k <;> kernel_rfl
  show [Str.ofString "string", Str.ofString "array", Str.ofString "packed", Str.ofString "dict"].any (fun q => q == (kdOf U).s) = _
  rw [h]
  cases U <;> first | rfl | (rename_i pk _ _ _; cases pk <;> rfl)
theorem sh3 (U : TK) : [Str.ofString "string", Str.ofString "array", Str.ofString "packed"].any (fun q => q == kindS U) = (shares U && !isDict U) := by
  have h : ∀ k : KD, [Str.ofString "string", Str.ofString "array", Str.ofString "packed"].any (fun q => q == k.s) = (decide (k = .string) || decide (k = .array) || decide (k = .packed)) := by intro k; cases k <;> kernel_rfl
  show [Str.ofString "string", Str.ofString "array", Str.ofString "packed"].any (fun q => q == (kdOf U).s) = _
  rw [h]
  cases U <;> first | rfl | (rename_i pk _ _ _; cases pk <;> rfl)
theorem CellsH.keep {G h : Heap} {l : Addr} (S : G.StaysIn h) (C : CellsH G l) : CellsH h l := by
  obtain ⟨c0, c1, c2, k0, k1, k2, u0, u1, u2, a0, a1, a2, h1, h2, h3, h4⟩ := C
  exact ⟨c0, c1, c2, k0, k1, k2, u0, u1, u2, a0, a1, a2, IsL_of h1 S, h2.keep S, h3.keep S, h4.keep S⟩
theorem ValH.keep {G h : Heap} {U : TK} {v : Value} (S : G.StaysIn h) (H : ValH G U v) : ValH h U v := by
  cases U with
  | str g st mn => obtain ⟨sp, bd, ts, tm, e, J, ba, tn, D, b⟩ := H; exact ⟨sp, bd, ts, tm, e, J.keep S, ba, tn, D.keep S, b.keep S⟩
  | arr pk g st mn => obtain ⟨sp, bd, ts, tm, e, J, li, tn, D, b⟩ := H; exact ⟨sp, bd, ts, tm, e, J.keep S, li, tn, D.keep S, b.keep S⟩
  | dict g => obtain ⟨bd, e, tn, ta, D⟩ := H; exact ⟨bd, e, tn, ta, D.keep S⟩
  | _ => exact H
theorem with_exec2 (w : World) (G : Heap) (x : Addr) (U : TK) (v : Value) (e : Bool) (ac : Int) (tk ta : Tok) (e' : Bool) (I : ThF G x (kindS U) v e ac tk ta) (H : ValH G U v) : RO 6 w 274 [.ref x, .bool e'] G (fun h h1 r => ∃ y tk' ta', r = .ref y ∧ NewF h h1 y 73 (ThFs (kindS U) v e' ac tk' ta')) (fun _ => False) := with_exec_c w G x U v e ac tk ta I H e'
theorem lnOne7 (w : World) : (hd.heap_39 w.params).In = (hd.heap_39 w.params).In ∧ PySem.Challenge.rw_on0261_01 = PySem.Challenge.rw_on0261_01 := by
  k_with "C:call ref" => (k_here; (with_reducible show W _ _ _ (call (Value.ref 274) _) _); k_dflt (refine' W.ro_e2 (with_exec2 _ _ _ _ _ _ _ _ _ _ ?I_q ?H_q) ?KO_q ?FR_q ?ST_q ?_ ?exc_q ?HK_q; (case KO_q => with_reducible assumption); (case HK_q => decide); (case FR_q => with_reducible assumption); (case I_q => with_reducible assumption); (case H_q => with_reducible assumption); (case ST_q => first | exact stay_of (by with_reducible assumption) (by with_reducible assumption) | exact fun _ _ h => h | exact noH_in _); (case exc_q => exact fun _ _ _ _ h => h.elim); k_whole; intro y9 tk8 ta9 h9 tk9 F9 S9 P9; (try (have N9 := stay_news (by with_reducible assumption) S9)); (have I9 := NewF.fld P9); (have H9 := ValH.keep (stay_of (by with_reducible assumption) (by with_reducible assumption)) (by with_reducible assumption)); skip))
  k_with "C:compareOp Eq ref ref" => with_reducible refine Stop.out (P := W _ _ _ _ _) ?_
  exact ⟨rfl, rfl⟩
noncomputable abbrev mpD (dk x : Addr) (i : Int) (t tb : Tok) (near body shares made what told : Value) : Str → Option Value := fun y => if y = Str.ofString "less" then some (.int i t) else if y = Str.ofString "due" then some (.bytes #[116, 121, 112, 101, 99, 104, 101, 99, 107] tb) else mpC dk x near body shares made what told y
inductive OneD {i : FI} {w : World} (C : Cx i w) (g G : Heap) (dk l x : Addr) (h : Heap) (tk : Nat) : Prop
  | mk (i : Int) (t tb : Tok) (i0 : 0 ≤ i) (i4 : i < 4) (near body shares made what told : Value) (g' : Heap) (od ol : Obj) (st : OneSt C g G dk l (mpD dk x i t tb near body shares made what told) h g' od ol)
theorem one_right_c (w : World) (G : Heap) (dk l : Addr) (od ol : Obj) (x : Addr) (U : TK) (v : Value) (e : Bool) (ac : Int) (tk ta : Tok) (I : ThF G x (kindS U) v e ac tk ta) (H : ValH G U v) (hw : wB U) (hac : 0 ≤ ac ∧ ac ≤ 3) (hda : isDict U = true → ac = 3) (hlt : l < dk) (D : DkOk w dk l od ol) :
    RT 30 w 438 [.ref dk, .ref x] G [(dk, od), (l, ol)] (fun h h1 r mu => r = .bool true ∧ ∃ od' ol', mu = [(dk, od'), (l, ol')] ∧ DkOk w dk l od' ol') := by
  refine RT.intro (k := 29) [(Str.ofString "deck", .ref dk), (Str.ofString "thing", .ref x)] (by k_is) (by k_is) (by intro s X; exact BindsTo.of_eq rfl) rfl (by decide) rfl rfl rfl ?_
  intro C sh g h₁ tkk Q K KB F' N' KS OM OF S S' hret
  have X' := K.X
  have T' := K.T
  have TT : KtsTurn (frsOf C.outer) g g := KtsTurn.refl
  replace hlt := ltN hlt
  with_reducible refine W.cut4 (OneA C g G dk l x) ?_ ?_
  · cases hs : isStr U with
    | false =>
      have e1 : (kindS U == Str.ofString "string") = false := by rw [isStr_eq]; exact hs
      cases hb : badU U ac with
      | none =>
        cases hv : valD U with
        | «at» a0 =>
          k_steps
          refine Stop.mk ?_
          refine' lstNe (xs := [_, _, _, _]) (ys := [_, _, _, _]) ?NX1 ?aX1 ?bX1 ?rX1 ?wX1 ?uX1 ?cX1 ?_
          (case NX1 => with_reducible assumption)
          (case aX1 => k_mem)
          (case bX1 => k_mem)
          (case rX1 => exact .cons (a := .at (.str _)) ⟨_, rfl⟩ (.cons (a := .at _) (itAt (by with_reducible assumption)) (.cons (a := .at (.bool _)) rfl (.cons (a := .at (.int _)) ⟨_, rfl⟩ .nil))))
          (case wX1 => exact .cons (a := .at (.str _)) ⟨_, rfl⟩ (.cons (a := .at _) (itAt (by with_reducible assumption)) (.cons (a := .at (.bool _)) rfl (.cons (a := .at (.int _)) ⟨_, rfl⟩ .nil))))
          (case uX1 => (first | exact lt_add (Ok.u (by with_reducible assumption)) (by decide) | exact lt_add0 (Ok.u (by with_reducible assumption)) | ktr_units))
          (case cX1 => exact (congrArg not (lEq_refl _)).trans (show (!true) = false from rfl))
          k_steps
          rename Fr _ _ _ _ => FF
          rename News _ _ _ _ => NN
          have N2 := news_two (a := dk) (b := l) NN (by k_mem) (by k_mem)
          refine Due.mk ⟨rfl, .mk _ _ _ _ _ _ ⟨?_, FF, ?_, ?_, N2, D⟩⟩
          all_goals with_reducible assumption
        | tup l0 =>
          k_steps
          refine Stop.mk ?_
          refine' lstNe (xs := [_, _, _, _]) (ys := [_, _, _, _]) ?NX2 ?aX2 ?bX2 ?rX2 ?wX2 ?uX2 ?cX2 ?_
          (case NX2 => with_reducible assumption)
          (case aX2 => k_mem)
          (case bX2 => k_mem)
          (case rX2 => exact .cons (a := .at (.str _)) ⟨_, rfl⟩ (.cons (a := .tup _) (tup_of (by with_reducible assumption) (by k_mem) (by with_reducible assumption) (by with_reducible assumption) (by with_reducible assumption)) (.cons (a := .at (.bool _)) rfl (.cons (a := .at (.int _)) ⟨_, rfl⟩ .nil))))
          (case wX2 => exact .cons (a := .at (.str _)) ⟨_, rfl⟩ (.cons (a := .tup _) (tup_of (by with_reducible assumption) (by k_mem) (by with_reducible assumption) (by with_reducible assumption) (by with_reducible assumption)) (.cons (a := .at (.bool _)) rfl (.cons (a := .at (.int _)) ⟨_, rfl⟩ .nil))))
          (case uX2 => (first | exact lt_add (Ok.u (by with_reducible assumption)) (by decide) | exact lt_add0 (Ok.u (by with_reducible assumption)) | ktr_units))
          (case cX2 => exact (congrArg not (lEq_refl _)).trans (show (!true) = false from rfl))
          k_steps
          rename Fr _ _ _ _ => FF
          rename News _ _ _ _ => NN
          have N2 := news_two (a := dk) (b := l) NN (by k_mem) (by k_mem)
          refine Due.mk ⟨rfl, .mk _ _ _ _ _ _ ⟨?_, FF, ?_, ?_, N2, D⟩⟩
          all_goals with_reducible assumption
      | some bs =>
        have hU : U = .null := by cases U <;> first | rfl | (simp [badU] at hb; done) | cases hs
        subst hU
        obtain rfl : #[116, 121, 112, 101, 99, 104, 101, 99, 107] = bs := Option.some.inj hb
        have hv : valD .null = .at .none := rfl
        k_steps
        refine Stop.mk ?_
        refine' lstNe (xs := [_, _, _, _]) (ys := [_, _, _, _]) ?NX3 ?aX3 ?bX3 ?rX3 ?wX3 ?uX3 ?cX3 ?_
        (case NX3 => with_reducible assumption)
        (case aX3 => k_mem)
        (case bX3 => k_mem)
        (case rX3 => exact .cons (a := .at (.str _)) ⟨_, rfl⟩ (.cons (a := .at _) (itAt (by with_reducible assumption)) (.cons (a := .at (.bool _)) rfl (.cons (a := .at (.int _)) ⟨_, rfl⟩ .nil))))
        (case wX3 => exact .cons (a := .at (.str _)) ⟨_, rfl⟩ (.cons (a := .at _) (itAt (by with_reducible assumption)) (.cons (a := .at (.bool _)) rfl (.cons (a := .at (.int _)) ⟨_, rfl⟩ .nil))))
        (case uX3 => (first | exact lt_add (Ok.u (by with_reducible assumption)) (by decide) | exact lt_add0 (Ok.u (by with_reducible assumption)) | ktr_units))
        (case cX3 => exact (congrArg not (lEq_refl _)).trans (show (!true) = false from rfl))
        k_steps
        rename Fr _ _ _ _ => FF
        rename News _ _ _ _ => NN
        have N2 := news_two (a := dk) (b := l) NN (by k_mem) (by k_mem)
        refine Due.mk ⟨rfl, .mk _ _ _ _ _ _ ⟨?_, FF, ?_, ?_, N2, D⟩⟩
        all_goals with_reducible assumption
    | true =>
      have e1 : (kindS U == Str.ofString "string") = true := by rw [isStr_eq]; exact hs
      by_cases ha : 2 ≤ ac
      · have hb : badU U ac = none := by obtain ⟨g0, st, mn, rfl⟩ := str_of hs; exact if_neg (by omega)
        have e2 : decide (ac < 2) = false := by simp; omega
        k_steps
        refine Stop.mk ?_
        refine' tupNe (xs := [_, _, _]) (ys := [_, _, _]) ?NX4 ?aX4 ?bX4 ?rX4 ?wX4 ?uX4 ?cX4 ?_
        (case NX4 => with_reducible assumption)
        (case aX4 => k_mem)
        (case bX4 => k_mem)
        (case rX4 => exact .cons (a := .str _) ⟨_, rfl⟩ (.cons (a := .bytes _) ⟨_, rfl⟩ (.cons (a := .bool _) rfl .nil)))
        (case wX4 => exact .cons (a := .str _) ⟨_, rfl⟩ (.cons (a := .bytes _) ⟨_, rfl⟩ (.cons (a := .bool _) rfl .nil)))
        (case uX4 => (first | exact lt_add (Ok.u (by with_reducible assumption)) (by decide) | exact lt_add0 (Ok.u (by with_reducible assumption)) | ktr_units))
        (case cX4 => exact (congrArg not (tEq_refl _)).trans (show (!true) = false from rfl))
        k_steps
        rename Fr _ _ _ _ => FF
        rename News _ _ _ _ => NN
        have N2 := news_two (a := dk) (b := l) NN (by k_mem) (by k_mem)
        refine Due.mk ⟨rfl, .mk _ _ _ _ _ _ ⟨?_, FF, ?_, ?_, N2, D⟩⟩
        all_goals with_reducible assumption
      · have ha' : ac < 2 := by omega
        have hb : badU U ac = some #[105, 110, 118, 97, 108, 105, 100, 97, 99, 99, 101, 115, 115] := by obtain ⟨g0, st, mn, rfl⟩ := str_of hs; exact if_pos (by omega)
        have e2 : decide (ac < 2) = true := by simp; omega
        k_steps
        rename Fr _ _ _ _ => FF
        rename News _ _ _ _ => NN
        have N2 := news_two (a := dk) (b := l) NN (by k_mem) (by k_mem)
        refine Due.mk ⟨rfl, .mk _ _ _ _ _ _ ⟨?_, FF, ?_, ?_, N2, D⟩⟩
        all_goals with_reducible assumption
  clear F' N' D TT K X' T' S'
  rintro h1 tk1 ⟨made, what, told, g1, od1, ol1, T1, F1, K1, S1, N1, D1⟩
  have X1 := K1.X
  have P1 := K1.T
  have hA := acc_eq hda (ac := ac)
  with_reducible refine W.cut (OneA C g G dk l x) ?_ ?_
  · k_steps
    refine Stop.mk ?_
    refine' lstNe (c := false) (xs := [_, _, _]) (ys := [_, _, _]) ?NB ?aB ?bB ?rB ?wB ?uB ?cB ?_
    (case NB => with_reducible assumption)
    (case aB => k_mem)
    (case bB => k_mem)
    (case rB => exact .cons (a := .at (.bool _)) rfl (.cons (a := .at (.bool _)) rfl (.cons (a := .at (.bool _)) rfl .nil)))
    (case wB => exact .cons (a := .at (.bool _)) rfl (.cons (a := .at (.bool _)) rfl (.cons (a := .at (.bool _)) rfl .nil)))
    (case uB => (first | exact lt_add (Ok.u (by with_reducible assumption)) (by decide) | exact lt_add0 (Ok.u (by with_reducible assumption)) | ktr_units))
    (case cB => simp [lEq, It.eq, At.eq, hA]; omega)
    k_steps
    rename Fr _ _ _ _ => FF
    rename News _ _ _ _ => NN
    have N2 := news_two (a := dk) (b := l) NN (by k_mem) (by k_mem)
    refine Due.mk ⟨rfl, .mk _ _ _ _ _ _ ⟨?_, FF, ?_, ?_, N2, D1⟩⟩
    all_goals with_reducible assumption
  clear F1 N1 D1 T1 K1 X1 P1 S1
  rintro h1 tk1 ⟨made, what, told, g1, od1, ol1, T1, F1, K1, S1, N1, D1⟩
  have X1 := K1.X
  have P1 := K1.T
  have q4 := sh4 U
  have q3 := sh3 U
  with_reducible refine W.cut5 (OneC C g G dk l x) ?_ ?_
  · rcases Bool.eq_false_or_eq_true (shares U) with hsh | hsh
    · cases U with
      | dict g0 =>
        obtain ⟨bd, rfl, tn, td, HD⟩ := id H
        have I' : ThF G x (Str.ofString "dict") _ e ac tk ta := I
        have q4' : [Str.ofString "string", Str.ofString "array", Str.ofString "packed", Str.ofString "dict"].any (fun q => q == Str.ofString "dict") = true := q4
        have hks : Str.ofString "dict" = KD.dict.s := rfl
        have hlo : localU (.dict g0) = !g0 := rfl
        k_steps
        · rename _ ≠ _ => hx
          exact absurd rfl hx
        · rename (_ != _) = true => hx
          simp at hx
        · rename Fr _ _ _ _ => FF
          rename News _ _ _ _ => NN
          have N2 := news_two (a := dk) (b := l) NN (by k_mem) (by k_mem)
          refine Due.mk ⟨rfl, .mk _ _ _ _ _ _ _ _ _ ⟨?_, FF, ?_, ?_, N2, D1⟩⟩
          all_goals with_reducible assumption
      | str g0 st mn =>
        obtain ⟨sp, bd, ts, tm, rfl, J, HT⟩ := id H
        have HT' := HT
        obtain ⟨ba, tn, HD, _⟩ := HT'
        have hss : (shares (.str g0 st mn) && !isDict (.str g0 st mn)) = true := rfl
        have hds : (kindS (.str g0 st mn) == Str.ofString "dict") = false := by rw [isDict_eq]; rfl
        have hks : kindS (.str g0 st mn) = (kdOf (.str g0 st mn)).s := rfl
        have hlo : localU (.str g0 st mn) = !g0 := rfl
        rw [hsh] at q4
        k_steps
        · rename _ ≠ _ => hx
          exact absurd rfl hx
        · rename (_ != _) = true => hx
          simp at hx
        · rename Fr _ _ _ _ => FF
          rename News _ _ _ _ => NN
          have N2 := news_two (a := dk) (b := l) NN (by k_mem) (by k_mem)
          refine Due.mk ⟨rfl, .mk _ _ _ _ _ _ _ _ _ ⟨?_, FF, ?_, ?_, N2, D1⟩⟩
          all_goals with_reducible assumption
      | arr pk g0 st mn =>
        obtain ⟨sp, bd, ts, tm, rfl, J, HT⟩ := id H
        have HT' := HT
        obtain ⟨li, tn, HD, _⟩ := HT'
        have hss : (shares (.arr pk g0 st mn) && !isDict (.arr pk g0 st mn)) = true := rfl
        have hds : (kindS (.arr pk g0 st mn) == Str.ofString "dict") = false := by rw [isDict_eq]; rfl
        have hks : kindS (.arr pk g0 st mn) = (kdOf (.arr pk g0 st mn)).s := rfl
        have hlo : localU (.arr pk g0 st mn) = !g0 := rfl
        rw [hsh] at q4
        k_steps
        · rename _ ≠ _ => hx
          exact absurd rfl hx
        · rename (_ != _) = true => hx
          simp at hx
        · rename Fr _ _ _ _ => FF
          rename News _ _ _ _ => NN
          have N2 := news_two (a := dk) (b := l) NN (by k_mem) (by k_mem)
          refine Due.mk ⟨rfl, .mk _ _ _ _ _ _ _ _ _ ⟨?_, FF, ?_, ?_, N2, D1⟩⟩
          all_goals with_reducible assumption
      | _ => cases hsh
    · have hds : (kindS U == Str.ofString "dict") = false := by rw [isDict_eq]; cases U <;> first | rfl | cases hsh
      have hlo : localU U = false := by cases U <;> first | rfl | cases hsh
      have hks : kindS U = (kdOf U).s := rfl
      rw [hsh] at q4
      k_steps
      rename Fr _ _ _ _ => FF
      rename News _ _ _ _ => NN
      have N2 := news_two (a := dk) (b := l) NN (by k_mem) (by k_mem)
      refine Due.mk ⟨rfl, .mk _ _ _ _ _ _ _ _ _ ⟨?_, FF, ?_, ?_, N2, D1⟩⟩
      all_goals with_reducible assumption
  clear F1 N1 D1 T1 K1 X1 P1 S1 q4
  rintro h1 tk1 ⟨near, body, shr, made, what, told, g1, od1, ol1, T1, F1, K1, S1, N1, D1⟩
  have X1 := K1.X
  have P1 := K1.T
  with_reducible refine W.cut (OneD C g G dk l x) ?_ ?_
  · k_steps
    rename Fr _ _ _ _ => FF
    rename News _ _ _ _ => NN
    rename DkOk _ _ _ _ _ => DD
    have N2 := news_two (a := dk) (b := l) NN (by k_mem) (by k_mem)
    refine Due.mk ⟨rfl, .mk _ _ _ ?_ ?_ _ _ _ _ _ _ _ _ _ ⟨?_, FF, ?_, ?_, N2, DD⟩⟩
    all_goals with_reducible assumption
  clear F1 N1 D1 T1 K1 X1 P1 S1
  rintro h1 tk1 ⟨i, ti, tb, i0, i4, near, body, shr, made, what, told, g1, od1, ol1, T1, F1, K1, S1, N1, D1⟩
  have X1 := K1.X
  have P1 := K1.T
  cases hs : (shares U && !isDict U) with
  | false =>
    rw [hs] at q3
    have hv : ∃ a0, valD U = .at a0 := by cases U <;> first | exact ⟨_, rfl⟩ | cases hs
    obtain ⟨a0, hv⟩ := hv
    k_steps
    refine Stop.mk ?_
    refine' lstEq (xs := [_, _, _, _]) (ys := [_, _, _, _]) ?NY1 ?aY1 ?bY1 ?rY1 ?wY1 ?uY1 ?cY1 ?_
    (case NY1 => with_reducible assumption)
    (case aY1 => k_mem)
    (case bY1 => k_mem)
    (case rY1 => exact .cons (a := .at (.str _)) ⟨_, rfl⟩ (.cons (a := .at _) (itAt (by with_reducible assumption)) (.cons (a := .at (.bool _)) rfl (.cons (a := .at (.int _)) ⟨_, rfl⟩ .nil))))
    (case wY1 => exact .cons (a := .at (.str _)) ⟨_, rfl⟩ (.cons (a := .at _) (itAt (by with_reducible assumption)) (.cons (a := .at (.bool _)) rfl (.cons (a := .at (.int _)) ⟨_, rfl⟩ .nil))))
    (case uY1 => (first | exact lt_add (Ok.u (by with_reducible assumption)) (by decide) | exact lt_add0 (Ok.u (by with_reducible assumption)) | ktr_units))
    (case cY1 => exact lEq_refl _)
    k_steps
    rename Fr _ _ _ _ => FF
    rename News _ _ _ _ => NN
    have N2 := news_two (a := dk) (b := l) NN (by k_mem) (by k_mem)
    refine Stop.mk ?_
    refine' hret.fin ?tY1 FF N2 rfl ⟨rfl, _, _, rfl, D1⟩
    with_reducible assumption
  | true =>
    rw [hs] at q3
    have hv : ∃ l0, valD U = .tup l0 := by cases U <;> first | exact ⟨_, rfl⟩ | cases hs
    obtain ⟨l0, hv⟩ := hv
    by_cases ha : i ≤ ac
    · have e3 : decide (ac < i) = false := by simp; omega
      k_steps
      refine Stop.mk ?_
      refine' lstNe (xs := [_, _, _]) (ys := [_, _, _]) ?NZ1 ?aZ1 ?bZ1 ?rZ1 ?wZ1 ?uZ1 ?cZ1 ?_
      (case NZ1 => with_reducible assumption)
      (case aZ1 => k_mem)
      (case bZ1 => k_mem)
      (case rZ1 => exact .cons (a := .at (.str _)) ⟨_, rfl⟩ (.cons (a := .at (.int _)) ⟨_, rfl⟩ (.cons (a := .at (.bool _)) rfl .nil)))
      (case wZ1 => exact .cons (a := .at (.str _)) ⟨_, rfl⟩ (.cons (a := .at (.int _)) ⟨_, rfl⟩ (.cons (a := .at (.bool _)) rfl .nil)))
      (case uZ1 => (first | exact lt_add (Ok.u (by with_reducible assumption)) (by decide) | exact lt_add0 (Ok.u (by with_reducible assumption)) | ktr_units))
      (case cZ1 => exact (congrArg not (lEq_refl _)).trans (show (!true) = false from rfl))
      k_steps
      refine Stop.mk ?_
      refine' lstEq (xs := [_, _, _, _]) (ys := [_, _, _, _]) ?NY2 ?aY2 ?bY2 ?rY2 ?wY2 ?uY2 ?cY2 ?_
      (case NY2 => with_reducible assumption)
      (case aY2 => k_mem)
      (case bY2 => k_mem)
      (case rY2 => exact .cons (a := .at (.str _)) ⟨_, rfl⟩ (.cons (a := .tup _) (tup_of (by with_reducible assumption) (by k_mem) (by with_reducible assumption) (by with_reducible assumption) (by with_reducible assumption)) (.cons (a := .at (.bool _)) rfl (.cons (a := .at (.int _)) ⟨_, rfl⟩ .nil))))
      (case wY2 => exact .cons (a := .at (.str _)) ⟨_, rfl⟩ (.cons (a := .tup _) (tup_of (by with_reducible assumption) (by k_mem) (by with_reducible assumption) (by with_reducible assumption) (by with_reducible assumption)) (.cons (a := .at (.bool _)) rfl (.cons (a := .at (.int _)) ⟨_, rfl⟩ .nil))))
      (case uY2 => (first | exact lt_add (Ok.u (by with_reducible assumption)) (by decide) | exact lt_add0 (Ok.u (by with_reducible assumption)) | ktr_units))
      (case cY2 => exact lEq_refl _)
      k_steps
      rename Fr _ _ _ _ => FF
      rename News _ _ _ _ => NN
      have N2 := news_two (a := dk) (b := l) NN (by k_mem) (by k_mem)
      refine Stop.mk ?_
      refine' hret.fin ?tY2 FF N2 rfl ⟨rfl, _, _, rfl, D1⟩
      with_reducible assumption
    · have ha' : ac < i := by omega
      have e3 : decide (ac < i) = true := by simp; omega
      k_steps
      refine Stop.mk ?_
      refine' lstEq (xs := [_, _, _, _]) (ys := [_, _, _, _]) ?NY3 ?aY3 ?bY3 ?rY3 ?wY3 ?uY3 ?cY3 ?_
      (case NY3 => with_reducible assumption)
      (case aY3 => k_mem)
      (case bY3 => k_mem)
      (case rY3 => exact .cons (a := .at (.str _)) ⟨_, rfl⟩ (.cons (a := .tup _) (tup_of (by with_reducible assumption) (by k_mem) (by with_reducible assumption) (by with_reducible assumption) (by with_reducible assumption)) (.cons (a := .at (.bool _)) rfl (.cons (a := .at (.int _)) ⟨_, rfl⟩ .nil))))
      (case wY3 => exact .cons (a := .at (.str _)) ⟨_, rfl⟩ (.cons (a := .tup _) (tup_of (by with_reducible assumption) (by k_mem) (by with_reducible assumption) (by with_reducible assumption) (by with_reducible assumption)) (.cons (a := .at (.bool _)) rfl (.cons (a := .at (.int _)) ⟨_, rfl⟩ .nil))))
      (case uY3 => (first | exact lt_add (Ok.u (by with_reducible assumption)) (by decide) | exact lt_add0 (Ok.u (by with_reducible assumption)) | ktr_units))
      (case cY3 => exact lEq_refl _)
      k_steps
      rename Fr _ _ _ _ => FF
      rename News _ _ _ _ => NN
      have N2 := news_two (a := dk) (b := l) NN (by k_mem) (by k_mem)
      refine Stop.mk ?_
      refine' hret.fin ?tY3 FF N2 rfl ⟨rfl, _, _, rfl, D1⟩
      with_reducible assumption
end Mine
end
namespace Mine
theorem grpD : True := trivial
end Mine
local macro_rules | `(tactic| walk_at $_:str) => Lean.Macro.throwUnsupported
section
namespace Mine
open PySem.Spec PySem.Calls
theorem rt_useH {k : Nat} {w : World} {f : Addr} {vs : List Value} {G : Heap} {Post : Heap → Heap → Value → Led → Prop} {t : Addr} {o : Obj} (C : ∀ Gc : Heap, G.StaysIn Gc → Gc.get? t = some o → RT k w f vs Gc [] Post)
    {dp un : Nat} {gd : Option (List Code)} {cn : Str} {cs : Scope} {a : Addr} {ccd : Value} {cl : List (Str × Addr)} {outer : List Env} {A₀ : Around} {base h₀ : Heap} {L : Addr} {m mg mb : Str → Option Value} {mean : ExcName → Option Value}
    {hh : Heap} {gs : Array GenState} {dr : Drawn} {tk : Nat} {os : OsState} {Q E : Value → Shared → Prop} {news : Led}
    (B : Below A₀ base outer h₀) (F : Fr h₀ L hh m) (X : (hd.heap_39 w.params).In h₀) (T : TopH mean mg mb h₀) (XB : (hd.heap_39 w.params).In base) (TB : TopH mean mg mb base) (N : News h₀ L hh news) (hm : (t, o) ∈ news) (S : G.StaysIn h₀) (OF : Off G (frsOf outer))
    (hk : cs.kind = .function) (hdp : dp + k < recursionLimit) (hu : un + 8 * k < cLine)
    (ret : ∀ r h' tk' g', KtsTurn (frsOf outer) h₀ g' → Fr g' L h' m → Below A₀ base outer g' → (hd.heap_39 w.params).In g' → TopH mean mg mb g' → News g' L h' news → G.StaysIn g' → Post hh h' r [] → Q r ⟨h', gs, dr, tk', os⟩) :
    wpAny (model PySem.Challenge.rw_on0261_01.row.prog w) (ktrTop dp un gd cn cs L a ccd cl outer) (call (.ref f) vs) Q E ⟨hh, gs, dr, tk, os⟩ := by
  have OC : Off G (frsOf (envX cn cs L a ccd cl :: outer)) := off_cons F S OF rfl
  have SG : G.StaysIn (hideAll hh (frsOf (envX cn cs L a ccd cl :: outer))) := fun b ob e => hideAll_get _ (stay_of F S b ob e) fun hb => by rw [OC b hb] at e; cases e
  have ht : (hideAll hh (frsOf (envX cn cs L a ccd cl :: outer))).get? t = some o := hideAll_get _ (N.get hm) fun hb => by
    obtain ⟨e, he, hq⟩ := List.mem_filterMap.mp hb
    rcases List.mem_cons.mp he with rfl | he
    · exact (N _ hm).2.1 (Option.some.inj hq).symm
    · obtain ⟨ob, hob⟩ := frs_in B t (List.mem_filterMap.mpr ⟨e, he, hq⟩)
      have := (N _ hm).2.2
      rw [hob] at this; cases this
  refine C _ SG ht dp un gd cn cs a ccd cl outer A₀ base h₀ L m mg mb mean ⟨hh, gs, dr, tk, os⟩ Q E B F X T XB TB (fun _ hp => nomatch hp) (fun _ hb => nomatch hb) (fun b hb => hideAll_none _ hb) hk hdp hu (fun b ob e => of_hideAll _ e) ⟨fun r h' tk' g' mu' T' F' B' X' P' N' hmu K P => ?_⟩
  have hz : mu' = [] := List.map_eq_nil_iff.mp hmu
  subst hz
  exact ret r h' tk' g' T' F' B' X' P' (news_turn F N T' K (frs_in B)) (off_turn S OF T') P
theorem t5_ok {w : World} {G : Heap} {t0 : Tok} {sp bd : Addr} {st mn : Int} {ts tm : Tok} {t : Addr} {p q : Int} {t1 t2 : Tok} {n : Nat}
    {dp un : Nat} {gd : Option (List Code)} {cn : Str} {cs : Scope} {a : Addr} {ccd : Value} {cl : List (Str × Addr)} {outer : List Env} {A₀ : Around} {base h₀ : Heap} {L : Addr} {m mg mb : Str → Option Value} {mean : ExcName → Option Value}
    {hh : Heap} {gs : Array GenState} {dr : Drawn} {tk : Nat} {os : OsState} {Q E : Value → Shared → Prop} {news : Led}
    (I : SpF G sp bd st mn ts tm) (hp : -1000 ≤ p ∧ p ≤ 1000) (hst : -1000 ≤ st ∧ st ≤ 1000) (hmn : -1000 ≤ mn ∧ mn ≤ 1000) (hr : 0 ≤ p ∧ 0 ≤ q ∧ p + q ≤ mn)
    (B : Below A₀ base outer h₀) (F : Fr h₀ L hh m) (X : (hd.heap_39 w.params).In h₀) (T : TopH mean mg mb h₀) (XB : (hd.heap_39 w.params).In base) (TB : TopH mean mg mb base) (N : News h₀ L hh news) (hm : (t, { cls := .type "tuple", data := .seq #[.int p t1, .int q t2] n }) ∈ news) (S : G.StaysIn h₀) (OF : Off G (frsOf outer))
    (hk : cs.kind = .function) (hdp : dp + 18 < recursionLimit) (hu : un + 8 * 18 < cLine)
    (ret : ∀ r h' tk' g', KtsTurn (frsOf outer) h₀ g' → Fr g' L h' m → Below A₀ base outer g' → (hd.heap_39 w.params).In g' → TopH mean mg mb g' → News g' L h' news → G.StaysIn g' → (∃ y ts' tm', r = .ref y ∧ NewF hh h' y 171 (SpFs bd (st + p) q ts' tm')) → Q r ⟨h', gs, dr, tk', os⟩) :
    wpAny (model PySem.Challenge.rw_on0261_01.row.prog w) (ktrTop dp un gd cn cs L a ccd cl outer) (call (.ref 419) [.int 5 t0, .ref sp, .ref t]) Q E ⟨hh, gs, dr, tk, os⟩ :=
  rt_useH (fun Gc SG ht => told5_ok w Gc t0 sp bd st mn ts tm t p q t1 t2 (I.keep SG) ⟨_, ht, rfl, _, rfl⟩ hp hst hmn hr) B F X T XB TB N hm S OF hk hdp hu ret
theorem t5_bad {w : World} {G : Heap} {t0 : Tok} {sp bd : Addr} {st mn : Int} {ts tm : Tok} {t : Addr} {p q : Int} {t1 t2 : Tok} {n : Nat}
    {dp un : Nat} {gd : Option (List Code)} {cn : Str} {cs : Scope} {a : Addr} {ccd : Value} {cl : List (Str × Addr)} {outer : List Env} {A₀ : Around} {base h₀ : Heap} {L : Addr} {m mg mb : Str → Option Value} {mean : ExcName → Option Value}
    {hh : Heap} {gs : Array GenState} {dr : Drawn} {tk : Nat} {os : OsState} {Q E : Value → Shared → Prop} {news : Led}
    (I : SpF G sp bd st mn ts tm) (hp : -1000 ≤ p ∧ p ≤ 1000) (hst : -1000 ≤ st ∧ st ≤ 1000) (hmn : -1000 ≤ mn ∧ mn ≤ 1000) (hr : ¬ (0 ≤ p ∧ 0 ≤ q ∧ p + q ≤ mn))
    (B : Below A₀ base outer h₀) (F : Fr h₀ L hh m) (X : (hd.heap_39 w.params).In h₀) (T : TopH mean mg mb h₀) (XB : (hd.heap_39 w.params).In base) (TB : TopH mean mg mb base) (N : News h₀ L hh news) (hm : (t, { cls := .type "tuple", data := .seq #[.int p t1, .int q t2] n }) ∈ news) (S : G.StaysIn h₀) (OF : Off G (frsOf outer))
    (hk : cs.kind = .function) (hdp : dp + 18 < recursionLimit) (hu : un + 8 * 18 < cLine)
    (ret : ∀ r h' tk' g', KtsTurn (frsOf outer) h₀ g' → Fr g' L h' m → Below A₀ base outer g' → (hd.heap_39 w.params).In g' → TopH mean mg mb g' → News g' L h' news → G.StaysIn g' → (∃ u, r = .bytes #[114, 97, 110, 103, 101, 99, 104, 101, 99, 107] u) → Q r ⟨h', gs, dr, tk', os⟩) :
    wpAny (model PySem.Challenge.rw_on0261_01.row.prog w) (ktrTop dp un gd cn cs L a ccd cl outer) (call (.ref 419) [.int 5 t0, .ref sp, .ref t]) Q E ⟨hh, gs, dr, tk, os⟩ :=
  rt_useH (fun Gc SG ht => told5_bad w Gc t0 sp bd st mn ts tm t p q t1 t2 (I.keep SG) ⟨_, ht, rfl, _, rfl⟩ hp hst hmn hr) B F X T XB TB N hm S OF hk hdp hu ret
theorem t7_c {w : World} {G : Heap} {t0 : Tok} {sp bd : Addr} {st mn : Int} {ts tm : Tok} {t : Addr} {p q : Int} {t1 t2 : Tok} {n : Nat}
    {dp un : Nat} {gd : Option (List Code)} {cn : Str} {cs : Scope} {a : Addr} {ccd : Value} {cl : List (Str × Addr)} {outer : List Env} {A₀ : Around} {base h₀ : Heap} {L : Addr} {m mg mb : Str → Option Value} {mean : ExcName → Option Value}
    {hh : Heap} {gs : Array GenState} {dr : Drawn} {tk : Nat} {os : OsState} {Q E : Value → Shared → Prop} {news : Led}
    (I : SpF G sp bd st mn ts tm) 
    (B : Below A₀ base outer h₀) (F : Fr h₀ L hh m) (X : (hd.heap_39 w.params).In h₀) (T : TopH mean mg mb h₀) (XB : (hd.heap_39 w.params).In base) (TB : TopH mean mg mb base) (N : News h₀ L hh news) (hm : (t, { cls := .type "tuple", data := .seq #[.int p t1, .int q t2] n }) ∈ news) (S : G.StaysIn h₀) (OF : Off G (frsOf outer))
    (hk : cs.kind = .function) (hdp : dp + 18 < recursionLimit) (hu : un + 8 * 18 < cLine)
    (ret : ∀ r h' tk' g', KtsTurn (frsOf outer) h₀ g' → Fr g' L h' m → Below A₀ base outer g' → (hd.heap_39 w.params).In g' → TopH mean mg mb g' → News g' L h' news → G.StaysIn g' → (((0 ≤ p ∧ 0 ≤ q ∧ p + q ≤ mn) ∧ r = .none) ∨ (¬ (0 ≤ p ∧ 0 ≤ q ∧ p + q ≤ mn) ∧ ∃ u, r = .bytes #[114, 97, 110, 103, 101, 99, 104, 101, 99, 107] u)) → Q r ⟨h', gs, dr, tk', os⟩) :
    wpAny (model PySem.Challenge.rw_on0261_01.row.prog w) (ktrTop dp un gd cn cs L a ccd cl outer) (call (.ref 419) [.int 7 t0, .ref sp, .ref t]) Q E ⟨hh, gs, dr, tk, os⟩ :=
  rt_useH (fun Gc SG ht => told7_c w Gc t0 sp bd st mn ts tm t p q t1 t2 (I.keep SG) ⟨_, ht, rfl, _, rfl⟩ ) B F X T XB TB N hm S OF hk hdp hu ret
theorem t7_ok {w : World} {G : Heap} {t0 : Tok} {sp bd : Addr} {st mn : Int} {ts tm : Tok} {t : Addr} {p q : Int} {t1 t2 : Tok} {n : Nat}
    {dp un : Nat} {gd : Option (List Code)} {cn : Str} {cs : Scope} {a : Addr} {ccd : Value} {cl : List (Str × Addr)} {outer : List Env} {A₀ : Around} {base h₀ : Heap} {L : Addr} {m mg mb : Str → Option Value} {mean : ExcName → Option Value}
    {hh : Heap} {gs : Array GenState} {dr : Drawn} {tk : Nat} {os : OsState} {Q E : Value → Shared → Prop} {news : Led}
    (I : SpF G sp bd st mn ts tm) (hr : 0 ≤ p ∧ 0 ≤ q ∧ p + q ≤ mn)
    (B : Below A₀ base outer h₀) (F : Fr h₀ L hh m) (X : (hd.heap_39 w.params).In h₀) (T : TopH mean mg mb h₀) (XB : (hd.heap_39 w.params).In base) (TB : TopH mean mg mb base) (N : News h₀ L hh news) (hm : (t, { cls := .type "tuple", data := .seq #[.int p t1, .int q t2] n }) ∈ news) (S : G.StaysIn h₀) (OF : Off G (frsOf outer))
    (hk : cs.kind = .function) (hdp : dp + 18 < recursionLimit) (hu : un + 8 * 18 < cLine)
    (ret : ∀ r h' tk' g', KtsTurn (frsOf outer) h₀ g' → Fr g' L h' m → Below A₀ base outer g' → (hd.heap_39 w.params).In g' → TopH mean mg mb g' → News g' L h' news → G.StaysIn g' → r = .none → Q r ⟨h', gs, dr, tk', os⟩) :
    wpAny (model PySem.Challenge.rw_on0261_01.row.prog w) (ktrTop dp un gd cn cs L a ccd cl outer) (call (.ref 419) [.int 7 t0, .ref sp, .ref t]) Q E ⟨hh, gs, dr, tk, os⟩ :=
  t7_c I B F X T XB TB N hm S OF hk hdp hu fun r h' tk' g' a1 a2 a3 a4 a5 a6 a7 P => ret r h' tk' g' a1 a2 a3 a4 a5 a6 a7 (P.elim (·.2) fun h => absurd hr h.1)
theorem t7_bad {w : World} {G : Heap} {t0 : Tok} {sp bd : Addr} {st mn : Int} {ts tm : Tok} {t : Addr} {p q : Int} {t1 t2 : Tok} {n : Nat}
    {dp un : Nat} {gd : Option (List Code)} {cn : Str} {cs : Scope} {a : Addr} {ccd : Value} {cl : List (Str × Addr)} {outer : List Env} {A₀ : Around} {base h₀ : Heap} {L : Addr} {m mg mb : Str → Option Value} {mean : ExcName → Option Value}
    {hh : Heap} {gs : Array GenState} {dr : Drawn} {tk : Nat} {os : OsState} {Q E : Value → Shared → Prop} {news : Led}
    (I : SpF G sp bd st mn ts tm) (hr : ¬ (0 ≤ p ∧ 0 ≤ q ∧ p + q ≤ mn))
    (B : Below A₀ base outer h₀) (F : Fr h₀ L hh m) (X : (hd.heap_39 w.params).In h₀) (T : TopH mean mg mb h₀) (XB : (hd.heap_39 w.params).In base) (TB : TopH mean mg mb base) (N : News h₀ L hh news) (hm : (t, { cls := .type "tuple", data := .seq #[.int p t1, .int q t2] n }) ∈ news) (S : G.StaysIn h₀) (OF : Off G (frsOf outer))
    (hk : cs.kind = .function) (hdp : dp + 18 < recursionLimit) (hu : un + 8 * 18 < cLine)
    (ret : ∀ r h' tk' g', KtsTurn (frsOf outer) h₀ g' → Fr g' L h' m → Below A₀ base outer g' → (hd.heap_39 w.params).In g' → TopH mean mg mb g' → News g' L h' news → G.StaysIn g' → (∃ u, r = .bytes #[114, 97, 110, 103, 101, 99, 104, 101, 99, 107] u) → Q r ⟨h', gs, dr, tk', os⟩) :
    wpAny (model PySem.Challenge.rw_on0261_01.row.prog w) (ktrTop dp un gd cn cs L a ccd cl outer) (call (.ref 419) [.int 7 t0, .ref sp, .ref t]) Q E ⟨hh, gs, dr, tk, os⟩ :=
  t7_c I B F X T XB TB N hm S OF hk hdp hu fun r h' tk' g' a1 a2 a3 a4 a5 a6 a7 P => ret r h' tk' g' a1 a2 a3 a4 a5 a6 a7 (P.elim (fun h => absurd h.1 hr) (·.2))
end Mine
end
section
namespace Mine
open PySem.Spec PySem.Calls
theorem mem_any {b : Addr} {o : Obj} {gl : Led} (hm : (b, o) ∈ gl) : (gl.any fun p => decide (p.1 = b)) = true := List.any_eq_true.mpr ⟨_, hm, decide_eq_true rfl⟩
noncomputable def pick (G h1 : Heap) (gl : Led) : Heap := hideAll h1 ((List.range h1.objs.size).filter fun b => (G.get? b).isNone && !(gl.any fun p => decide (p.1 = b)))
theorem pick_old {G h1 : Heap} {gl : Led} (S : G.StaysIn h1) : G.StaysIn (pick G h1 gl) := fun b o e => hideAll_get _ (S b o e) fun hm => by
  have := (List.mem_filter.mp hm).2
  rw [e] at this
  cases this
theorem pick_new {G h1 : Heap} {gl : Led} {b : Addr} {o : Obj} (hm : (b, o) ∈ gl) (e : h1.get? b = some o) : (pick G h1 gl).get? b = some o := hideAll_get _ e fun hq => by
  have := (List.mem_filter.mp hq).2
  rw [mem_any hm, Bool.not_true, Bool.and_false] at this
  cases this
theorem pick_of {G h1 : Heap} {gl : Led} {b : Addr} {o : Obj} (e : (pick G h1 gl).get? b = some o) : h1.get? b = some o ∧ ((∃ o', G.get? b = some o') ∨ ∃ o', (b, o') ∈ gl) := by
  have e1 := of_hideAll _ e
  refine ⟨e1, ?_⟩
  cases hG : G.get? b with
  | some o' => exact .inl ⟨o', rfl⟩
  | none =>
    cases ha : (gl.any fun p => decide (p.1 = b)) with
    | true =>
      obtain ⟨p, hp, hq⟩ := List.any_eq_true.mp ha
      obtain rfl := of_decide_eq_true hq
      exact .inr ⟨p.2, hp⟩
    | false =>
      have : b ∈ (List.range h1.objs.size).filter fun b => (G.get? b).isNone && !(gl.any fun p => decide (p.1 = b)) := List.mem_filter.mpr ⟨List.mem_range.mpr (Heap.lt_size e1), by rw [hG, ha]; rfl⟩
      have q := hideAll_none (h := h1) _ this
      unfold pick at e
      rw [q] at e
      cases e
noncomputable def GLk (G G1 : Heap) (gl : Led) : Prop := G.StaysIn G1 ∧ ∀ b o, G1.get? b = some o → G.get? b = some o ∨ (b, o) ∈ gl
theorem glk_grow {G G1 h1 : Heap} {gl ls : Led} (K : GLk G G1 gl) (S1 : G1.StaysIn h1) (N : ∀ p ∈ ls, h1.get? p.1 = some p.2) : GLk G (pick G1 h1 ls) (ls ++ gl) := by
  refine ⟨fun b o e => pick_old S1 b o (K.1 b o e), fun b o e => ?_⟩
  obtain ⟨e1, ⟨o', h⟩ | ⟨o', h⟩⟩ := pick_of e
  · have := S1 b o' h
    rw [e1] at this
    cases this
    rcases K.2 b o h with q | q
    · exact .inl q
    · exact .inr (List.mem_append.mpr (.inr q))
  · have := N _ h
    rw [e1] at this
    cases this
    exact .inr (List.mem_append.mpr (.inl h))
theorem glk_self (G : Heap) : GLk G G [] := ⟨fun _ _ e => e, fun _ _ e => .inl e⟩
theorem glk_pick {G h1 : Heap} {gl : Led} (S : G.StaysIn h1) (N : ∀ p ∈ gl, h1.get? p.1 = some p.2) : GLk G (pick G h1 gl) gl := by
  have := glk_grow (glk_self G) S N
  rwa [List.append_nil] at this
theorem stay_gl {G G1 g h : Heap} {gl news : Led} {L : Addr} {m : Str → Option Value} (K : GLk G G1 gl) (F : Fr g L h m) (S : G.StaysIn g) (N : News g L h news) (sub : ∀ p ∈ gl, p ∈ news) : G1.StaysIn h := fun b o e => by
  rcases K.2 b o e with q | q
  · exact F.keep b o (S b o q)
  · exact (N _ (sub _ q)).1
theorem off_gl {A : Around} {base G G1 g h : Heap} {gl news : Led} {L : Addr} {m : Str → Option Value} {env : Env} {outer : List Env} (K : GLk G G1 gl) (F : Fr g L h m) (S : G.StaysIn g) (N : News g L h news) (sub : ∀ p ∈ gl, p ∈ news) (OF : Off G (frsOf outer)) (B : Below A base outer g) (hf : env.frame = some L) : Off G1 (frsOf (env :: outer)) := fun b hb => by
  have OC := off_cons F S OF hf
  cases e : G1.get? b with
  | none => rfl
  | some o =>
    rcases K.2 b o e with q | q
    · rw [OC b hb] at q; cases q
    · have hn := N _ (sub _ q)
      obtain ⟨ev, he, hq⟩ := List.mem_filterMap.mp hb
      rcases List.mem_cons.mp he with rfl | he
      · rw [hf] at hq
        exact absurd (Option.some.inj hq).symm hn.2.1
      · obtain ⟨ob, hob⟩ := frs_in B b (List.mem_filterMap.mpr ⟨ev, he, hq⟩)
        have := hn.2.2
        rw [hob] at this; cases this
theorem rt_useG {k : Nat} {w : World} {f : Addr} {vs : List Value} {G G1 : Heap} {gl : Led} {Post : Heap → Heap → Value → Led → Prop} (C : RT k w f vs G1 [] Post) (K : GLk G G1 gl)
    {dp un : Nat} {gd : Option (List Code)} {cn : Str} {cs : Scope} {a : Addr} {ccd : Value} {cl : List (Str × Addr)} {outer : List Env} {A₀ : Around} {base h₀ : Heap} {L : Addr} {m mg mb : Str → Option Value} {mean : ExcName → Option Value}
    {hh : Heap} {gs : Array GenState} {dr : Drawn} {tk : Nat} {os : OsState} {Q E : Value → Shared → Prop} {news : Led} (sub : ∀ p ∈ gl, p ∈ news)
    (B : Below A₀ base outer h₀) (F : Fr h₀ L hh m) (X : (hd.heap_39 w.params).In h₀) (T : TopH mean mg mb h₀) (XB : (hd.heap_39 w.params).In base) (TB : TopH mean mg mb base) (N : News h₀ L hh news) (S : G.StaysIn h₀) (OF : Off G (frsOf outer))
    (hk : cs.kind = .function) (hdp : dp + k < recursionLimit) (hu : un + 8 * k < cLine)
    (ret : ∀ r h' tk' g', KtsTurn (frsOf outer) h₀ g' → Fr g' L h' m → Below A₀ base outer g' → (hd.heap_39 w.params).In g' → TopH mean mg mb g' → News g' L h' news → G.StaysIn g' → Post hh h' r [] → Q r ⟨h', gs, dr, tk', os⟩) :
    wpAny (model PySem.Challenge.rw_on0261_01.row.prog w) (ktrTop dp un gd cn cs L a ccd cl outer) (call (.ref f) vs) Q E ⟨hh, gs, dr, tk, os⟩ := by
  refine C dp un gd cn cs a ccd cl outer A₀ base h₀ L m mg mb mean ⟨hh, gs, dr, tk, os⟩ Q E B F X T XB TB (fun _ hp => nomatch hp) (fun _ hb => nomatch hb) (off_gl K F S N sub OF B rfl) hk hdp hu (stay_gl K F S N sub) ⟨fun r h' tk' g' mu' T' F' B' X' P' N' hmu K P => ?_⟩
  have hz : mu' = [] := List.map_eq_nil_iff.mp hmu
  subst hz
  exact ret r h' tk' g' T' F' B' X' P' (news_turn F N T' K (frs_in B)) (off_turn S OF T') P
theorem getGL {prog : Program} {w : World} {A : Around} {hh g G1 : Heap} {L : Addr} {m : Str → Option Value} {gs : Array GenState} {dr : Drawn} {tk : Nat} {os : OsState} {E : Value → Shared → Prop} {K : Frag} {x C : Addr} {fs : List (Str × Value)} {name : Str} {v : Value} {expr : Bool} {Q : Value → Shared → Prop}
    (F : Fr g L hh m) (X : K.In g) (I : Fld G1 x C fs) (S : G1.StaysIn hh) (hc : ClsOk K C name) (hv : fs.lookup name = some v) (h : Q v ⟨hh, gs, dr, tk + 1, os⟩) :
    wpAny (model prog w) A (getAttr (.ref x) name expr) Q E ⟨hh, gs, dr, tk, os⟩ := getH (X.keeps F.keep) (I.keep S) hc hv h
inductive DeckG (dk l : Addr) (od ol : Obj) (gl : Led) : Led → (Obj → Obj → Led) → Prop
  | here : (∀ p ∈ gl, @Ne Nat p.1 dk ∧ @Ne Nat p.1 l) → DeckG dk l od ol gl ((dk, od) :: (l, ol) :: gl) (fun a b => (dk, a) :: (l, b) :: gl)
  | there {p : Addr × Obj} {news : Led} {g : Obj → Obj → Led} : @Ne Nat p.1 dk → @Ne Nat p.1 l → DeckG dk l od ol gl news g → DeckG dk l od ol gl (p :: news) (fun a b => p :: g a b)
theorem DeckG.news {dk l : Addr} {od ol : Obj} {gl news : Led} {g : Obj → Obj → Led} (U : DeckG dk l od ol gl news g) {h₀ h h' : Heap} {L : Addr} {a b : Obj} (N : News h₀ L h news) (K : Keep [dk, l] h h') (N' : News h₀ L h' [(dk, a), (l, b)]) : News h₀ L h' (g a b) := by
  have go : ∀ p : Addr × Obj, @Ne Nat p.1 dk → @Ne Nat p.1 l → h.get? p.1 = some p.2 → h'.get? p.1 = some p.2 := fun p h1 h2 e => K _ _ e fun hm => by
    rcases List.mem_cons.mp hm with z | hm
    · exact h1 z
    · exact h2 (List.mem_singleton.mp hm)
  induction U with
  | here hg =>
    intro p hp
    rcases List.mem_cons.mp hp with rfl | hp
    · exact N' _ (.head _)
    rcases List.mem_cons.mp hp with rfl | hp
    · exact N' _ (.tail _ (.head _))
    · obtain ⟨x1, x2, x3⟩ := N _ (.tail _ (.tail _ hp))
      exact ⟨go _ (hg _ hp).1 (hg _ hp).2 x1, x2, x3⟩
  | there h1 h2 _ ih =>
    intro p hp
    rcases List.mem_cons.mp hp with rfl | hp
    · obtain ⟨x1, x2, x3⟩ := N _ (.head _)
      exact ⟨go _ h1 h2 x1, x2, x3⟩
    · exact ih (fun q hq => N q (.tail _ hq)) p hp
theorem DeckG.deck {dk l : Addr} {od ol : Obj} {gl news : Led} {g : Obj → Obj → Led} (U : DeckG dk l od ol gl news g) {h₀ h : Heap} {L : Addr} (N : News h₀ L h news) : News h₀ L h [(dk, od), (l, ol)] := by
  induction U with
  | here _ => exact fun p hp => N p (by
      rcases List.mem_cons.mp hp with rfl | hp
      · exact .head _
      · rw [List.mem_singleton.mp hp]; exact .tail _ (.head _))
  | there _ _ _ ih => exact ih fun q hq => N q (.tail _ hq)
theorem draw_useG {w : World} {dk l : Addr} {od ol : Obj} {many : Int} {tm : Tok} {gl news : Led} {g : Obj → Obj → Led}
    {dp un : Nat} {gd : Option (List Code)} {cn : Str} {cs : Scope} {a : Addr} {ccd : Value} {cl : List (Str × Addr)} {outer : List Env} {A₀ : Around} {base h₀ : Heap} {L : Addr} {m mg mb : Str → Option Value} {mean : ExcName → Option Value}
    {hh : Heap} {gs : Array GenState} {dr : Drawn} {tk : Nat} {os : OsState} {Q E : Value → Shared → Prop}
    (D : DkOk w dk l od ol) (hlt : l < dk) (hm : 1 ≤ many ∧ many ≤ 100)
    (B : Below A₀ base outer h₀) (F : Fr h₀ L hh m) (X : (hd.heap_39 w.params).In h₀)
    (T : Top hd.view_39 (looseW hd.view_39 [Str.ofString "PostError", Str.ofString "THING_TYPES", Str.ofString "Thing", Str.ofString "name"]) mean mg mb h₀)
    (N : News h₀ L hh news) (U : DeckG dk l od ol gl news g)
    (hk : cs.kind = .function) (hdp : dp + 6 < recursionLimit) (hu : un + 8 * 6 < cLine)
    (ret : ∀ i t h' tk' od' ol', Fr h₀ L h' m → News h₀ L h' (g od' ol') → DkOk w dk l od' ol' → Keep [dk, l] hh h' → 0 ≤ i → i < many → Q (.int i t) ⟨h', gs, dr, tk', os⟩) :
    wpAny (model PySem.Challenge.rw_on0261_01.row.prog w) (ktrTop dp un gd cn cs L a ccd cl outer) (call (.ref 384) [.ref dk, .int many tm]) Q E ⟨hh, gs, dr, tk, os⟩ := by
  refine law_draw_c w noH dk l od ol many tm hm hlt D dp un gd cn cs a ccd cl outer A₀ base h₀ L m mg mb mean ⟨hh, gs, dr, tk, os⟩ Q E B F X T (U.deck N) (fun b _ => noH_get b) hk hdp hu (noH_in _) ⟨fun r h' tk' mu' F' N' hmu K P => ?_⟩
  obtain ⟨⟨i, t, rfl, b1, b2⟩, od', ol', rfl, D'⟩ := P
  exact ret i t h' tk' od' ol' F' (U.news N K N') D' K b1 b2
theorem W.drawG {i : FI} {w : World} {C : Cx i w} {g h : Heap} {tk k : Nat} {m : Str → Option Value} {dk l : Addr} {od ol : Obj} {many : Int} {tm : Tok} {gl news : Led} {gf : Obj → Obj → Led} {Q : Value → Heap → Nat → Prop}
    (D : DkOk w dk l od ol) (hlt : l < dk) (hm : 1 ≤ many ∧ many ≤ 100) (K : Ok C g k) (F : Fr g C.L h m) (N : News g C.L h news) (U : DeckG dk l od ol gl news gf) (hk : 6 ≤ k) (hf : i.scope.kind = .function)
    (ret : ∀ i t h' tk' od' ol', Fr g C.L h' m → News g C.L h' (gf od' ol') → DkOk w dk l od' ol' → Keep [dk, l] h h' → 0 ≤ i → i < many → Q (.int i t) h' tk') : W C h tk (call (.ref 384) [.ref dk, .int many tm]) Q :=
  draw_useG D hlt hm K.B F K.X K.T N U hf (lt_add K.d hk) (lt_add K.u (Nat.le_trans (Nat.mul_le_mul_left 8 hk) (Nat.le_add_right _ _))) fun i t h' tk' od' ol' a b c d e f => Lf.go (ret i t h' tk' od' ol' a b c d e f)
theorem W.rtG {i : FI} {w : World} {C : Cx i w} {g h : Heap} {tk kn : Nat} {m : Str → Option Value} {f : Addr} {vs : List Value} {kk : Nat} {G G1 : Heap} {gl news : Led} {P : Heap → Heap → Value → Led → Prop} {Q : Value → Heap → Nat → Prop} (c : RT kk w f vs G1 [] P) (GK : GLk G G1 gl) (sub : ∀ p ∈ gl, p ∈ news)
    (K : Ok C g kn) (KB : OkB C) (F : Fr g C.L h m) (N : News g C.L h news) (S : G.StaysIn g) (OF : Off G (frsOf C.outer)) (hk : kk ≤ kn) (hf : i.scope.kind = .function)
    (ret : ∀ r h' tk' g', KtsTurn (frsOf C.outer) g g' → Fr g' C.L h' m → Ok C g' kn → News g' C.L h' news → G.StaysIn g' → P h h' r [] → Q r h' tk') : W C h tk (call (.ref f) vs) Q :=
  rt_useG c GK sub K.B F K.X K.T KB.X KB.T N S OF hf (lt_add K.d hk) (lt_add K.u (Nat.le_trans (Nat.mul_le_mul_left 8 hk) (Nat.le_add_right _ _))) fun r h' tk' g' T' F' B' X' P' N' S' p => Lf.go (ret r h' tk' g' T' F' ⟨B', X', P', K.d, K.u⟩ N' S' p)
theorem W.rtG_v {i : FI} {w : World} {C : Cx i w} {g h : Heap} {tk kn : Nat} {m : Str → Option Value} {f : Addr} {vs : List Value} {kk : Nat} {G G1 : Heap} {gl news : Led} {Q : Value → Heap → Nat → Prop} {v : Value} (c : RT kk w f vs G1 [] (fun _ _ r _ => r = v)) (GK : GLk G G1 gl) (sub : ∀ p ∈ gl, p ∈ news)
    (K : Ok C g kn) (KB : OkB C) (F : Fr g C.L h m) (N : News g C.L h news) (S : G.StaysIn g) (OF : Off G (frsOf C.outer)) (hk : kk ≤ kn) (hf : i.scope.kind = .function)
    (ret : ∀ h' tk' g', KtsTurn (frsOf C.outer) g g' → Fr g' C.L h' m → Ok C g' kn → News g' C.L h' news → G.StaysIn g' → Q v h' tk') : W C h tk (call (.ref f) vs) Q :=
  W.rtG c GK sub K KB F N S OF hk hf fun r h' tk' g' s1 s2 s3 s4 s5 p => by rw [p]; exact ret h' tk' g' s1 s2 s3 s4 s5
theorem W.rtG_t {i : FI} {w : World} {C : Cx i w} {g h : Heap} {tk kn : Nat} {m : Str → Option Value} {f : Addr} {vs : List Value} {kk : Nat} {G G1 : Heap} {gl news : Led} {Q : Value → Heap → Nat → Prop} {fv : Tok → Value} (c : RT kk w f vs G1 [] (fun _ _ r _ => ∃ t, r = fv t)) (GK : GLk G G1 gl) (sub : ∀ p ∈ gl, p ∈ news)
    (K : Ok C g kn) (KB : OkB C) (F : Fr g C.L h m) (N : News g C.L h news) (S : G.StaysIn g) (OF : Off G (frsOf C.outer)) (hk : kk ≤ kn) (hf : i.scope.kind = .function)
    (ret : ∀ t h' tk' g', KtsTurn (frsOf C.outer) g g' → Fr g' C.L h' m → Ok C g' kn → News g' C.L h' news → G.StaysIn g' → Q (fv t) h' tk') : W C h tk (call (.ref f) vs) Q :=
  W.rtG c GK sub K KB F N S OF hk hf fun r h' tk' g' s1 s2 s3 s4 s5 p => by obtain ⟨t, p⟩ := p; rw [p]; exact ret t h' tk' g' s1 s2 s3 s4 s5
theorem W.rtG_e0 {i : FI} {w : World} {C : Cx i w} {g h : Heap} {tk kn : Nat} {m : Str → Option Value} {f : Addr} {vs : List Value} {kk : Nat} {G G1 : Heap} {gl news : Led} {Q : Value → Heap → Nat → Prop} {P : Heap → Heap → Addr → Prop} (c : RT kk w f vs G1 [] (fun h h1 r _ => ∃ y, r = .ref y ∧ P h h1 y)) (GK : GLk G G1 gl) (sub : ∀ p ∈ gl, p ∈ news)
    (K : Ok C g kn) (KB : OkB C) (F : Fr g C.L h m) (N : News g C.L h news) (S : G.StaysIn g) (OF : Off G (frsOf C.outer)) (hk : kk ≤ kn) (hf : i.scope.kind = .function)
    (ret : ∀ y h' tk' g', KtsTurn (frsOf C.outer) g g' → Fr g' C.L h' m → Ok C g' kn → News g' C.L h' news → G.StaysIn g' → P h h' y → Q (.ref y) h' tk') : W C h tk (call (.ref f) vs) Q :=
  W.rtG c GK sub K KB F N S OF hk hf fun r h' tk' g' s1 s2 s3 s4 s5 p => by obtain ⟨y, e, p⟩ := p; rw [e]; exact ret y h' tk' g' s1 s2 s3 s4 s5 p
noncomputable def newsOf (h h1 : Heap) : Led := (List.range h1.objs.size).filterMap fun b => if (h.get? b).isNone then (h1.get? b).map fun o => (b, o) else none
theorem newsOf_mem {h h1 : Heap} {b : Addr} {o : Obj} (e : h.get? b = none) (e1 : h1.get? b = some o) : (b, o) ∈ newsOf h h1 :=
  List.mem_filterMap.mpr ⟨b, List.mem_range.mpr (Heap.lt_size e1), by rw [e, e1]; rfl⟩
theorem newsOf_of {h h1 : Heap} {p : Addr × Obj} (hm : p ∈ newsOf h h1) : h.get? p.1 = none ∧ h1.get? p.1 = some p.2 := by
  obtain ⟨b, _, e⟩ := List.mem_filterMap.mp hm
  cases hn : h.get? b with
  | some o => rw [hn] at e; cases e
  | none =>
    rw [hn] at e
    cases h2 : h1.get? b with
    | none => rw [h2] at e; cases e
    | some o =>
      rw [h2] at e
      cases e
      exact ⟨hn, h2⟩
theorem fld_pick {G h1 : Heap} {gl : Led} {y d C : Addr} {es : List DictEntry} {n : Nat} {fs : List (Str × Value)} {g : Heap} {L : Addr} {news : Led} (N : News g L h1 news) (h1' : (y, instObj C d) ∈ news) (h2' : (d, dictOf es n) ∈ news) (m1 : (y, instObj C d) ∈ gl) (m2 : (d, dictOf es n) ∈ gl)
    (q : ∀ p ∈ fs, getL p.1 es = some (some p.2) ∧ handedIn p.2 = true) : Fld (pick G h1 gl) y C fs := ⟨_, d, es, n, pick_new m1 (N.get h1'), pick_new m2 (N.get h2'), q⟩
noncomputable def St (w : World) (A₁ : Around) (base : Heap) (outer : List Env) (mean : ExcName → Option Value) (mg mb : Str → Option Value) (g : Heap) (L : Addr) (s : Shared) (G : Heap) (dk l : Addr) (gl : Led) (mp : (Str → Option Value) → Prop) (s' : Shared) : Prop :=
  ∃ (h' : Heap) (tk' : Nat) (g' : Heap) (od' ol' : Obj) (m' : Str → Option Value), s' = { s with heap := h', toks := tk' } ∧ mp m' ∧ KtsTurn (frsOf outer) g g' ∧ Fr g' L h' m' ∧ Below A₁ base outer g' ∧ (hd.heap_39 w.params).In g' ∧ TopH mean mg mb g' ∧ G.StaysIn g' ∧ News g' L h' ((dk, od') :: (l, ol') :: gl) ∧ DkOk w dk l od' ol'
theorem news_st {g h : Heap} {L : Addr} {p q : Addr × Obj} {gl news : Led} (N : News g L h news) (h1 : p ∈ news) (h2 : q ∈ news) (h3 : ∀ x ∈ gl, x ∈ news) : News g L h (p :: q :: gl) := fun x hx => by
  rcases List.mem_cons.mp hx with rfl | hx
  · exact N _ h1
  rcases List.mem_cons.mp hx with rfl | hx
  · exact N _ h2
  · exact N _ (h3 _ hx)
theorem getC {g h : Heap} {L : Addr} {news gl : Led} (N : News g L h news) (sub : ∀ p ∈ gl, p ∈ news) : ∀ p ∈ gl, h.get? p.1 = some p.2 := fun p hp => (N _ (sub p hp)).1
end Mine
end
section
namespace Mine
open PySem.Spec PySem.Calls
theorem drop_int {a q : Int} (hq : 0 ≤ q) (ha : 0 ≤ a) : (a + q).toNat - a.toNat = q.toNat := by rw [Int.toNat_add ha hq, Nat.add_sub_cancel_left]
theorem clip_in {n : Nat} {i : Int} (h0 : 0 ≤ i) (h1 : i ≤ n) : clipAt n i = i.toNat := by
  unfold clipAt
  rw [if_neg (Int.not_lt.mpr h0), Int.min_eq_left h1, Int.max_eq_right h0]
theorem le_part {a q n : Int} (hq : 0 ≤ q) (h : a + q ≤ n) : a ≤ n := Int.le_trans (Int.le_add_of_nonneg_right hq) h
theorem idx_lt {a q i : Int} {n : Nat} (ha : 0 ≤ a) (h0 : 0 ≤ i) (h : a + q ≤ n) (h1 : i < q) : a.toNat + i.toNat < n := by
  rw [← Int.toNat_add ha h0]
  exact (Int.toNat_lt (Int.add_nonneg ha h0)).mpr (Int.lt_of_lt_of_le (Int.add_lt_add_left h1 a) h)
theorem nat_lt {i q : Int} (h0 : 0 ≤ i) (h1 : i < q) : i.toNat < q.toNat := (Int.toNat_lt_toNat (Int.lt_of_le_of_lt h0 h1)).mpr h1
theorem three : ∀ {k : Int}, 0 ≤ k → k < 3 → k = 0 ∨ k = 1 ∨ k = 2
  | .ofNat 0, _, _ => .inl rfl
  | .ofNat 1, _, _ => .inr (.inl rfl)
  | .ofNat 2, _, _ => .inr (.inr rfl)
  | .ofNat (n + 3), _, h => absurd (Int.ofNat_lt.mp h) (Nat.not_lt.mpr (Nat.le_add_left 3 n))
  | .negSucc _, h, _ => nomatch h
theorem bounds_nat {n : Nat} {a q : Int} (ha : 0 ≤ a) (hq : 0 ≤ q) (h : a + q ≤ n) : sliceBounds (some a) (some (a + q)) none n = ((a.toNat : Int), ((a + q).toNat : Int), 1) := by
  rw [sliceBounds_plain]
  have e1 := clip_in ha (le_part hq h)
  have e2 := clip_in (Int.add_nonneg ha hq) h
  show (((clipAt n a : Nat) : Int), ((clipAt n (a + q) : Nat) : Int), 1) = _
  rw [e1, e2]
theorem pick_nat (xs : List Value) {a q : Int} (ha : 0 ≤ a) (hq : 0 ≤ q) (h : a + q ≤ xs.length) : slicePick xs.toArray (some a) (some (a + q)) none = ((xs.drop a.toNat).take q.toNat).toArray := by
  rw [kmk_pick_nat xs.toArray (a := a.toNat) (b := (a + q).toNat) (bounds_nat ha hq (by simpa using h)), drop_int hq ha]
theorem pick_bytes (b : Array UInt8) {a q : Int} (ha : 0 ≤ a) (hq : 0 ≤ q) (h : a + q ≤ b.size) : KBy.picked b (some a) (some (a + q)) = ((b.toList.drop a.toNat).take q.toNat).toArray := by
  rw [KBc.picked_eq]
  have e1 := clip_in ha (le_part hq h)
  have e2 := clip_in (Int.add_nonneg ha hq) h
  show ((b.toList.drop (clipAt b.size a)).take (clipAt b.size (a + q) - clipAt b.size a)).toArray = _
  rw [e1, e2, drop_int hq ha]
noncomputable def byteNs (b : Array UInt8) : List Int := b.toList.map fun c => ((c.toNat : Nat) : Int)
theorem byte_rt (c : UInt8) : ((c.toNat : Nat) : Int).toNat.toUInt8 = c := by
  rw [Int.toNat_natCast]
  exact UInt8.ofNat_toNat
theorem bytes_rt (l : List UInt8) : (l.map fun c => ((c.toNat : Nat) : Int)).map (fun n => n.toNat.toUInt8) = l := by
  rw [List.map_map]
  conv => rhs; rw [← List.map_id l]
  exact List.map_congr_left fun c _ => byte_rt c
theorem byte_in (l : List UInt8) : ∀ n ∈ l.map fun c => ((c.toNat : Nat) : Int), 0 ≤ n ∧ n < 256 := fun n hn => by
  obtain ⟨c, _, rfl⟩ := List.mem_map.mp hn
  have := c.toNat_lt
  omega
theorem ints_drop {vs : List Value} {ns : List Int} (h : IntsAre vs ns) (k : Nat) : IntsAre (vs.drop k) (ns.drop k) := by
  induction h generalizing k with
  | nil => simpa using IntsAre.nil
  | cons n t h ih =>
    cases k with
    | zero => exact .cons n t h
    | succ k => simpa using ih k
theorem ints_take {vs : List Value} {ns : List Int} (h : IntsAre vs ns) (k : Nat) : IntsAre (vs.take k) (ns.take k) := by
  induction h generalizing k with
  | nil => simpa using IntsAre.nil
  | cons n t h ih =>
    cases k with
    | zero => simpa using IntsAre.nil
    | succ k => simpa using .cons n t (ih k)
theorem ints_len {vs : List Value} {ns : List Int} (h : IntsAre vs ns) : vs.length = ns.length := by induction h with | nil => rfl | cons _ _ _ ih => simp [ih]
theorem ints_get {vs : List Value} {ns : List Int} (h : IntsAre vs ns) {i : Nat} (hi : i < ns.length) : ∃ t, vs.getD i .none = .int (ns.getD i 0) t := by
  induction h generalizing i with
  | nil => cases hi
  | cons n t h ih =>
    cases i with
    | zero => exact ⟨t, rfl⟩
    | succ i => simpa using ih (by simpa using hi)
theorem ints_of : ∀ (ns : List Int) (vs : List Value), vs.length = ns.length → (∀ (j : Nat) (v : Value), vs[j]? = some v → ∃ t, v = Value.int (ns.getD j 0) t) → IntsAre vs ns
  | [], [], _, _ => .nil
  | [], _ :: _, h, _ => by cases h
  | _ :: _, [], h, _ => by cases h
  | n :: ns, v :: vs, h, k => by
    obtain ⟨t, rfl⟩ := k 0 v rfl
    exact .cons n t (ints_of ns vs (by simpa using h) fun j v hv => by
      obtain ⟨t, e⟩ := k (j + 1) v (by simpa using hv)
      exact ⟨t, by simpa using e⟩)
theorem ints_R {vs : List Value} {ns : List Int} (h : IntsAre vs ns) : AllR (ns.map .int) vs := by
  induction h with
  | nil => exact .nil
  | cons n t h ih => exact .cons ⟨t, rfl⟩ ih
theorem ints_its {h : Heap} {vs : List Value} {ns : List Int} (k : IntsAre vs ns) : ItsR h (ns.map fun n => It.at (.int n)) vs := by
  induction k with
  | nil => exact .nil
  | cons n t k ih => exact .cons (a := .at (.int n)) ⟨t, rfl⟩ ih
section
variable {prog : Program} {w : World} {A : Around} {E : Value → Shared → Prop} {hh g G : Heap} {L : Addr} {m : Str → Option Value} {news : Led} {gs : Array GenState} {dr : Drawn} {tk : Nat} {os : OsState} {Q : Value → Shared → Prop}
theorem list_baG {a : Addr} {b : Array UInt8} (hd : A.handled = none) (F : Fr g L hh m) (N : News g L hh news) (S : G.StaysIn hh) (I : BArr G a b) (hz : b.size ≤ sizeLine)
    (q : ∀ D h' k vs n, Fr g L h' m → News g L h' ((D, W.listOf (List.toArray vs) n) :: news) → hh.get? D = none → IntsAre vs (byteNs b) → Q (.ref D) ⟨h', gs, dr, k, os⟩) :
    wpAny (model prog w) A (call (.type "list") [.ref a]) Q E ⟨hh, gs, dr, tk, os⟩ := by
  refine list_ba (s := ⟨hh, gs, dr, tk, os⟩) hd (I.keep S) hz fun h' k acc' c' hk hS hacc => ?_
  have hn : hh.get? hh.objs.size = none := Heap.get?_none_of_le (Nat.le_refl _)
  refine q _ h' k acc'.toList c' (F.keeps hk) (fun p hp => ?_) hn (ints_of _ _ (by rw [Array.length_toList, hacc.1]; simp [byteNs]) fun j v hv => ?_)
  · rcases List.mem_cons.mp hp with rfl | hp
    · exact ⟨by rw [Array.toArray_toList]; exact hS, fr_ne F hn, fresh_of F.keep hn⟩
    · exact ⟨hk _ _ (N p hp).1, (N p hp).2⟩
  · obtain ⟨c, t, hc, rfl⟩ := hacc.2 j v (by simpa using hv)
    have hj : b.toList[j]? = some c := by simpa using hc
    exact ⟨t, by simp [byteNs, List.getD_eq_getElem?_getD, hc]⟩
theorem bytes_lnG {D : Addr} {vs : List Value} {ns : List Int} (hd : A.handled = none) (F : Fr g L hh m) (N : News g L hh news) (S : G.StaysIn hh) (I : G.IsList D vs.toArray) (hi : IntsAre vs ns) (hr : ∀ n ∈ ns, 0 ≤ n ∧ n < 256) (hz : vs.length ≤ sizeLine)
    (q : ∀ h' t k, Fr g L h' m → News g L h' news → Q (.bytes (ns.map fun n => n.toNat.toUInt8).toArray t) ⟨h', gs, dr, k, os⟩) : wpAny (model prog w) A (call (.type "bytes") [.ref D]) Q E ⟨hh, gs, dr, tk, os⟩ :=
  bytes_K (s := ⟨hh, gs, dr, tk, os⟩) F N (IsL_of I S) hi hr hz hd fun h' t k F' N' _ => q h' t k F' N'
end
noncomputable def CellsL (G : Heap) (l : List (Addr × Int)) : Prop := ∀ p ∈ l, ∃ u k a, ThF G p.1 (Str.ofString "integer") (.int p.2 u) false 3 k a
theorem CellsL.keep {G h : Heap} {l : List (Addr × Int)} (S : G.StaysIn h) (C : CellsL G l) : CellsL h l := fun p hp => let ⟨u, k, a, I⟩ := C p hp; ⟨u, k, a, I.keep S⟩
theorem CellsL.sub {G : Heap} {l l' : List (Addr × Int)} (C : CellsL G l) (S : ∀ p ∈ l', p ∈ l) : CellsL G l' := fun p hp => C p (S p hp)
theorem paired_cells {G : Heap} {R : Value → Value → Prop} (hR : ∀ v r, R v r → ∃ z n u k a, v = .ref z ∧ ThF G z (Str.ofString "integer") (.int n u) false 3 k a ∧ r = .int n u) :
    ∀ (l : List (Addr × Int)) (ys : List Value), CellsL G l → Paired R (l.map fun p => .ref p.1) ys → IntsAre ys (l.map (·.2))
  | [], ys, _, h => by cases h; exact .nil
  | p :: l, ys, C, h => by
    cases h with
    | cons h1 h2 =>
      obtain ⟨z, n, u, k, a, e, I, rfl⟩ := hR _ _ h1
      cases e
      obtain ⟨u', k', a', J⟩ := C p (.head _)
      have q : Value.int n u = .int p.2 u' := Fld.inj I J (.tail _ (.head _)) (.tail _ (.head _))
      injection q with q1 q2
      rw [List.map_cons, ← q1]
      exact .cons n u (paired_cells hR l _ (fun p hp => C p (.tail _ hp)) h2)
section
variable {prog : Program} {w : World} {A : Around} {E : Value → Shared → Prop} {s₁ : Shared} {h₀ : Heap} {L : Addr} {m : Str → Option Value} {news : List (Addr × Obj)}
theorem compL_list {env : Env} {elt : PySem.Expr} {x : Str} {scope : Scope} {Q : Value → Shared → Prop} {l : Addr} {vs : List Value} (R : Value → Value → Prop)
    (hh : A.handled = none) (hl : s₁.heap.IsList l vs.toArray) (F : Fr h₀ L s₁.heap m) (N : News h₀ L s₁.heap news) (hsz : vs.length ≤ sizeLine)
    (el : ∀ C v s₃ m₃ E', v ∈ vs → s₃.heap.Ns C m₃ → m₃ x = some v → s₁.heap.StaysIn s₃.heap → wpAny (model prog w) A (eval elt (compEnv scope C env)) (fun r s₄ => R v r ∧ Keeps s₃ s₄) E' s₃)
    (g3 : ∀ D ys n h' tk, Fr h₀ L h' m → s₁.heap.StaysIn h' → News h₀ L h' ((D, W.listOf (List.toArray ys) n) :: news) → Paired R vs ys → Q (.ref D) { s₁ with heap := h', toks := tk }) :
    wpAny (model prog w) A (pyIter (.ref l)) (CompPost prog w A env scope x [] elt Q) E s₁ := by
  have hlt : l < s₁.heap.objs.size := by obtain ⟨_, e, _⟩ := hl; exact Heap.lt_size e
  refine wpAny_pyIter_list hl ?_
  refine ⟨fun _ => true, R, s₁.heap.objs.size, [s₁.heap.objs.size, l], [s₁.heap.objs.size], vs.toArray.size, _, _, rfl, Walks.list hh _ l (Nat.ne_of_lt hlt) vs.toArray, (by rw [List.size_toArray]; exact hsz),
    ⟨⟨_, Heap.get?_push_size _ rfl, rfl, rfl⟩, hl.at fun o e => Heap.get?_push_of_some _ e⟩, ?_, ⟨?_, ?_⟩, ?_⟩
  · intro b hb
    show b < (s₁.heap.push _).objs.size
    rw [Heap.size_push]
    rcases List.mem_cons.mp hb with rfl | hb
    · exact Nat.lt_succ_self _
    · rw [List.mem_singleton.mp hb]; exact Nat.lt_succ_of_lt hlt
  · intro C i v s₃ m₃ E' hP hn hm _ htk
    exact wpAny_pure ⟨rfl, s₃.heap, s₃.toks, rfl, fun _ _ e => e⟩
  · intro C i v s₃ m₃ E' hP hp' hn hm hk htk
    refine el C v s₃ m₃ E' ?_ hn hm fun b o e => hk b o (not_iter_of_old e) (Heap.get?_push_of_some _ e)
    have hP' : vs.toArray[i]? = some v := hP
    exact List.mem_of_getElem? (by simpa using hP')
  · intro D h' tk ys vs' hnew hlD hplD hlen hP hF hk
    have e' : vs' = vs := by simpa using walked_is hlen hP
    subst e'
    obtain ⟨n, hpl⟩ := hplD
    have hD : s₁.heap.get? D = none := by
      cases e : s₁.heap.get? D with
      | none => rfl
      | some o' => rw [Heap.get?_push_of_some _ e] at hnew; cases hnew
    have up : s₁.heap.StaysIn h' := fun b o' e => hk b o' (not_iter_of_old e) (Heap.get?_push_of_some _ e)
    refine g3 D ys.toList n h' tk (F.keeps up) up (fun p hp => ?_) (paired_all hF)
    rcases List.mem_cons.mp hp with rfl | hp
    · refine ⟨by rw [Array.toArray_toList]; exact hpl, fr_ne F hD, fresh_of F.keep hD⟩
    · exact ⟨up _ _ (N p hp).1, (N p hp).2⟩
theorem comp_cells {G : Heap} {env : Env} {scope : Scope} {p1 p2 : Pos} {Q : Value → Shared → Prop} {l : Addr} {ls : List (Addr × Int)}
    (hh : A.handled = none) (hl : s₁.heap.IsList l (ls.map fun p => Value.ref p.1).toArray) (C : CellsL G ls) (S : G.StaysIn s₁.heap) (X : (hd.heap_39 w.params).In h₀) (F : Fr h₀ L s₁.heap m) (N : News h₀ L s₁.heap news) (hsz : ls.length ≤ 100)
    (hk : scope.kind = .function) (hx : ∀ C, (compEnv scope C env).kindOf "cell" = some .local)
    (g3 : ∀ D ys n h' tk, Fr h₀ L h' m → News h₀ L h' ((D, W.listOf (List.toArray ys) n) :: news) → IntsAre ys (ls.map (·.2)) → Q (.ref D) { s₁ with heap := h', toks := tk }) :
    wpAny (model prog w) A (pyIter (.ref l)) (CompPost prog w A env scope "cell" [] (.Attribute (.Name "cell" p1) "value" p2) Q) E s₁ := by
  have hc : ClsOk (hd.heap_39 w.params) 73 (Str.ofString "value") := cls_ok _ (_, _) (.tail _ (.head _))
  refine compL_list (fun v r => ∃ z n u k a, v = .ref z ∧ ThF G z (Str.ofString "integer") (.int n u) false 3 k a ∧ r = .int n u) hh hl F N (by rw [List.length_map, sizeLine_eq]; exact Nat.le_trans hsz (by decide)) ?_ ?_
  · intro K v s₃ m₃ E' hv hn hm hS
    obtain ⟨p, hp, rfl⟩ := List.mem_map.mp hv
    obtain ⟨u, k, a, I⟩ := C p hp
    obtain ⟨h3, gs3, dr3, tk3, os3⟩ := s₃
    exact attr_elt (by exact hk) (hx K) hn hm (by decide) ((X.keeps F.keep).keeps hS) ((I.keep S).keep hS) hc rfl ⟨⟨p.1, p.2, u, k, a, rfl, I, rfl⟩, h3, _, rfl, fun _ _ e => e⟩
  · intro D ys n h' tk F' _ N' hp
    exact g3 D ys n h' tk F' N' (paired_cells (fun _ _ h => h) ls ys C hp)
end
theorem grow1 {G G1 g h : Heap} {L y : Addr} {o : Obj} {a b : Addr × Obj} {gl news : Led} {m : Str → Option Value} (K : GLk G G1 gl) (F : Fr g L h m) (S : G.StaysIn g) (N : News g L h news) (hy : (y, o) ∈ news) (ha : a ∈ news) (hb : b ∈ news) (sub : ∀ p ∈ gl, p ∈ news) :
    ∃ G2, GLk G G2 ((y, o) :: gl) ∧ G1.StaysIn G2 ∧ G2.get? y = some o ∧ News g L h (a :: b :: (y, o) :: gl) := by
  have S1 := stay_gl K F S N sub
  have N1 : ∀ p ∈ [(y, o)], h.get? p.1 = some p.2 := fun p hp => by rw [List.mem_singleton.mp hp]; exact N.get hy
  refine ⟨pick G1 h [(y, o)], glk_grow K S1 N1, pick_old S1, pick_new (.head _) (N.get hy), fun x hx => ?_⟩
  rcases List.mem_cons.mp hx with rfl | hx
  · exact N _ ha
  rcases List.mem_cons.mp hx with rfl | hx
  · exact N _ hb
  rcases List.mem_cons.mp hx with rfl | hx
  · exact N _ hy
  · exact N _ (sub _ hx)
theorem grow1_k {R : Prop} {G G1 g h : Heap} {L y : Addr} {o : Obj} {a b : Addr × Obj} {gl news : Led} {m : Str → Option Value} (K : GLk G G1 gl) (F : Fr g L h m) (S : G.StaysIn g) (N : News g L h news) (hy : (y, o) ∈ news) (ha : a ∈ news) (hb : b ∈ news) (sub : ∀ p ∈ gl, p ∈ news) (k : ∀ G2, GLk G G2 ((y, o) :: gl) → G1.StaysIn G2 → G2.get? y = some o → News g L h (a :: b :: (y, o) :: gl) → R) : R := by
  obtain ⟨G2, a1, a2, a3, a4⟩ := grow1 K F S N hy ha hb sub
  exact k G2 a1 a2 a3 a4
theorem ne_get {h : Heap} {y dk : Addr} {o : Obj} (e : h.get? y = none) (k : h.get? dk = some o) : @Ne Nat y dk := fun z => by rw [show y = dk from z, k] at e; cases e
theorem ne_cons {y dk l : Addr} {o : Obj} {gl : Led} (a : @Ne Nat y dk) (b : @Ne Nat y l) (k : ∀ z ∈ gl, @Ne Nat z.1 dk ∧ @Ne Nat z.1 l) : ∀ z ∈ (y, o) :: gl, @Ne Nat z.1 dk ∧ @Ne Nat z.1 l := fun z hz => by
  rcases List.mem_cons.mp hz with rfl | hz
  · exact ⟨a, b⟩
  · exact k z hz
section
variable {prog : Program} {w : World} {A : Around} {E : Value → Shared → Prop} {hh g G : Heap} {L : Addr} {m : Str → Option Value} {news : Led} {gs : Array GenState} {dr : Drawn} {tk : Nat} {os : OsState} {Q : Value → Shared → Prop}
theorem slice_lnN {value slice : PySem.Expr} {l : Addr} {vs : List Value} {ns : List Int} {x u : Value} {a b q : Int} (F : Fr g L hh m) (N : News g L hh news) (S : G.StaysIn hh) (I : G.IsList l vs.toArray) (hi : IntsAre vs ns) (pl : IsPart x (some a)) (pu : IsPart u (some b)) (hb : b = a + q) (ha : 0 ≤ a) (hq : 0 ≤ q) (hl : a + q ≤ ns.length) (hz : ns.length ≤ 100)
    (h : ∀ D h' vs' o n, Fr g L h' m → News g L h' ((D, o) :: news) → hh.get? D = none → o.cls = .type "list" → o.data = .seq (List.toArray vs') n → IntsAre vs' ((ns.drop a.toNat).take q.toNat) → Q (.ref D) ⟨h', gs, dr, tk, os⟩)
    (hs : subscripted slice false (.ref l) (.ref hh.objs.size) = operate [.ref hh.objs.size, .ref l] (getItem (.ref l) (.ref hh.objs.size)) := by with_unfolding_all rfl) (ht : ∀ r, letTemporaryGo value (.ref l) r = pure () := by intro _; with_unfolding_all rfl) :
    wpAny (model prog w) A (subscriptTail value slice (.ref l) (.ref hh.objs.size)) Q E ⟨hh.push { cls := .type "slice", data := .fields #[x, u, .none] }, gs, dr, tk, os⟩ := by
  subst hb
  refine slice_lnL F S I pl pu (by rw [List.size_toArray, ints_len hi, sizeLine_eq]; omega) (fun D h' F' S' B => ?_) hs ht
  obtain ⟨B1, o, B2, B3, n, B4⟩ := B
  rw [pick_nat vs ha hq (by rw [ints_len hi]; exact hl)] at B4
  refine h D h' _ o n F' (fun p hp => ?_) B1 B3 B4 (ints_take (ints_drop hi _) _)
  rcases List.mem_cons.mp hp with rfl | hp
  · exact ⟨B2, fr_ne F B1, fresh_of F.keep B1⟩
  · exact ⟨S' _ _ (N p hp).1, (N p hp).2⟩
theorem item_intsG {value slice : PySem.Expr} {D : Addr} {vs : List Value} {ns : List Int} {k : Int} {u : Tok} (S : G.StaysIn hh) (I : G.IsList D vs.toArray) (hi : IntsAre vs ns) (h0 : 0 ≤ k) (h1 : k < ns.length) (hz : ns.length ≤ 100) (h : ∀ t, Q (.int (ns.getD k.toNat 0) t) ⟨hh, gs, dr, tk, os⟩)
    (hs : subscripted slice false (.ref D) (.int k u) = operate [.ref D, .int k u] (getItem (.ref D) (.int k u)) := by with_unfolding_all rfl) :
    wpAny (model prog w) A (subscriptTail value slice (.ref D) (.int k u)) Q E ⟨hh, gs, dr, tk, os⟩ := by
  have hl := ints_len hi
  refine item_lnL S I h0 (by rw [hl]; exact h1) (by rw [hl]; omega) ?_ hs
  obtain ⟨t, e⟩ := ints_get hi (i := k.toNat) (by omega)
  rw [e]
  exact h t
theorem ne_b_eq {b c : Array UInt8} {t u : Tok} (e : b = c) (q : Q (.bool false) ⟨hh, gs, dr, tk, os⟩) : wpAny (model prog w) A (compareOp .NotEq (.bytes b t) (.bytes c u)) Q E ⟨hh, gs, dr, tk, os⟩ := by
  subst e
  exact PySem.W.ne_bytes (by rw [bne_self_eq_false]; exact q)
end
theorem list_at {G : Heap} {c : Addr} {o : Obj} {vs : List Value} {n : Nat} (h : G.get? c = some o) (hc : o.cls = .type "list") (hd : o.data = .seq (List.toArray vs) n) : G.IsList c vs.toArray := ⟨o, h, hc, n, hd⟩
theorem TextH.keep' {G h : Heap} {bd : Addr} {g : Bool} (S : G.StaysIn h) (H : TextH G bd g) : TextH h bd g := by
  obtain ⟨ba, tn, D, b⟩ := H
  exact ⟨ba, tn, D.keep S, b.keep S⟩
theorem bytes_pick (b : Array UInt8) {a q : Int} (ha : 0 ≤ a) (hq : 0 ≤ q) (h : a + q ≤ b.size) : KBy.picked b (some a) (some (a + q)) = (((byteNs b).drop a.toNat).take q.toNat |>.map fun n => n.toNat.toUInt8).toArray := by
  rw [pick_bytes b ha hq h]
  unfold byteNs
  rw [← List.map_drop, ← List.map_take, bytes_rt]
theorem byteNs_len (b : Array UInt8) : (byteNs b).length = b.size := by simp [byteNs]
theorem byteNs_in (b : Array UInt8) (i j : Nat) : ∀ n ∈ ((byteNs b).drop i).take j, 0 ≤ n ∧ n < 256 := fun n hn => byte_in b.toList n (List.mem_of_mem_drop (List.mem_of_mem_take hn))
theorem byteNs_get (b : Array UInt8) {a q i : Int} (ha : 0 ≤ a) (hq : 0 ≤ q) (h : a + q ≤ b.size) (h0 : 0 ≤ i) (h1 : i < q) : (((byteNs b).drop a.toNat).take q.toNat).getD i.toNat 0 = (((b.toList.getD (a + i).toNat 0).toNat : Nat) : Int) := by
  have e := Int.toNat_add ha h0
  have hlt : a.toNat + i.toNat < b.toList.length := by rw [Array.length_toList]; exact idx_lt ha h0 h h1
  rw [List.getD_eq_getElem?_getD, List.getElem?_take, if_pos (nat_lt h0 h1), List.getElem?_drop, List.getD_eq_getElem?_getD, e]
  unfold byteNs
  rw [List.getElem?_map, List.getElem?_eq_getElem hlt]
  rfl
theorem RT.mono {k : Nat} {w : World} {f : Addr} {vs : List Value} {G : Heap} {mu : Led} {Post Post' : Heap → Heap → Value → Led → Prop} (C : RT k w f vs G mu Post) (hp : ∀ h h1 r mu', Post h h1 r mu' → Post' h h1 r mu') : RT k w f vs G mu Post' := by
  intro dp un gd cn cs a ccd cl outer A₀ base h₀ L m mg mb mean s Q E B F X T XB TB N OM OF hk hd hu S hret
  exact C dp un gd cn cs a ccd cl outer A₀ base h₀ L m mg mb mean s Q E B F X T XB TB N OM OF hk hd hu S ⟨fun r h' tk' g' mu' a1 a2 a3 a4 a5 a6 a7 a8 P => hret.out r h' tk' g' mu' a1 a2 a3 a4 a5 a6 a7 a8 (hp _ _ _ _ P)⟩
theorem t6_tok (w : World) (G : Heap) (t0 : Tok) (sp bd : Addr) (st mn : Int) (ts tm : Tok) (g0 : Bool) (p : Int) (t1 : Tok) (I : SpF G sp bd st mn ts tm) (hp : -1000 ≤ p ∧ p ≤ 1000) (hst : 0 ≤ st ∧ st + mn ≤ (octs g0).size) (H : TextH G bd g0) (hr : 0 ≤ p ∧ p < mn) :
    RT 18 w 419 [.int 6 t0, .ref sp, .int p t1] G [] (fun _ _ r _ => ∃ t, r = .int (((octs g0).toList.getD (st + p).toNat 0).toNat : Nat) t) :=
  (told6_t w G t0 sp bd st mn ts tm g0 p t1 I hp hst H).mono fun _ _ _ _ h => h.elim (·.2) fun h => absurd hr h.1
theorem t6_tbad (w : World) (G : Heap) (t0 : Tok) (sp bd : Addr) (st mn : Int) (ts tm : Tok) (g0 : Bool) (p : Int) (t1 : Tok) (I : SpF G sp bd st mn ts tm) (hp : -1000 ≤ p ∧ p ≤ 1000) (hst : 0 ≤ st ∧ st + mn ≤ (octs g0).size) (H : TextH G bd g0) (hr : ¬ (0 ≤ p ∧ p < mn)) :
    RT 18 w 419 [.int 6 t0, .ref sp, .int p t1] G [] (fun _ _ r _ => ∃ t, r = .bytes #[114, 97, 110, 103, 101, 99, 104, 101, 99, 107] t) :=
  (told6_t w G t0 sp bd st mn ts tm g0 p t1 I hp hst H).mono fun _ _ _ _ h => h.elim (fun h => absurd h.1 hr) (·.2)
theorem t6_rok (w : World) (G : Heap) (t0 : Tok) (sp bd : Addr) (st mn : Int) (ts tm : Tok) (g0 : Bool) (l c0 c1 c2 : Addr) (tn : Tok) (p : Int) (t1 : Tok) (I : SpF G sp bd st mn ts tm) (hp : -1000 ≤ p ∧ p ≤ 1000) (hst : 0 ≤ st ∧ st + mn ≤ 3) (H : RowH G bd g0) (D : Fld G bd 115 [(Str.ofString "number", .int (if g0 then 4 else 3) tn), (Str.ofString "things", .ref l), (Str.ofString "is_global", .bool g0)]) (hl : G.IsList l #[.ref c0, .ref c1, .ref c2]) (hr : 0 ≤ p ∧ p < mn) :
    RT 18 w 419 [.int 6 t0, .ref sp, .int p t1] G [] (fun _ _ r _ => ∃ c, r = .ref c ∧ [Value.ref c0, .ref c1, .ref c2].getD (st + p).toNat .none = .ref c) :=
  (told6_r w G t0 sp bd st mn ts tm g0 l c0 c1 c2 tn p t1 I hp hst H D hl).mono fun _ _ r _ h => h.elim (fun h => by
    rw [h.2]
    rcases three (Int.add_nonneg hst.1 hr.1) (Int.lt_of_lt_of_le (Int.add_lt_add_left hr.2 st) hst.2) with e | e | e <;> rw [e] <;> exact ⟨_, rfl, rfl⟩) fun h => absurd hr h.1
theorem t6_rbad (w : World) (G : Heap) (t0 : Tok) (sp bd : Addr) (st mn : Int) (ts tm : Tok) (g0 : Bool) (l c0 c1 c2 : Addr) (tn : Tok) (p : Int) (t1 : Tok) (I : SpF G sp bd st mn ts tm) (hp : -1000 ≤ p ∧ p ≤ 1000) (hst : 0 ≤ st ∧ st + mn ≤ 3) (H : RowH G bd g0) (D : Fld G bd 115 [(Str.ofString "number", .int (if g0 then 4 else 3) tn), (Str.ofString "things", .ref l), (Str.ofString "is_global", .bool g0)]) (hl : G.IsList l #[.ref c0, .ref c1, .ref c2]) (hr : ¬ (0 ≤ p ∧ p < mn)) :
    RT 18 w 419 [.int 6 t0, .ref sp, .int p t1] G [] (fun _ _ r _ => ∃ t, r = .bytes #[114, 97, 110, 103, 101, 99, 104, 101, 99, 107] t) :=
  (told6_r w G t0 sp bd st mn ts tm g0 l c0 c1 c2 tn p t1 I hp hst H D hl).mono fun _ _ _ _ h => h.elim (fun h => absurd h.1 hr) (·.2)
section
variable {prog : Program} {w : World} {A : Around} {E : Value → Shared → Prop} {hh g G : Heap} {L : Addr} {m : Str → Option Value} {news : Led} {gs : Array GenState} {dr : Drawn} {tk : Nat} {os : OsState} {Q : Value → Shared → Prop}
theorem list_lnN {b : Addr} {vs : List Value} {ns : List Int} (F : Fr g L hh m) (N : News g L hh news) (I : hh.IsList b vs.toArray) (hi : IntsAre vs ns) (hz : ns.length ≤ 100)
    (h : ∀ D n h', Fr g L h' m → News g L h' ((D, W.listOf (List.toArray vs) n) :: news) → (∀ q ∈ news, @Ne Nat D q.1) → Q (.ref D) ⟨h', gs, dr, tk, os⟩) : wpAny (model prog w) A (call (.type "list") [.ref b]) Q E ⟨hh, gs, dr, tk, os⟩ := by
  obtain ⟨o, ho, hc, n, hd⟩ := I
  exact call_list_seq (s := ⟨hh, gs, dr, tk, os⟩) (hsz := by rw [List.size_toArray, ints_len hi, sizeLine_eq]; omega) b (.inl rfl) ho hc hd fun h' c' hk hD => h _ c' h' (F.keeps hk) (news_pushed F N hk hD rfl) fun q hq z => Nat.lt_irrefl _ (show hh.objs.size < hh.objs.size from z ▸ Heap.lt_size (N q hq).1)
end
noncomputable def lsOf (c0 c1 c2 : Addr) : List (Addr × Int) := [(c0, 7), (c1, 8), (c2, 9)]
theorem RowH.cells {G : Heap} {bd : Addr} {g0 : Bool} (H : RowH G bd g0) : ∃ l tn c0 c1 c2, Fld G bd 115 [(Str.ofString "number", .int (if g0 then 4 else 3) tn), (Str.ofString "things", .ref l), (Str.ofString "is_global", .bool g0)] ∧ G.IsList l #[.ref c0, .ref c1, .ref c2] ∧ CellsL G (lsOf c0 c1 c2) := by
  obtain ⟨l, tn, D, c0, c1, c2, k0, k1, k2, u0, u1, u2, a0, a1, a2, h0, h1, h2, h3⟩ := H
  refine ⟨l, tn, c0, c1, c2, D, h0, fun p hp => ?_⟩
  rcases List.mem_cons.mp hp with rfl | hp
  · exact ⟨_, _, _, h1⟩
  rcases List.mem_cons.mp hp with rfl | hp
  · exact ⟨_, _, _, h2⟩
  · rw [List.mem_singleton.mp hp]; exact ⟨_, _, _, h3⟩
theorem RowH.keep' {G h : Heap} {bd : Addr} {g0 : Bool} (S : G.StaysIn h) (H : RowH G bd g0) : RowH h bd g0 := by
  obtain ⟨l, tn, D, c0, c1, c2, k0, k1, k2, u0, u1, u2, a0, a1, a2, h0, h1, h2, h3⟩ := H
  exact ⟨l, tn, D.keep S, c0, c1, c2, k0, k1, k2, u0, u1, u2, a0, a1, a2, IsL_of h0 S, h1.keep S, h2.keep S, h3.keep S⟩
theorem lsOf_refs {G : Heap} {l c0 c1 c2 : Addr} (I : G.IsList l #[.ref c0, .ref c1, .ref c2]) : G.IsList l ((lsOf c0 c1 c2).map fun p => Value.ref p.1).toArray := I
theorem lsOf_pick {h : Heap} {y c0 c1 c2 : Addr} {a q : Int} (ha : 0 ≤ a) (hq : 0 ≤ q) (hl : a + q ≤ 3) (I : h.IsList y (slicePick #[.ref c0, .ref c1, .ref c2] (some a) (some (a + q)) none)) : h.IsList y ((((lsOf c0 c1 c2).drop a.toNat).take q.toNat).map fun p => Value.ref p.1).toArray := by
  have := pick_nat ((lsOf c0 c1 c2).map fun p => Value.ref p.1) ha hq (by simpa [lsOf] using hl)
  rw [List.map_take, List.map_drop, ← this]
  exact I
theorem lsOf_sub {G : Heap} {c0 c1 c2 : Addr} (C : CellsL G (lsOf c0 c1 c2)) (i j : Nat) : CellsL G (((lsOf c0 c1 c2).drop i).take j) := C.sub fun _ hp => List.mem_of_mem_drop (List.mem_of_mem_take hp)
theorem lsOf_nums (c0 c1 c2 : Addr) (i j : Nat) : (((lsOf c0 c1 c2).drop i).take j).map (·.2) = (([7, 8, 9] : List Int).drop i).take j := by
  rw [List.map_take, List.map_drop]; rfl
theorem lsOf_len (c0 c1 c2 : Addr) (i j : Nat) : (((lsOf c0 c1 c2).drop i).take j).length ≤ 100 := by
  rw [List.length_take, List.length_drop]
  exact Nat.le_trans (Nat.min_le_right _ _) (Nat.le_trans (Nat.sub_le _ _) (by decide : (3 : Nat) ≤ 100))
theorem cell_get {G : Heap} {c0 c1 c2 c : Addr} {k : Int} (C : CellsL G (lsOf c0 c1 c2)) (h0 : 0 ≤ k) (h1 : k < 3) (e : [Value.ref c0, .ref c1, .ref c2].getD k.toNat .none = .ref c) : ∃ u k1 a, ThF G c (Str.ofString "integer") (.int (([7, 8, 9] : List Int).getD k.toNat 0) u) false 3 k1 a := by
  rcases three h0 h1 with rfl | rfl | rfl
  · cases e; exact C _ (.head _)
  · cases e; exact C _ (.tail _ (.head _))
  · cases e; exact C _ (.tail _ (.tail _ (.head _)))
theorem nums_get {a q i : Int} (ha : 0 ≤ a) (hq : 0 ≤ q) (h : a + q ≤ 3) (h0 : 0 ≤ i) (h1 : i < q) : ((([7, 8, 9] : List Int).drop a.toNat).take q.toNat).getD i.toNat 0 = ([7, 8, 9] : List Int).getD (a + i).toNat 0 := by
  have e := Int.toNat_add ha h0
  have hlt : a.toNat + i.toNat < ([7, 8, 9] : List Int).length := idx_lt (n := 3) ha h0 h h1
  rw [List.getD_eq_getElem?_getD, List.getElem?_take, if_pos (nat_lt h0 h1), List.getElem?_drop, List.getD_eq_getElem?_getD, e]
end Mine
end
section
namespace Mine
open PySem.Spec PySem.Calls
theorem cut3 {M : Model} {A : Around} {E : Value → Shared → Prop} {s : Shared} {env : Env} {a b c : Stmt} {rest : List Stmt} {Q : Flow → Shared → Prop} (P : Shared → Prop)
    (h1 : wpAny M A (execs [a, b, c] env) (fun f s' => Due (f = .next ∧ P s')) E s) (h2 : ∀ s', P s' → wpAny M A (execs rest env) Q E s') : wpAny M A (execs (a :: b :: c :: rest) env) Q E s := cutN (xs := [a, b, c]) P h1 h2
theorem getN2 {prog : Program} {w : World} {A : Around} {hh g : Heap} {L : Addr} {m : Str → Option Value} {gs : Array GenState} {dr : Drawn} {tk : Nat} {os : OsState} {E : Value → Shared → Prop} {K : Frag} {x C d : Addr} {es : List DictEntry} {n : Nat} {fs : List (Str × Value)} {name : Str} {v : Value} {expr : Bool} {news : Led} {Q : Value → Shared → Prop}
    (F : Fr g L hh m) (X : K.In g) (N : News g L hh news) (h1 : (x, instObj C d) ∈ news) (h2 : (d, dictOf es n) ∈ news) (q : ∀ p ∈ fs, getL p.1 es = some (some p.2) ∧ handedIn p.2 = true) (hc : ClsOk K C name) (hv : fs.lookup name = some v) (h : Q v ⟨hh, gs, dr, tk + 1, os⟩) :
    wpAny (model prog w) A (getAttr (.ref x) name expr) Q E ⟨hh, gs, dr, tk, os⟩ := getH (X.keeps F.keep) ⟨_, d, es, n, N.get h1, N.get h2, q⟩ hc hv h
theorem t_endG {w : World} {A₀ : Around} {base : Heap} {outer : List Env} {mean : ExcName → Option Value} {mg mb : Str → Option Value} {h₀ g g' : Heap} {L L' : Addr} {m m' : Str → Option Value} {s s' : Shared} {mu mu' : Led} {Post : Heap → Heap → Value → Led → Prop} {Q : Value → Shared → Prop} {R : Result → Shared → Prop} {fs : List Addr} {v : Value}
    (hret : RetT w A₀ base outer mean mg mb h₀ L m s mu Post Q) (TT : KtsTurn fs g g') (F' : Fr g' L' s'.heap m') (N' : News g' L' s'.heap mu') (hmu : mu'.map (·.1) = mu.map (·.1)) (e : s' = { s with heap := s'.heap, toks := s'.toks }) (hR : Q v s' → R (.ok (.ret v)) s') (hp : Post s.heap s'.heap v mu') :
    LeaveT fs A₀ base outer w mean mg mb h₀ L m s.heap mu g R v s' :=
  ⟨g', L', m', mu', TT, F', N', hmu, fun h₀' T1 F1 B1 X1 P1 N1 K1 => hR (e ▸ hret.out v s'.heap s'.toks h₀' mu' T1 F1 B1 X1 P1 N1 hmu K1 hp)⟩
theorem news_fldTD {g g9 hh h9 : Heap} {L y C dk l : Addr} {od ol : Obj} {m m' : Str → Option Value} {news : Led} {fs : List (Str × Value)} {frs : List Addr} {w : World} (D : DkOk w dk l od ol) (F : Fr g L hh m) (N0 : News g L hh news) (h1 : (dk, od) ∈ news) (h2 : (l, ol) ∈ news) (T9 : KtsTurn frs g g9) (F9 : Fr g9 L h9 m') (N : News g9 L h9 news) (P : NewF hh h9 y C fs) :
    ∃ d es n, News g9 L h9 ((y, instObj C d) :: (d, dictOf es n) :: news) ∧ (∀ p ∈ fs, getL p.1 es = some (some p.2) ∧ handedIn p.2 = true) ∧ @Ne Nat y dk ∧ @Ne Nat y l ∧ @Ne Nat d dk ∧ @Ne Nat d l := by
  obtain ⟨d, es, n, N', q⟩ := news_fldT F T9 F9 N P
  have ne : ∀ b b' o, hh.get? b = none → hh.get? b' = some o → @Ne Nat b b' := fun b b' o e e' z => by rw [show b = b' from z, e'] at e; cases e
  obtain ⟨d', es', n', q1, q2, q3, q4, _⟩ := P
  have hd : d' = d := by
    have := (N' _ (.head _)).1
    rw [q3] at this
    have := congrArg Obj.dict (Option.some.inj this)
    exact Option.some.inj this
  subst hd
  exact ⟨d', es, n, N', q, ne _ _ _ q1 (N0 _ h1).1, ne _ _ _ q1 (N0 _ h2).1, ne _ _ _ q2 (N0 _ h1).1, ne _ _ _ q2 (N0 _ h2).1⟩
inductive PartH (G : Heap) (U : TK) (v : Value) : Prop
  | mk (sp bd : Addr) (st mn : Int) (ts tm : Tok) (C : Addr) (nn : Int) (tn : Tok) (e : v = .ref sp) (J : SpF G sp bd st mn ts tm) (D : Fld G bd C [(Str.ofString "number", .int nn tn)]) (hC : C = 94 ∨ C = 115) (b : 0 ≤ st ∧ 0 ≤ mn ∧ st + mn ≤ 5)
    (o : (∃ g0, U = .str g0 st mn ∧ TextH G bd g0 ∧ st + mn ≤ (octs g0).size) ∨ (∃ pk g0, U = .arr pk g0 st mn ∧ RowH G bd g0 ∧ st + mn ≤ 3))
theorem part_h {G : Heap} {U : TK} {v : Value} (H : ValH G U v) (hs : (shares U && !isDict U) = true) (hb : spB U) : PartH G U v := by
  cases U with
  | str g st mn =>
    obtain ⟨sp, bd, ts, tm, e, J, ba, tn, D, b⟩ := H
    obtain ⟨b1, b2, b3⟩ : 0 ≤ st ∧ 0 ≤ mn ∧ st + mn ≤ (octs g).size := hb
    have := octs_size g
    exact ⟨sp, bd, st, mn, ts, tm, 94, _, tn, e, J, (let ⟨sl, d, es, n, h1, h2, h3⟩ := D; ⟨sl, d, es, n, h1, h2, fun p hp => h3 p (by rw [List.mem_singleton.mp hp]; exact .head _)⟩), .inl rfl, ⟨b1, b2, by omega⟩, .inl ⟨g, rfl, ⟨ba, tn, D, b⟩, b3⟩⟩
  | arr pk g st mn =>
    obtain ⟨sp, bd, ts, tm, e, J, li, tn, D, b⟩ := H
    obtain ⟨b1, b2, b3⟩ : 0 ≤ st ∧ 0 ≤ mn ∧ st + mn ≤ 3 := hb
    exact ⟨sp, bd, st, mn, ts, tm, 115, _, tn, e, J, (let ⟨sl, d, es, n, h1, h2, h3⟩ := D; ⟨sl, d, es, n, h1, h2, fun p hp => h3 p (by rw [List.mem_singleton.mp hp]; exact .head _)⟩), .inr rfl, ⟨b1, b2, by omega⟩, .inr ⟨pk, g, rfl, ⟨li, tn, D, b⟩, b3⟩⟩
  | _ => cases hs
noncomputable def StW {i : FI} {w : World} (C : Cx i w) (g G : Heap) (dk l : Addr) (gl : Led) (mp : (Str → Option Value) → Prop) (h' : Heap) (_ : Nat) : Prop :=
  ∃ (g' : Heap) (od' ol' : Obj) (m' : Str → Option Value), mp m' ∧ KtsTurn (frsOf C.outer) g g' ∧ Fr g' C.L h' m' ∧ Ok C g' 35 ∧ G.StaysIn g' ∧ News g' C.L h' ((dk, od') :: (l, ol') :: gl) ∧ DkOk w dk l od' ol'
theorem lnParts0 (w : World) : (hd.heap_39 w.params).In = (hd.heap_39 w.params).In ∧ PySem.Challenge.rw_on0261_01 = PySem.Challenge.rw_on0261_01 := by
  k_fill
  exact ⟨rfl, rfl⟩
local macro_rules | `(tactic| k_inst) => `(tactic| (refine' instB ?ia ?ib ?ic ?id; (case ia => with_reducible assumption); (case ib => with_reducible assumption); (case ic => with_reducible assumption); (case id => with_reducible assumption)))
theorem lnParts1 (w : World) : (hd.heap_39 w.params).In = (hd.heap_39 w.params).In ∧ PySem.Challenge.rw_on0261_01 = PySem.Challenge.rw_on0261_01 := by
  k_with "r36" => (k_here; (with_reducible show wpAny _ _ (subscriptTail _ (PySem.Expr.Slice _ _ none _) (Value.ref _) (Value.ref _)) _ _ _); k_dflt (refine' slice_baG ?F_q ?S_q ?I_q ?p_q ?q_q ?z_q ?_; (case F_q => with_reducible assumption); (case I_q => with_reducible assumption); (case S_q => first | exact stay_gl (by with_reducible assumption) (by with_reducible assumption) (by with_reducible assumption) (by with_reducible assumption) (by intro _ hp; repeat (first | with_reducible exact hp | with_reducible refine List.mem_cons_of_mem _ ?_)) | exact stay_of (by with_reducible assumption) (by with_reducible assumption) | exact fun _ _ h => h | exact fun _ _ h => h); (case p_q => constructor); (case q_q => constructor); (case z_q => first | exact octs_line _ | exact picked_line _ _ _); k_whole; intro D9 h9 F9 S9 B9; (try (have N9 := stay_news (by with_reducible assumption) S9)); (try k_sweep)))
  k_with "D:subscriptTail" => k_extra "r36"
  k_with "r37" => (k_here; (with_reducible show wpAny _ _ (call (Value.type "bytes") [Value.ref _]) _ _ _); k_dflt (refine' bytes_baG ?S_q ?I_q ?z_q ?_; (case I_q => with_reducible assumption); (case S_q => first | exact stay_gl (by with_reducible assumption) (by with_reducible assumption) (by with_reducible assumption) (by with_reducible assumption) (by intro _ hp; repeat (first | with_reducible exact hp | with_reducible refine List.mem_cons_of_mem _ ?_)) | exact stay_of (by with_reducible assumption) (by with_reducible assumption) | exact fun _ _ h => h); (case z_q => first | exact octs_line _ | exact picked_line _ _ _); k_whole; intro t9 k9))
  k_with "D:call type:bytes" => k_extra "r37"
  k_with "D:exec Assign" => k_extra "r33"
  k_with "D:compareOp In bytes ref" => k_extra "r10"
  k_with "D:compareOp Eq ref ref" => k_extra "r11"
  k_with "r38" => (k_here; (with_reducible show wpAny _ _ (subscriptTail _ _ (Value.ref _) (Value.int _ _)) _ _ _); k_dflt (refine' item_baG ?S_q ?I_q ?a_q ?b_q ?z_q ?_; (case I_q => with_reducible assumption); (case S_q => first | exact stay_gl (by with_reducible assumption) (by with_reducible assumption) (by with_reducible assumption) (by with_reducible assumption) (by intro _ hp; repeat (first | with_reducible exact hp | with_reducible refine List.mem_cons_of_mem _ ?_)) | exact stay_of (by with_reducible assumption) (by with_reducible assumption) | exact fun _ _ h => h | exact fun _ _ h => h); (case a_q => omega); (case b_q => omega); (case z_q => exact Nat.le_trans (octs_size _) (by decide)); k_whole; intro t9 k9))
  k_with "D:subscriptTail" => k_extra "r38"
  k_with "r39" => (k_here; (with_reducible show wpAny _ _ (subscriptTail _ _ (Value.ref _) (Value.int _ _)) _ _ _); k_dflt (refine' item_lnL ?S_q ?I_q ?a_q ?b_q ?z_q ?_; (case I_q => with_reducible assumption); (case S_q => first | exact stay_gl (by with_reducible assumption) (by with_reducible assumption) (by with_reducible assumption) (by with_reducible assumption) (by intro _ hp; repeat (first | with_reducible exact hp | with_reducible refine List.mem_cons_of_mem _ ?_)) | exact stay_of (by with_reducible assumption) (by with_reducible assumption) | exact fun _ _ h => h | exact fun _ _ h => h); (case a_q => omega); (case b_q => (simp only [List.length_cons, List.length_nil]; omega)); (case z_q => (simp only [List.length_cons, List.length_nil]; decide)); k_whole))
  k_with "D:subscriptTail" => k_extra "r39"
  k_with "D:subscriptTail" => k_extra "r14"
  k_with "r40" => (k_here; (with_reducible show wpAny _ _ (subscriptTail _ (PySem.Expr.Slice _ _ none _) (Value.ref _) (Value.ref _)) _ _ _); k_dflt (refine' slice_lnL ?F_q ?S_q ?I_q ?p_q ?q_q ?z_q ?_; (case F_q => with_reducible assumption); (case I_q => with_reducible assumption); (case S_q => first | exact stay_gl (by with_reducible assumption) (by with_reducible assumption) (by with_reducible assumption) (by with_reducible assumption) (by intro _ hp; repeat (first | with_reducible exact hp | with_reducible refine List.mem_cons_of_mem _ ?_)) | exact stay_of (by with_reducible assumption) (by with_reducible assumption) | exact fun _ _ h => h | exact fun _ _ h => h); (case p_q => constructor); (case q_q => constructor); (case z_q => size_fits); k_whole; intro D9 h9 F9 S9 B9; (have Z9 := fresh_of (Fr.keep (by assumption)) B9.1); (try (have N9 := stay_news (by with_reducible assumption) S9)); (try k_sweep)))
  k_with "D:subscriptTail" => k_extra "r40"
  exact ⟨rfl, rfl⟩
local macro_rules | `(tactic| k_upd) => `(tactic| first | (refine' DeckG.here ?a; (case a => first | with_reducible assumption | exact fun _ h => nomatch h)) | (refine' DeckG.there ?a ?b ?c; (case a => k_ne); (case b => k_ne); (case c => k_upd)))
theorem lnParts2 (w : World) : (hd.heap_39 w.params).In = (hd.heap_39 w.params).In ∧ PySem.Challenge.rw_on0261_01 = PySem.Challenge.rw_on0261_01 := by
  k_with "D:call ref" => (k_here; (with_reducible show W _ _ _ (call (Value.ref 384) _) _); k_dflt (refine' W.drawG ?DD_q ?HLT_q ?HM_q ?KO_q ?FR_q ?NN_q ?UU_q ?HK_q ?HF_q ?_; (case KO_q => with_reducible assumption); (case FR_q => with_reducible assumption); (case NN_q => with_reducible assumption); (case DD_q => with_reducible assumption); (case HLT_q => with_reducible assumption); (case HM_q => first | exact ⟨by decide, by decide⟩ | (constructor <;> omega)); (case UU_q => k_upd); (case HK_q => decide); (case HF_q => rfl); k_whole; intro i9 t9 h9 tk9 od9 ol9 F9 N9 D9 K9 b9 c9; (try dsimp only at N9); (try k_sweep)))
  k_with "D:AtR" => k_extra "r31"
  k_with "D:compareOp NotEq ref ref" => k_extra "r35"
  k_with "D:getAttr ref" => (k_here; k_dflt (refine' getF ?F_q ?X_q ?I_q ?S_q ?c_q ?v_q ?_; (case F_q => with_reducible assumption); (case X_q => with_reducible assumption); (case I_q => with_reducible assumption); (case S_q => with_reducible assumption); (case v_q => rfl); (case c_q => with_reducible assumption); k_whole))
  k_with "D:getAttr ref" => (k_here; k_dflt (refine' getGL ?F_q ?X_q ?I_q ?S_q ?c_q ?v_q ?_; (case F_q => with_reducible assumption); (case X_q => with_reducible assumption); (case I_q => with_reducible assumption); (case S_q => exact stay_gl (by with_reducible assumption) (by with_reducible assumption) (by with_reducible assumption) (by with_reducible assumption) (by intro _ hp; repeat (first | with_reducible exact hp | with_reducible refine List.mem_cons_of_mem _ ?_))); (case c_q => exact cls_ok _ (_, _) (by repeat (first | exact List.Mem.head _ | apply List.Mem.tail))); (case v_q => rfl); k_whole))
  k_with "D:getAttr ref" => (k_here; k_dflt (refine' getN2 ?F_q ?X_q ?N_q ?a_q ?b_q ?q_q ?c_q ?v_q ?_; (case F_q => with_reducible assumption); (case X_q => with_reducible assumption); (case N_q => with_reducible assumption); (case a_q => k_mem); (case b_q => k_mem); (case q_q => with_reducible assumption); (case c_q => exact cls_ok _ (_, _) (by repeat (first | exact List.Mem.head _ | apply List.Mem.tail))); (case v_q => rfl); k_whole))
  k_with "D:call ref" => (k_here; (with_reducible show W _ _ _ (call (Value.ref 302) _) _); k_dflt (refine' W.ro_e2 (with_span_c _ _ _ _ _ _ _ _ _ _ ?I_q) ?KO_q ?FR_q ?ST_q ?_ ?exc_q ?HK_q; (case KO_q => with_reducible assumption); (case HK_q => decide); (case FR_q => with_reducible assumption); (case I_q => with_reducible assumption); (case ST_q => first | exact stay_gl (by with_reducible assumption) (by with_reducible assumption) (by with_reducible assumption) (by with_reducible assumption) (by intro _ hp; repeat (first | with_reducible exact hp | with_reducible refine List.mem_cons_of_mem _ ?_)) | exact stay_of (by with_reducible assumption) (by with_reducible assumption) | exact fun _ _ h => h | exact fun _ _ h => h | exact noH_in _); (case exc_q => exact fun _ _ _ _ h => h.elim); k_whole; intro y9 tk8 ta9 h9 tk9 F9 S9 P9; (try (have N9 := stay_news (by with_reducible assumption) S9)); refine news_fld_k (by with_reducible assumption) N9 P9 ?_; clear N9; intro d9 es9 n9 N9 q9; clear P9; (try k_sweep)))
  k_with "D:call ref" => (k_here; (with_reducible show W _ _ _ (call (Value.ref 323) _) _); k_dflt (refine' W.ro_t (octets_of_span_c _ _ _ _ _ _ _ _ _ ?I_q ?hst_q ?hmn_q ?H_q) ?KO_q ?FR_q ?ST_q ?_ ?exc_q ?HK_q; (case KO_q => with_reducible assumption); (case HK_q => decide); (case FR_q => with_reducible assumption); (case I_q => with_reducible assumption); (case hst_q => with_reducible assumption); (case hmn_q => with_reducible assumption); (case H_q => with_reducible assumption); (case ST_q => first | exact stay_gl (by with_reducible assumption) (by with_reducible assumption) (by with_reducible assumption) (by with_reducible assumption) (by intro _ hp; repeat (first | with_reducible exact hp | with_reducible refine List.mem_cons_of_mem _ ?_)) | exact stay_of (by with_reducible assumption) (by with_reducible assumption) | exact fun _ _ h => h | exact fun _ _ h => h | exact noH_in _); (case exc_q => exact fun _ _ _ _ h => h.elim); k_whole; intro t9 h9 tk9 F9 S9; (try (have N9 := stay_news (by with_reducible assumption) S9)); (try k_sweep)))
  k_with "D:call ref" => (k_here; (with_reducible show wpAny _ _ (call (Value.ref 330) _) _ _ _); k_dflt (refine' ro_use (things_of_span_c _ _ _ _ _ _ _ _ _ _ _ _ _ _ ?I_q ?hst_q ?D_q ?hl_q) ?B_q ?F_q ?X_q ?T_q ?hk_q ?hd_q ?hu_q ?S_q ?_ ?exc_q; (case B_q => with_reducible assumption); (case F_q => with_reducible assumption); (case X_q => with_reducible assumption); (case T_q => with_reducible assumption); (case hk_q => first | exact rfl | assumption); (case I_q => with_reducible assumption); (case hst_q => with_reducible assumption); (case D_q => with_reducible assumption); (case hl_q => with_reducible assumption); (case S_q => first | exact stay_gl (by with_reducible assumption) (by with_reducible assumption) (by with_reducible assumption) (by with_reducible assumption) (by intro _ hp; repeat (first | with_reducible exact hp | with_reducible refine List.mem_cons_of_mem _ ?_)) | exact stay_of (by with_reducible assumption) (by with_reducible assumption) | exact fun _ _ h => h | exact fun _ _ h => h | exact noH_in _); (case hd_q => (first | exact lt_add (Ok.d (by with_reducible assumption)) (by decide) | ktr_room)); (case hu_q => (first | exact lt_add (Ok.u (by with_reducible assumption)) (by decide) | exact lt_add0 (Ok.u (by with_reducible assumption)) | ktr_units)); (case exc_q => exact fun _ _ _ _ h => h.elim); k_whole; intro r9 h9 tk9 F9 S9 P9; (try (have N9 := stay_news (by with_reducible assumption) S9)); refine Exists.elim P9 ?_; clear P9; intro y9 P9; rcases P9 with ⟨e9, P9⟩; subst e9; (have Z9 := fresh_of (Fr.keep (by with_reducible assumption)) P9.1); (have IL9 := lsOf_pick (by omega) (by omega) (by omega) P9.2); (try k_sweep)))
  k_with "D:call ref" => (k_here; (with_reducible show W _ _ _ (call (Value.ref 330) _) _); k_dflt (refine' W.ro_e0 (things_of_span_c _ _ _ _ _ _ _ _ _ _ _ _ _ _ ?I_q ?hst_q ?D_q ?hl_q) ?KO_q ?FR_q ?ST_q ?_ ?exc_q ?HK_q; (case KO_q => with_reducible assumption); (case HK_q => decide); (case FR_q => with_reducible assumption); (case I_q => with_reducible assumption); (case hst_q => with_reducible assumption); (case D_q => with_reducible assumption); (case hl_q => with_reducible assumption); (case ST_q => first | exact stay_gl (by with_reducible assumption) (by with_reducible assumption) (by with_reducible assumption) (by with_reducible assumption) (by intro _ hp; repeat (first | with_reducible exact hp | with_reducible refine List.mem_cons_of_mem _ ?_)) | exact stay_of (by with_reducible assumption) (by with_reducible assumption) | exact fun _ _ h => h | exact fun _ _ h => h | exact noH_in _); (case exc_q => exact fun _ _ _ _ h => h.elim); k_whole; intro y9 h9 tk9 F9 S9 P9; (try (have N9 := stay_news (by with_reducible assumption) S9)); (have Z9 := fresh_of (Fr.keep (by with_reducible assumption)) P9.1); (have IL9 := lsOf_pick (by omega) (by omega) (by omega) P9.2); (try k_sweep)))
  k_with "D:call ref" => (k_here; (with_reducible show wpAny _ _ (call (Value.ref 419) _) _ _ _); k_dflt (refine' t5_bad ?I_q ?hp_q ?hst_q ?hmn_q ?hr_q ?B_q ?F_q ?X_q ?T_q ?XB_q ?TB_q ?N_q ?hm_q ?S_q ?OF_q ?hk_q ?hd_q ?hu_q ?_; (case B_q => with_reducible assumption); (case F_q => with_reducible assumption); (case X_q => with_reducible assumption); (case T_q => with_reducible assumption); (case XB_q => with_reducible assumption); (case TB_q => with_reducible assumption); (case N_q => with_reducible assumption); (case hm_q => k_mem); (case I_q => with_reducible assumption); (case hr_q => with_reducible assumption); (case S_q => with_reducible assumption); (case OF_q => with_reducible assumption); (case hk_q => first | exact rfl | assumption); (case hd_q => (first | exact lt_add (Ok.d (by with_reducible assumption)) (by decide) | ktr_room)); (case hu_q => (first | exact lt_add (Ok.u (by with_reducible assumption)) (by decide) | exact lt_add0 (Ok.u (by with_reducible assumption)) | ktr_units)); (case hp_q => with_reducible assumption); (case hst_q => with_reducible assumption); (case hmn_q => with_reducible assumption); k_whole; intro r9 h9 tk9 g9 T9 F9 B9 X9 p9 N9 S9 P9; (have K9 := Ok.mk B9 X9 p9 (Ok.d (by with_reducible assumption)) (Ok.u (by with_reducible assumption))); (have TT9 := KtsTurn.trans (by with_reducible assumption) T9); refine Exists.elim P9 ?_; clear P9; intro t9 P9; subst P9; (try k_sweep)))
  k_with "D:call ref" => (k_here; (with_reducible show wpAny _ _ (call (Value.ref 419) _) _ _ _); k_dflt (refine' t5_ok ?I_q ?hp_q ?hst_q ?hmn_q ?hr_q ?B_q ?F_q ?X_q ?T_q ?XB_q ?TB_q ?N_q ?hm_q ?S_q ?OF_q ?hk_q ?hd_q ?hu_q ?_; (case B_q => with_reducible assumption); (case F_q => with_reducible assumption); (case X_q => with_reducible assumption); (case T_q => with_reducible assumption); (case XB_q => with_reducible assumption); (case TB_q => with_reducible assumption); (case N_q => with_reducible assumption); (case hm_q => k_mem); (case I_q => with_reducible assumption); (case hr_q => with_reducible assumption); (case S_q => with_reducible assumption); (case OF_q => with_reducible assumption); (case hk_q => first | exact rfl | assumption); (case hd_q => (first | exact lt_add (Ok.d (by with_reducible assumption)) (by decide) | ktr_room)); (case hu_q => (first | exact lt_add (Ok.u (by with_reducible assumption)) (by decide) | exact lt_add0 (Ok.u (by with_reducible assumption)) | ktr_units)); (case hp_q => with_reducible assumption); (case hst_q => with_reducible assumption); (case hmn_q => with_reducible assumption); k_whole; intro r9 h9 tk9 g9 T9 F9 B9 X9 p9 N9 S9 P9; (have K9 := Ok.mk B9 X9 p9 (Ok.d (by with_reducible assumption)) (Ok.u (by with_reducible assumption))); (have TT9 := KtsTurn.trans (by with_reducible assumption) T9); refine Exists.elim P9 ?_; clear P9; intro y9 P9; obtain ⟨ts9, tm9, e9, P9⟩ := P9; subst e9; refine Exists.elim (news_fldTD (by with_reducible assumption) (by with_reducible assumption) (by with_reducible assumption) (by k_mem) (by k_mem) T9 F9 N9 P9) ?_; clear N9; intro d9 O9; rcases O9 with ⟨es9, n9, N9, q9, a9, b9, c9, e9⟩; clear P9; (try k_sweep)))
  k_with "D:call ref" => (k_here; (with_reducible show wpAny _ _ (call (Value.ref 419) _) _ _ _); k_dflt (refine' t7_bad ?I_q ?hr_q ?B_q ?F_q ?X_q ?T_q ?XB_q ?TB_q ?N_q ?hm_q ?S_q ?OF_q ?hk_q ?hd_q ?hu_q ?_; (case B_q => with_reducible assumption); (case F_q => with_reducible assumption); (case X_q => with_reducible assumption); (case T_q => with_reducible assumption); (case XB_q => with_reducible assumption); (case TB_q => with_reducible assumption); (case N_q => with_reducible assumption); (case hm_q => k_mem); (case I_q => with_reducible assumption); (case hr_q => with_reducible assumption); (case S_q => with_reducible assumption); (case OF_q => with_reducible assumption); (case hk_q => first | exact rfl | assumption); (case hd_q => (first | exact lt_add (Ok.d (by with_reducible assumption)) (by decide) | ktr_room)); (case hu_q => (first | exact lt_add (Ok.u (by with_reducible assumption)) (by decide) | exact lt_add0 (Ok.u (by with_reducible assumption)) | ktr_units)); k_whole; intro r9 h9 tk9 g9 T9 F9 B9 X9 p9 N9 S9 P9; (have K9 := Ok.mk B9 X9 p9 (Ok.d (by with_reducible assumption)) (Ok.u (by with_reducible assumption))); (have TT9 := KtsTurn.trans (by with_reducible assumption) T9); refine Exists.elim P9 ?_; clear P9; intro t9 P9; subst P9; (try k_sweep)))
  k_with "D:call ref" => (k_here; (with_reducible show wpAny _ _ (call (Value.ref 419) _) _ _ _); k_dflt (refine' t7_ok ?I_q ?hr_q ?B_q ?F_q ?X_q ?T_q ?XB_q ?TB_q ?N_q ?hm_q ?S_q ?OF_q ?hk_q ?hd_q ?hu_q ?_; (case B_q => with_reducible assumption); (case F_q => with_reducible assumption); (case X_q => with_reducible assumption); (case T_q => with_reducible assumption); (case XB_q => with_reducible assumption); (case TB_q => with_reducible assumption); (case N_q => with_reducible assumption); (case hm_q => k_mem); (case I_q => with_reducible assumption); (case hr_q => with_reducible assumption); (case S_q => with_reducible assumption); (case OF_q => with_reducible assumption); (case hk_q => first | exact rfl | assumption); (case hd_q => (first | exact lt_add (Ok.d (by with_reducible assumption)) (by decide) | ktr_room)); (case hu_q => (first | exact lt_add (Ok.u (by with_reducible assumption)) (by decide) | exact lt_add0 (Ok.u (by with_reducible assumption)) | ktr_units)); k_whole; intro r9 h9 tk9 g9 T9 F9 B9 X9 p9 N9 S9 P9; (have K9 := Ok.mk B9 X9 p9 (Ok.d (by with_reducible assumption)) (Ok.u (by with_reducible assumption))); (have TT9 := KtsTurn.trans (by with_reducible assumption) T9); subst P9; (try k_sweep)))
  exact ⟨rfl, rfl⟩
theorem news_hd2 {g h : Heap} {L : Addr} {p q a b : Addr × Obj} {rest : Led} (N : News g L h (p :: q :: rest)) (h1 : a ∈ p :: q :: rest) (h2 : b ∈ p :: q :: rest) : News g L h [a, b, p, q] := fun x hx => by
  rcases List.mem_cons.mp hx with rfl | hx
  · exact N _ h1
  rcases List.mem_cons.mp hx with rfl | hx
  · exact N _ h2
  rcases List.mem_cons.mp hx with rfl | hx
  · exact N _ (.head _)
  · rw [List.mem_singleton.mp hx]; exact N _ (.tail _ (.head _))
theorem two_ne {y d dk l : Addr} {o o' : Obj} (a : @Ne Nat y dk) (b : @Ne Nat y l) (c : @Ne Nat d dk) (e : @Ne Nat d l) : ∀ z ∈ [(y, o), (d, o')], @Ne Nat z.1 dk ∧ @Ne Nat z.1 l := fun z hz => by
  rcases List.mem_cons.mp hz with rfl | hz
  · exact ⟨a, b⟩
  · rw [List.mem_singleton.mp hz]; exact ⟨c, e⟩
theorem lnParts3 (w : World) : (hd.heap_39 w.params).In = (hd.heap_39 w.params).In ∧ PySem.Challenge.rw_on0261_01 = PySem.Challenge.rw_on0261_01 := by
  k_with "D:call type:list" => (k_here; (with_reducible show wpAny _ _ (call (Value.type "list") [Value.ref _]) _ _ _); k_dflt (refine' list_baG ?d_q ?F_q ?N_q ?S_q ?I_q ?z_q ?_; (case d_q => with_unfolding_all rfl); (case F_q => with_reducible assumption); (case N_q => with_reducible assumption); (case I_q => with_reducible assumption); (case S_q => exact stay_of (by with_reducible assumption) (by with_reducible assumption)); (case z_q => exact octs_line _); k_whole; intro D9 h9 tk9 vs9 n9 F9 N9 Z9 V9; (try k_sweep)))
  k_with "D:call type:bytes" => (k_here; (with_reducible show wpAny _ _ (call (Value.type "bytes") [Value.ref _]) _ _ _); k_dflt (refine' bytes_lnG ?d_q ?F_q ?N_q ?S_q ?I_q ?hi_q ?hr_q ?z_q ?_; (case d_q => with_unfolding_all rfl); (case F_q => with_reducible assumption); (case N_q => with_reducible assumption); (case I_q => with_reducible assumption); (case hi_q => with_reducible assumption); (case S_q => exact stay_gl (by with_reducible assumption) (by with_reducible assumption) (by with_reducible assumption) (by with_reducible assumption) (by intro _ hp; repeat (first | with_reducible exact hp | with_reducible refine List.mem_cons_of_mem _ ?_))); (case hr_q => exact byteNs_in _ _ _); (case z_q => with_reducible assumption); k_whole; intro h9 t9 tk9 F9 N9; (try k_sweep)))
  k_with "D:subscriptTail" => (k_here; (with_reducible show wpAny _ _ (subscriptTail _ _ (Value.ref _) (Value.int _ _)) _ _ _); k_dflt (refine' item_intsG ?S_q ?I_q ?hi_q ?a_q ?b_q ?z_q ?_; (case I_q => with_reducible assumption); (case hi_q => with_reducible assumption); (case S_q => exact stay_gl (by with_reducible assumption) (by with_reducible assumption) (by with_reducible assumption) (by with_reducible assumption) (by intro _ hp; repeat (first | with_reducible exact hp | with_reducible refine List.mem_cons_of_mem _ ?_))); (case a_q => omega); (case b_q => omega); (case z_q => omega); k_whole; intro t9))
  k_with "D:subscriptTail" => (k_here; (with_reducible show wpAny _ _ (subscriptTail _ (PySem.Expr.Slice _ _ none _) (Value.ref _) (Value.ref _)) _ _ _); k_dflt (refine' slice_lnN ?F_q ?N_q ?S_q ?I_q ?hi_q ?pl_q ?pu_q ?hb_q ?ha_q ?hq_q ?hl_q ?hz_q ?_; (case F_q => with_reducible assumption); (case N_q => with_reducible assumption); (case I_q => with_reducible assumption); (case hi_q => with_reducible assumption); (case S_q => exact stay_gl (by with_reducible assumption) (by with_reducible assumption) (by with_reducible assumption) (by with_reducible assumption) (by intro _ hp; repeat (first | with_reducible exact hp | with_reducible refine List.mem_cons_of_mem _ ?_))); (case pl_q => constructor); (case pu_q => constructor); (case hb_q => exact rfl); (case ha_q => omega); (case hq_q => omega); (case hl_q => with_reducible assumption); (case hz_q => with_reducible assumption); k_whole; intro D9 h9 vs9 o9 n9 F9 N9 Z9 c9 d9 V9; (try k_sweep)))
  k_with "D:compareOp NotEq bytes bytes" => (k_here; k_dflt (refine' ne_b_eq ?e_q ?_; (case e_q => with_reducible assumption); k_whole))
  k_with "D:call ref" => (k_here; (with_reducible show W _ _ _ (call (Value.ref 419) _) _); k_dflt (refine' W.rtG_t (t6_tok _ _ _ _ _ _ _ _ _ _ _ _ ?I_q ?hp_q ?hst_q ?H_q ?hr_q) ?GLK_q ?SUBS_q ?KO_q ?KB_q ?FR_q ?NN_q ?ST_q ?OF_q ?HK_q ?HF_q ?_; (case KO_q => with_reducible assumption); (case KB_q => with_reducible assumption); (case FR_q => with_reducible assumption); (case NN_q => with_reducible assumption); (case I_q => with_reducible assumption); (case hp_q => with_reducible assumption); (case hst_q => with_reducible assumption); (case H_q => with_reducible assumption); (case hr_q => with_reducible assumption); (case GLK_q => with_reducible assumption); (case SUBS_q => intro _ hp; repeat (first | with_reducible exact hp | with_reducible refine List.mem_cons_of_mem _ ?_)); (case ST_q => with_reducible assumption); (case OF_q => with_reducible assumption); (case HK_q => decide); (case HF_q => rfl); k_whole; intro t9 h9 tk9 g9 T9 F9 K9 N9 S9; (have X9 := Ok.X K9); (have p9 := Ok.T K9); (have TT9 := KtsTurn.trans (by with_reducible assumption) T9); (try k_sweep)))
  k_with "D:call ref" => (k_here; (with_reducible show W _ _ _ (call (Value.ref 419) _) _); k_dflt (refine' W.rtG_t (t6_tbad _ _ _ _ _ _ _ _ _ _ _ _ ?I_q ?hp_q ?hst_q ?H_q ?hr_q) ?GLK_q ?SUBS_q ?KO_q ?KB_q ?FR_q ?NN_q ?ST_q ?OF_q ?HK_q ?HF_q ?_; (case KO_q => with_reducible assumption); (case KB_q => with_reducible assumption); (case FR_q => with_reducible assumption); (case NN_q => with_reducible assumption); (case I_q => with_reducible assumption); (case hp_q => with_reducible assumption); (case hst_q => with_reducible assumption); (case H_q => with_reducible assumption); (case hr_q => with_reducible assumption); (case GLK_q => with_reducible assumption); (case SUBS_q => intro _ hp; repeat (first | with_reducible exact hp | with_reducible refine List.mem_cons_of_mem _ ?_)); (case ST_q => with_reducible assumption); (case OF_q => with_reducible assumption); (case HK_q => decide); (case HF_q => rfl); k_whole; intro t9 h9 tk9 g9 T9 F9 K9 N9 S9; (have X9 := Ok.X K9); (have p9 := Ok.T K9); (have TT9 := KtsTurn.trans (by with_reducible assumption) T9); (try k_sweep)))
  k_with "D:call ref" => (k_here; (with_reducible show W _ _ _ (call (Value.ref 419) _) _); k_dflt (refine' W.rtG_e0 (t6_rok _ _ _ _ _ _ _ _ _ _ _ _ _ _ _ _ _ ?I_q ?hp_q ?hst_q ?H_q ?D_q ?hl_q ?hr_q) ?GLK_q ?SUBS_q ?KO_q ?KB_q ?FR_q ?NN_q ?ST_q ?OF_q ?HK_q ?HF_q ?_; (case KO_q => with_reducible assumption); (case KB_q => with_reducible assumption); (case FR_q => with_reducible assumption); (case NN_q => with_reducible assumption); (case I_q => with_reducible assumption); (case hp_q => with_reducible assumption); (case hst_q => with_reducible assumption); (case H_q => with_reducible assumption); (case D_q => with_reducible assumption); (case hl_q => with_reducible assumption); (case hr_q => with_reducible assumption); (case GLK_q => with_reducible assumption); (case SUBS_q => intro _ hp; repeat (first | with_reducible exact hp | with_reducible refine List.mem_cons_of_mem _ ?_)); (case ST_q => with_reducible assumption); (case OF_q => with_reducible assumption); (case HK_q => decide); (case HF_q => rfl); k_whole; intro y9 h9 tk9 g9 T9 F9 K9 N9 S9 P9; (have X9 := Ok.X K9); (have p9 := Ok.T K9); (have TT9 := KtsTurn.trans (by with_reducible assumption) T9); (have I9 := cell_get (by with_reducible assumption) (by omega) (by omega) P9); obtain ⟨u9, k9, a9, I9⟩ := I9; (try k_sweep)))
  k_with "D:call ref" => (k_here; (with_reducible show W _ _ _ (call (Value.ref 419) _) _); k_dflt (refine' W.rtG_t (t6_rbad _ _ _ _ _ _ _ _ _ _ _ _ _ _ _ _ _ ?I_q ?hp_q ?hst_q ?H_q ?D_q ?hl_q ?hr_q) ?GLK_q ?SUBS_q ?KO_q ?KB_q ?FR_q ?NN_q ?ST_q ?OF_q ?HK_q ?HF_q ?_; (case KO_q => with_reducible assumption); (case KB_q => with_reducible assumption); (case FR_q => with_reducible assumption); (case NN_q => with_reducible assumption); (case I_q => with_reducible assumption); (case hp_q => with_reducible assumption); (case hst_q => with_reducible assumption); (case H_q => with_reducible assumption); (case D_q => with_reducible assumption); (case hl_q => with_reducible assumption); (case hr_q => with_reducible assumption); (case GLK_q => with_reducible assumption); (case SUBS_q => intro _ hp; repeat (first | with_reducible exact hp | with_reducible refine List.mem_cons_of_mem _ ?_)); (case ST_q => with_reducible assumption); (case OF_q => with_reducible assumption); (case HK_q => decide); (case HF_q => rfl); k_whole; intro t9 h9 tk9 g9 T9 F9 K9 N9 S9; (have X9 := Ok.X K9); (have p9 := Ok.T K9); (have TT9 := KtsTurn.trans (by with_reducible assumption) T9); (try k_sweep)))
  k_with "D:call type:list" => (k_here; (with_reducible show wpAny _ _ (call (Value.type "list") [Value.ref _]) _ _ _); k_dflt (refine' list_lnN ?F_q ?N_q ?I_q ?hi_q ?z_q ?_; (case F_q => with_reducible assumption); (case N_q => with_reducible assumption); (case I_q => first | exact News.isList (by with_reducible assumption) (by k_mem) | exact IsL_of (by with_reducible assumption) (stay_gl (by with_reducible assumption) (by with_reducible assumption) (by with_reducible assumption) (by with_reducible assumption) (by intro _ hp; repeat (first | with_reducible exact hp | with_reducible refine List.mem_cons_of_mem _ ?_)))); (case hi_q => with_reducible assumption); (case z_q => with_reducible assumption); k_whole; intro D9 n9 h9 F9 N9 L9; (try k_sweep)))
  k_with "D:pyIter ref" => (k_here; k_dflt (refine' comp_cells ?hh_q ?hl_q ?C_q ?S_q ?X_q ?F_q ?N_q ?hsz_q ?hk_q ?hx_q ?_; (case F_q => with_reducible assumption); (case N_q => with_reducible assumption); (case X_q => with_reducible assumption); (case hl_q => first | with_reducible assumption | exact IsL_of (by with_reducible assumption) (stay_of (by with_reducible assumption) (by with_reducible assumption))); (case C_q => with_reducible assumption); (case S_q => first | exact stay_gl (by with_reducible assumption) (by with_reducible assumption) (by with_reducible assumption) (by with_reducible assumption) (by intro _ hp; repeat (first | with_reducible exact hp | with_reducible refine List.mem_cons_of_mem _ ?_)) | exact stay_of (by with_reducible assumption) (by with_reducible assumption)); (case hsz_q => first | exact lsOf_len _ _ _ _ _ | exact Nat.le_of_ble_eq_true rfl); (case hh_q => with_unfolding_all rfl); (case hk_q => rfl); (case hx_q => intro _; rfl); k_whole; intro D9 vs9 n9 h9 tk9 F9 N9 V9; (try k_sweep)))
  exact ⟨rfl, rfl⟩
structure PSt {i : FI} {w : World} (C : Cx i w) (g G : Heap) (dk l : Addr) (gl : Led) (m : Str → Option Value) (h g' : Heap) (od ol : Obj) : Prop where
  T : KtsTurn (frsOf C.outer) g g'
  F : Fr g' C.L h m
  K : Ok C g' 35
  S : G.StaysIn g'
  N : News g' C.L h ((dk, od) :: (l, ol) :: gl)
  D : DkOk w dk l od ol
noncomputable abbrev NEl (dk l : Addr) (gl : Led) : Prop := ∀ z ∈ gl, @Ne Nat z.1 dk ∧ @Ne Nat z.1 l
inductive PA {i : FI} {w : World} (C : Cx i w) (g G : Heap) (dk l : Addr) (mp : Int → Int → Tok → Tok → Str → Option Value) (h : Heap) (tk : Nat) : Prop
  | mk (p q : Int) (tp tq : Tok) (pb : -1 ≤ p ∧ p ≤ 5) (qb : -1 ≤ q ∧ q ≤ 5) (g' : Heap) (od ol : Obj) (st : PSt C g G dk l [] (mp p q tp tq) h g' od ol)
inductive PB {i : FI} {w : World} (C : Cx i w) (g G : Heap) (dk l bd : Addr) (a b : Int) (mp : Addr → Str → Option Value) (h : Heap) (tk : Nat) : Prop
  | mk (td : Addr) (tsd tmd : Tok) (G1 : Heap) (gl : Led) (GK : GLk G G1 gl) (J : SpF G1 td bd a b tsd tmd) (NE : NEl dk l gl) (g' : Heap) (od ol : Obj) (st : PSt C g G dk l gl (mp td) h g' od ol)
inductive StO {i : FI} {w : World} (C : Cx i w) (g G : Heap) (dk l : Addr) (gl : Led) (m : Str → Option Value) (h : Heap) (tk : Nat) : Prop
  | mk (g' : Heap) (od ol : Obj) (st : PSt C g G dk l gl m h g' od ol)
inductive StL {i : FI} {w : World} (C : Cx i w) (g G : Heap) (dk l : Addr) (gl : Led) (mp : Value → Str → Option Value) (h : Heap) (tk : Nat) : Prop
  | mk (like : Value) (g' : Heap) (od ol : Obj) (st : PSt C g G dk l gl (mp like) h g' od ol)
inductive StC {i : FI} {w : World} (C : Cx i w) (g G : Heap) (dk l : Addr) (gl : Led) (mp : Value → Value → Str → Option Value) (h : Heap) (tk : Nat) : Prop
  | mk (like c0 : Value) (g' : Heap) (od ol : Obj) (st : PSt C g G dk l gl (mp like c0) h g' od ol)
inductive PE {i : FI} {w : World} (C : Cx i w) (g G : Heap) (dk l : Addr) (G1 : Heap) (ns : List Int) (mp : Addr → Value → Str → Option Value) (h : Heap) (tk : Nat) : Prop
  | mk (c : Addr) (vs : List Value) (gl : Led) (G2 : Heap) (GK : GLk G G2 gl) (S : G1.StaysIn G2) (VI : IntsAre vs ns) (IL : G2.IsList c vs.toArray) (NE : NEl dk l gl) (like : Value) (g' : Heap) (od ol : Obj) (st : PSt C g G dk l gl (mp c like) h g' od ol)
inductive PF {i : FI} {w : World} (C : Cx i w) (g G : Heap) (dk l : Addr) (G1 : Heap) (ns : List Int) (mp : Addr → Value → Value → Str → Option Value) (h : Heap) (tk : Nat) : Prop
  | mk (c : Addr) (vs : List Value) (gl : Led) (G2 : Heap) (GK : GLk G G2 gl) (S : G1.StaysIn G2) (VI : IntsAre vs ns) (IL : G2.IsList c vs.toArray) (NE : NEl dk l gl) (like c0 : Value) (g' : Heap) (od ol : Obj) (st : PSt C g G dk l gl (mp c like c0) h g' od ol)
inductive PX {i : FI} {w : World} (C : Cx i w) (g G : Heap) (dk l : Addr) (gl : Led) (mp : Int → Tok → Value → Value → Str → Option Value) (h : Heap) (tk : Nat) : Prop
  | mk (i : Int) (ti : Tok) (i1 : -1 ≤ i) (i2 : i ≤ 4) (like c0 : Value) (g' : Heap) (od ol : Obj) (st : PSt C g G dk l gl (mp i ti like c0) h g' od ol)
noncomputable abbrev mpP (dk x sp : Addr) (p q : Int) (tp tq : Tok) : Str → Option Value := fun y => if y = Str.ofString "span" then some (.ref sp) else if y = Str.ofString "start" then some (.int p tp) else if y = Str.ofString "many" then some (.int q tq) else List.lookup y [(Str.ofString "deck", .ref dk), (Str.ofString "thing", .ref x)].reverse
noncomputable abbrev mpT (dk x sp td : Addr) (b : Bool) (p q : Int) (tp tq : Tok) : Str → Option Value := fun y => if y = Str.ofString "told" then some (.ref td) else if y = Str.ofString "is_right" then some (.bool b) else if y = Str.ofString "span" then some (.ref sp) else if y = Str.ofString "start" then some (.int p tp) else if y = Str.ofString "many" then some (.int q tq) else List.lookup y [(Str.ofString "deck", .ref dk), (Str.ofString "thing", .ref x)].reverse
noncomputable abbrev mpL (dk x sp td : Addr) (b : Bool) (p q : Int) (tp tq : Tok) (like : Value) : Str → Option Value := fun y => if y = Str.ofString "like" then some like else if y = Str.ofString "told" then some (.ref td) else if y = Str.ofString "is_right" then some (.bool b) else if y = Str.ofString "span" then some (.ref sp) else if y = Str.ofString "start" then some (.int p tp) else if y = Str.ofString "many" then some (.int q tq) else List.lookup y [(Str.ofString "deck", .ref dk), (Str.ofString "thing", .ref x)].reverse
noncomputable abbrev mpK (dk x sp td : Addr) (c : Value) (b : Bool) (p q : Int) (tp tq : Tok) (like : Value) : Str → Option Value := fun y => if y = Str.ofString "cells" then some c else if y = Str.ofString "like" then some like else if y = Str.ofString "told" then some (.ref td) else if y = Str.ofString "is_right" then some (.bool b) else if y = Str.ofString "span" then some (.ref sp) else if y = Str.ofString "start" then some (.int p tp) else if y = Str.ofString "many" then some (.int q tq) else List.lookup y [(Str.ofString "deck", .ref dk), (Str.ofString "thing", .ref x)].reverse
noncomputable abbrev mpK2 (dk x sp td : Addr) (c : Value) (b : Bool) (p q : Int) (tp tq : Tok) (like c0 : Value) : Str → Option Value := fun y => if y = Str.ofString "cells" then some c else if y = Str.ofString "cells" then some c0 else if y = Str.ofString "like" then some like else if y = Str.ofString "told" then some (.ref td) else if y = Str.ofString "is_right" then some (.bool b) else if y = Str.ofString "span" then some (.ref sp) else if y = Str.ofString "start" then some (.int p tp) else if y = Str.ofString "many" then some (.int q tq) else List.lookup y [(Str.ofString "deck", .ref dk), (Str.ofString "thing", .ref x)].reverse
noncomputable abbrev mpX (dk x sp td : Addr) (i : Int) (ti : Tok) (c : Value) (b : Bool) (p q : Int) (tp tq : Tok) (like c0 : Value) : Str → Option Value := fun y => if y = Str.ofString "at" then some (.int i ti) else if y = Str.ofString "cells" then some c else if y = Str.ofString "cells" then some c0 else if y = Str.ofString "like" then some like else if y = Str.ofString "told" then some (.ref td) else if y = Str.ofString "is_right" then some (.bool b) else if y = Str.ofString "span" then some (.ref sp) else if y = Str.ofString "start" then some (.int p tp) else if y = Str.ofString "many" then some (.int q tq) else List.lookup y [(Str.ofString "deck", .ref dk), (Str.ofString "thing", .ref x)].reverse
theorem pw {p : Int} (h : -1 ≤ p ∧ p ≤ 5) : -1000 ≤ p ∧ p ≤ 1000 := ⟨Int.le_trans (by decide) h.1, Int.le_trans h.2 (by decide)⟩
theorem draw7 {i : Int} (h0 : 0 ≤ i) (h1 : i < 7) : -1 ≤ i - 1 ∧ i - 1 ≤ 5 := ⟨Int.sub_le_sub_right h0 1, by omega⟩
theorem draw6 {i : Int} (h0 : 0 ≤ i) (h1 : i < 6) : -1 ≤ i - 1 ∧ i - 1 ≤ 4 := ⟨Int.sub_le_sub_right h0 1, by omega⟩
theorem sw {st mn : Int} (h0 : 0 ≤ st) (h1 : 0 ≤ mn) (h : st + mn ≤ 5) : (-1000 ≤ st ∧ st ≤ 1000) ∧ (-1000 ≤ mn ∧ mn ≤ 1000) :=
  ⟨⟨Int.le_trans (by decide) h0, Int.le_trans (Int.le_trans (Int.le_add_of_nonneg_right h1) h) (by decide)⟩, Int.le_trans (by decide) h1, Int.le_trans (Int.le_trans (Int.le_add_of_nonneg_left h0) h) (by decide)⟩
theorem pfact {st mn p q n : Int} (hst : 0 ≤ st) (hp : 0 ≤ p) (hr : p + q ≤ mn) (hb : st + mn ≤ n) : 0 ≤ st + p ∧ st + p + q ≤ n :=
  ⟨Int.add_nonneg hst hp, by rw [Int.add_assoc]; exact Int.le_trans (Int.add_le_add_left hr st) hb⟩
theorem lenA {a q : Int} {n : Nat} (ha : 0 ≤ a) (hq : 0 ≤ q) (h : a + q ≤ n) : ((min q.toNat (n - a.toNat) : Nat) : Int) = q := by omega
theorem parts_c (w : World) (G : Heap) (dk l : Addr) (od ol : Obj) (x : Addr) (U : TK) (v : Value) (e : Bool) (ac : Int) (tk ta : Tok) (I : ThF G x (kindS U) v e ac tk ta) (H : ValH G U v) (hs : (shares U && !isDict U) = true) (hb : spB U) (hlt : l < dk) (D : DkOk w dk l od ol) :
    RT 36 w 443 [.ref dk, .ref x] G [(dk, od), (l, ol)] (fun h h1 r mu => r = .bool true ∧ ∃ od' ol', mu = [(dk, od'), (l, ol')] ∧ DkOk w dk l od' ol') := by
  refine RT.intro (k := 35) [(Str.ofString "deck", .ref dk), (Str.ofString "thing", .ref x)] (by k_is) (by k_is) (by intro s X; exact BindsTo.of_eq rfl) rfl (by decide) rfl rfl rfl ?_
  intro C sh g h₁ tkk Q K KB F' N' KS OM OF S S' hret
  have B' := K.B
  have X' := K.X
  have T' := K.T
  have XB := KB.X
  have TB := KB.T
  have TT : KtsTurn (frsOf C.outer) g g := KtsTurn.refl
  replace hlt := ltN hlt
  obtain ⟨sp, bd, st, mn, ts, tm, Cb, nn, tn, rfl, J, HDn, hC, ⟨hb1, hb2, hb3⟩, HU⟩ := part_h H hs hb
  have hcn : ClsOk (hd.heap_39 w.params) Cb (Str.ofString "number") := by
    rcases hC with rfl | rfl
    · exact cls_ok _ (_, _) (by repeat (first | exact List.Mem.head _ | apply List.Mem.tail))
    · exact cls_ok _ (_, _) (by repeat (first | exact List.Mem.head _ | apply List.Mem.tail))
  with_reducible refine W.cut (PA C g G dk l (mpP dk x sp)) ?_ ?_
  · k_steps
    rename Fr _ _ _ _ => FF
    rename News _ _ _ _ => NN
    rename DkOk _ _ _ _ _ => DD
    have N2 := news_two (a := dk) (b := l) NN (by k_mem) (by k_mem)
    refine' Due.mk ⟨rfl, _, _, _, _, ?zu, ?zv, _, _, _, ?zt, FF, ?zk, ?zs, N2, DD⟩
    case zu => exact draw7 (by with_reducible assumption) (by with_reducible assumption)
    case zv => exact draw7 (by with_reducible assumption) (by with_reducible assumption)
    all_goals with_reducible assumption
  clear F' N' D TT K B' X' T' S'
  rintro h1 tk1 ⟨p, q, tp, tq, ⟨p1, p2⟩, ⟨q1, q2⟩, g1, od1, ol1, T1, F1, K1, S1, N1, D1⟩
  have B1 := K1.B
  have X1 := K1.X
  have P1 := K1.T
  have hp := pw ⟨p1, p2⟩
  obtain ⟨hst, hmn⟩ := sw hb1 hb2 hb3
  by_cases hr : 0 ≤ p ∧ 0 ≤ q ∧ p + q ≤ mn
  · obtain ⟨r1, r2, r3⟩ := id hr
    with_reducible refine W.cut2 (PB C g G dk l bd (st + p) q fun td => mpT dk x sp td (decide (p + q ≤ mn)) p q tp tq) ?_ ?_
    · k_steps
      rename Fr _ _ _ _ => FF
      rename News _ _ _ _ => NN
      have N2 := news_hd2 (a := (dk, od1)) (b := (l, ol1)) NN (by k_mem) (by k_mem)
      have S2 : G.StaysIn _ := stay_of FF (by with_reducible assumption)
      have K2 := glk_pick (gl := [_, _]) S2 fun z hz => (N2 z (.tail _ (.tail _ hz))).1
      refine' Due.mk ⟨?z1_b, _, _, _, _, _, K2, ?zj_b, ?zn_b, _, _, _, ?zt_b, FF, ?zk_b, ?zs_b, N2, D1⟩
      case z1_b => first | exact True.intro | exact rfl
      case zj_b => exact fld_pick NN (.head _) (.tail _ (.head _)) (.head _) (.tail _ (.head _)) (by with_reducible assumption)
      case zn_b => exact two_ne (by with_reducible assumption) (by with_reducible assumption) (by with_reducible assumption) (by with_reducible assumption)
      all_goals with_reducible assumption
    clear F1 N1 D1 T1 K1 B1 X1 P1 S1
    rintro h1 tk1 ⟨td, tsd, tmd, G1, gl, GK, JD, NE, g1, od1, ol1, T1, F1, K1, S1, N1, D1⟩
    have B1 := K1.B
    have X1 := K1.X
    have P1 := K1.T
    with_reducible refine W.cut3 (StO C g G dk l gl (mpT dk x sp td (decide (p + q ≤ mn)) p q tp tq)) ?_ ?_
    · k_steps
      refine Stop.mk ?_
      refine' tupNe (xs := [_, _, _]) (ys := [_, _, _]) ?NX4 ?aX4 ?bX4 ?rX4 ?wX4 ?uX4 ?cX4 ?_
      (case NX4 => with_reducible assumption)
      (case aX4 => k_mem)
      (case bX4 => k_mem)
      (case rX4 => exact .cons (a := .int _) ⟨_, rfl⟩ (.cons (a := .int _) ⟨_, rfl⟩ (.cons (a := .int _) ⟨_, rfl⟩ .nil)))
      (case wX4 => exact .cons (a := .int _) ⟨_, rfl⟩ (.cons (a := .int _) ⟨_, rfl⟩ (.cons (a := .int _) ⟨_, rfl⟩ .nil)))
      (case uX4 => (first | exact lt_add (Ok.u (by with_reducible assumption)) (by decide) | exact lt_add0 (Ok.u (by with_reducible assumption)) | ktr_units))
      (case cX4 => exact (congrArg not (tEq_refl _)).trans (show (!true) = false from rfl))
      k_steps
      rename Fr _ _ _ _ => FF
      rename News _ _ _ _ => NN
      have N2 := news_st (p := (dk, od1)) (q := (l, ol1)) (gl := gl) NN (by k_mem) (by k_mem) (by intro _ hp; repeat (first | with_reducible exact hp | with_reducible refine List.mem_cons_of_mem _ ?_))
      refine' Due.mk ⟨?z1_c, _, _, _, ?zt_c, FF, ?zk_c, ?zs_c, N2, D1⟩
      case z1_c => first | exact True.intro | exact rfl
      all_goals with_reducible assumption
    clear F1 N1 D1 T1 K1 B1 X1 P1 S1
    rintro h1 tk1 ⟨g1, od1, ol1, T1, F1, K1, S1, N1, D1⟩
    have B1 := K1.B
    have X1 := K1.X
    have P1 := K1.T
    with_reducible refine W.cut2 (StL C g G dk l gl (mpL dk x sp td (decide (p + q ≤ mn)) p q tp tq)) ?_ ?_
    · k_steps
      refine Stop.mk ?_
      refine' lstNe (xs := [_, _, _]) (ys := [_, _, _]) ?NX5 ?aX5 ?bX5 ?rX5 ?wX5 ?uX5 ?cX5 ?_
      (case NX5 => with_reducible assumption)
      (case aX5 => k_mem)
      (case bX5 => k_mem)
      (case rX5 => exact .cons (a := .at (.str _)) ⟨_, rfl⟩ (.cons (a := .at (.bool _)) rfl (.cons (a := .at (.int _)) ⟨_, rfl⟩ .nil)))
      (case wX5 => exact .cons (a := .at (.str _)) ⟨_, rfl⟩ (.cons (a := .at (.bool _)) rfl (.cons (a := .at (.int _)) ⟨_, rfl⟩ .nil)))
      (case uX5 => (first | exact lt_add (Ok.u (by with_reducible assumption)) (by decide) | exact lt_add0 (Ok.u (by with_reducible assumption)) | ktr_units))
      (case cX5 => exact (congrArg not (lEq_refl _)).trans (show (!true) = false from rfl))
      k_steps
      rename Fr _ _ _ _ => FF
      rename News _ _ _ _ => NN
      have N2 := news_st (p := (dk, od1)) (q := (l, ol1)) (gl := gl) NN (by k_mem) (by k_mem) (by intro _ hp; repeat (first | with_reducible exact hp | with_reducible refine List.mem_cons_of_mem _ ?_))
      refine' Due.mk ⟨?z1_d, _, _, _, _, ?zt_d, FF, ?zk_d, ?zs_d, N2, D1⟩
      case z1_d => first | exact True.intro | exact rfl
      all_goals with_reducible assumption
    clear F1 N1 D1 T1 K1 B1 X1 P1 S1
    rintro h1 tk1 ⟨like, g1, od1, ol1, T1, F1, K1, S1, N1, D1⟩
    have B1 := K1.B
    have X1 := K1.X
    have P1 := K1.T
    rcases HU with ⟨g0, rfl, HT, hb4⟩ | ⟨pk, g0, rfl, HR, hb4⟩
    · have hks : (kindS (.str g0 st mn) == Str.ofString "string") = true := by rw [isStr_eq]; rfl
      obtain ⟨ba, tn', HD, HBA⟩ := id HT
      have h5 := octs_size g0
      have pf := pfact hb1 r1 r3 hb4
      have hnl : st + p + q ≤ ((byteNs (octs g0)).length : Int) := by rw [byteNs_len]; exact pf.2
      have hnz : (byteNs (octs g0)).length ≤ 100 := by rw [byteNs_len]; omega
      have hl1 := (N1 _ (.head _)).1
      have hl2 := (N1 _ (.tail _ (.head _))).1
      with_reducible refine W.cut (PE C g G dk l G1 (byteNs (octs g0)) fun c => mpK dk x sp td (.ref c) (decide (p + q ≤ mn)) p q tp tq) ?_ ?_
      · k_steps
        rename Fr _ _ _ _ => FF
        rename News _ _ _ _ => NN
        rename IntsAre _ _ => VV
        rename Heap.get? h1 _ = none => ZZ
        refine grow1_k (a := (dk, od1)) (b := (l, ol1)) GK FF (by with_reducible assumption) NN (.head _) (by k_mem) (by k_mem) (by intro _ hp; repeat (first | with_reducible exact hp | with_reducible refine List.mem_cons_of_mem _ ?_)) fun G2 K2 S2 E2 N2 => ?_
        refine' Due.mk ⟨?z1_e, _, _, _, _, K2, S2, VV, list_at E2 rfl rfl, ne_cons (ne_get ZZ hl1) (ne_get ZZ hl2) NE, _, _, _, _, ?zt_e, FF, ?zk_e, ?zs_e, N2, D1⟩
        case z1_e => first | exact True.intro | exact rfl
        all_goals with_reducible assumption
      clear F1 N1 D1 T1 K1 B1 X1 P1 S1 hl1 hl2
      rintro h1 tk1 ⟨c, vs, gl1, G2, GK1, S12, VI, IL, NE1, like, g1, od1, ol1, T1, F1, K1, S1, N1, D1⟩
      have B1 := K1.B
      have X1 := K1.X
      have P1 := K1.T
      replace JD := JD.keep S12
      clear GK NE S12
      have hl1 := (N1 _ (.head _)).1
      have hl2 := (N1 _ (.tail _ (.head _))).1
      with_reducible refine W.cut (PF C g G dk l G2 (((byteNs (octs g0)).drop (st + p).toNat).take q.toNat) fun c => mpK2 dk x sp td (.ref c) (decide (p + q ≤ mn)) p q tp tq) ?_ ?_
      · k_steps
        rename Fr _ _ _ _ => FF
        rename News _ _ _ _ => NN
        rename IntsAre _ _ => VV
        rename Heap.get? h1 _ = none => ZZ
        refine grow1_k (a := (dk, od1)) (b := (l, ol1)) GK1 FF (by with_reducible assumption) NN (.head _) (by k_mem) (by k_mem) (by intro _ hp; repeat (first | with_reducible exact hp | with_reducible refine List.mem_cons_of_mem _ ?_)) fun G3 K2 S2 E2 N2 => ?_
        refine' Due.mk ⟨?z1_f, _, _, _, _, K2, S2, VV, list_at E2 (by with_reducible assumption) (by with_reducible assumption), ne_cons (ne_get ZZ hl1) (ne_get ZZ hl2) NE1, _, _, _, _, _, ?zt_f, FF, ?zk_f, ?zs_f, N2, D1⟩
        case z1_f => first | exact True.intro | exact rfl
        all_goals with_reducible assumption
      clear F1 N1 D1 T1 K1 B1 X1 P1 S1 hl1 hl2 VI IL
      rintro h1 tk1 ⟨c, vs, gl2, G3, GK, S23, VI, IL, NE, like, c0, g1, od1, ol1, T1, F1, K1, S1, N1, D1⟩
      have B1 := K1.B
      have X1 := K1.X
      have P1 := K1.T
      replace JD := JD.keep S23
      clear GK1 NE1 S23
      have HT3 := HT.keep' GK.1
      have hq0 := bytes_pick (octs g0) (a := st + p) (q := q) pf.1 r2 pf.2
      have hlen : (((((byteNs (octs g0)).drop (st + p).toNat).take q.toNat).length : Nat) : Int) = q := by rw [List.length_take, List.length_drop, byteNs_len]; exact lenA pf.1 r2 pf.2
      have hvz : vs.length ≤ sizeLine := by rw [ints_len VI, sizeLine_eq]; omega
      have ha3 : 0 ≤ st + p ∧ st + p + q ≤ (octs g0).size := pf
      obtain ⟨ha1, ha2⟩ := sw pf.1 r2 (Int.le_trans pf.2 (Int.ofNat_le.mpr h5))
      with_reducible refine W.cut (StC C g G dk l gl2 (mpK2 dk x sp td (.ref c) (decide (p + q ≤ mn)) p q tp tq)) ?_ ?_
      · k_steps
        rename Fr _ _ _ _ => FF
        rename News _ _ _ _ => NN
        have N2 := news_st (p := (dk, od1)) (q := (l, ol1)) (gl := gl2) NN (by k_mem) (by k_mem) (by intro _ hp; repeat (first | with_reducible exact hp | with_reducible refine List.mem_cons_of_mem _ ?_))
        refine' Due.mk ⟨?z1_g, _, _, _, _, _, ?zt_g, FF, ?zk_g, ?zs_g, N2, D1⟩
        case z1_g => first | exact True.intro | exact rfl
        all_goals with_reducible assumption
      clear F1 N1 D1 T1 K1 B1 X1 P1 S1
      rintro h1 tk1 ⟨like, c0, g1, od1, ol1, T1, F1, K1, S1, N1, D1⟩
      have B1 := K1.B
      have X1 := K1.X
      have P1 := K1.T
      with_reducible refine W.cut (PX C g G dk l gl2 fun i ti => mpX dk x sp td i ti (.ref c) (decide (p + q ≤ mn)) p q tp tq) ?_ ?_
      · k_steps
        rename Fr _ _ _ _ => FF
        rename News _ _ _ _ => NN
        rename DkOk _ _ _ _ _ => DD
        have N2 := news_st (p := (dk, _)) (q := (l, _)) (gl := gl2) NN (by k_mem) (by k_mem) (by intro _ hp; repeat (first | with_reducible exact hp | with_reducible refine List.mem_cons_of_mem _ ?_))
        refine' Due.mk ⟨?z1_h, _, _, ?zu_h, ?zv_h, _, _, _, _, _, ?zt_h, FF, ?zk_h, ?zs_h, N2, DD⟩
        case z1_h => first | exact True.intro | exact rfl
        case zu_h => exact (draw6 (by with_reducible assumption) (by with_reducible assumption)).1
        case zv_h => exact (draw6 (by with_reducible assumption) (by with_reducible assumption)).2
        all_goals with_reducible assumption
      clear F1 N1 D1 T1 K1 B1 X1 P1 S1
      rintro h1 tk1 ⟨i, ti, i1, i2, like, c0, g1, od1, ol1, T1, F1, K1, S1, N1, D1⟩
      have B1 := K1.B
      have X1 := K1.X
      have P1 := K1.T
      have ha4 := pw ⟨i1, Int.le_trans i2 (by decide)⟩
      by_cases hi : 0 ≤ i ∧ i < q
      · obtain ⟨i3, i4⟩ := id hi
        have hv := byteNs_get (octs g0) (a := st + p) (q := q) (i := i) pf.1 r2 pf.2 i3 i4
        k_steps
        rename Fr _ _ _ _ => FF
        rename News _ _ _ _ => NN
        have N2 := news_two (a := dk) (b := l) NN (by k_mem) (by k_mem)
        refine Stop.mk ?_
        refine' hret.fin ?tY1 FF N2 rfl ⟨congrArg Value.bool (beq_iff_eq.mpr hv.symm), _, _, rfl, D1⟩
        with_reducible assumption
      · k_steps
        · rename Fr _ _ _ _ => FF
          rename News _ _ _ _ => NN
          have N2 := news_two (a := dk) (b := l) NN (by k_mem) (by k_mem)
          refine Stop.mk ?_
          refine' hret.fin ?tY2 FF N2 rfl ⟨(show Value.bool (_ == _) = Value.bool true from rfl), _, _, rfl, D1⟩
          with_reducible assumption
        · rename Fr _ _ _ _ => FF
          rename News _ _ _ _ => NN
          have N2 := news_two (a := dk) (b := l) NN (by k_mem) (by k_mem)
          refine Stop.mk ?_
          refine' hret.fin ?tY3 FF N2 rfl ⟨(show Value.bool (_ == _) = Value.bool true from rfl), _, _, rfl, D1⟩
          with_reducible assumption
    · have hks : (kindS (.arr pk g0 st mn) == Str.ofString "string") = false := by rw [isStr_eq]; rfl
      obtain ⟨li, tn', y0, y1, y2, HD, HL, CL⟩ := RowH.cells HR
      have HLR := lsOf_refs HL
      have pf := pfact hb1 r1 r3 hb4
      have hnl : st + p + q ≤ (([7, 8, 9] : List Int).length : Int) := pf.2
      have hnz : ([7, 8, 9] : List Int).length ≤ 100 := Nat.le_of_ble_eq_true rfl
      have hnz1 : ((lsOf y0 y1 y2).map (·.2)).length ≤ 100 := Nat.le_of_ble_eq_true rfl
      have hl1 := (N1 _ (.head _)).1
      have hl2 := (N1 _ (.tail _ (.head _))).1
      with_reducible refine W.cut (PE C g G dk l G1 ([7, 8, 9] : List Int) fun c => mpK dk x sp td (.ref c) (decide (p + q ≤ mn)) p q tp tq) ?_ ?_
      · k_steps
        rename Fr _ _ _ _ => FF
        rename News _ _ _ _ => NN
        rename IntsAre _ _ => VV
        rename ∀ q ∈ _, @Ne Nat _ _ => LL
        refine grow1_k (a := (dk, od1)) (b := (l, ol1)) GK FF (by with_reducible assumption) NN (.head _) (by k_mem) (by k_mem) (by intro _ hp; repeat (first | with_reducible exact hp | with_reducible refine List.mem_cons_of_mem _ ?_)) fun G2 K2 S2 E2 N2 => ?_
        refine' Due.mk ⟨?z1_er, _, _, _, _, K2, S2, VV, list_at E2 rfl rfl, ne_cons (LL (dk, od1) (by k_mem)) (LL (l, ol1) (by k_mem)) NE, _, _, _, _, ?zt_er, FF, ?zk_er, ?zs_er, N2, D1⟩
        case z1_er => first | exact True.intro | exact rfl
        all_goals with_reducible assumption
      clear F1 N1 D1 T1 K1 B1 X1 P1 S1 hl1 hl2
      rintro h1 tk1 ⟨c, vs, gl1, G2, GK1, S12, VI, IL, NE1, like, g1, od1, ol1, T1, F1, K1, S1, N1, D1⟩
      have B1 := K1.B
      have X1 := K1.X
      have P1 := K1.T
      replace JD := JD.keep S12
      clear GK NE S12
      have hl1 := (N1 _ (.head _)).1
      have hl2 := (N1 _ (.tail _ (.head _))).1
      with_reducible refine W.cut (PF C g G dk l G2 ((([7, 8, 9] : List Int).drop (st + p).toNat).take q.toNat) fun c => mpK2 dk x sp td (.ref c) (decide (p + q ≤ mn)) p q tp tq) ?_ ?_
      · k_steps
        rename Fr _ _ _ _ => FF
        rename News _ _ _ _ => NN
        rename IntsAre _ _ => VV
        rename Heap.get? h1 _ = none => ZZ
        refine grow1_k (a := (dk, od1)) (b := (l, ol1)) GK1 FF (by with_reducible assumption) NN (.head _) (by k_mem) (by k_mem) (by intro _ hp; repeat (first | with_reducible exact hp | with_reducible refine List.mem_cons_of_mem _ ?_)) fun G3 K2 S2 E2 N2 => ?_
        refine' Due.mk ⟨?z1_fr, _, _, _, _, K2, S2, VV, list_at E2 (by with_reducible assumption) (by with_reducible assumption), ne_cons (ne_get ZZ hl1) (ne_get ZZ hl2) NE1, _, _, _, _, _, ?zt_fr, FF, ?zk_fr, ?zs_fr, N2, D1⟩
        case z1_fr => first | exact True.intro | exact rfl
        all_goals with_reducible assumption
      clear F1 N1 D1 T1 K1 B1 X1 P1 S1 hl1 hl2 VI IL
      rintro h1 tk1 ⟨c, vs, gl2, G3, GK, S23, VI, IL, NE, like, c0, g1, od1, ol1, T1, F1, K1, S1, N1, D1⟩
      have B1 := K1.B
      have X1 := K1.X
      have P1 := K1.T
      replace JD := JD.keep S23
      clear GK1 NE1 S23
      have HR3 := HR.keep' GK.1
      have HD3 := HD.keep GK.1
      have HL3 := IsL_of HL GK.1
      have CL3 := CL.keep GK.1
      have CL4 := lsOf_sub CL3 (st + p).toNat q.toNat
      have hnz2 : ((([7, 8, 9] : List Int).drop (st + p).toNat).take q.toNat).length ≤ 100 := by rw [List.length_take, List.length_drop]; exact Nat.le_trans (Nat.min_le_right _ _) (Nat.le_trans (Nat.sub_le _ _) (Nat.le_of_ble_eq_true rfl))
      clear HD HL HLR CL hnz1
      have hlen : ((((([7, 8, 9] : List Int).drop (st + p).toNat).take q.toNat).length : Nat) : Int) = q := by rw [List.length_take, List.length_drop]; exact lenA (n := 3) pf.1 r2 pf.2
      have hvz : vs.length ≤ sizeLine := by rw [ints_len VI, sizeLine_eq]; omega
      have ha3 : 0 ≤ st + p ∧ st + p + q ≤ 3 := pf
      obtain ⟨ha1, ha2⟩ := sw pf.1 r2 (Int.le_trans pf.2 (by decide))
      have ha5 : 0 ≤ st + p ∧ 0 ≤ q ∧ st + p + q ≤ 3 := ⟨pf.1, r2, pf.2⟩
      with_reducible refine W.cut (StC C g G dk l gl2 (mpK2 dk x sp td (.ref c) (decide (p + q ≤ mn)) p q tp tq)) ?_ ?_
      · k_steps
        refine Stop.mk ?_
        refine' lstNe (c := false) (xs := _) (ys := _) ?NX6 ?aX6 ?bX6 ?rX6 ?wX6 ?uX6 ?cX6 ?_
        (case NX6 => with_reducible assumption)
        (case aX6 => k_mem)
        (case bX6 => k_mem)
        (case rX6 => exact ints_its (by with_reducible assumption))
        (case wX6 => exact ints_its (by with_reducible assumption))
        (case uX6 => (first | exact lt_add (Ok.u (by with_reducible assumption)) (by decide) | exact lt_add0 (Ok.u (by with_reducible assumption)) | ktr_units))
        (case cX6 => rw [lsOf_nums, lEq_refl]; rfl)
        k_steps
        rename Fr _ _ _ _ => FF
        rename News _ _ _ _ => NN
        have N2 := news_st (p := (dk, od1)) (q := (l, ol1)) (gl := gl2) NN (by k_mem) (by k_mem) (by intro _ hp; repeat (first | with_reducible exact hp | with_reducible refine List.mem_cons_of_mem _ ?_))
        refine' Due.mk ⟨?z1_gr, _, _, _, _, _, ?zt_gr, FF, ?zk_gr, ?zs_gr, N2, D1⟩
        case z1_gr => first | exact True.intro | exact rfl
        all_goals with_reducible assumption
      clear F1 N1 D1 T1 K1 B1 X1 P1 S1
      rintro h1 tk1 ⟨like, c0, g1, od1, ol1, T1, F1, K1, S1, N1, D1⟩
      have B1 := K1.B
      have X1 := K1.X
      have P1 := K1.T
      with_reducible refine W.cut (PX C g G dk l gl2 fun i ti => mpX dk x sp td i ti (.ref c) (decide (p + q ≤ mn)) p q tp tq) ?_ ?_
      · k_steps
        rename Fr _ _ _ _ => FF
        rename News _ _ _ _ => NN
        rename DkOk _ _ _ _ _ => DD
        have N2 := news_st (p := (dk, _)) (q := (l, _)) (gl := gl2) NN (by k_mem) (by k_mem) (by intro _ hp; repeat (first | with_reducible exact hp | with_reducible refine List.mem_cons_of_mem _ ?_))
        refine' Due.mk ⟨?z1_hr, _, _, ?zu_hr, ?zv_hr, _, _, _, _, _, ?zt_hr, FF, ?zk_hr, ?zs_hr, N2, DD⟩
        case z1_hr => first | exact True.intro | exact rfl
        case zu_hr => exact (draw6 (by with_reducible assumption) (by with_reducible assumption)).1
        case zv_hr => exact (draw6 (by with_reducible assumption) (by with_reducible assumption)).2
        all_goals with_reducible assumption
      clear F1 N1 D1 T1 K1 B1 X1 P1 S1
      rintro h1 tk1 ⟨i, ti, i1, i2, like, c0, g1, od1, ol1, T1, F1, K1, S1, N1, D1⟩
      have B1 := K1.B
      have X1 := K1.X
      have P1 := K1.T
      have ha4 := pw ⟨i1, Int.le_trans i2 (by decide)⟩
      by_cases hi : 0 ≤ i ∧ i < q
      · obtain ⟨i3, i4⟩ := id hi
        have hv := nums_get (a := st + p) (q := q) (i := i) pf.1 r2 pf.2 i3 i4
        k_steps
        rename Fr _ _ _ _ => FF
        rename News _ _ _ _ => NN
        have N2 := news_two (a := dk) (b := l) NN (by k_mem) (by k_mem)
        refine Stop.mk ?_
        refine' hret.fin ?tYr1 FF N2 rfl ⟨congrArg Value.bool (beq_iff_eq.mpr hv.symm), _, _, rfl, D1⟩
        with_reducible assumption
      · k_steps
        · rename Fr _ _ _ _ => FF
          rename News _ _ _ _ => NN
          have N2 := news_two (a := dk) (b := l) NN (by k_mem) (by k_mem)
          refine Stop.mk ?_
          refine' hret.fin ?tYr2 FF N2 rfl ⟨(show Value.bool (_ == _) = Value.bool true from rfl), _, _, rfl, D1⟩
          with_reducible assumption
        · rename Fr _ _ _ _ => FF
          rename News _ _ _ _ => NN
          have N2 := news_two (a := dk) (b := l) NN (by k_mem) (by k_mem)
          refine Stop.mk ?_
          refine' hret.fin ?tYr3 FF N2 rfl ⟨(show Value.bool (_ == _) = Value.bool true from rfl), _, _, rfl, D1⟩
          with_reducible assumption
  · k_steps
    all_goals
      rename Fr _ _ _ _ => FF
      rename News _ _ _ _ => NN
      have N2 := news_two (a := dk) (b := l) NN (by k_mem) (by k_mem)
      refine Stop.mk ?_
      exact hret.fin (by with_reducible assumption) FF N2 rfl ⟨(show Value.bool (_ == _) = Value.bool true from rfl), _, _, rfl, D1⟩
end Mine
end
namespace Mine
theorem grpE : True := trivial
end Mine
local macro_rules | `(tactic| walk_at $_:str) => Lean.Macro.throwUnsupported
section
namespace Mine
open PySem.Spec PySem.Calls
theorem lnText0 (w : World) : (hd.heap_39 w.params).In = (hd.heap_39 w.params).In ∧ PySem.Challenge.rw_on0261_01 = PySem.Challenge.rw_on0261_01 := by
  k_fill
  k_with "E:exec Raise some none" => k_extra "r25"
  k_with "E:RaiseP" => k_extra "r26"
  k_with "E:leaving ref" => k_extra "r27"
  exact ⟨rfl, rfl⟩
local macro_rules | `(tactic| k_inst) => `(tactic| (refine' instB ?ia ?ib ?ic ?id; (case ia => with_reducible assumption); (case ib => with_reducible assumption); (case ic => with_reducible assumption); (case id => with_reducible assumption)))
theorem lnText1 (w : World) : (hd.heap_39 w.params).In = (hd.heap_39 w.params).In ∧ PySem.Challenge.rw_on0261_01 = PySem.Challenge.rw_on0261_01 := by
  k_with "E:LeaveK" => k_extra "r28"
  k_with "E:LeaveK" => k_extra "r29"
  k_with "E:compareOp Eq ref ref" => k_extra "r30"
  k_with "E:LeaveK" => refine Stop.out (P := LeaveK _ _ _ _ _ _ _) ?_
  exact ⟨rfl, rfl⟩
section
variable {prog : Program} {w : World} {A : Around} {E : Value → Shared → Prop} {hh g : Heap} {L : Addr} {m : Str → Option Value} {news : Led} {gs : Array GenState} {dr : Drawn} {tk : Nat} {os : OsState} {Q : Value → Shared → Prop} {b : Array UInt8}
theorem ba_new_N {v : Value} (F : Fr g L hh m) (N : News g L hh news)
    (k : (∀ h', hh.StaysIn h' → h'.get? hh.objs.size = some { cls := .type "bytearray", data := .bytearray b } → hh.objs.size + 1 ≤ h'.objs.size → Q (.ref hh.objs.size) ⟨h', gs, dr, tk, os⟩) → wpC (model prog w) A (call (.type "bytearray") [v]) Q E ⟨hh, gs, dr, tk, os⟩)
    (h : ∀ bb h', Fr g L h' m → News g L h' ((bb, { cls := .type "bytearray", data := .bytearray b }) :: news) → hh.get? bb = none → hh.StaysIn h' → (∀ p ∈ news, p.1 < bb) → Q (.ref bb) ⟨h', gs, dr, tk, os⟩) : wpC (model prog w) A (call (.type "bytearray") [v]) Q E ⟨hh, gs, dr, tk, os⟩ :=
  k fun h' S G _ => by
    have hn : hh.get? hh.objs.size = none := Heap.get?_none_of_le (Nat.le_refl _)
    refine h _ h' (F.keeps S) (fun p hp => ?_) hn S fun p hp => Heap.lt_size (N p hp).1
    rcases List.mem_cons.mp hp with rfl | hp
    · exact ⟨G, fr_ne F hn, fresh_of F.keep hn⟩
    · exact stay_news N S p hp
theorem ba_of_baN {a : Addr} (F : Fr g L hh m) (N : News g L hh news) (I : BArr hh a b) (hsz : b.size ≤ sizeLine)
    (h : ∀ bb h', Fr g L h' m → News g L h' ((bb, { cls := .type "bytearray", data := .bytearray b }) :: news) → hh.get? bb = none → hh.StaysIn h' → (∀ p ∈ news, p.1 < bb) → Q (.ref bb) ⟨h', gs, dr, tk, os⟩) : wpC (model prog w) A (call (.type "bytearray") [.ref a]) Q E ⟨hh, gs, dr, tk, os⟩ := by
  obtain ⟨o, n, h1, h2, h3⟩ := I
  exact ba_new_N F N (fun k => ba_of_ba (s := ⟨hh, gs, dr, tk, os⟩) h1 h2 h3 hsz k) h
theorem ba_of_bytesN {t : Tok} (F : Fr g L hh m) (N : News g L hh news) (hsz : b.size ≤ sizeLine)
    (h : ∀ bb h', Fr g L h' m → News g L h' ((bb, { cls := .type "bytearray", data := .bytearray b }) :: news) → hh.get? bb = none → hh.StaysIn h' → (∀ p ∈ news, p.1 < bb) → Q (.ref bb) ⟨h', gs, dr, tk, os⟩) : wpC (model prog w) A (call (.type "bytearray") [.bytes b t]) Q E ⟨hh, gs, dr, tk, os⟩ :=
  ba_new_N F N (fun k => ba_of_bytes (s := ⟨hh, gs, dr, tk, os⟩) hsz k) h
end
theorem text_useC {w : World} {ba : Addr} {n lv : Int} {tn tl : Tok} {gb : Bool} {b : Array UInt8}
    {dp un : Nat} {gd : Option (List Code)} {cn : Str} {cs : Scope} {a : Addr} {ccd : Value} {cl : List (Str × Addr)} {outer : List Env} {A₀ : Around} {base h₀ : Heap} {L : Addr} {m mg mb : Str → Option Value} {mean : ExcName → Option Value}
    {hh : Heap} {gs : Array GenState} {dr : Drawn} {tk0 : Nat} {os : OsState} {Q E : Value → Shared → Prop}
    (B : Below A₀ base outer h₀) (F : Fr h₀ L hh m) (X : (hd.heap_39 w.params).In h₀) (T : TopH mean mg mb h₀) (hk : cs.kind = .function) (hdp : dp + 6 < recursionLimit) (hu : un + 8 * 6 < cLine) (I : BArr hh ba b) (hz : b.size ≤ sizeLine)
    (ret : ∀ y bb h' tk', Fr h₀ L h' m → hh.StaysIn h' → NewF hh h' y 94 [(Str.ofString "number", .int n tn), (Str.ofString "octets", .ref bb), (Str.ofString "is_global", .bool gb)] → hh.get? bb = none → BArr h' bb b → Q (.ref y) ⟨h', gs, dr, tk', os⟩) :
    wpC (model PySem.Challenge.rw_on0261_01.row.prog w) (ktrTop dp un gd cn cs L a ccd cl outer) (call (.ref 94) [.int n tn, .ref ba, .bool gb, .int lv tl]) Q E ⟨hh, gs, dr, tk0, os⟩ := by
  revert X
  k_fill
  intro X
  refine' mk_ownC (s := ⟨hh, gs, dr, tk0, os⟩) F X ?c1 ?c2 ?c3 ?_
  (case c1 => k_is); (case c2 => k_is); (case c3 => k_is)
  intro x dx h' F1 N1 S1 nx nd hlt
  k_lt2 hlt
  refine enterC [(Str.ofString "self", .ref x), (Str.ofString "number", .int n tn), (Str.ofString "octets", .ref ba), (Str.ofString "is_global", .bool gb), (Str.ofString "level", .int lv tl)] B F1 X T N1 rfl rfl hk (by k_is) (by k_is) (by ktr_room) (BindsTo.of_eq rfl) rfl (by decide) rfl rfl rfl ?_
  intro g L' h₁ FG KS F' N' B' X' T' hL
  replace KS : Keep [x, dx] h' g := KS
  refine wpC_execs_cons (wpC_of_any ?_)
  k_steps
  show wpC _ _ _ _ _ _
  refine wpC_execs_cons (Assign_AttrC (Call_C ?_))
  k_steps
  refine callWith_typeC (spliced_moreC (wpC_of_any ?_))
  k_steps
  refine wpC_of_any ?_
  k_steps
  rename Fr _ _ _ _ => FF
  rename News _ _ _ _ => NN
  have I2 : BArr _ ba b := I.keep fun b' o' e => stay_self FF b' o' (KS b' o' (S1 b' o' e) fun hm => by
    rcases List.mem_cons.mp hm with z | hm
    · rw [z] at e; exact nomatch nx.symm.trans e
    · rw [List.mem_singleton.mp hm] at e; exact nomatch nd.symm.trans e)
  refine ba_of_baN FF NN I2 hz fun bb h3 F3 N3 nb S3 lb => ?_
  have l1 := ltN (lb _ (.head _))
  have l2 := ltN (lb _ (.tail _ (.head _)))
  have nb0 : hh.get? bb = none := by
    cases e : hh.get? bb with
    | none => rfl
    | some o' =>
      have := FF.keep bb o' (KS bb o' (S1 bb o' e) fun hm => by
        rcases List.mem_cons.mp hm with z | hm
        · rw [z] at l1; exact Nat.lt_irrefl _ l1
        · rw [List.mem_singleton.mp hm] at l2; exact Nat.lt_irrefl _ l2)
      rw [nb] at this; cases this
  clear FF NN lb nb
  k_steps
  show wpC _ _ _ _ _ _
  refine wpC_of_any ?_
  k_steps
  rename Fr _ _ _ _ => FF
  rename News _ _ _ _ => NN
  have hret : RetK h₀ L m ⟨hh, gs, dr, tk0, os⟩ (fun h h1 r => ∃ y bb, r = .ref y ∧ NewF h h1 y 94 [(Str.ofString "number", .int n tn), (Str.ofString "octets", .ref bb), (Str.ofString "is_global", .bool gb)] ∧ h.get? bb = none ∧ BArr h1 bb b) Q :=
    ⟨fun r h' tk' F' S' P => by
      obtain ⟨y, bb, rfl, P1, P2, P3⟩ := P
      exact ret y bb h' tk' F' S' P1 P2 P3⟩
  have N2 := news_two (a := x) (b := dx) NN (.tail _ (.head _)) (.tail _ (.tail _ (.head _)))
  refine Stop.mk ?_
  refine cls_end hret S1 KS nx nd FF N2 rfl (fun h => h) (Due.mk ⟨_, bb, rfl, ⟨dx, _, _, nx, nd, N2.get (.head _), N2.get (.tail _ (.head _)), ?_⟩, nb0, ⟨_, _, NN.get (.head _), rfl, rfl⟩⟩)
  simp only [List.forall_mem_cons]
  exact ⟨⟨rfl, rfl⟩, ⟨rfl, rfl⟩, ⟨rfl, rfl⟩, fun _ h => nomatch h⟩
end Mine
end
section
namespace Mine
open PySem.Spec PySem.Calls
theorem list_copyG {prog : Program} {w : World} {A : Around} {E : Value → Shared → Prop} {hh g G : Heap} {L : Addr} {m : Str → Option Value} {news : Led} {gs : Array GenState} {dr : Drawn} {tk : Nat} {os : OsState} {Q : Value → Shared → Prop} {b : Addr} {its : Array Value} (F : Fr g L hh m) (N : News g L hh news) (S : G.StaysIn hh) (I : G.IsList b its) (hz : its.size ≤ 100)
    (h : ∀ D n h', Fr g L h' m → News g L h' ((D, W.listOf its n) :: news) → (∀ q ∈ news, q.1 < D) → Q (.ref D) ⟨h', gs, dr, tk, os⟩) : wpAny (model prog w) A (call (.type "list") [.ref b]) Q E ⟨hh, gs, dr, tk, os⟩ := by
  obtain ⟨o, ho, hc, n, hd⟩ := IsL_of I S
  exact call_list_seq (s := ⟨hh, gs, dr, tk, os⟩) (hsz := by rw [sizeLine_eq]; omega) b (.inl rfl) ho hc hd fun h' c' hk hD => h _ c' h' (F.keeps hk) (news_pushed F N hk hD rfl) fun q hq => Heap.lt_size (N q hq).1
theorem led_ne {g h : Heap} {L a b : Addr} {o1 o2 : Obj} {news : Led} (N : News g L h news) (h1 : (a, o1) ∈ news) (h2 : (b, o2) ∈ news) (hc : o1.cls ≠ o2.cls) : a ≠ b := fun z => by
  subst z
  have q1 : h.get? a = some o1 := (N _ h1).1
  have q2 : h.get? a = some o2 := (N _ h2).1
  rw [q1] at q2
  cases q2
  exact hc rfl
theorem fresh_x {H h' g h : Heap} {L x dx D : Addr} {o : Obj} {news : Led} (S1 : H.StaysIn h') (KS : Keep [x, dx] h' g) (N : News g L h news) (hm : (D, o) ∈ news) (n1 : D ≠ x) (n2 : D ≠ dx) : H.get? D = none := by
  cases e : H.get? D with
  | none => rfl
  | some o' =>
    have := KS D o' (S1 D o' e) fun hm => by
      rcases List.mem_cons.mp hm with z | hm
      · exact n1 z
      · exact n2 (List.mem_singleton.mp hm)
    rw [(N _ hm).2.2] at this
    cases this
theorem lnBodies0 (w : World) : (hd.heap_39 w.params).In = (hd.heap_39 w.params).In ∧ PySem.Challenge.rw_on0261_01 = PySem.Challenge.rw_on0261_01 := by
  k_fill
  exact ⟨rfl, rfl⟩
local macro_rules | `(tactic| k_inst) => `(tactic| (refine' instB ?ia ?ib ?ic ?id; (case ia => with_reducible assumption); (case ib => with_reducible assumption); (case ic => with_reducible assumption); (case id => with_reducible assumption)))
theorem lnBodies1 (w : World) : (hd.heap_39 w.params).In = (hd.heap_39 w.params).In ∧ PySem.Challenge.rw_on0261_01 = PySem.Challenge.rw_on0261_01 := by
  k_with "E:call type:list" => (k_here; (with_reducible show wpAny _ _ (call (Value.type "list") [Value.ref _]) _ _ _); k_dflt (refine' list_copyG ?F_q ?N_q ?S_q ?I_q ?z_q ?_; (case F_q => with_reducible assumption); (case N_q => with_reducible assumption); (case I_q => with_reducible assumption); (case S_q => exact stay_of (by with_reducible assumption) (by with_reducible assumption)); (case z_q => exact Nat.le_of_ble_eq_true rfl); k_whole; intro D9 n9 h9 F9 N9 L9; k_lt L9; (try k_sweep)))
  exact ⟨rfl, rfl⟩
theorem call_Row (w : World) (G : Heap) (n lv : Int) (tn tl : Tok) (gb : Bool) (li c0 c1 c2 : Addr) (I : G.IsList li #[.ref c0, .ref c1, .ref c2]) :
    RO 3 w 115 [.int n tn, .ref li, .bool gb, .int lv tl] G (fun h h1 r => ∃ y l2, r = .ref y ∧ NewF h h1 y 115 [(Str.ofString "number", .int n tn), (Str.ofString "things", .ref l2), (Str.ofString "is_global", .bool gb)] ∧ h.get? l2 = none ∧ h1.IsList l2 #[.ref c0, .ref c1, .ref c2]) (fun _ => False) := by
  refine RO.introC (fun x => [(Str.ofString "self", .ref x), (Str.ofString "number", .int n tn), (Str.ofString "things", .ref li), (Str.ofString "is_global", .bool gb), (Str.ofString "level", .int lv tl)]) (by k_is) (by k_is) (by k_is) (by k_is) (by k_is) (by intro x s X; exact BindsTo.of_eq rfl) (by intro x; rfl) (by decide) rfl rfl rfl ?_
  intro C sh h' g h₁ tkk x dx Q K F' N' S1 KS nx nd hlt S hret
  have X' := K.X
  have T' := K.T
  have S' : G.StaysIn g := fun b o e => KS b o (S1 b o (S b o e)) (fun hm => by rcases List.mem_cons.mp hm with z | hm; exact absurd (z ▸ S b o e) (by intro q; exact nomatch nx.symm.trans q); exact absurd ((List.mem_singleton.mp hm) ▸ S b o e) (by intro q; exact nomatch nd.symm.trans q))
  k_steps
  rename Fr _ _ _ _ => FF
  rename News _ _ _ _ => NN
  have N2 := news_two (a := x) (b := dx) NN (.tail _ (.head _)) (.tail _ (.tail _ (.head _)))
  have f1 := fresh_x S1 KS NN (.head _) (led_ne NN (.head _) (.tail _ (.head _)) (by intro q; cases q)) (led_ne NN (.head _) (.tail _ (.tail _ (.head _))) (by intro q; injection q with q; exact absurd q (by decide)))
  refine hret.nxt FF N2 (Due.mk ⟨_, _, rfl, ⟨dx, _, _, nx, nd, N2.get (.head _), N2.get (.tail _ (.head _)), ?_⟩, f1, ⟨_, NN.get (.head _), rfl, _, rfl⟩⟩)
  simp only [List.forall_mem_cons]
  exact ⟨⟨rfl, rfl⟩, ⟨rfl, rfl⟩, ⟨rfl, rfl⟩, fun _ h => nomatch h⟩
theorem call_DictBody (w : World) (G : Heap) (n mo lv : Int) (tn tm tl : Tok) (gb : Bool) :
    RO 3 w 150 [.int n tn, .int mo tm, .bool gb, .int lv tl] G (fun h h1 r => ∃ y ta, r = .ref y ∧ NewF h h1 y 150 [(Str.ofString "number", .int n tn), (Str.ofString "is_global", .bool gb), (Str.ofString "access", .int 3 ta)]) (fun _ => False) := by
  refine RO.introC (fun x => [(Str.ofString "self", .ref x), (Str.ofString "number", .int n tn), (Str.ofString "most", .int mo tm), (Str.ofString "is_global", .bool gb), (Str.ofString "level", .int lv tl)]) (by k_is) (by k_is) (by k_is) (by k_is) (by k_is) (by intro x s X; exact BindsTo.of_eq rfl) (by intro x; rfl) (by decide) rfl rfl rfl ?_
  intro C sh h' g h₁ tkk x dx Q K F' N' S1 KS nx nd hlt S hret
  have X' := K.X
  have T' := K.T
  k_steps
  rename Fr _ _ _ _ => FF
  rename News _ _ _ _ => NN
  have N2 := news_two (a := x) (b := dx) NN (.tail _ (.head _)) (.tail _ (.tail _ (.head _)))
  refine hret.nxt FF N2 (Due.mk ⟨_, _, rfl, ⟨dx, _, _, nx, nd, N2.get (.head _), N2.get (.tail _ (.head _)), List.forall_mem_cons.mpr ⟨⟨rfl, rfl⟩, List.forall_mem_cons.mpr ⟨⟨rfl, rfl⟩, List.forall_mem_cons.mpr ⟨⟨rfl, rfl⟩, fun _ h => nomatch h⟩⟩⟩⟩⟩)
end Mine
end
section
namespace Mine
open PySem.Spec PySem.Calls
structure ThA (G : Heap) (x : Addr) (U : TK) (v : Value) (e : Bool) (ac : Int) (tk ta : Tok) : Prop where
  I : ThF G x (kindS U) v e ac tk ta
  H : ValH G U v
  hw : wB U
  hb : spB U
  hac : 0 ≤ ac ∧ ac ≤ 3
  hda : isDict U = true → ac = 3
theorem ThA.keep {G h : Heap} {x : Addr} {U : TK} {v : Value} {e : Bool} {ac : Int} {tk ta : Tok} (A : ThA G x U v e ac tk ta) (S : G.StaysIn h) : ThA h x U v e ac tk ta := ⟨A.I.keep S, A.H.keep S, A.hw, A.hb, A.hac, A.hda⟩
theorem Bods.keep {G h : Heap} {bs b0 b1 b2 b3 b4 b5 : Addr} (S : G.StaysIn h) (B : Bods G bs b0 b1 b2 b3 b4 b5) : Bods h bs b0 b1 b2 b3 b4 b5 :=
  ⟨IsL_of B.ls S, B.t0.keep' S, B.t1.keep' S, B.r0.keep' S, B.r1.keep' S, (let ⟨tn, ta, D⟩ := B.d0; ⟨tn, ta, D.keep S⟩), (let ⟨tn, ta, D⟩ := B.d1; ⟨tn, ta, D.keep S⟩)⟩
theorem off_mu {G1 : Heap} {gl : Led} {dk l : Addr} (K : GLk noH G1 gl) (NE : ∀ z ∈ gl, @Ne Nat z.1 dk ∧ @Ne Nat z.1 l) : ∀ b ∈ [dk, l], G1.get? b = none := fun b hb => by
  cases e : G1.get? b with
  | none => rfl
  | some o =>
    rcases K.2 b o e with q | q
    · rw [noH_get] at q; cases q
    · rcases List.mem_cons.mp hb with z | hb
      · exact absurd z (NE _ q).1
      · exact absurd (List.mem_singleton.mp hb) (NE _ q).2
theorem newf_pick {G1 hh h' : Heap} {x C : Addr} {fs : List (Str × Value)} (P : NewF hh h' x C fs) : Fld (pick G1 h' (newsOf hh h')) x C fs := by
  obtain ⟨d, es, n, q1, q2, q3, q4, q5⟩ := P
  exact ⟨_, d, es, n, pick_new (newsOf_mem q1 q3) q3, pick_new (newsOf_mem q2 q4) q4, q5⟩
theorem ne_app {pre gl : Led} {dk l : Addr} (a : ∀ z ∈ pre, @Ne Nat z.1 dk ∧ @Ne Nat z.1 l) (b : ∀ z ∈ gl, @Ne Nat z.1 dk ∧ @Ne Nat z.1 l) : ∀ z ∈ pre ++ gl, @Ne Nat z.1 dk ∧ @Ne Nat z.1 l := fun z hz => (List.mem_append.mp hz).elim (a z) (b z)
theorem thing_useG {w : World} {dk l : Addr} {od ol : Obj} {bs b0 b1 b2 b3 b4 b5 : Addr} {G1 : Heap} {gl : Led}
    {dp un : Nat} {gd : Option (List Code)} {cn : Str} {cs : Scope} {a : Addr} {ccd : Value} {cl : List (Str × Addr)} {outer : List Env} {A₀ : Around} {base h₀ : Heap} {L : Addr} {m mg mb : Str → Option Value} {mean : ExcName → Option Value}
    {hh : Heap} {gs : Array GenState} {dr : Drawn} {tk : Nat} {os : OsState} {Q E : Value → Shared → Prop}
    (HB : Bods G1 bs b0 b1 b2 b3 b4 b5) (K : GLk noH G1 gl) (NE : ∀ z ∈ gl, @Ne Nat z.1 dk ∧ @Ne Nat z.1 l) (D : DkOk w dk l od ol) (hlt : l < dk)
    (B : Below A₀ base outer h₀) (F : Fr h₀ L hh m) (X : (hd.heap_39 w.params).In h₀) (T : TopH mean mg mb h₀) (N : News h₀ L hh ((dk, od) :: (l, ol) :: gl)) (hk : cs.kind = .function) (hdp : dp + 18 < recursionLimit) (hu : un + 8 * 18 < cLine)
    (ret : ∀ x U v e ac tk' ta h' tk2 od' ol' G2 gl2, Fr h₀ L h' m → News h₀ L h' ((dk, od') :: (l, ol') :: gl2) → GLk noH G2 gl2 → G1.StaysIn G2 → Bods G2 bs b0 b1 b2 b3 b4 b5 → (∀ z ∈ gl2, @Ne Nat z.1 dk ∧ @Ne Nat z.1 l) → ThA G2 x U v e ac tk' ta → DkOk w dk l od' ol' → Q (.ref x) ⟨h', gs, dr, tk2, os⟩) :
    wpAny (model PySem.Challenge.rw_on0261_01.row.prog w) (ktrTop dp un gd cn cs L a ccd cl outer) (call (.ref 398) [.ref dk, .ref bs]) Q E ⟨hh, gs, dr, tk, os⟩ := by
  have S1 := stay_gl K F (noH_in _) N fun p hp => .tail _ (.tail _ hp)
  have OM := off_mu K NE
  refine law_thing_c w G1 dk l od ol bs b0 b1 b2 b3 b4 b5 HB hlt D dp un gd cn cs a ccd cl outer A₀ base h₀ L m mg mb mean ⟨hh, gs, dr, tk, os⟩ Q E B F X T (news_two N (.head _) (.tail _ (.head _))) OM hk hdp hu S1 ⟨fun r h' tk' mu' F' N' hmu KK P => ?_⟩
  obtain ⟨x, U, v, e, ac, tk2, ta, rfl, PF, HV, hw, hb, hac, hda, od', ol', rfl, D'⟩ := P
  have S1' : G1.StaysIn h' := fun b o e => KK b o (S1 b o e) fun hm => by rw [OM b hm] at e; cases e
  have K2 := glk_grow K S1' (ls := newsOf hh h') fun p hp => (newsOf_of hp).2
  have SG : G1.StaysIn (pick G1 h' (newsOf hh h')) := pick_old S1'
  refine ret x U v e ac tk2 ta h' tk' od' ol' _ _ F' (fun p hp => ?_) K2 SG (HB.keep SG) (ne_app (fun z hz => ⟨ne_get (newsOf_of hz).1 (N _ (.head _)).1, ne_get (newsOf_of hz).1 (N _ (.tail _ (.head _))).1⟩) NE) ⟨newf_pick PF, ?_, hw, hb, hac, hda⟩ D'
  · rcases List.mem_cons.mp hp with rfl | hp
    · exact N' _ (.head _)
    rcases List.mem_cons.mp hp with rfl | hp
    · exact N' _ (.tail _ (.head _))
    rcases List.mem_append.mp hp with hp | hp
    · have q := newsOf_of hp
      exact ⟨q.2, fr_ne F q.1, fresh_of F.keep q.1⟩
    · obtain ⟨x1, x2, x3⟩ := N _ (.tail _ (.tail _ hp))
      exact ⟨KK _ _ x1 fun hm => by
        rcases List.mem_cons.mp hm with z | hm
        · exact (NE _ hp).1 z
        · exact (NE _ hp).2 (List.mem_singleton.mp hm), x2, x3⟩
  · cases U with
    | str g st mn => obtain ⟨sp, bd, ts, tm, rfl, J, HT⟩ := HV; exact ⟨sp, bd, ts, tm, rfl, newf_pick J, HT.keep' SG⟩
    | arr pk g st mn => obtain ⟨sp, bd, ts, tm, rfl, J, HT⟩ := HV; exact ⟨sp, bd, ts, tm, rfl, newf_pick J, HT.keep' SG⟩
    | _ => exact ValH.keep SG HV
theorem DeckG.newsT {dk l : Addr} {od ol : Obj} {gl news : Led} {g : Obj → Obj → Led} (U : DeckG dk l od ol gl news g) {h₀ g' h h' : Heap} {L : Addr} {fs : List Addr} {a b : Obj} (N : News h₀ L h news) (T : KtsTurn fs h₀ g') (hfs : ∀ b ∈ fs, ∃ o, h₀.get? b = some o) (K : KeepF ([dk, l] ++ L :: fs) h h') (N' : News g' L h' [(dk, a), (l, b)]) : News g' L h' (g a b) := by
  have go : ∀ p : Addr × Obj, @Ne Nat p.1 dk → @Ne Nat p.1 l → (h.get? p.1 = some p.2 ∧ p.1 ≠ L ∧ h₀.get? p.1 = none) → (h'.get? p.1 = some p.2 ∧ p.1 ≠ L ∧ g'.get? p.1 = none) := fun p h1 h2 e => ⟨K _ _ e.1 fun hm => by
    rcases List.mem_cons.mp hm with z | hm
    · exact h1 z
    rcases List.mem_cons.mp hm with z | hm
    · exact h2 z
    rcases List.mem_cons.mp hm with z | hm
    · exact e.2.1 z
    · exact absurd e.2.2 (fun q => by obtain ⟨o, ho⟩ := hfs _ hm; rw [q] at ho; cases ho), e.2.1, T.none_ _ e.2.2⟩
  induction U with
  | here hg =>
    intro p hp
    rcases List.mem_cons.mp hp with rfl | hp
    · exact N' _ (.head _)
    rcases List.mem_cons.mp hp with rfl | hp
    · exact N' _ (.tail _ (.head _))
    · exact go _ (hg _ hp).1 (hg _ hp).2 (N _ (.tail _ (.tail _ hp)))
  | there h1 h2 _ ih =>
    intro p hp
    rcases List.mem_cons.mp hp with rfl | hp
    · exact go _ h1 h2 (N _ (.head _))
    · exact ih (fun q hq => N q (.tail _ hq)) p hp
theorem rt_useM {k : Nat} {w : World} {f : Addr} {vs : List Value} {G1 : Heap} {gl news : Led} {dk l : Addr} {od ol : Obj} {gf : Obj → Obj → Led} (C : RT k w f vs G1 [(dk, od), (l, ol)] (fun h h1 r mu => r = .bool true ∧ ∃ od' ol', mu = [(dk, od'), (l, ol')] ∧ DkOk w dk l od' ol')) (K : GLk noH G1 gl) (NE : ∀ z ∈ gl, @Ne Nat z.1 dk ∧ @Ne Nat z.1 l)
    {dp un : Nat} {gd : Option (List Code)} {cn : Str} {cs : Scope} {a : Addr} {ccd : Value} {cl : List (Str × Addr)} {outer : List Env} {A₀ : Around} {base h₀ : Heap} {L : Addr} {m mg mb : Str → Option Value} {mean : ExcName → Option Value}
    {hh : Heap} {gs : Array GenState} {dr : Drawn} {tk : Nat} {os : OsState} {Q E : Value → Shared → Prop} (sub : ∀ p ∈ gl, p ∈ news)
    (B : Below A₀ base outer h₀) (F : Fr h₀ L hh m) (X : (hd.heap_39 w.params).In h₀) (T : TopH mean mg mb h₀) (XB : (hd.heap_39 w.params).In base) (TB : TopH mean mg mb base) (N : News h₀ L hh news) (U : DeckG dk l od ol gl news gf)
    (hk : cs.kind = .function) (hdp : dp + k < recursionLimit) (hu : un + 8 * k < cLine)
    (ret : ∀ h' tk' g' od' ol', KtsTurn (frsOf outer) h₀ g' → Fr g' L h' m → Below A₀ base outer g' → (hd.heap_39 w.params).In g' → TopH mean mg mb g' → News g' L h' (gf od' ol') → noH.StaysIn g' → DkOk w dk l od' ol' → Q (.bool true) ⟨h', gs, dr, tk', os⟩) :
    wpAny (model PySem.Challenge.rw_on0261_01.row.prog w) (ktrTop dp un gd cn cs L a ccd cl outer) (call (.ref f) vs) Q E ⟨hh, gs, dr, tk, os⟩ := by
  have S1 := stay_gl K F (noH_in _) N sub
  refine C dp un gd cn cs a ccd cl outer A₀ base h₀ L m mg mb mean ⟨hh, gs, dr, tk, os⟩ Q E B F X T XB TB (U.deck N) (off_mu K NE) (off_gl K F (noH_in _) N sub (fun b _ => noH_get b) B rfl) hk hdp hu S1 ⟨fun r h' tk' g' mu' T' F' B' X' P' N' hmu KK P => ?_⟩
  obtain ⟨rfl, od', ol', rfl, D'⟩ := P
  exact ret h' tk' g' od' ol' T' F' B' X' P' (U.newsT N T' (frs_in B) KK N') (noH_in _) D'
theorem W.thing {i : FI} {w : World} {C : Cx i w} {g h : Heap} {tk kn : Nat} {m : Str → Option Value} {dk l : Addr} {od ol : Obj} {bs b0 b1 b2 b3 b4 b5 : Addr} {G1 : Heap} {gl : Led} {Q : Value → Heap → Nat → Prop}
    (HB : Bods G1 bs b0 b1 b2 b3 b4 b5) (GK : GLk noH G1 gl) (NE : ∀ z ∈ gl, @Ne Nat z.1 dk ∧ @Ne Nat z.1 l) (D : DkOk w dk l od ol) (hlt : l < dk) (K : Ok C g kn) (F : Fr g C.L h m) (N : News g C.L h ((dk, od) :: (l, ol) :: gl)) (hk : 18 ≤ kn) (hf : i.scope.kind = .function)
    (ret : ∀ x U v e ac tk' ta h' tk2 od' ol' G2 gl2, Fr g C.L h' m → News g C.L h' ((dk, od') :: (l, ol') :: gl2) → GLk noH G2 gl2 → G1.StaysIn G2 → Bods G2 bs b0 b1 b2 b3 b4 b5 → (∀ z ∈ gl2, @Ne Nat z.1 dk ∧ @Ne Nat z.1 l) → ThA G2 x U v e ac tk' ta → DkOk w dk l od' ol' → Q (.ref x) h' tk2) :
    W C h tk (call (.ref 398) [.ref dk, .ref bs]) Q :=
  thing_useG HB GK NE D hlt K.B F K.X K.T N hf (lt_add K.d hk) (lt_add K.u (Nat.le_trans (Nat.mul_le_mul_left 8 hk) (Nat.le_add_right _ _))) fun x U v e ac tk' ta h' tk2 od' ol' G2 gl2 a b c d e1 f p q => Lf.go (ret x U v e ac tk' ta h' tk2 od' ol' G2 gl2 a b c d e1 f p q)
theorem W.rtM {i : FI} {w : World} {C : Cx i w} {g h : Heap} {tk kn kk : Nat} {m : Str → Option Value} {f : Addr} {vs : List Value} {G1 : Heap} {gl news : Led} {dk l : Addr} {od ol : Obj} {gf : Obj → Obj → Led} {Q : Value → Heap → Nat → Prop}
    (c : RT kk w f vs G1 [(dk, od), (l, ol)] (fun h h1 r mu => r = .bool true ∧ ∃ od' ol', mu = [(dk, od'), (l, ol')] ∧ DkOk w dk l od' ol')) (GK : GLk noH G1 gl) (NE : ∀ z ∈ gl, @Ne Nat z.1 dk ∧ @Ne Nat z.1 l) (sub : ∀ p ∈ gl, p ∈ news)
    (K : Ok C g kn) (KB : OkB C) (F : Fr g C.L h m) (N : News g C.L h news) (U : DeckG dk l od ol gl news gf) (hk : kk ≤ kn) (hf : i.scope.kind = .function)
    (ret : ∀ h' tk' g' od' ol', KtsTurn (frsOf C.outer) g g' → Fr g' C.L h' m → Ok C g' kn → News g' C.L h' (gf od' ol') → noH.StaysIn g' → DkOk w dk l od' ol' → Q (.bool true) h' tk') : W C h tk (call (.ref f) vs) Q :=
  rt_useM c GK NE sub K.B F K.X K.T KB.X KB.T N U hf (lt_add K.d hk) (lt_add K.u (Nat.le_trans (Nat.mul_le_mul_left 8 hk) (Nat.le_add_right _ _))) fun h' tk' g' od' ol' a b c d e f s t => Lf.go (ret h' tk' g' od' ol' a b ⟨c, d, e, K.d, K.u⟩ f s t)
theorem W.getGL {i : FI} {w : World} {C : Cx i w} {g h G1 : Heap} {tk kn : Nat} {m : Str → Option Value} {x Cl : Addr} {fs : List (Str × Value)} {name : Str} {v : Value} {e : Bool} {Q : Value → Heap → Nat → Prop} (K : Ok C g kn) (F : Fr g C.L h m) (I : Fld G1 x Cl fs) (S : G1.StaysIn h)
    (hc : ∀ P, ClsOk (hd.heap_39 P) Cl name) (hv : fs.lookup name = some v) (y : Q v h (tk + 1)) : W C h tk (getAttr (.ref x) name e) Q := Mine.getGL F K.X I S (hc _) hv (Lf.go y)
section
variable {prog : Program} {w : World} {A : Around} {E : Value → Shared → Prop} {hh g : Heap} {L T : Addr} {news : Led} {gs : Array GenState} {dr : Drawn} {tk n : Nat} {os : OsState} {Q : Value → Shared → Prop}
open PySem.SeqAt in
theorem notin_strs {ks : List Str} {ts : List Value} (hr : AllR (ks.map At.str) ts) {k : Str} {t : Tok} (N : News g L hh news) (hm : (T, { cls := .type "tuple", data := .seq (List.toArray ts) n }) ∈ news) {c : Bool} (hc : ks.any (fun q => q == k) = c) (q : Q (.bool (!c)) ⟨hh, gs, dr, tk, os⟩) :
    wpAny (model prog w) A (compareOp .NotIn (.str k t) (.ref T)) Q E ⟨hh, gs, dr, tk, os⟩ := by
  have key : ∀ (ks : List Str) (ts : List Value), AllR (ks.map At.str) ts → ts.any (fun y => match y with | .str q _ => q == k | _ => false) = ks.any (fun q => q == k) := by
    intro ks
    induction ks with
    | nil => intro ts h; cases h; rfl
    | cons a r ih => intro ts h; cases h with | cons h1 h2 => obtain ⟨u, rfl⟩ := h1; rw [List.any_cons, List.any_cons, ih _ h2]
  have all : ∀ (ks : List Str) (ts : List Value), AllR (ks.map At.str) ts → ∀ y ∈ ts, ∃ q u, y = .str q u := by
    intro ks
    induction ks with
    | nil => intro ts h y hy; cases h; cases hy
    | cons a r ih => intro ts h y hy; cases h with | cons h1 h2 => 
        obtain ⟨u, rfl⟩ := h1
        rcases List.mem_cons.mp hy with rfl | hy
        · exact ⟨_, _, rfl⟩
        · exact ih _ h2 y hy
  refine notIn_tupleAt (s := ⟨hh, gs, dr, tk, os⟩) (fun y => match y with | .str q _ => q == k | _ => false) (items := List.toArray ts) ⟨_, N.get hm, rfl, n, rfl⟩ (fun y hy => ?_) ?_
  · obtain ⟨q, u, rfl⟩ := all ks ts hr y (by simpa using hy)
    exact EqAt.str_str _ _ _ _
  · rw [← hc, ← key ks ts hr] at q
    simpa using q
end
noncomputable def eqW (U U' : TK) (ac ac' : Int) (r : Value) : Prop := if (isNull U || isNull U') = true then r = .bool (decide (kdOf U = kdOf U')) else if ((badU U ac).isSome || (badU U' ac').isSome) = true then ∃ t, r = .bytes #[105, 110, 118, 97, 108, 105, 100, 97, 99, 99, 101, 115, 115] t else r = .bool (tEq (whatU U) (whatU U'))
theorem eqW_eq (U U' : TK) (ac ac' : Int) : eqW U U' ac ac' = eqR U U' ac ac' := by
  funext r
  unfold eqW eqR
  rw [key_what]
noncomputable def Ans (R : Value → Prop) (o : Option Bool) (bs : Array UInt8) : Prop := match o with
  | some b => ∀ r, R r → r = .bool b
  | none => ∀ r, R r → ∃ t, r = .bytes bs t
theorem eq_ans (U U' : TK) (ac ac' : Int) : (∃ b, ∀ r, eqR U U' ac ac' r → r = .bool b) ∨ (∀ r, eqR U U' ac ac' r → ∃ t, r = .bytes #[105, 110, 118, 97, 108, 105, 100, 97, 99, 99, 101, 115, 115] t) := by
  unfold eqR
  by_cases h1 : (isNull U || isNull U') = true
  · exact .inl ⟨_, fun r h => by rwa [if_pos h1] at h⟩
  by_cases h2 : ((badU U ac).isSome || (badU U' ac').isSome) = true
  · exact .inr fun r h => by rwa [if_neg h1, if_pos h2] at h
  · exact .inl ⟨_, fun r h => by rwa [if_neg h1, if_neg h2] at h⟩
theorem less_ans (U U' : TK) (ac ac' : Int) : (∃ b, ∀ r, lessR U U' ac ac' r → r = .bool b) ∨ (∃ bs, ∀ r, lessR U U' ac ac' r → ∃ t, r = .bytes bs t) := by
  unfold lessR
  by_cases h1 : (isNum U && isNum U') = true
  · exact .inl ⟨_, fun r h => by rwa [if_pos h1] at h⟩
  by_cases h2 : (isStr U && isStr U') = true
  · by_cases h3 : 2 ≤ ac ∧ 2 ≤ ac'
    · exact .inl ⟨_, fun r h => by rwa [if_neg h1, if_pos h2, if_pos h3] at h⟩
    · exact .inr ⟨_, fun r h => by rwa [if_neg h1, if_pos h2, if_neg h3] at h⟩
  · exact .inr ⟨_, fun r h => by rwa [if_neg h1, if_neg h2] at h⟩
theorem told2_b (w : World) (G : Heap) (t0 : Tok) (b : Bool) (x : Addr) (U : TK) (v : Value) (e : Bool) (ac : Int) (tk ta : Tok) (x' : Addr) (U' : TK) (v' : Value) (e' : Bool) (ac' : Int) (tk' ta' : Tok) (I : ThF G x (kindS U) v e ac tk ta) (H : ValH G U v) (hw : wB U) (I' : ThF G x' (kindS U') v' e' ac' tk' ta') (H' : ValH G U' v') (hw' : wB U') (hE : ∀ r, eqR U U' ac ac' r → r = .bool b) : RT 24 w 419 [.int 2 t0, .ref x, .ref x'] G [] (fun _ _ r _ => r = .bool b) :=
  (told2_c w G t0 x U v e ac tk ta x' U' v' e' ac' tk' ta' I H hw I' H' hw').mono fun _ _ r _ h => hE r h
theorem told2_i (w : World) (G : Heap) (t0 : Tok) (bs : Array UInt8) (x : Addr) (U : TK) (v : Value) (e : Bool) (ac : Int) (tk ta : Tok) (x' : Addr) (U' : TK) (v' : Value) (e' : Bool) (ac' : Int) (tk' ta' : Tok) (I : ThF G x (kindS U) v e ac tk ta) (H : ValH G U v) (hw : wB U) (I' : ThF G x' (kindS U') v' e' ac' tk' ta') (H' : ValH G U' v') (hw' : wB U') (hE : ∀ r, eqR U U' ac ac' r → ∃ t, r = .bytes bs t) : RT 24 w 419 [.int 2 t0, .ref x, .ref x'] G [] (fun _ _ r _ => ∃ t, r = .bytes bs t) :=
  (told2_c w G t0 x U v e ac tk ta x' U' v' e' ac' tk' ta' I H hw I' H' hw').mono fun _ _ r _ h => hE r h
theorem told3_b (w : World) (G : Heap) (t0 : Tok) (b : Bool) (x : Addr) (U : TK) (v : Value) (e : Bool) (ac : Int) (tk ta : Tok) (x' : Addr) (U' : TK) (v' : Value) (e' : Bool) (ac' : Int) (tk' ta' : Tok) (I : ThF G x (kindS U) v e ac tk ta) (H : ValH G U v) (hw : wB U) (I' : ThF G x' (kindS U') v' e' ac' tk' ta') (H' : ValH G U' v') (hw' : wB U') (hL : ∀ r, lessR U U' ac ac' r → r = .bool b) : RT 24 w 419 [.int 3 t0, .ref x, .ref x'] G [] (fun _ _ r _ => r = .bool b) :=
  (told3_c w G t0 x U v e ac tk ta x' U' v' e' ac' tk' ta' I H hw I' H' hw').mono fun _ _ r _ h => hL r h
theorem told3_i (w : World) (G : Heap) (t0 : Tok) (bs : Array UInt8) (x : Addr) (U : TK) (v : Value) (e : Bool) (ac : Int) (tk ta : Tok) (x' : Addr) (U' : TK) (v' : Value) (e' : Bool) (ac' : Int) (tk' ta' : Tok) (I : ThF G x (kindS U) v e ac tk ta) (H : ValH G U v) (hw : wB U) (I' : ThF G x' (kindS U') v' e' ac' tk' ta') (H' : ValH G U' v') (hw' : wB U') (hL : ∀ r, lessR U U' ac ac' r → ∃ t, r = .bytes bs t) : RT 24 w 419 [.int 3 t0, .ref x, .ref x'] G [] (fun _ _ r _ => ∃ t, r = .bytes bs t) :=
  (told3_c w G t0 x U v e ac tk ta x' U' v' e' ac' tk' ta' I H hw I' H' hw').mono fun _ _ r _ h => hL r h
theorem equal_b (w : World) (G : Heap) (b : Bool) (x : Addr) (U : TK) (v : Value) (e : Bool) (ac : Int) (tk ta : Tok) (x' : Addr) (U' : TK) (v' : Value) (e' : Bool) (ac' : Int) (tk' ta' : Tok) (I : ThF G x (kindS U) v e ac tk ta) (H : ValH G U v) (hw : wB U) (I' : ThF G x' (kindS U') v' e' ac' tk' ta') (H' : ValH G U' v') (hw' : wB U') (hE : ∀ r, eqR U U' ac ac' r → r = .bool b) : RO 12 w 426 [.ref x, .ref x'] G (fun _ _ r => r = .bool b) (fun _ => False) :=
  (law_equal_c w G x U v e ac tk ta x' U' v' e' ac' tk' ta' I H hw I' H' hw').mono (fun _ _ r h => hE r (by rw [← eqW_eq]; exact h)) fun _ h => h
theorem equal_i (w : World) (G : Heap) (bs : Array UInt8) (x : Addr) (U : TK) (v : Value) (e : Bool) (ac : Int) (tk ta : Tok) (x' : Addr) (U' : TK) (v' : Value) (e' : Bool) (ac' : Int) (tk' ta' : Tok) (I : ThF G x (kindS U) v e ac tk ta) (H : ValH G U v) (hw : wB U) (I' : ThF G x' (kindS U') v' e' ac' tk' ta') (H' : ValH G U' v') (hw' : wB U') (hE : ∀ r, eqR U U' ac ac' r → ∃ t, r = .bytes bs t) : RO 12 w 426 [.ref x, .ref x'] G (fun _ _ r => ∃ t, r = .bytes bs t) (fun _ => False) :=
  (law_equal_c w G x U v e ac tk ta x' U' v' e' ac' tk' ta' I H hw I' H' hw').mono (fun _ _ r h => hE r (by rw [← eqW_eq]; exact h)) fun _ h => h
theorem less_b (w : World) (G : Heap) (b : Bool) (x : Addr) (U : TK) (v : Value) (e : Bool) (ac : Int) (tk ta : Tok) (x' : Addr) (U' : TK) (v' : Value) (e' : Bool) (ac' : Int) (tk' ta' : Tok) (I : ThF G x (kindS U) v e ac tk ta) (H : ValH G U v) (hw : wB U) (I' : ThF G x' (kindS U') v' e' ac' tk' ta') (H' : ValH G U' v') (hw' : wB U') (hL : ∀ r, lessR U U' ac ac' r → r = .bool b) : RO 12 w 431 [.ref x, .ref x'] G (fun _ _ r => r = .bool b) (fun _ => False) :=
  (law_less_c w G x U v e ac tk ta x' U' v' e' ac' tk' ta' I H hw I' H' hw').mono (fun _ _ r h => hL r h) fun _ h => h
theorem less_i (w : World) (G : Heap) (bs : Array UInt8) (x : Addr) (U : TK) (v : Value) (e : Bool) (ac : Int) (tk ta : Tok) (x' : Addr) (U' : TK) (v' : Value) (e' : Bool) (ac' : Int) (tk' ta' : Tok) (I : ThF G x (kindS U) v e ac tk ta) (H : ValH G U v) (hw : wB U) (I' : ThF G x' (kindS U') v' e' ac' tk' ta') (H' : ValH G U' v') (hw' : wB U') (hL : ∀ r, lessR U U' ac ac' r → ∃ t, r = .bytes bs t) : RO 12 w 431 [.ref x, .ref x'] G (fun _ _ r => ∃ t, r = .bytes bs t) (fun _ => False) :=
  (law_less_c w G x U v e ac tk ta x' U' v' e' ac' tk' ta' I H hw I' H' hw').mono (fun _ _ r h => hL r h) fun _ h => h
end Mine
end
namespace Mine
theorem grpF : True := trivial
end Mine
local macro_rules | `(tactic| walk_at $_:str) => Lean.Macro.throwUnsupported
section
namespace Mine
open PySem.Spec PySem.Calls
theorem lnCells0 (w : World) : (hd.heap_39 w.params).In = (hd.heap_39 w.params).In ∧ PySem.Challenge.rw_on0261_01 = PySem.Challenge.rw_on0261_01 := by
  k_fill
  exact ⟨rfl, rfl⟩
local macro_rules | `(tactic| k_inst) => `(tactic| (refine' instB ?ia ?ib ?ic ?id; (case ia => with_reducible assumption); (case ib => with_reducible assumption); (case ic => with_reducible assumption); (case id => with_reducible assumption)))
theorem lnCells1 (w : World) : (hd.heap_39 w.params).In = (hd.heap_39 w.params).In ∧ PySem.Challenge.rw_on0261_01 = PySem.Challenge.rw_on0261_01 := by
  exact ⟨rfl, rfl⟩
section
variable {i : FI} {w : World} {C : Cx i w} {g h h' G1 G2 : Heap} {tk : Nat} {dk l : Addr} {m m' : Str → Option Value}
@[reducible] noncomputable def WC {i : FI} {w : World} (C : Cx i w) (h : Heap) (tk : Nat) {α : Type} (t : Sem α) (Q : α → Heap → Nat → Prop) : Prop :=
  wpC (model PySem.Challenge.rw_on0261_01.row.prog w) C.A t (Lf C Q) (Lf C (AtE C)) ⟨h, C.gs, C.dr, tk, C.os⟩
theorem WC.of {α : Type} {t : Sem α} {Q : α → Heap → Nat → Prop} (x : W C h tk t Q) : WC C h tk t Q := wpC_of_any x
theorem seqC {α : Type} {t : Sem α} {K : α → Heap → Nat → Prop} {P : α → Shared → Prop} (x : WC C h tk t K) (y : ∀ a h1 tk1, K a h1 tk1 → P a ⟨h1, C.gs, C.dr, tk1, C.os⟩) :
    wpC (model PySem.Challenge.rw_on0261_01.row.prog w) C.A t P (Lf C (AtE C)) ⟨h, C.gs, C.dr, tk, C.os⟩ :=
  wpC_mono x (fun a s ⟨h1, tk1, e, q⟩ => by rw [e]; exact y a h1 tk1 q) fun _ _ z => z
theorem WC.mono {α : Type} {t : Sem α} {K Q : α → Heap → Nat → Prop} (x : WC C h tk t K) (y : ∀ a h1 tk1, K a h1 tk1 → Q a h1 tk1) : WC C h tk t Q := seqC x fun a h1 tk1 q => Lf.go (y a h1 tk1 q)
theorem WC.seg {st : Stmt} {rest : List Stmt} {Q : Flow → Heap → Nat → Prop} (P : Heap → Nat → Prop) (x : WC C h tk (exec st C.env) (fun f h tk => Due (f = .next ∧ P h tk))) (y : ∀ h tk, P h tk → WC C h tk (execs rest C.env) Q) : WC C h tk (execs (st :: rest) C.env) Q :=
  wpC_execs_cons (seqC x fun f h1 tk1 q => by obtain ⟨e, z⟩ := q.out; subst e; exact y _ _ z)
@[reducible] noncomputable def KCallFC (C : Cx i w) (pos : Pos) (args : List Expr) (Q : Value → Heap → Nat → Prop) (f : Value) (h : Heap) (tk : Nat) : Prop := WC C h tk (callWith pos f [] (backTo pos (starEach args C.env)) []) Q
theorem WC.Call {func : Expr} {args : List Expr} {pos : Pos} {Q : Value → Heap → Nat → Prop} (y : W C h tk (eval func C.env) (KCallFC C pos args Q))
    (he : ∀ env, eval (.Call func args [] pos) env = (do callWith pos (← eval func env) [] (backTo pos (starEach args env)) (backToKw pos (keywordEach [] env))) := by intro _; rfl) : WC C h tk (eval (.Call func args [] pos) C.env) Q :=
  Call_C (seqP y fun _ _ _ q => q) (he _)
@[reducible] noncomputable def KCallAC (C : Cx i w) (f : Value) (Q : Value → Heap → Nat → Prop) (vs : List Value) (h : Heap) (tk : Nat) : Prop := (hd.heap_39 w.params).In h ∧ WC C h tk (call f vs) Q
theorem WC.cwK {pos : Pos} {f : Value} {e : Expr} {rest : List Expr} {Q : Value → Heap → Nat → Prop} (hk : ∀ P, keepIn (hd.heap_39 P) f = true) (y : WC C h tk (spliced (backTo pos (starEach (e :: rest) C.env))) (KCallAC C f Q))
    (he : ∀ env, starEach (e :: rest) env = (false, eval e env) :: starEach rest env := by intro _; rfl) (hplain : ∀ env, (backTo pos (starEach rest env)).any (·.1) = false := by intro _; rfl) :
    WC C h tk (callWith pos f [] (backTo pos (starEach (e :: rest) C.env)) []) Q := callWith_KC (hk w.params) (seqC y fun vs h1 tk1 q => q) (he _) (hplain _)
theorem WC.cwT {pos : Pos} {T : String} {e : Expr} {rest : List Expr} {Q : Value → Heap → Nat → Prop} (y : WC C h tk (spliced (backTo pos (starEach (e :: rest) C.env))) (fun vs h tk => WC C h tk (call (.type T) vs) Q))
    (he : ∀ env, starEach (e :: rest) env = (false, eval e env) :: starEach rest env := by intro _; rfl) (hplain : ∀ env, (backTo pos (starEach rest env)).any (·.1) = false := by intro _; rfl) :
    WC C h tk (callWith pos (.type T) [] (backTo pos (starEach (e :: rest) C.env)) []) Q := callWith_typeC (seqC y fun vs h1 tk1 q => q) (he _) (hplain _)
theorem WC.arg {e : Expr} {rest : List Expr} {pos : Pos} {Q : List Value → Heap → Nat → Prop} (y : WC C h tk (eval e C.env) (fun v h tk => WC C h tk (spliced (backTo pos (starEach rest C.env))) (KCons v Q)))
    (he : ∀ env, starEach (e :: rest) env = (false, eval e env) :: starEach rest env := by intro _; rfl) : WC C h tk (spliced (backTo pos (starEach (e :: rest) C.env))) Q :=
  spliced_moreC (seqC y fun v h1 tk1 q => wpC_mono q (fun _ _ z => z) fun _ _ z => z) (he _)
theorem WC.argN {pos : Pos} {Q : List Value → Heap → Nat → Prop} (q : Q [] h tk) : WC C h tk (spliced (backTo pos (starEach [] C.env))) Q := WC.of (W.argN q)
theorem WC.assign {x : Str} {pos' pos : Pos} {value : Expr} {Q : Flow → Heap → Nat → Prop} (y : WC C h tk (eval value C.env) (KStore C x Q)) (hs : ∀ env, swapsWith value (some (.Name x pos')) pos.line env = pure false := by intro _; rfl) :
    WC C h tk (exec (.Assign [.Name x pos'] value pos) C.env) Q := Assign_NameC (seqC y fun v h1 tk1 q => wpAny_mono q (fun _ _ z => z) fun _ _ z => z) (hs _)
theorem WC.list {elts : List Expr} {pos : Pos} {Q : Value → Heap → Nat → Prop} (y : WC C h tk (spliced (backTo pos (starEach elts C.env))) (fun vs h tk => vs.length ≤ sizeLine ∧ Q (.ref h.objs.size) (h.push (W.listOf vs.toArray 0)) tk)) : WC C h tk (eval (.List elts pos) C.env) Q :=
  List_C (seqC y fun vs h1 tk1 q => ⟨q.1, Lf.go q.2⟩)
theorem W.nameB {k : Nat} {x : Str} {pos : Pos} {v : Value} {Q : Value → Heap → Nat → Prop} (K : Ok C g k) (F : Fr g C.L h m) (e : ∀ P, nsIn (hd.heap_39 P) mainGlobals x = some none) (hv : bootBuiltins x = some v) (hn : x ≠ "__name__") (q : Q v h tk) (hk : i.scope.kind = .function := by rfl) (hx : ∀ L, (envX i.qual i.scope L i.f i.cdv []).kindOf x = some .globalImplicit := by intro _; rfl) (hd : (x == ("__debug__" : Str)) = false := by decide) :
    W C h tk (eval (.Name x pos) C.env) Q := nameX_B (s := ⟨h, C.gs, C.dr, tk, C.os⟩) F K.X (topRead_of K.T) (e _) hv hn (Lf.go q) hk (hx _) hd
theorem WC.ba {b : Array UInt8} {t : Tok} {Q : Value → Heap → Nat → Prop} (F : Fr g C.L h m) (hz : b.size ≤ sizeLine) (q : ∀ bb h', Fr g C.L h' m → h.StaysIn h' → h.get? bb = none → h'.get? bb = some { cls := .type "bytearray", data := .bytearray b } → Q (.ref bb) h' tk) : WC C h tk (call (.type "bytearray") [.bytes b t]) Q :=
  ba_of_bytesN F News.nil hz fun bb h' F' N' n S _ => Lf.go (q bb h' F' S n (N' _ (.head _)).1)
theorem WC.text {ba : Addr} {n lv : Int} {tn tl : Tok} {gb : Bool} {b : Array UInt8} {k : Nat} {Q : Value → Heap → Nat → Prop} (K : Ok C g k) (F : Fr g C.L h m) (I : BArr h ba b) (hz : b.size ≤ sizeLine) (hk : 6 ≤ k) (hf : i.scope.kind = .function)
    (ret : ∀ y bb h' tk', Fr g C.L h' m → h.StaysIn h' → NewF h h' y 94 [(Str.ofString "number", .int n tn), (Str.ofString "octets", .ref bb), (Str.ofString "is_global", .bool gb)] → h.get? bb = none → BArr h' bb b → Q (.ref y) h' tk') : WC C h tk (call (.ref 94) [.int n tn, .ref ba, .bool gb, .int lv tl]) Q :=
  text_useC K.B F K.X K.T hf (lt_add K.d hk) (lt_add K.u (Nat.le_trans (Nat.mul_le_mul_left 8 hk) (Nat.le_add_right _ _))) I hz fun y bb h' tk' a b c d e => Lf.go (ret y bb h' tk' a b c d e)
inductive Sb {i : FI} {w : World} (C : Cx i w) (g : Heap) (dk l : Addr) (m : Str → Option Value) (G1 h : Heap) : Prop
  | mk (gl : Led) (od ol : Obj) (F : Fr g C.L h m) (N : News g C.L h ((dk, od) :: (l, ol) :: gl)) (GK : GLk noH G1 gl) (NE : ∀ z ∈ gl, @Ne Nat z.1 dk ∧ @Ne Nat z.1 l) (D : DkOk w dk l od ol)
noncomputable def Nw (h h' G2 : Heap) : Prop := ∀ b o, h.get? b = none → h'.get? b = some o → G2.get? b = some o
theorem Sb.F (S : Sb C g dk l m G1 h) : Fr g C.L h m := let ⟨_, _, _, F, _, _, _, _⟩ := S; F
theorem Sb.stay (S : Sb C g dk l m G1 h) : G1.StaysIn h := by
  obtain ⟨gl, od, ol, F, N, GK, NE, D⟩ := S
  exact stay_gl GK F (noH_in _) N fun p hp => .tail _ (.tail _ hp)
theorem Sb.grow (S : Sb C g dk l m G1 h) (F' : Fr g C.L h' m') (K : h.StaysIn h') : ∃ G2, Sb C g dk l m' G2 h' ∧ G1.StaysIn G2 ∧ Nw h h' G2 := by
  have S1 := S.stay
  obtain ⟨gl, od, ol, F, N, GK, NE, D⟩ := S
  have S1' : G1.StaysIn h' := fun b o e => K b o (S1 b o e)
  refine ⟨pick G1 h' (newsOf h h'), .mk _ _ _ F' (fun p hp => ?_) (glk_grow GK S1' fun p hp => (newsOf_of hp).2) (ne_app (fun z hz => ⟨ne_get (newsOf_of hz).1 (N _ (.head _)).1, ne_get (newsOf_of hz).1 (N _ (.tail _ (.head _))).1⟩) NE) D, pick_old S1', fun b o n e => pick_new (newsOf_mem n e) e⟩
  rcases List.mem_cons.mp hp with rfl | hp
  · exact stay_news N K _ (.head _)
  rcases List.mem_cons.mp hp with rfl | hp
  · exact stay_news N K _ (.tail _ (.head _))
  rcases List.mem_append.mp hp with hp | hp
  · have q := newsOf_of hp
    exact ⟨q.2, fr_ne F q.1, fresh_of F.keep q.1⟩
  · exact stay_news N K _ (.tail _ (.tail _ hp))
theorem Nw.fld {y Cl : Addr} {fs : List (Str × Value)} (N : Nw h h' G2) (P : NewF h h' y Cl fs) : Fld G2 y Cl fs := by
  obtain ⟨d, es, n, q1, q2, q3, q4, q5⟩ := P
  exact ⟨_, d, es, n, N _ _ q1 q3, N _ _ q2 q4, q5⟩
theorem Nw.ba {bb : Addr} {b : Array UInt8} (N : Nw h h' G2) (n : h.get? bb = none) (I : BArr h' bb b) : BArr G2 bb b := by
  obtain ⟨o, k, e, x⟩ := I
  exact ⟨o, k, N _ _ n e, x⟩
theorem Nw.lst {bb : Addr} {b : Array Value} (N : Nw h h' G2) (n : h.get? bb = none) (I : h'.IsList bb b) : G2.IsList bb b := by
  obtain ⟨o, e, x⟩ := I
  exact ⟨o, N _ _ n e, x⟩
theorem text_arg {p1 p2 p3 p4 p5 p6 p7 p8 : Pos} {j2 j4 j6 j7 : Nat} {Q : Value → Heap → Nat → Prop} (g0 : Bool) {n : Int} {bs : List UInt8} (hn : n = if g0 then 2 else 1) (hb : bs.toArray = octs g0) (S : Sb C g dk l m G1 h) (K : Ok C g 40) (hf : i.scope.kind = .function)
    (hx1 : ∀ L, (envX i.qual i.scope L i.f i.cdv []).kindOf "Text" = some .globalImplicit) (hx2 : ∀ L, (envX i.qual i.scope L i.f i.cdv []).kindOf "bytearray" = some .globalImplicit)
    (q : ∀ y h' tk' G2, Sb C g dk l m G2 h' → G1.StaysIn G2 → TextH G2 y g0 → Q (.ref y) h' tk') :
    WC C h tk (eval (.Call (.Name "Text" p1) [.Constant (.int n) j2 p2, .Call (.Name "bytearray" p3) [.Constant (.bytes bs) j4 p4] [] p5, .Constant (.bool g0) j6 p6, .Constant (.int 0) j7 p7] [] p8) C.env) Q := by
  refine WC.Call (W.nameK K S.F (by intro P; k_is) ?_ hf hx1)
  refine WC.cwK (by intro P; k_is) (WC.arg (WC.of (W.int ?_)))
  refine WC.arg (WC.Call (W.nameB K S.F (by intro P; k_is) (v := .type "bytearray") (by first | boot_fast | boot_by_name) (by decide) ?_ hf hx2))
  refine WC.cwT (WC.arg (WC.of (W.bytes (WC.argN (WC.ba S.F (by rw [hb]; exact octs_line g0) fun bb h1 F1 S1 n1 e1 => ?_)))))
  obtain ⟨G2, S2, T2, N2⟩ := S.grow F1 S1
  refine WC.arg (WC.of (W.bool (WC.arg (WC.of (W.int (WC.argN ⟨K.X.keeps S2.F.keep, ?_⟩))))))
  refine WC.text K S2.F ⟨_, _, S2.stay _ _ (N2 _ _ n1 e1), rfl, rfl⟩ (by rw [hb]; exact octs_line g0) (by decide) hf fun y b2 h2 tk2 F2 U2 P2 n2 I2 => ?_
  obtain ⟨G3, S3, T3, N3⟩ := S2.grow F2 U2
  exact q _ _ _ G3 S3 (fun b o e => T3 b o (T2 b o e)) ⟨b2, _, hn ▸ N3.fld P2, hb ▸ N3.ba n2 I2⟩
theorem W.lst {b : Addr} {its : Array Value} {Q : Value → Heap → Nat → Prop} (F : Fr g C.L h m) (I : h.IsList b its) (hz : its.size ≤ sizeLine) (q : ∀ D h', Fr g C.L h' m → h.StaysIn h' → h.get? D = none → h'.IsList D its → Q (.ref D) h' tk) : W C h tk (call (.type "list") [.ref b]) Q := by
  obtain ⟨o, ho, hc, n, hd⟩ := I
  exact call_list_seq (s := ⟨h, C.gs, C.dr, tk, C.os⟩) b (.inl rfl) ho hc hd (fun h' c' hk hD => Lf.go (q _ h' (F.keeps hk) hk (Heap.get?_none_of_le (Nat.le_refl _)) ⟨_, hD, rfl, _, rfl⟩)) hz
theorem row_arg {p1 p2 p3 p4 p5 p6 p7 p8 : Pos} {j2 j6 j7 : Nat} {cl c0 c1 c2 : Addr} {Q : Value → Heap → Nat → Prop} (g0 : Bool) {n : Int} (hn : n = if g0 then 4 else 3) (S : Sb C g dk l m G1 h) (K : Ok C g 40) (hf : i.scope.kind = .function)
    (hx1 : ∀ L, (envX i.qual i.scope L i.f i.cdv []).kindOf "Row" = some .globalImplicit) (hx2 : ∀ L, (envX i.qual i.scope L i.f i.cdv []).kindOf "list" = some .globalImplicit) (hx3 : ∀ L, (envX i.qual i.scope L i.f i.cdv []).kindOf "cells" = some .local)
    (hm : m "cells" = some (.ref cl)) (IL : G1.IsList cl #[.ref c0, .ref c1, .ref c2]) (CL : CellsL G1 (lsOf c0 c1 c2))
    (q : ∀ y h' tk' G2, Sb C g dk l m G2 h' → G1.StaysIn G2 → RowH G2 y g0 → Q (.ref y) h' tk') :
    WC C h tk (eval (.Call (.Name "Row" p1) [.Constant (.int n) j2 p2, .Call (.Name "list" p3) [.Name "cells" p4] [] p5, .Constant (.bool g0) j6 p6, .Constant (.int 0) j7 p7] [] p8) C.env) Q := by
  refine WC.Call (W.nameK K S.F (by intro P; k_is) ?_ hf hx1)
  refine WC.cwK (by intro P; k_is) (WC.arg (WC.of (W.int ?_)))
  refine WC.arg (WC.Call (W.nameB K S.F (by intro P; k_is) (v := .type "list") (by first | boot_fast | boot_by_name) (by decide) ?_ hf hx2))
  refine WC.cwT (WC.arg (WC.of (W.name S.F hm (WC.argN (WC.of (W.lst S.F (IsL_of IL S.stay) (Nat.le_of_ble_eq_true rfl) fun D h1 F1 S1 n1 I1 => ?_))) hf hx3)))
  obtain ⟨G2, S2, T2, N2⟩ := S.grow F1 S1
  refine WC.arg (WC.of (W.bool (WC.arg (WC.of (W.int (WC.argN ⟨K.X.keeps S2.F.keep, ?_⟩))))))
  refine WC.of (W.ro (call_Row w G2 n 0 _ _ g0 D c0 c1 c2 (N2.lst n1 I1)) K S2.F S2.stay (fun r h2 tk2 F2 U2 P => ?_) (fun _ _ _ _ x => x.elim) (by decide) hf)
  obtain ⟨y, l2, rfl, P2, n2, I2⟩ := P
  obtain ⟨G3, S3, T3, N3⟩ := S2.grow F2 U2
  obtain ⟨u0, k0, a0, J0⟩ := CL _ (.head _)
  obtain ⟨u1, k1, a1, J1⟩ := CL _ (.tail _ (.head _))
  obtain ⟨u2, k2, a2, J2⟩ := CL _ (.tail _ (.tail _ (.head _)))
  have T4 : G1.StaysIn G3 := fun b o e => T3 b o (T2 b o e)
  exact q _ _ _ G3 S3 T4 ⟨l2, _, hn ▸ N3.fld P2, c0, c1, c2, _, _, _, _, _, _, _, _, _, N3.lst n2 I2, J0.keep T4, J1.keep T4, J2.keep T4⟩
theorem dict_arg {p1 p2 p3 p6 p7 p8 : Pos} {j2 j3 j6 j7 : Nat} {Q : Value → Heap → Nat → Prop} (g0 : Bool) {n : Int} (hn : n = if g0 then 6 else 5) (S : Sb C g dk l m G1 h) (K : Ok C g 40) (hf : i.scope.kind = .function)
    (hx1 : ∀ L, (envX i.qual i.scope L i.f i.cdv []).kindOf "DictBody" = some .globalImplicit)
    (q : ∀ y h' tk' G2, Sb C g dk l m G2 h' → G1.StaysIn G2 → DictH G2 y g0 → Q (.ref y) h' tk') :
    WC C h tk (eval (.Call (.Name "DictBody" p1) [.Constant (.int n) j2 p2, .Constant (.int 3) j3 p3, .Constant (.bool g0) j6 p6, .Constant (.int 0) j7 p7] [] p8) C.env) Q := by
  refine WC.Call (W.nameK K S.F (by intro P; k_is) ?_ hf hx1)
  refine WC.cwK (by intro P; k_is) (WC.arg (WC.of (W.int (WC.arg (WC.of (W.int (WC.arg (WC.of (W.bool (WC.arg (WC.of (W.int (WC.argN ⟨K.X.keeps S.F.keep, ?_⟩)))))))))))))
  refine WC.of (W.ro (call_DictBody w G1 n 3 0 _ _ _ g0) K S.F S.stay (fun r h2 tk2 F2 U2 P => ?_) (fun _ _ _ _ x => x.elim) (by decide) hf)
  obtain ⟨y, ta, rfl, P2⟩ := P
  obtain ⟨G3, S3, T3, N3⟩ := S.grow F2 U2
  exact q _ _ _ G3 S3 T3 ⟨_, ta, hn ▸ N3.fld P2⟩
end
theorem off1_ne {D : Addr} : ∀ {ls : Led}, LCg.Off1 D ls → ∀ p ∈ ls, @Ne Nat p.1 D
  | [], _, _, h => nomatch h
  | _ :: _, x, p, h => by
    rcases List.mem_cons.mp h with rfl | h
    · exact x.1
    · exact off1_ne x.2 p h
noncomputable def CP (cl : Led) (ys : List Value) : Prop := ∀ G : Heap, (∀ p ∈ cl, G.get? p.1 = some p.2) → ∀ (j : Nat) v, ys[j]? = some v → ∃ y u t a, v = .ref y ∧ ThF G y (Str.ofString "integer") (.int (7 + (j : Int)) u) false 3 t a
theorem CP.snoc {cl cl' : Led} {ys : List Value} {y : Addr} {u t a : Tok} (P : CP cl ys) (sub : ∀ p ∈ cl, p ∈ cl') (I : ∀ G : Heap, (∀ p ∈ cl', G.get? p.1 = some p.2) → ThF G y (Str.ofString "integer") (.int (7 + (ys.length : Int)) u) false 3 t a) : CP cl' (ys ++ [.ref y]) := fun G H j v e => by
  by_cases hj : j < ys.length
  · rw [List.getElem?_append_left hj] at e
    exact P G (fun p hp => H p (sub p hp)) j v e
  · rw [List.getElem?_append_right (Nat.not_lt.mp hj)] at e
    obtain ⟨e1, e2⟩ := List.getElem?_eq_some_iff.mp e
    have e3 : j = ys.length := by have : j - ys.length < 1 := e1; exact Nat.le_antisymm (Nat.le_of_sub_eq_zero (Nat.lt_one_iff.mp this)) (Nat.not_lt.mp hj)
    subst e3
    have e4 : v = .ref y := by rw [← e2]; simp
    exact ⟨y, u, t, a, e4, I G H⟩
section
open LCg
variable {i : FI} {w : World} {C : Cx i w} {g : Heap} {dk l : Addr} {od ol : Obj} {m : Str → Option Value} {scope : Scope} {cl' : List (Str × Addr)} {a1 a2 a3 a4 a5 a6 a7 a8 : Pos} {j1 j2 j3 j4 : Nat}
noncomputable abbrev cellE (a1 a2 a3 a4 a5 a6 a7 a8 : Pos) (j1 j2 j3 j4 : Nat) : Expr := .Call (.Name "Thing" a1) [.Constant (.str "integer") j1 a2, .BinOp (.Constant (.int 7) j2 a3) .Add (.Name "k" a4) a5, .Constant (.bool false) j3 a6, .Constant (.int 3) j4 a7] [] a8
theorem cell_el {h : Heap} {tk : Nat} {E : Value → Shared → Prop} {I Ca : Addr} {oI oC : Obj} {rest : Led} {m2 : Str → Option Value} {z : Int} {t : Tok} {Q : Value → Shared → Prop} (K : Ok C g 40) (hf : i.scope.kind = .function) (F : Fr g C.L h m) (N : News g C.L h ((I, oI) :: (Ca, oC) :: rest)) (hC : NsObj oC m2) (hk : m2 "k" = some (.int z t))
    (k1 : (compEnvC scope cl' Ca C.env).scope.kind = .function) (k2 : (compEnvC scope cl' Ca C.env).kindOf "Thing" = some .globalImplicit) (k3 : (compEnvC scope cl' Ca C.env).kindOf "k" = some .local)
    (q : ∀ y u t2 a h' tk', Fr g C.L h' m → h.StaysIn h' → NewF h h' y 73 (ThFs (Str.ofString "integer") (.int (7 + z) u) false 3 t2 a) → Q (.ref y) ⟨h', C.gs, C.dr, tk', C.os⟩) :
    wpAny (model PySem.Challenge.rw_on0261_01.row.prog w) C.A (eval (cellE a1 a2 a3 a4 a5 a6 a7 a8 j1 j2 j3 j4) (compEnvC scope cl' Ca C.env)) Q E ⟨h, C.gs, C.dr, tk, C.os⟩ := by
  refine Call_ (LCgL.ld_global F K.X K.T (by k_is) ?_ rfl k1 k2)
  refine callWith_K K.X (by k_is) (args_cons (Constant_str (args_cons (wpAny_BinOp (wpAny_Constant_int (LCgL.ld_own N (.tail _ (.head _)) hC hk (PyProof.Rows.add_int (args_cons (wpAny_Constant_bool (args_cons (wpAny_Constant_int (args_nil ⟨K.X.keeps F.keep, ?_⟩)))))) k1 k3)))))) 
  exact ro_use (call_Thing w noH _ _ _ _ rfl rfl rfl rfl) K.B F K.X K.T hf (lt_add K.d (by decide)) (lt_add K.u (by decide)) (noH_in _) (fun r h' tk' F' S' P => by
    obtain ⟨y, rfl, P⟩ := P
    exact q y _ _ _ h' tk' F' S' P) fun _ _ _ _ x => x.elim
theorem cells_rest {hs : Heap} {tks n : Nat} {Fin : List Value → Led → Prop} {news0 : Led} (K : Ok C g 40) (hf : i.scope.kind = .function) (k1 : ∀ Ca L, (compEnvC scope cl' Ca (envX i.qual i.scope L i.f i.cdv [])).scope.kind = .function) (k2 : ∀ Ca L, (compEnvC scope cl' Ca (envX i.qual i.scope L i.f i.cdv [])).kindOf "Thing" = some .globalImplicit) (k3 : ∀ Ca L, (compEnvC scope cl' Ca (envX i.qual i.scope L i.f i.cdv [])).kindOf "k" = some .local)
    (h0 : (dk, od) ∈ news0) (h1 : (l, ol) ∈ news0) (fin : ∀ cl ys, ys.length = n → CP cl ys → (∀ p ∈ cl, @Ne Nat p.1 dk ∧ @Ne Nat p.1 l) → Fin ys (cl ++ news0)) : ∀ (k j : Nat) (ys : List Value) (cl : Led), j + k = n → ys.length = j → CP cl ys → (∀ p ∈ cl, @Ne Nat p.1 dk ∧ @Ne Nat p.1 l) →
      CompRest PySem.Challenge.rw_on0261_01.row.prog w C.A g C.L m C.env (cellE a1 a2 a3 a4 a5 a6 a7 a8 j1 j2 j3 j4) "k" scope cl' ⟨hs, C.gs, C.dr, tks, C.os⟩ (fun _ => True) (fun i v => ∃ t, v = .int (0 + (i : Int)) t) Fin k j ys (cl ++ news0)
  | 0, j, ys, cl, hj, hl, P, NE => CompRest.zero (fin cl ys (hl.trans hj) P NE)
  | k + 1, j, ys, cl, hj, hl, P, NE => by
    refine CompRest.succ fun v I oI Ca oC D m2 h tk E hv hC hx F N off ne => ?_
    obtain ⟨t, rfl⟩ := hv
    refine cell_el K hf F N hC hx (k1 _ _) (k2 _ _) (k3 _ _) fun y u t2 a h' tk' F' S' PF => ?_
    obtain ⟨d, es, n', q1, q2, q3, q4, q5⟩ := PF
    have N' := stay_news N S'
    have nI := (N _ (.head _)).1
    have nC := (N _ (.tail _ (.head _))).1
    have nD := (N _ (.tail _ (.tail _ (.head _)))).1
    have old : ∀ p ∈ cl ++ news0, h.get? p.1 = some p.2 := fun p hp => (N p (.tail _ (.tail _ (.tail _ hp)))).1
    refine ⟨h', tk', (y, instObj 73 d) :: (d, dictOf es n') :: cl ++ news0, rfl, F', fun p hp => ?_, Off3.of fun p hp => ?_, True.intro, cells_rest K hf k1 k2 k3 h0 h1 fin k (j + 1) _ ((y, instObj 73 d) :: (d, dictOf es n') :: cl) (by rw [← hj]; exact Nat.succ_add_eq_add_succ j k) (by rw [List.length_append, hl]; rfl) (P.snoc (fun p hp => .tail _ (.tail _ hp)) (u := u) (t := t2) (a := a) fun G H => ?_) fun p hp => ?_⟩
    · rcases List.mem_cons.mp hp with rfl | hp
      · exact N' _ (.head _)
      rcases List.mem_cons.mp hp with rfl | hp
      · exact N' _ (.tail _ (.head _))
      rcases List.mem_cons.mp hp with rfl | hp
      · exact N' _ (.tail _ (.tail _ (.head _)))
      rcases List.mem_cons.mp hp with rfl | hp
      · exact ⟨q3, fr_ne F q1, fresh_of F.keep q1⟩
      rcases List.mem_cons.mp hp with rfl | hp
      · exact ⟨q4, fr_ne F q2, fresh_of F.keep q2⟩
      · exact N' _ (.tail _ (.tail _ (.tail _ hp)))
    · rcases List.mem_cons.mp hp with rfl | hp
      · exact ⟨ne_get q1 nI, ne_get q1 nC, ne_get q1 nD⟩
      rcases List.mem_cons.mp hp with rfl | hp
      · exact ⟨ne_get q2 nI, ne_get q2 nC, ne_get q2 nD⟩
      · exact off.mem p hp
    · rw [hl]
      exact ⟨_, d, es, n', H _ (.head _), H _ (.tail _ (.head _)), by rw [← Int.zero_add (j : Int)]; exact q5⟩
    · have e0 := old _ (List.mem_append.mpr (.inr h0))
      have e1 := old _ (List.mem_append.mpr (.inr h1))
      rcases List.mem_cons.mp hp with rfl | hp
      · exact ⟨ne_get q1 e0, ne_get q1 e1⟩
      rcases List.mem_cons.mp hp with rfl | hp
      · exact ⟨ne_get q2 e0, ne_get q2 e1⟩
      · exact NE p hp
theorem cells_st {py px r1 r2 r3 pos spos : Pos} {jr : Nat} {h : Heap} {tk : Nat} {Q : Flow → Heap → Nat → Prop} (K : Ok C g 40) (hf : i.scope.kind = .function) (F : Fr g C.L h m) (N : News g C.L h [(dk, od), (l, ol)]) (D : DkOk w dk l od ol)
    (hA : C.A.handled = none) (hsw : ∀ L, swapsWith (.ListComp (cellE a1 a2 a3 a4 a5 a6 a7 a8 j1 j2 j3 j4) [⟨.Name "k" px, .Call (.Name "range" r1) [.Constant (.int 3) jr r2] [] r3, [], 0⟩] scope pos) (some (.Name "cells" py)) spos.line (envX i.qual i.scope L i.f i.cdv []) = pure true)
    (hclos : ∀ L, closureFor scope (envX i.qual i.scope L i.f i.cdv []) = pure cl') (hcell : ∀ z ∈ scope.names, z.2 ≠ .cell) (hkind : scope.kind = .function) (hnames : ∀ z ∈ scope.names, z.2 = .local → scope.names.lookup z.1 = some .local) (hx : scope.names.lookup (Str.ofString "k") = some .local)
    (hy : ∀ L, (envX i.qual i.scope L i.f i.cdv []).kindOf "cells" = some .local) (hr : ∀ L, (envX i.qual i.scope L i.f i.cdv []).kindOf "range" = some .globalImplicit)
    (k1 : ∀ Ca L, (compEnvC scope cl' Ca (envX i.qual i.scope L i.f i.cdv [])).scope.kind = .function) (k2 : ∀ Ca L, (compEnvC scope cl' Ca (envX i.qual i.scope L i.f i.cdv [])).kindOf "Thing" = some .globalImplicit) (k3 : ∀ Ca L, (compEnvC scope cl' Ca (envX i.qual i.scope L i.f i.cdv [])).kindOf "k" = some .local)
    (q : ∀ cl c0 c1 c2 h' tk' G1, Sb C g dk l (upd m "cells" (.ref cl)) G1 h' → G1.IsList cl #[.ref c0, .ref c1, .ref c2] → CellsL G1 (lsOf c0 c1 c2) → Q .next h' tk') :
    W C h tk (exec (.Assign [.Name "cells" py] (.ListComp (cellE a1 a2 a3 a4 a5 a6 a7 a8 j1 j2 j3 j4) [⟨.Name "k" px, .Call (.Name "range" r1) [.Constant (.int 3) jr r2] [] r3, [], 0⟩] scope pos) spos) C.env) Q := by
  refine Assign_ListComp_U (s := ⟨h, C.gs, C.dr, tk, C.os⟩) (F₀ := F) rfl (hsw _) (hclos _) hcell hkind hnames hx (hy _) (by show ((i.scope.kind == .class) || _) = false; rw [hf]; rfl) ?_ (by intro _; rfl)
  refine Call_ (nameX_B (s := ⟨h, C.gs, C.dr, tk, C.os⟩) (v := .type "range") F K.X (topRead_of K.T) (by k_is) (by first | boot_fast | boot_by_name) (by decide) ?_ hf (hr _))
  refine Pv.callWith_type1 (args_cons (wpAny_Constant_int (args_nil ?_)))
  refine range1_rows F N fun h1 tk1 t u v R F1 N1 _ => ?_
  refine CompSrc.range hA F1 N1 R (by decide) (n := 3) (by rfl) (Nat.le_of_ble_eq_true rfl) fun g' => ?_
  refine cells_rest (n := 3) (cl := []) (dk := dk) (l := l) (od := od) (ol := ol) K hf k1 k2 k3 (.head _) (.tail _ (.head _)) (fun cl ys hl P NE => ?_) 3 0 [] rfl rfl (fun _ _ _ _ e => nomatch e) fun _ hp => nomatch hp
  intro Dl h2 tk2 F2 N2 O2
  match ys, hl with
  | [v0, v1, v2], _ =>
    have N3 : News g C.L h2 ((dk, od) :: (l, ol) :: (Dl, LCg.lst [v0, v1, v2]) :: cl) := fun p hp => N2 p (by
      rcases List.mem_cons.mp hp with rfl | hp
      · exact .tail _ (List.mem_append.mpr (.inr (.head _)))
      rcases List.mem_cons.mp hp with rfl | hp
      · exact .tail _ (List.mem_append.mpr (.inr (.tail _ (.head _))))
      rcases List.mem_cons.mp hp with rfl | hp
      · exact .head _
      · exact .tail _ (List.mem_append.mpr (.inl hp)))
    have N4 := fun z hz => N3 z (.tail _ (.tail _ hz))
    have G0 : ∀ p ∈ (Dl, LCg.lst [v0, v1, v2]) :: cl, (pick noH h2 ((Dl, LCg.lst [v0, v1, v2]) :: cl)).get? p.1 = some p.2 := fun p hp => pick_new hp (N4 p hp).1
    have P' := P _ fun p hp => G0 p (.tail _ hp)
    obtain ⟨c0, u0, k0, b0, rfl, I0⟩ := P' 0 _ rfl
    obtain ⟨c1, u1, k4, b1, rfl, I1⟩ := P' 1 _ rfl
    obtain ⟨c2, u2, k5, b2, rfl, I2⟩ := P' 2 _ rfl
    refine Lf.go (q Dl c0 c1 c2 _ _ _ (.mk _ od ol F2 N3 (glk_pick (noH_in _) fun z hz => (N4 z hz).1) (fun z hz => ?_) D) ⟨_, G0 _ (.head _), rfl, _, rfl⟩ fun p hp => ?_)
    · rcases List.mem_cons.mp hz with rfl | hz
      · exact ⟨fun e => off1_ne O2 (dk, od) (List.mem_append.mpr (.inr (.head _))) e.symm, fun e => off1_ne O2 (l, ol) (List.mem_append.mpr (.inr (.tail _ (.head _)))) e.symm⟩
      · exact NE z hz
    · rcases List.mem_cons.mp hp with rfl | hp
      · exact ⟨_, _, _, I0⟩
      rcases List.mem_cons.mp hp with rfl | hp
      · exact ⟨_, _, _, I1⟩
      · rw [List.mem_singleton.mp hp]; exact ⟨_, _, _, I2⟩
end
theorem dictH_keep {G h : Heap} {bd : Addr} {g0 : Bool} (S : G.StaysIn h) (H : DictH G bd g0) : DictH h bd g0 := let ⟨tn, ta, D⟩ := H; ⟨tn, ta, D.keep S⟩
theorem bods_st {i : FI} {w : World} {C : Cx i w} {g h G1 : Heap} {tk : Nat} {dk l b0 b1 b2 b3 b4 b5 : Addr} {m : Str → Option Value} {Q : Flow → Heap → Nat → Prop} (S : Sb C g dk l m G1 h)
    (B0 : TextH G1 b0 false) (B1 : TextH G1 b1 true) (B2 : RowH G1 b2 false) (B3 : RowH G1 b3 true) (B4 : DictH G1 b4 false) (B5 : DictH G1 b5 true) (hk : i.scope.kind = .function) (hx : ∀ L, (envX i.qual i.scope L i.f i.cdv []).kindOf "bodies" = some .local)
    (q : ∀ bs h' tk' G2, Sb C g dk l (upd m "bodies" (.ref bs)) G2 h' → Bods G2 bs b0 b1 b2 b3 b4 b5 → Q .next h' tk') :
    KStore C "bodies" Q (.ref h.objs.size) (h.push (W.listOf [.ref b0, .ref b1, .ref b2, .ref b3, .ref b4, .ref b5].toArray 0)) tk := by
  obtain ⟨G2, S2, T2, N2⟩ := S.grow (S.F.push _) fun b o e => Heap.get?_push_of_some (W.listOf [.ref b0, .ref b1, .ref b2, .ref b3, .ref b4, .ref b5].toArray 0) e
  have IL : G2.IsList h.objs.size #[.ref b0, .ref b1, .ref b2, .ref b3, .ref b4, .ref b5] := ⟨_, N2 _ _ (Heap.get?_none_of_le (Nat.le_refl _)) (Heap.get?_push_size _ rfl), rfl, _, rfl⟩
  obtain ⟨gl, od, ol, F, N, GK, NE, D⟩ := S2
  exact W.store F N (fun h' F' N' => q _ _ _ G2 (.mk gl od ol F' N' GK NE D) ⟨IL, B0.keep' T2, B1.keep' T2, B2.keep' T2, B3.keep' T2, dictH_keep T2 B4, dictH_keep T2 B5⟩) hk hx
end Mine
end
section
namespace Mine
open PySem.Spec PySem.Calls
theorem enter_callC {M : Model} {A : Around} {s : Shared} {f : Value} {pos : List Value} {kw : List (Str × Value)} {c : ClaimW} {cl : Str → Option Addr} {mean : ExcName → Option Value} {args : List WData} {s₁ : Shared}
    (h : codeC M A (.call f ⟨pos, kw⟩) (GoodWG c cl mean args s₁) s) : wpC M A (PySem.call f pos kw) (fun v s' => GoodWG c cl mean args s₁ (.ok (.ret v)) s') (fun e s' => GoodWG c cl mean args s₁ (.error e) s') s :=
  wpC_call (codeC_mono h fun res s' g => by rcases g.1 with ⟨v, _, _, rfl, _⟩ | ⟨e, _, _, rfl, _⟩ <;> exact g)
theorem call_fullC {prog : Program} {w : World} {A : Around} {R : Result → Shared → Prop} {s : Shared} {name : Str} {params : Arguments} {body : List Stmt} {scope : Scope}
    {dV kV pm cd doc : Value} {a : Addr} {o : Obj} {args : Args} {binds : List (Str × Value)}
    (hroom : A.depth < recursionLimit) (ho : s.heap.get? a = some o) (hdata : o.data = .func { docDef name params body scope pm cd doc with defaults := dV, kwdefaults := kV }) (hlim : s.heap.NoLimit) (hcd : s.heap.CodeRec cd name)
    (hbind : BindsTo s { docDef name params body scope pm cd doc with defaults := dV, kwdefaults := kV } args binds) (hloc : ∀ x ∈ binds, scope.names.lookup x.1 = some .local)
    (h : ∀ h₁, Fr s.heap s.heap.objs.size h₁ (fun x => binds.reverse.lookup x) →
      wpC (model prog w) (A.deeper (envOf name scope s.heap.objs.size a cd)) (execs body (envOf name scope s.heap.objs.size a cd)) (fun f s' => R (.ok (.ret (match f with | .ret v => v | _ => .none))) s')
        (fun e s' => wpAny (model prog w) (A.deeper (envOf name scope s.heap.objs.size a cd)) (leaving (envOf name scope s.heap.objs.size a cd) e) (fun _ s'' => R (.error e) s'') (fun e' s'' => R (.error e') s'') s')
        { s with heap := h₁, toks := s.toks + binds.length })
    (hco : scope.isCoroutine = false := by rfl) (hgen : scope.isGenerator = false := by rfl) (hk : scope.kind = .function := by rfl) (hcell : ∀ x ∈ scope.names, x.2 ≠ .cell := by decide) :
    codeC (model prog w) A (.call (.ref a) args) R s :=
  codeC_call_def hroom ho hdata hlim hcd rfl hbind hcell hloc (fun h₁ hns hkeep => h h₁ ⟨hns, hkeep, Nat.le_refl _⟩) hco hgen hk
noncomputable def NeD (dk l y : Addr) : Prop := @Ne Nat y dk ∧ @Ne Nat y l
noncomputable def MpL3 (dk cl sc : Addr) : Str → Option Value := fun y => if y = Str.ofString "cells" then some (.ref cl) else if y = Str.ofString "deck" then some (.ref dk) else List.lookup y [(Str.ofString "script", .ref sc)].reverse
noncomputable def MpL4 (dk cl sc bs : Addr) : Str → Option Value := fun y => if y = Str.ofString "bodies" then some (.ref bs) else if y = Str.ofString "cells" then some (.ref cl) else if y = Str.ofString "deck" then some (.ref dk) else List.lookup y [(Str.ofString "script", .ref sc)].reverse
local macro_rules | `(tactic| k_upd) => `(tactic| first | (refine' DeckG.here ?a; (case a => with_reducible assumption)) | (refine' DeckG.there ?a ?b ?c; (case a => k_ne); (case b => k_ne); (case c => k_upd)))
noncomputable def MpL5 (dk cl sc bs x x' : Addr) : Str → Option Value := fun y => if y = Str.ofString "one" then some (.ref x) else if y = Str.ofString "other" then some (.ref x') else MpL4 dk cl sc bs y
noncomputable abbrev mpL6 (dk cl sc bs x x' : Addr) (sm : Value) : Str → Option Value := fun y => if y = Str.ofString "some" then some sm else MpL5 dk cl sc bs x x' y
structure LwA {i : FI} {w : World} (C : Cx i w) (base : Heap) (dk l : Addr) (gl : Led) (m : Str → Option Value) (h : Heap) (g' : Heap) (od ol : Obj) : Prop where
  T : KtsTurn (frsOf C.outer) base g'
  F : Fr g' C.L h m
  K : Ok C g' 40
  S : noH.StaysIn g'
  N : News g' C.L h ((dk, od) :: (l, ol) :: gl)
  D : DkOk w dk l od ol
inductive LwC {i : FI} {w : World} (C : Cx i w) (base : Heap) (dk l cl sc bs : Addr) (h : Heap) (tk : Nat) : Prop
  | mk (x : Addr) (U : TK) (v : Value) (e : Bool) (ac : Int) (t ta : Tok) (x' : Addr) (U' : TK) (v' : Value) (e' : Bool) (ac' : Int) (t' ta' : Tok) (G4 : Heap) (gl4 : Led) (GK : GLk noH G4 gl4) (NE : ∀ z ∈ gl4, @Ne Nat z.1 dk ∧ @Ne Nat z.1 l) (A : ThA G4 x U v e ac t ta) (A' : ThA G4 x' U' v' e' ac' t' ta')
    (g' : Heap) (od ol : Obj) (st : LwA C base dk l gl4 (MpL5 dk cl sc bs x x') h g' od ol)
inductive LwD {i : FI} {w : World} (C : Cx i w) (base : Heap) (dk l cl sc bs x x' : Addr) (gl : Led) (h : Heap) (tk : Nat) : Prop
  | mk (g' : Heap) (od ol : Obj) (st : LwA C base dk l gl (MpL5 dk cl sc bs x x') h g' od ol)
inductive LwE {i : FI} {w : World} (C : Cx i w) (base : Heap) (dk l cl sc bs x x' : Addr) (gl : Led) (h : Heap) (tk : Nat) : Prop
  | mk (sm : Value) (g' : Heap) (od ol : Obj) (st : LwA C base dk l gl (mpL6 dk cl sc bs x x' sm) h g' od ol)
theorem law_inC {w : World} {name : Str} {scope : Scope} {L fa : Addr} {cd : Value} {base h : Heap} {rest : List Stmt} {mg mb : Str → Option Value} {mean : ExcName → Option Value} {m : Str → Option Value} {news : Led} {gs : Array GenState} {dr : Drawn} {tk : Nat} {os : OsState} {Q : Flow → Shared → Prop} {E : Value → Shared → Prop}
    (B : Below callerA base [] base) (X : (hd.heap_39 w.params).In base) (T : TopH mean mg mb base) (F : Fr base L h m) (N : News base L h news) (hQ : ∀ fl s, Q (.ret (match fl with | .ret v => v | _ => .none)) s → Q fl s)
    (fin : ∀ h' tk' g' m', Fr g' L h' m' → base.StaysIn g' → Q (.ret (.bool true)) ⟨h', gs, dr, tk', os⟩)
    (walk : ∀ (C : Cx ⟨name, scope, fa, cd⟩ w) (Q' : Value → Heap → Nat → Prop), Ok C base 40 → OkB C → Fr base C.L h m → News base C.L h news → Off noH (frsOf C.outer) → (∀ h' tk' g' m', Fr g' C.L h' m' → Ok C g' 40 → AtR Q' (.ret (.bool true)) h' tk') → WC C h tk (execs rest C.env) (AtR Q')) :
    wpC (model PySem.Challenge.rw_on0261_01.row.prog w) (callerA.deeper (envOf name scope L fa cd)) (execs rest (envOf name scope L fa cd)) Q E ⟨h, gs, dr, tk, os⟩ := by
  have := walk ⟨callerA.depth + 1, callerA.units + 3, callerA.guards, [], callerA, base, L, mg, mb, mean, gs, dr, os, fun e h tk => E e ⟨h, gs, dr, tk, os⟩⟩ (fun v h tk => Q (.ret v) ⟨h, gs, dr, tk, os⟩) ⟨B, X, T, by show callerA.depth + 1 + 40 < recursionLimit; decide, by show callerA.units + 3 + (8 * 40 + 5) < cLine; decide⟩ ⟨X, T, rfl⟩ F N (fun b hb => nomatch hb) fun h' tk' g' m' F' K' => fin h' tk' g' m' F' K'.B.stays
  exact wpC_mono this (fun fl s ⟨h, tk, e, q⟩ => by rw [e]; exact hQ fl _ q) fun e s ⟨h, tk, e', q⟩ => by rw [e']; exact q
inductive LwP {i : FI} {w : World} (C : Cx i w) (base : Heap) (sc : Addr) (h : Heap) (tk : Nat) : Prop
  | mk (dk l : Addr) (od ol : Obj) (hlt : @LT.lt Nat _ l dk) (F : Fr base C.L h (upd (fun y => List.lookup y [(Str.ofString "script", .ref sc)].reverse) (Str.ofString "deck") (.ref dk))) (N : News base C.L h [(dk, od), (l, ol)]) (D : DkOk w dk l od ol)
inductive LwQ {i : FI} {w : World} (C : Cx i w) (base : Heap) (dk l sc : Addr) (h : Heap) (tk : Nat) : Prop
  | mk (cl c0 c1 c2 : Addr) (G1 : Heap) (S : Sb C base dk l (MpL3 dk cl sc) G1 h) (IL : G1.IsList cl #[.ref c0, .ref c1, .ref c2]) (CL : CellsL G1 (lsOf c0 c1 c2))
inductive LwR {i : FI} {w : World} (C : Cx i w) (base : Heap) (dk l cl sc : Addr) (h : Heap) (tk : Nat) : Prop
  | mk (bs b0 b1 b2 b3 b4 b5 : Addr) (G1 : Heap) (S : Sb C base dk l (MpL4 dk cl sc bs) G1 h) (HB : Bods G1 bs b0 b1 b2 b3 b4 b5)
theorem lnLawA (w : World) : (hd.heap_39 w.params).In = (hd.heap_39 w.params).In ∧ PySem.Challenge.rw_on0261_01 = PySem.Challenge.rw_on0261_01 := by
  k_fill
  exact ⟨rfl, rfl⟩
theorem law_body {w : World} {fa : Addr} {cd : Value} {base h₁ : Heap} {tk₁ : Nat} {sc : Addr} {vs : List Value} {ns : List Int} (Q' : Value → Heap → Nat → Prop) (C : Cx ⟨hd.rec.name, hd.rec.scope, fa, cd⟩ w) (IL : base.IsList sc vs.toArray) (II : IntsAre vs ns) (hns : ns.length ≤ 63) (K : Ok C base 40) (KB : OkB C)
    (FC : Fr base C.L h₁ (fun y => List.lookup y [(Str.ofString "script", .ref sc)].reverse)) (OF : Off noH (frsOf C.outer)) (fin : ∀ h' tk' g' m', Fr g' C.L h' m' → Ok C g' 40 → AtR Q' (.ret (.bool true)) h' tk') : WC C h₁ tk₁ (execs hd.rec.body C.env) (AtR Q') := by
  revert C
  delta hd.rec
  dsimp only
  intro C K KB FC OF fin
  refine' WC.seg (LwP C base sc) ?ga ?gb
  case ga =>
    refine WC.of (W.Assign (W.Call (W.nameK K FC (by intro P; k_is) (W.callWith K (by intro P; k_is) (W.arg (W.name FC rfl (W.argN (KCallA.go K FC (W.ro (law_deck_c w base _ _ ns IL II hns) K FC FC.keep (fun r h2 tk2 F2 S2 P => ?_) (fun _ _ _ _ x => x.elim))))))))))
    obtain ⟨dk, l, od, ol, rfl, f9, g9, u9, v9, lt9, D9⟩ := P
    exact W.store F2 (news_obj FC (news_obj FC News.nil g9 v9) f9 u9) fun h3 F3 N3 => Due.mk ⟨rfl, .mk dk l od ol lt9 F3 N3 D9⟩
  intro h1 tk1 z
  obtain ⟨dk, l, od, ol, hlt, F1, N1, D1⟩ := z
  clear FC
  refine' WC.seg (LwQ C base dk l sc) (WC.of (cells_st (cl' := []) K rfl F1 N1 D1 rfl (by intro L; with_unfolding_all rfl) (by intro L; rfl) (by decide) rfl (by decide) rfl (by intro L; rfl) (by intro L; rfl) (by intro _ _; rfl) (by intro _ _; rfl) (by intro _ _; rfl) fun cl c0 c1 c2 h' tk' G1 S I0 CL => Due.mk ⟨rfl, .mk cl c0 c1 c2 G1 S I0 CL⟩)) ?_
  intro h2 tk2 z
  clear F1 N1 D1
  obtain ⟨cl, c0, c1, c2, G1, S, I0, CL⟩ := z
  refine' WC.seg (LwR C base dk l cl sc) (WC.assign (WC.list ?gc)) ?gd
  case gc =>
    refine WC.arg (text_arg false rfl rfl S K rfl (by intro L; rfl) (by intro L; rfl) fun b0 h0 t0 G2 S0 T0 B0 => ?_)
    refine WC.arg (text_arg true rfl rfl S0 K rfl (by intro L; rfl) (by intro L; rfl) fun b1 h1 t1 G3 S1 T1 B1 => ?_)
    refine WC.arg (row_arg false rfl S1 K rfl (by intro L; rfl) (by intro L; rfl) (by intro L; rfl) rfl (IsL_of (IsL_of I0 T0) T1) ((CL.keep T0).keep T1) fun b2 h2 t2 G4 S2 T2 B2 => ?_)
    refine WC.arg (row_arg true rfl S2 K rfl (by intro L; rfl) (by intro L; rfl) (by intro L; rfl) rfl (IsL_of (IsL_of (IsL_of I0 T0) T1) T2) (((CL.keep T0).keep T1).keep T2) fun b3 h3 t3 G5 S3 T3 B3 => ?_)
    refine WC.arg (dict_arg false rfl S3 K rfl (by intro L; rfl) fun b4 h4 t4 G6 S4 T4 B4 => ?_)
    refine WC.arg (dict_arg true rfl S4 K rfl (by intro L; rfl) fun b5 h5 t5 G7 S5 T5 B5 => ?_)
    refine WC.argN ⟨by rw [sizeLine_eq]; exact Nat.le_of_ble_eq_true rfl, ?_⟩
    exact bods_st S5 (((((B0.keep' T1).keep' T2).keep' T3).keep' T4).keep' T5) ((((B1.keep' T2).keep' T3).keep' T4).keep' T5) (((B2.keep' T3).keep' T4).keep' T5) ((B3.keep' T4).keep' T5) (dictH_keep T5 B4) B5 rfl (by intro L; rfl) fun bs h' tk' G8 S8 HB => Due.mk ⟨rfl, .mk bs b0 b1 b2 b3 b4 b5 G8 S8 HB⟩
  intro h3 tk3 z
  clear S I0 CL
  obtain ⟨bs, b0, b1, b2, b3, b4, b5, G3, S, HB⟩ := z
  obtain ⟨gl3, od3, ol3, F3, N3, GK3, NE3, D3⟩ := S
  refine WC.of ?_
  k_with "F:AtR" => k_dflt (first
  | (refine' RetR.ret ?a_q ?b_q ?_; (case a_q => with_reducible assumption); (case b_q => with_reducible assumption); k_whole)
  | (refine' RetR.nxt ?a_q ?b_q ?_; (case a_q => with_reducible assumption); (case b_q => with_reducible assumption); k_whole)
  | (refine' RetC.nxt ?a_q ?b_q ?c_q ?_; (case a_q => with_reducible assumption); (case b_q => with_reducible assumption); (case c_q => with_reducible assumption); k_whole))
  k_with "F:AtE" => k_dflt (first
  | (refine' ExcR.r ?a_q ?b_q ?c_q ?d_q ?_; (case a_q => with_reducible assumption); (case c_q => with_reducible assumption); (case b_q => with_reducible assumption); (case d_q => first | with_reducible assumption | exact fun _ _ h => h))
  | (refine' ExcR.p ?a_q ?b_q ?c_q ?_; (case a_q => with_reducible assumption); (case c_q => with_reducible assumption); (case b_q => with_reducible assumption)))
  k_with "F:subscriptTail" => k_extra "r36"
  k_with "F:call type:bytes" => k_extra "r37"
  k_with "F:exec Assign" => k_dflt (first
  | ((with_reducible refine W.AssignU ?_ ?h_q ?hh_q); (case h_q => (intro P9; rfl)); (case hh_q => rfl))
  | ((with_reducible refine' W.AssignT ?_ ?h_q ?hh_q); (case h_q => (intro P9; rfl)); (case hh_q => rfl)))
  k_with "F:compareOp In bytes ref" => (k_here; k_dflt (first
  | (refine' in2_no ?l_q ?a_q ?b_q ?_; (case l_q => exact News.isList (by with_reducible assumption) (by k_mem)); (case a_q => exact eq_t_b (tup_of (by with_reducible assumption) (by k_mem) (by assumption) (by assumption) (by assumption)) (by (first | exact lt_add (Ok.u (by with_reducible assumption)) (by decide) | exact lt_add0 (Ok.u (by with_reducible assumption)) | ktr_units))); (case b_q => exact eq_t_b (tup_of (by with_reducible assumption) (by k_mem) (by assumption) (by assumption) (by assumption)) (by (first | exact lt_add (Ok.u (by with_reducible assumption)) (by decide) | exact lt_add0 (Ok.u (by with_reducible assumption)) | ktr_units))); k_whole)
  | (refine' in2_1 ?l_q ?a_q ?b_q ?_; (case l_q => exact News.isList (by with_reducible assumption) (by k_mem)); (case a_q => exact eq_b_same _ _ _); (case b_q => first | exact eq_b_same _ _ _ | exact eq_t_b (tup_of (by with_reducible assumption) (by k_mem) (by assumption) (by assumption) (by assumption)) (by (first | exact lt_add (Ok.u (by with_reducible assumption)) (by decide) | exact lt_add0 (Ok.u (by with_reducible assumption)) | ktr_units))); k_whole)
  | (refine' in2_2 ?l_q ?a_q ?b_q ?_; (case l_q => exact News.isList (by with_reducible assumption) (by k_mem)); (case b_q => exact eq_b_same _ _ _); (case a_q => first | exact eq_b_same _ _ _ | exact eq_t_b (tup_of (by with_reducible assumption) (by k_mem) (by assumption) (by assumption) (by assumption)) (by (first | exact lt_add (Ok.u (by with_reducible assumption)) (by decide) | exact lt_add0 (Ok.u (by with_reducible assumption)) | ktr_units))); k_whole)))
  k_with "F:compareOp Eq ref ref" => k_extra "r11"
  k_with "F:subscriptTail" => k_extra "r38"
  k_with "F:subscriptTail" => k_extra "r39"
  k_with "F:subscriptTail" => k_extra "r14"
  k_with "F:subscriptTail" => k_extra "r40"
  k_with "F:call ref" => (k_here; (with_reducible show W _ _ _ (call (Value.ref 398) _) _); k_dflt (refine' W.thing ?HB_q ?GLK_q ?NE_q ?DD_q ?HLT_q ?KO_q ?FR_q ?NN_q ?HK_q ?HF_q ?_; (case KO_q => with_reducible assumption); (case FR_q => with_reducible assumption); (case NN_q => with_reducible assumption); (case DD_q => with_reducible assumption); (case HB_q => with_reducible assumption); (case GLK_q => with_reducible assumption); (case NE_q => with_reducible assumption); (case HLT_q => with_reducible assumption); (case HK_q => decide); (case HF_q => rfl); k_whole; intro x9 U9 v9 e9 ac9 tk8 ta9 h9 tk9 od9 ol9 G9 gl9 F9 N9 K9 S9 HB9 NE9 A9 D9; (try k_sweep)))
  k_with "F:call ref" => (k_here; (with_reducible show W _ _ _ (call (Value.ref 438) _) _); k_dflt (refine' W.rtM (one_right_c _ _ _ _ _ _ _ _ _ _ _ _ _ ?I_q ?H_q ?hw_q ?hac_q ?hda_q ?hlt_q ?D_q) ?GLK_q ?NE_q ?SUBS_q ?KO_q ?KB_q ?FR_q ?NN_q ?UU_q ?HK_q ?HF_q ?_; (case KO_q => with_reducible assumption); (case KB_q => with_reducible assumption); (case FR_q => with_reducible assumption); (case NN_q => with_reducible assumption); (case I_q => with_reducible assumption); (case H_q => with_reducible assumption); (case hw_q => with_reducible assumption); (case hac_q => with_reducible assumption); (case hda_q => with_reducible assumption); (case hlt_q => with_reducible assumption); (case D_q => with_reducible assumption); (case GLK_q => with_reducible assumption); (case NE_q => with_reducible assumption); (case SUBS_q => intro _ hp; repeat (first | with_reducible exact hp | with_reducible refine List.mem_cons_of_mem _ ?_)); (case UU_q => k_upd); (case HK_q => decide); (case HF_q => rfl); k_whole; intro h9 tk9 g9 od9 ol9 T9 F9 K9 N9 S9 D9; (have X9 := Ok.X K9); (have p9 := Ok.T K9); (have TT9 := KtsTurn.trans (by with_reducible assumption) T9); (try dsimp only at N9); (try k_sweep)))
  k_with "F:call ref" => (k_here; (with_reducible show W _ _ _ (call (Value.ref 443) _) _); k_dflt (refine' W.rtM (parts_c _ _ _ _ _ _ _ _ _ _ _ _ _ ?I_q ?H_q ?hs_q ?hb_q ?hlt_q ?D_q) ?GLK_q ?NE_q ?SUBS_q ?KO_q ?KB_q ?FR_q ?NN_q ?UU_q ?HK_q ?HF_q ?_; (case KO_q => with_reducible assumption); (case KB_q => with_reducible assumption); (case FR_q => with_reducible assumption); (case NN_q => with_reducible assumption); (case I_q => with_reducible assumption); (case H_q => with_reducible assumption); (case hs_q => with_reducible assumption); (case hb_q => with_reducible assumption); (case hlt_q => with_reducible assumption); (case D_q => with_reducible assumption); (case GLK_q => with_reducible assumption); (case NE_q => with_reducible assumption); (case SUBS_q => intro _ hp; repeat (first | with_reducible exact hp | with_reducible refine List.mem_cons_of_mem _ ?_)); (case UU_q => k_upd); (case HK_q => decide); (case HF_q => rfl); k_whole; intro h9 tk9 g9 od9 ol9 T9 F9 K9 N9 S9 D9; (have X9 := Ok.X K9); (have p9 := Ok.T K9); (have TT9 := KtsTurn.trans (by with_reducible assumption) T9); (try dsimp only at N9); (try k_sweep)))
  k_with "F:call ref" => (k_here; (with_reducible show W _ _ _ (call (Value.ref 405) _) _); k_dflt (refine' W.ro_tup (what_ok _ _ _ _ _ _ _ _ _ ?I_q ?H_q ?hw_q ?hb_q) ?KO_q ?FR_q ?NN_q ?ST_q ?_ ?exc_q ?HK_q; (case KO_q => with_reducible assumption); (case HK_q => decide); (case FR_q => with_reducible assumption); (case NN_q => with_reducible assumption); (case I_q => with_reducible assumption); (case H_q => with_reducible assumption); (case hw_q => with_reducible assumption); (case hb_q => with_reducible assumption); (case ST_q => first | exact stay_gl (by with_reducible assumption) (by with_reducible assumption) (by with_reducible assumption) (by with_reducible assumption) (by intro _ hp; repeat (first | with_reducible exact hp | with_reducible refine List.mem_cons_of_mem _ ?_)) | exact stay_of (by with_reducible assumption) (by with_reducible assumption) | exact fun _ _ h => h | exact fun _ _ h => h | exact noH_in _); (case exc_q => exact fun _ _ _ _ h => h.elim); k_whole; intro y9 o9 k9 xs9 h9 tk9 F9 S9 N9 c9 d9 q9; (try k_sweep)))
  k_with "F:call ref" => (k_here; (with_reducible show W _ _ _ (call (Value.ref 405) _) _); k_dflt (refine' W.ro_t (what_bad _ _ _ _ _ _ _ _ _ _ ?I_q ?H_q ?hw_q ?hb_q) ?KO_q ?FR_q ?ST_q ?_ ?exc_q ?HK_q; (case KO_q => with_reducible assumption); (case HK_q => decide); (case FR_q => with_reducible assumption); (case I_q => with_reducible assumption); (case H_q => with_reducible assumption); (case hw_q => with_reducible assumption); (case hb_q => with_reducible assumption); (case ST_q => first | exact stay_gl (by with_reducible assumption) (by with_reducible assumption) (by with_reducible assumption) (by with_reducible assumption) (by intro _ hp; repeat (first | with_reducible exact hp | with_reducible refine List.mem_cons_of_mem _ ?_)) | exact stay_of (by with_reducible assumption) (by with_reducible assumption) | exact fun _ _ h => h | exact fun _ _ h => h | exact noH_in _); (case exc_q => exact fun _ _ _ _ h => h.elim); k_whole; intro t9 h9 tk9 F9 S9; (try (have N9 := stay_news (by with_reducible assumption) S9)); (try k_sweep)))
  k_with "F:call ref" => (k_here; (with_reducible show W _ _ _ (call (Value.ref 344) _) _); k_dflt (refine' W.ro_tup (key_ok _ _ _ _ _ _ _ _ _ ?I_q ?H_q ?hw_q ?hb_q) ?KO_q ?FR_q ?NN_q ?ST_q ?_ ?exc_q ?HK_q; (case KO_q => with_reducible assumption); (case HK_q => decide); (case FR_q => with_reducible assumption); (case NN_q => with_reducible assumption); (case I_q => with_reducible assumption); (case H_q => with_reducible assumption); (case hw_q => with_reducible assumption); (case hb_q => with_reducible assumption); (case ST_q => first | exact stay_gl (by with_reducible assumption) (by with_reducible assumption) (by with_reducible assumption) (by with_reducible assumption) (by intro _ hp; repeat (first | with_reducible exact hp | with_reducible refine List.mem_cons_of_mem _ ?_)) | exact stay_of (by with_reducible assumption) (by with_reducible assumption) | exact fun _ _ h => h | exact fun _ _ h => h | exact noH_in _); (case exc_q => exact fun _ _ _ _ h => h.elim); k_whole; intro y9 o9 k9 xs9 h9 tk9 F9 S9 N9 c9 d9 q9; (try k_sweep)))
  k_with "F:call ref" => (k_here; (with_reducible show W _ _ _ (call (Value.ref 419) _) _); k_dflt (refine' W.rtG_v (told2_b _ _ _ _ _ _ _ _ _ _ _ _ _ _ _ _ _ _ ?I_q ?H_q ?hw_q ?I_q' ?H_q' ?hw_q' ?hE_q) ?GLK_q ?SUBS_q ?KO_q ?KB_q ?FR_q ?NN_q ?ST_q ?OF_q ?HK_q ?HF_q ?_; (case KO_q => with_reducible assumption); (case KB_q => with_reducible assumption); (case FR_q => with_reducible assumption); (case NN_q => with_reducible assumption); (case I_q => with_reducible assumption); (case H_q => with_reducible assumption); (case hw_q => with_reducible assumption); (case I_q' => with_reducible assumption); (case H_q' => with_reducible assumption); (case hw_q' => with_reducible assumption); (case hE_q => with_reducible assumption); (case GLK_q => with_reducible assumption); (case SUBS_q => intro _ hp; repeat (first | with_reducible exact hp | with_reducible refine List.mem_cons_of_mem _ ?_)); (case ST_q => with_reducible assumption); (case OF_q => with_reducible assumption); (case HK_q => decide); (case HF_q => rfl); k_whole; intro h9 tk9 g9 T9 F9 K9 N9 S9; (have X9 := Ok.X K9); (have p9 := Ok.T K9); (have TT9 := KtsTurn.trans (by with_reducible assumption) T9); (try k_sweep)))
  k_with "F:call ref" => (k_here; (with_reducible show W _ _ _ (call (Value.ref 419) _) _); k_dflt (refine' W.rtG_t (told2_i _ _ _ _ _ _ _ _ _ _ _ _ _ _ _ _ _ _ ?I_q ?H_q ?hw_q ?I_q' ?H_q' ?hw_q' ?hE_q) ?GLK_q ?SUBS_q ?KO_q ?KB_q ?FR_q ?NN_q ?ST_q ?OF_q ?HK_q ?HF_q ?_; (case KO_q => with_reducible assumption); (case KB_q => with_reducible assumption); (case FR_q => with_reducible assumption); (case NN_q => with_reducible assumption); (case I_q => with_reducible assumption); (case H_q => with_reducible assumption); (case hw_q => with_reducible assumption); (case I_q' => with_reducible assumption); (case H_q' => with_reducible assumption); (case hw_q' => with_reducible assumption); (case hE_q => with_reducible assumption); (case GLK_q => with_reducible assumption); (case SUBS_q => intro _ hp; repeat (first | with_reducible exact hp | with_reducible refine List.mem_cons_of_mem _ ?_)); (case ST_q => with_reducible assumption); (case OF_q => with_reducible assumption); (case HK_q => decide); (case HF_q => rfl); k_whole; intro t9 h9 tk9 g9 T9 F9 K9 N9 S9; (have X9 := Ok.X K9); (have p9 := Ok.T K9); (have TT9 := KtsTurn.trans (by with_reducible assumption) T9); (try k_sweep)))
  k_with "F:call ref" => (k_here; (with_reducible show W _ _ _ (call (Value.ref 419) _) _); k_dflt (refine' W.rtG_v (told3_b _ _ _ _ _ _ _ _ _ _ _ _ _ _ _ _ _ _ ?I_q ?H_q ?hw_q ?I_q' ?H_q' ?hw_q' ?hL_q) ?GLK_q ?SUBS_q ?KO_q ?KB_q ?FR_q ?NN_q ?ST_q ?OF_q ?HK_q ?HF_q ?_; (case KO_q => with_reducible assumption); (case KB_q => with_reducible assumption); (case FR_q => with_reducible assumption); (case NN_q => with_reducible assumption); (case I_q => with_reducible assumption); (case H_q => with_reducible assumption); (case hw_q => with_reducible assumption); (case I_q' => with_reducible assumption); (case H_q' => with_reducible assumption); (case hw_q' => with_reducible assumption); (case hL_q => with_reducible assumption); (case GLK_q => with_reducible assumption); (case SUBS_q => intro _ hp; repeat (first | with_reducible exact hp | with_reducible refine List.mem_cons_of_mem _ ?_)); (case ST_q => with_reducible assumption); (case OF_q => with_reducible assumption); (case HK_q => decide); (case HF_q => rfl); k_whole; intro h9 tk9 g9 T9 F9 K9 N9 S9; (have X9 := Ok.X K9); (have p9 := Ok.T K9); (have TT9 := KtsTurn.trans (by with_reducible assumption) T9); (try k_sweep)))
  k_with "F:call ref" => (k_here; (with_reducible show W _ _ _ (call (Value.ref 419) _) _); k_dflt (refine' W.rtG_t (told3_i _ _ _ _ _ _ _ _ _ _ _ _ _ _ _ _ _ _ ?I_q ?H_q ?hw_q ?I_q' ?H_q' ?hw_q' ?hL_q) ?GLK_q ?SUBS_q ?KO_q ?KB_q ?FR_q ?NN_q ?ST_q ?OF_q ?HK_q ?HF_q ?_; (case KO_q => with_reducible assumption); (case KB_q => with_reducible assumption); (case FR_q => with_reducible assumption); (case NN_q => with_reducible assumption); (case I_q => with_reducible assumption); (case H_q => with_reducible assumption); (case hw_q => with_reducible assumption); (case I_q' => with_reducible assumption); (case H_q' => with_reducible assumption); (case hw_q' => with_reducible assumption); (case hL_q => with_reducible assumption); (case GLK_q => with_reducible assumption); (case SUBS_q => intro _ hp; repeat (first | with_reducible exact hp | with_reducible refine List.mem_cons_of_mem _ ?_)); (case ST_q => with_reducible assumption); (case OF_q => with_reducible assumption); (case HK_q => decide); (case HF_q => rfl); k_whole; intro t9 h9 tk9 g9 T9 F9 K9 N9 S9; (have X9 := Ok.X K9); (have p9 := Ok.T K9); (have TT9 := KtsTurn.trans (by with_reducible assumption) T9); (try k_sweep)))
  k_with "F:call ref" => (k_here; (with_reducible show W _ _ _ (call (Value.ref 426) _) _); k_dflt (refine' W.ro_v (equal_b _ _ _ _ _ _ _ _ _ _ _ _ _ _ _ _ _ ?I_q ?H_q ?hw_q ?I_q' ?H_q' ?hw_q' ?hE_q) ?KO_q ?FR_q ?ST_q ?_ ?exc_q ?HK_q; (case KO_q => with_reducible assumption); (case HK_q => decide); (case FR_q => with_reducible assumption); (case I_q => with_reducible assumption); (case H_q => with_reducible assumption); (case hw_q => with_reducible assumption); (case I_q' => with_reducible assumption); (case H_q' => with_reducible assumption); (case hw_q' => with_reducible assumption); (case hE_q => with_reducible assumption); (case ST_q => first | exact stay_gl (by with_reducible assumption) (by with_reducible assumption) (by with_reducible assumption) (by with_reducible assumption) (by intro _ hp; repeat (first | with_reducible exact hp | with_reducible refine List.mem_cons_of_mem _ ?_)) | exact stay_of (by with_reducible assumption) (by with_reducible assumption) | exact fun _ _ h => h | exact fun _ _ h => h | exact noH_in _); (case exc_q => exact fun _ _ _ _ h => h.elim); k_whole; intro h9 tk9 F9 S9; (try (have N9 := stay_news (by with_reducible assumption) S9)); (try k_sweep)))
  k_with "F:call ref" => (k_here; (with_reducible show W _ _ _ (call (Value.ref 426) _) _); k_dflt (refine' W.ro_t (equal_i _ _ _ _ _ _ _ _ _ _ _ _ _ _ _ _ _ ?I_q ?H_q ?hw_q ?I_q' ?H_q' ?hw_q' ?hE_q) ?KO_q ?FR_q ?ST_q ?_ ?exc_q ?HK_q; (case KO_q => with_reducible assumption); (case HK_q => decide); (case FR_q => with_reducible assumption); (case I_q => with_reducible assumption); (case H_q => with_reducible assumption); (case hw_q => with_reducible assumption); (case I_q' => with_reducible assumption); (case H_q' => with_reducible assumption); (case hw_q' => with_reducible assumption); (case hE_q => with_reducible assumption); (case ST_q => first | exact stay_gl (by with_reducible assumption) (by with_reducible assumption) (by with_reducible assumption) (by with_reducible assumption) (by intro _ hp; repeat (first | with_reducible exact hp | with_reducible refine List.mem_cons_of_mem _ ?_)) | exact stay_of (by with_reducible assumption) (by with_reducible assumption) | exact fun _ _ h => h | exact fun _ _ h => h | exact noH_in _); (case exc_q => exact fun _ _ _ _ h => h.elim); k_whole; intro t9 h9 tk9 F9 S9; (try (have N9 := stay_news (by with_reducible assumption) S9)); (try k_sweep)))
  k_with "F:call ref" => (k_here; (with_reducible show W _ _ _ (call (Value.ref 431) _) _); k_dflt (refine' W.ro_v (less_b _ _ _ _ _ _ _ _ _ _ _ _ _ _ _ _ _ ?I_q ?H_q ?hw_q ?I_q' ?H_q' ?hw_q' ?hL_q) ?KO_q ?FR_q ?ST_q ?_ ?exc_q ?HK_q; (case KO_q => with_reducible assumption); (case HK_q => decide); (case FR_q => with_reducible assumption); (case I_q => with_reducible assumption); (case H_q => with_reducible assumption); (case hw_q => with_reducible assumption); (case I_q' => with_reducible assumption); (case H_q' => with_reducible assumption); (case hw_q' => with_reducible assumption); (case hL_q => with_reducible assumption); (case ST_q => first | exact stay_gl (by with_reducible assumption) (by with_reducible assumption) (by with_reducible assumption) (by with_reducible assumption) (by intro _ hp; repeat (first | with_reducible exact hp | with_reducible refine List.mem_cons_of_mem _ ?_)) | exact stay_of (by with_reducible assumption) (by with_reducible assumption) | exact fun _ _ h => h | exact fun _ _ h => h | exact noH_in _); (case exc_q => exact fun _ _ _ _ h => h.elim); k_whole; intro h9 tk9 F9 S9; (try (have N9 := stay_news (by with_reducible assumption) S9)); (try k_sweep)))
  k_with "F:call ref" => (k_here; (with_reducible show W _ _ _ (call (Value.ref 431) _) _); k_dflt (refine' W.ro_t (less_i _ _ _ _ _ _ _ _ _ _ _ _ _ _ _ _ _ ?I_q ?H_q ?hw_q ?I_q' ?H_q' ?hw_q' ?hL_q) ?KO_q ?FR_q ?ST_q ?_ ?exc_q ?HK_q; (case KO_q => with_reducible assumption); (case HK_q => decide); (case FR_q => with_reducible assumption); (case I_q => with_reducible assumption); (case H_q => with_reducible assumption); (case hw_q => with_reducible assumption); (case I_q' => with_reducible assumption); (case H_q' => with_reducible assumption); (case hw_q' => with_reducible assumption); (case hL_q => with_reducible assumption); (case ST_q => first | exact stay_gl (by with_reducible assumption) (by with_reducible assumption) (by with_reducible assumption) (by with_reducible assumption) (by intro _ hp; repeat (first | with_reducible exact hp | with_reducible refine List.mem_cons_of_mem _ ?_)) | exact stay_of (by with_reducible assumption) (by with_reducible assumption) | exact fun _ _ h => h | exact fun _ _ h => h | exact noH_in _); (case exc_q => exact fun _ _ _ _ h => h.elim); k_whole; intro t9 h9 tk9 F9 S9; (try (have N9 := stay_news (by with_reducible assumption) S9)); (try k_sweep)))
  k_with "F:call builtin:isinstance" => k_extra "r34"
  k_with "F:compareOp NotIn str ref" => (k_here; k_dflt (refine' notin_strs (ks := [Str.ofString "string", Str.ofString "array", Str.ofString "packed"]) (ts := [_, _, _]) ?r_q ?N_q ?m_q ?c_q ?_; (case N_q => with_reducible assumption); (case m_q => k_mem); (case r_q => exact .cons ⟨_, rfl⟩ (.cons ⟨_, rfl⟩ (.cons ⟨_, rfl⟩ .nil))); (case c_q => with_reducible assumption); k_whole))
  k_with "F:compareOp NotEq bytes bytes" => (k_here; k_dflt (refine' ne_b_eq ?e_q ?_; (case e_q => exact rfl); k_whole))
  k_with "F:getAttr ref" => k_dflt (refine' W.getGL ?KO_q ?FR_q ?II_q ?SS_q ?C1_q ?V1_q ?_; (case KO_q => with_reducible assumption); (case FR_q => with_reducible assumption); (case II_q => with_reducible assumption); (case SS_q => exact stay_gl (by with_reducible assumption) (by with_reducible assumption) (by with_reducible assumption) (by with_reducible assumption) (by intro _ hp; repeat (first | with_reducible exact hp | with_reducible refine List.mem_cons_of_mem _ ?_))); (case C1_q => (intro P9; exact cls_ok _ (_, _) (by repeat (first | exact List.Mem.head _ | apply List.Mem.tail)))); (case V1_q => rfl); k_whole)
  have X' := K.X
  have T' := K.T
  have TT : KtsTurn (frsOf C.outer) base base := KtsTurn.refl
  have S0 : noH.StaysIn base := noH_in _
  with_reducible refine W.cut (LwC C base dk l cl sc bs) ?_ ?_
  · k_steps
    rename Fr _ _ _ _ => FF
    rename News _ _ _ _ => NN
    rename DkOk _ _ _ _ _ => DD
    refine' Due.mk ⟨rfl, .mk _ _ _ _ _ _ _ _ _ _ _ _ _ _ _ _ ?gK ?gN ?gA ?gB _ _ _ ⟨TT, FF, K, S0, fun p hp => NN p (.tail _ hp), DD⟩⟩
    case gK => with_reducible assumption
    case gN => with_reducible assumption
    case gB => with_reducible assumption
    case gA => exact ThA.keep (by with_reducible assumption) (by with_reducible assumption)
  rintro h4 tk4 ⟨x, U, v, e, ac, tk, ta, x', U', v', e', ac', tk', ta', G4, gl4, GK4, NE4, ⟨I, H, hw, hb, hac, hda⟩, ⟨I', H', hw', hb', hac', hda'⟩, g4, od4, ol4, T4, F4, K4, S4, N4, D4⟩
  have X4 := K4.X
  have P4 := K4.T
  clear GK3 NE3 HB F3 N3 D3 TT S0 K X' T'
  with_reducible refine W.cut (LwD C base dk l cl sc bs x x' gl4) ?_ ?_
  · k_steps
    rename Fr _ _ _ _ => FF
    rename News _ _ _ _ => NN
    rename DkOk _ _ _ _ _ => DD
    refine Due.mk ⟨rfl, .mk _ _ _ ⟨?_, FF, ?_, ?_, NN, DD⟩⟩
    all_goals with_reducible assumption
  clear T4 F4 K4 X4 P4 S4 N4 D4
  rintro h4 tk4 ⟨g4, od4, ol4, T4, F4, K4, S4, N4, D4⟩
  have X4 := K4.X
  have P4 := K4.T
  with_reducible refine W.cut2 (LwE C base dk l cl sc bs x x' gl4) ?_ ?_
  · have hkw : (tEq (keyU U) (keyU U') != tEq (whatU U) (whatU U')) = false := by rw [key_what]; exact bne_self_eq_false _
    cases hb1 : badU U ac with
    | none =>
      cases hb2 : badU U' ac' with
      | none =>
        k_steps
        rename Fr _ _ _ _ => FF
        rename News _ _ _ _ => NN
        have N2 := news_st (p := (dk, od4)) (q := (l, ol4)) (gl := gl4) NN (by k_mem) (by k_mem) (by intro _ hp; repeat (first | with_reducible exact hp | with_reducible refine List.mem_cons_of_mem _ ?_))
        refine Due.mk ⟨rfl, .mk _ _ _ _ ⟨?_, FF, ?_, ?_, N2, D4⟩⟩
        all_goals with_reducible assumption
      | some bs2 =>
        k_steps
        rename Fr _ _ _ _ => FF
        rename News _ _ _ _ => NN
        have N2 := news_st (p := (dk, od4)) (q := (l, ol4)) (gl := gl4) NN (by k_mem) (by k_mem) (by intro _ hp; repeat (first | with_reducible exact hp | with_reducible refine List.mem_cons_of_mem _ ?_))
        refine Due.mk ⟨rfl, .mk _ _ _ _ ⟨?_, FF, ?_, ?_, N2, D4⟩⟩
        all_goals with_reducible assumption
    | some bs1 =>
      cases hb2 : badU U' ac' with
      | none =>
        k_steps
        rename Fr _ _ _ _ => FF
        rename News _ _ _ _ => NN
        have N2 := news_st (p := (dk, od4)) (q := (l, ol4)) (gl := gl4) NN (by k_mem) (by k_mem) (by intro _ hp; repeat (first | with_reducible exact hp | with_reducible refine List.mem_cons_of_mem _ ?_))
        refine Due.mk ⟨rfl, .mk _ _ _ _ ⟨?_, FF, ?_, ?_, N2, D4⟩⟩
        all_goals with_reducible assumption
      | some bs2 =>
        k_steps
        rename Fr _ _ _ _ => FF
        rename News _ _ _ _ => NN
        have N2 := news_st (p := (dk, od4)) (q := (l, ol4)) (gl := gl4) NN (by k_mem) (by k_mem) (by intro _ hp; repeat (first | with_reducible exact hp | with_reducible refine List.mem_cons_of_mem _ ?_))
        refine Due.mk ⟨rfl, .mk _ _ _ _ ⟨?_, FF, ?_, ?_, N2, D4⟩⟩
        all_goals with_reducible assumption
  clear T4 F4 K4 X4 P4 S4 N4 D4
  rintro h4 tk4 ⟨sm, g4, od4, ol4, T4, F4, K4, S4, N4, D4⟩
  have X4 := K4.X
  have P4 := K4.T
  with_reducible refine W.cut (LwE C base dk l cl sc bs x x' gl4) ?_ ?_
  · rcases eq_ans U U' ac ac' with ⟨b, hE⟩ | hE
    · have hbb : (b != b) = false := bne_self_eq_false b
      rcases less_ans U U' ac ac' with ⟨b2, hL⟩ | ⟨bs2, hL⟩
      · have hbb2 : (b2 != b2) = false := bne_self_eq_false b2
        k_steps
        rename Fr _ _ _ _ => FF
        rename News _ _ _ _ => NN
        have N2 := news_st (p := (dk, od4)) (q := (l, ol4)) (gl := gl4) NN (by k_mem) (by k_mem) (by intro _ hp; repeat (first | with_reducible exact hp | with_reducible refine List.mem_cons_of_mem _ ?_))
        refine Due.mk ⟨rfl, .mk _ _ _ _ ⟨?_, FF, ?_, ?_, N2, D4⟩⟩
        all_goals with_reducible assumption
      · k_steps
        rename Fr _ _ _ _ => FF
        rename News _ _ _ _ => NN
        have N2 := news_st (p := (dk, od4)) (q := (l, ol4)) (gl := gl4) NN (by k_mem) (by k_mem) (by intro _ hp; repeat (first | with_reducible exact hp | with_reducible refine List.mem_cons_of_mem _ ?_))
        refine Due.mk ⟨rfl, .mk _ _ _ _ ⟨?_, FF, ?_, ?_, N2, D4⟩⟩
        all_goals with_reducible assumption
    · rcases less_ans U U' ac ac' with ⟨b2, hL⟩ | ⟨bs2, hL⟩
      · have hbb2 : (b2 != b2) = false := bne_self_eq_false b2
        k_steps
        rename Fr _ _ _ _ => FF
        rename News _ _ _ _ => NN
        have N2 := news_st (p := (dk, od4)) (q := (l, ol4)) (gl := gl4) NN (by k_mem) (by k_mem) (by intro _ hp; repeat (first | with_reducible exact hp | with_reducible refine List.mem_cons_of_mem _ ?_))
        refine Due.mk ⟨rfl, .mk _ _ _ _ ⟨?_, FF, ?_, ?_, N2, D4⟩⟩
        all_goals with_reducible assumption
      · k_steps
        rename Fr _ _ _ _ => FF
        rename News _ _ _ _ => NN
        have N2 := news_st (p := (dk, od4)) (q := (l, ol4)) (gl := gl4) NN (by k_mem) (by k_mem) (by intro _ hp; repeat (first | with_reducible exact hp | with_reducible refine List.mem_cons_of_mem _ ?_))
        refine Due.mk ⟨rfl, .mk _ _ _ _ ⟨?_, FF, ?_, ?_, N2, D4⟩⟩
        all_goals with_reducible assumption
  clear T4 F4 K4 X4 P4 S4 N4 D4
  rintro h4 tk4 ⟨sm, g4, od4, ol4, T4, F4, K4, S4, N4, D4⟩
  have X4 := K4.X
  have P4 := K4.T
  have q3 := sh3 U
  cases hs : (shares U && !isDict U) with
  | false =>
    rw [hs] at q3
    k_steps
    rename Fr _ _ _ _ => FF
    exact fin _ _ _ _ FF (by with_reducible assumption)
  | true =>
    rw [hs] at q3
    k_steps
    rename Fr _ _ _ _ => FF
    exact fin _ _ _ _ FF (by with_reducible assumption)
theorem law_walk : hd.Walk := by
  delta hd.Walk WalkC
  k_fill
  intro w s₀ s₁ mg mb G Y fa o pm cd doc dV kV ho hdd hcd hD hmg hg args vals as hpre hlay hrd hwl hlo
  have KX := kIn_of Y
  have X := (Ground.X G).1
  have V := (Ground.X G).2
  refine Ground.open G ?_
  intro T B D TE TW
  clear hmg
  wrow_args hpre hlay hrd hwl hlo
  rename Heap.IsList s₁.heap _ _ => IL
  rename IntsAre _ _ => II
  have K0 : Below callerA s₁.heap [] s₁.heap := below_caller _
  have S0 : s₁.heap.StaysIn s₁.heap := fun _ _ h => h
  have he := Dflts.none hD rfl
  subst he
  refine enter_callC ?_
  refine call_fullC (by decide) ho hdd (Top.nolimit T) hcd (BindsTo.of_eq rfl) (locs rfl) fun h₁ FL => ?_
  w_binds FL
  rename ¬ _ < _ => hcn
  rename List Int => ns
  have hns : ns.length ≤ 63 := by omega
  have N0 := (News.nil : News _ _ _ []).at FL
  clear hcn hD hdd ho G B D TE TW V X Y
  rename Heap.IsList s₁.heap _ _ => IL
  refine law_inC K0 KX T FL N0 (fun fl _ h => by cases fl <;> exact h) (fun h' tk' g' m' FF SS => ?_) ?_
  · exact GoodW.toG (goodW_bool (⟨FF.ns, fun b o e => FF.keep b o (SS b o e), Nat.le_refl _⟩ : Fr s₁.heap s₁.heap.objs.size _ _) (by assumption) (raisesW_false (by wrow_none_raised)) (by wrow_post))
  intro C Q' K KB FC NC OF fin
  exact law_body Q' C IL II hns K KB FC OF fin
end Mine
end
namespace Mine
theorem hd.tw10012880186880212623 : True := trivial
theorem hd.tw10030107230732127627 : True := trivial
theorem hd.tw10111801491309104144 : True := trivial
theorem hd.tw1011335219593555734 : True := trivial
theorem hd.tw10114223749520855954 : True := trivial
theorem hd.tw1013155817946168525 : True := trivial
theorem hd.tw10170382586518783626 : True := trivial
theorem hd.tw10216474801634566288 : True := trivial
theorem hd.tw10246146449241189800 : True := trivial
theorem hd.tw10258999931320997221 : True := trivial
theorem hd.tw10424393626065333798 : True := trivial
theorem hd.tw10458740792067480800 : True := trivial
theorem hd.tw10522781889535271158 : True := trivial
theorem hd.tw10525666975642140466 : True := trivial
theorem hd.tw10583446816852156582 : True := trivial
theorem hd.tw10614716105012338702 : True := trivial
theorem hd.tw10678649693572172417 : True := trivial
theorem hd.tw10743916045514856203 : True := trivial
theorem hd.tw10784824025267889561 : True := trivial
theorem hd.tw10792051664901133789 : True := trivial
theorem hd.tw10879034167726328663 : True := trivial
theorem hd.tw10949625832625181284 : True := trivial
theorem hd.tw1097998534492414930 : True := trivial
theorem hd.tw11032806212648032379 : True := trivial
theorem hd.tw11054480109507316185 : True := trivial
theorem hd.tw11117797201346649052 : True := trivial
theorem hd.tw11136197038861592535 : True := trivial
theorem hd.tw11151547217846952531 : True := trivial
theorem hd.tw11213053971927718326 : True := trivial
theorem hd.tw11232374478483605306 : True := trivial
theorem hd.tw11251137523995926341 : True := trivial
theorem hd.tw1129884963351977449 : True := trivial
theorem hd.tw11319892378374348655 : True := trivial
theorem hd.tw11389486352061984695 : True := trivial
theorem hd.tw11402939732021071671 : True := trivial
theorem hd.tw11465210709893060100 : True := trivial
theorem hd.tw11513968764499736323 : True := trivial
theorem hd.tw11631869004601391166 : True := trivial
theorem hd.tw11631947586910100387 : True := trivial
theorem hd.tw11632984921778587759 : True := trivial
theorem hd.tw11660266114150955751 : True := trivial
theorem hd.tw11709330566771433103 : True := trivial
theorem hd.tw11893437276241958245 : True := trivial
theorem hd.tw11917015161858427179 : True := trivial
theorem hd.tw11953376511379268794 : True := trivial
theorem hd.tw1197925565968671727 : True := trivial
theorem hd.tw12023040214023829324 : True := trivial
theorem hd.tw12050417470231563642 : True := trivial
theorem hd.tw12070051907170230399 : True := trivial
theorem hd.tw12092154237167983948 : True := trivial
theorem hd.tw12113243949977362033 : True := trivial
theorem hd.tw1222794163293265305 : True := trivial
theorem hd.tw12399718760709695909 : True := trivial
theorem hd.tw1241404454085649124 : True := trivial
theorem hd.tw12423421440243004742 : True := trivial
theorem hd.tw12487502673411948298 : True := trivial
theorem hd.tw12588582704262371052 : True := trivial
theorem hd.tw12602439190401603521 : True := trivial
theorem hd.tw12614811148066621264 : True := trivial
theorem hd.tw12629568148972539762 : True := trivial
theorem hd.tw12631932088317031055 : True := trivial
theorem hd.tw12647368939536790636 : True := trivial
theorem hd.tw12693339787485243540 : True := trivial
theorem hd.tw12818020643990900900 : True := trivial
theorem hd.tw12901994302517312135 : True := trivial
theorem hd.tw12936449754285732098 : True := trivial
theorem hd.tw12949589719889679912 : True := trivial
theorem hd.tw13047593935725612058 : True := trivial
theorem hd.tw13181700845877081190 : True := trivial
theorem hd.tw13217225542625558698 : True := trivial
theorem hd.tw13225837485096350037 : True := trivial
theorem hd.tw13267510147771200024 : True := trivial
theorem hd.tw13277076834127875243 : True := trivial
theorem hd.tw13285133528070534704 : True := trivial
theorem hd.tw13289513938125300765 : True := trivial
theorem hd.tw13330244855972007585 : True := trivial
theorem hd.tw13368278939475635651 : True := trivial
theorem hd.tw13431754692932380062 : True := trivial
theorem hd.tw13483081372092288885 : True := trivial
theorem hd.tw13518370688599389936 : True := trivial
theorem hd.tw13609717118414637909 : True := trivial
theorem hd.tw13770079208771991547 : True := trivial
theorem hd.tw13783031573616600631 : True := trivial
theorem hd.tw13828106393651249627 : True := trivial
theorem hd.tw1382963296337349011 : True := trivial
theorem hd.tw13855881374063213867 : True := trivial
theorem hd.tw13855946660403688772 : True := trivial
theorem hd.tw13866372431405929976 : True := trivial
theorem hd.tw13893168526513508166 : True := trivial
theorem hd.tw13903934854276604550 : True := trivial
theorem hd.tw13919464512627920130 : True := trivial
theorem hd.tw140273363834453309 : True := trivial
theorem hd.tw1409312971732116557 : True := trivial
theorem hd.tw1413172679324656950 : True := trivial
theorem hd.tw14168552714766633299 : True := trivial
theorem hd.tw14176624398918483544 : True := trivial
theorem hd.tw14246236162039180721 : True := trivial
theorem hd.tw14294001040229213422 : True := trivial
theorem hd.tw14294344414604881677 : True := trivial
theorem hd.tw14353793391729792155 : True := trivial
theorem hd.tw1439246655266547700 : True := trivial
theorem hd.tw14400467628812073631 : True := trivial
theorem hd.tw14457593812595234344 : True := trivial
theorem hd.tw14478148883734587675 : True := trivial
theorem hd.tw1452849714261714991 : True := trivial
theorem hd.tw14553816603554493358 : True := trivial
theorem hd.tw14560493823538711346 : True := trivial
theorem hd.tw14598272352848978880 : True := trivial
theorem hd.tw14705683404202351889 : True := trivial
theorem hd.tw14727110085682223627 : True := trivial
theorem hd.tw14754404106442844205 : True := trivial
theorem hd.tw14892549342360969540 : True := trivial
theorem hd.tw14906377314874228009 : True := trivial
theorem hd.tw14955159897011116063 : True := trivial
theorem hd.tw14960593345356199642 : True := trivial
theorem hd.tw14979626087600564940 : True := trivial
theorem hd.tw14980023328507725902 : True := trivial
theorem hd.tw15042006015671813226 : True := trivial
theorem hd.tw15043168886218598503 : True := trivial
theorem hd.tw1506431575118746342 : True := trivial
theorem hd.tw15083628210047938546 : True := trivial
theorem hd.tw15089522573102190283 : True := trivial
theorem hd.tw15103106377680225435 : True := trivial
theorem hd.tw15166520500009309586 : True := trivial
theorem hd.tw15220180469806662145 : True := trivial
theorem hd.tw15279998641719260112 : True := trivial
theorem hd.tw15344866539931968096 : True := trivial
theorem hd.tw15367242080415987702 : True := trivial
theorem hd.tw15368132723985388332 : True := trivial
theorem hd.tw15411387601460861337 : True := trivial
theorem hd.tw15508949281206285077 : True := trivial
theorem hd.tw15527848837575444561 : True := trivial
theorem hd.tw15529170255622000948 : True := trivial
theorem hd.tw15595854959937240912 : True := trivial
theorem hd.tw15615420239508185596 : True := trivial
theorem hd.tw15615537253650120727 : True := trivial
theorem hd.tw15616948245753086127 : True := trivial
theorem hd.tw15642763164714097627 : True := trivial
theorem hd.tw15643275761693703936 : True := trivial
theorem hd.tw15673258824015622330 : True := trivial
theorem hd.tw15683763237869141255 : True := trivial
theorem hd.tw15758074444808864293 : True := trivial
theorem hd.tw15759970867653108152 : True := trivial
theorem hd.tw15790720579355451973 : True := trivial
theorem hd.tw15833661619300960221 : True := trivial
theorem hd.tw15837987909243819085 : True := trivial
theorem hd.tw1589133516308662214 : True := trivial
theorem hd.tw15910714762333108613 : True := trivial
theorem hd.tw16007149819294483003 : True := trivial
theorem hd.tw16011055738799735888 : True := trivial
theorem hd.tw16029623286316568529 : True := trivial
theorem hd.tw16037735763661986305 : True := trivial
theorem hd.tw16056359734778111409 : True := trivial
theorem hd.tw16064382804478563927 : True := trivial
theorem hd.tw16091413853298234908 : True := trivial
theorem hd.tw16154546982801380032 : True := trivial
theorem hd.tw16157073509204512506 : True := trivial
theorem hd.tw16171809288044610508 : True := trivial
theorem hd.tw16194383521188589630 : True := trivial
theorem hd.tw16211521421427940678 : True := trivial
theorem hd.tw162610821266807592 : True := trivial
theorem hd.tw16299908979028503884 : True := trivial
theorem hd.tw16302227732802510677 : True := trivial
theorem hd.tw16345102440705955213 : True := trivial
theorem hd.tw16412773359747925120 : True := trivial
theorem hd.tw16473244170626142550 : True := trivial
theorem hd.tw16477043939570097188 : True := trivial
theorem hd.tw16634568088961857937 : True := trivial
theorem hd.tw16649331688326792143 : True := trivial
theorem hd.tw16713699803418581334 : True := trivial
theorem hd.tw16772102934027710169 : True := trivial
theorem hd.tw16794629799341752650 : True := trivial
theorem hd.tw16828841361933241965 : True := trivial
theorem hd.tw16853341256802265648 : True := trivial
theorem hd.tw16904818350239718627 : True := trivial
theorem hd.tw16945582573551092051 : True := trivial
theorem hd.tw16970440968685349367 : True := trivial
theorem hd.tw17001982702790524580 : True := trivial
theorem hd.tw17047115858639842297 : True := trivial
theorem hd.tw17054507655720011243 : True := trivial
theorem hd.tw17062030032774818151 : True := trivial
theorem hd.tw17087091549796120035 : True := trivial
theorem hd.tw17177331786930743035 : True := trivial
theorem hd.tw17183224562656869120 : True := trivial
theorem hd.tw17213754286329925777 : True := trivial
theorem hd.tw17234923516513369237 : True := trivial
theorem hd.tw17330945745186091897 : True := trivial
theorem hd.tw17387473266821786944 : True := trivial
theorem hd.tw17420951861521290806 : True := trivial
theorem hd.tw17447410573909459338 : True := trivial
theorem hd.tw17542962492245011380 : True := trivial
theorem hd.tw17562767543260142214 : True := trivial
theorem hd.tw17574625026820762457 : True := trivial
theorem hd.tw17588044629489971554 : True := trivial
theorem hd.tw17599816209265215132 : True := trivial
theorem hd.tw17606422857730326317 : True := trivial
theorem hd.tw17672654358674132775 : True := trivial
theorem hd.tw17673860158736603733 : True := trivial
theorem hd.tw17681399029576232318 : True := trivial
theorem hd.tw17711083657039698284 : True := trivial
theorem hd.tw17714235663813219645 : True := trivial
theorem hd.tw17733724502801981806 : True := trivial
theorem hd.tw17739348878880393726 : True := trivial
theorem hd.tw17893044597097874663 : True := trivial
theorem hd.tw17901334829092211166 : True := trivial
theorem hd.tw17903497710992402801 : True := trivial
theorem hd.tw17948085552500728524 : True := trivial
theorem hd.tw17950676927832955104 : True := trivial
theorem hd.tw17964147341152060549 : True := trivial
theorem hd.tw17975533764899295144 : True := trivial
theorem hd.tw17986969038992634876 : True := trivial
theorem hd.tw18093812233618175256 : True := trivial
theorem hd.tw18103342009636024947 : True := trivial
theorem hd.tw18166333605607142505 : True := trivial
theorem hd.tw18185175575083235020 : True := trivial
theorem hd.tw18205930039965385902 : True := trivial
theorem hd.tw18219297243305740317 : True := trivial
theorem hd.tw18241275227582772068 : True := trivial
theorem hd.tw18245042118932799458 : True := trivial
theorem hd.tw18260020939358253101 : True := trivial
theorem hd.tw18264374347568628810 : True := trivial
theorem hd.tw18291419657060728153 : True := trivial
theorem hd.tw18293732401869909652 : True := trivial
theorem hd.tw18293851220164018083 : True := trivial
theorem hd.tw18300207936620678264 : True := trivial
theorem hd.tw18343703819029505601 : True := trivial
theorem hd.tw1834807355797522015 : True := trivial
theorem hd.tw1836080755315867724 : True := trivial
theorem hd.tw1847840615245081061 : True := trivial
theorem hd.tw1865391376527767206 : True := trivial
theorem hd.tw1882180444382439491 : True := trivial
theorem hd.tw189712035060473897 : True := trivial
theorem hd.tw190519026028168232 : True := trivial
theorem hd.tw1997569388931296116 : True := trivial
theorem hd.tw2068664650715991707 : True := trivial
theorem hd.tw2101469004524951375 : True := trivial
theorem hd.tw212345690472687942 : True := trivial
theorem hd.tw2167537188350426706 : True := trivial
theorem hd.tw2195365466389143174 : True := trivial
theorem hd.tw2216850387143573719 : True := trivial
theorem hd.tw2252305205657439004 : True := trivial
theorem hd.tw22551697357593593 : True := trivial
theorem hd.tw2274498078352570744 : True := trivial
theorem hd.tw2323474266016966308 : True := trivial
theorem hd.tw2327210489368252092 : True := trivial
theorem hd.tw2329189449893159454 : True := trivial
theorem hd.tw2386827423013361158 : True := trivial
theorem hd.tw2442259710966052079 : True := trivial
theorem hd.tw2502866573005156581 : True := trivial
theorem hd.tw2504008979358404966 : True := trivial
theorem hd.tw2608437505485318709 : True := trivial
theorem hd.tw2617190388676272812 : True := trivial
theorem hd.tw2701402951725559080 : True := trivial
theorem hd.tw2708950531961675432 : True := trivial
theorem hd.tw2845679848157327705 : True := trivial
theorem hd.tw2867327485932766208 : True := trivial
theorem hd.tw2887051446865420828 : True := trivial
theorem hd.tw2930668341846507884 : True := trivial
theorem hd.tw2999033326186475339 : True := trivial
theorem hd.tw3008623586974134963 : True := trivial
theorem hd.tw3039998526598829958 : True := trivial
theorem hd.tw307737655149646647 : True := trivial
theorem hd.tw3085183777334472315 : True := trivial
theorem hd.tw3109861748172591687 : True := trivial
theorem hd.tw3153749782144576430 : True := trivial
theorem hd.tw3182187488490625086 : True := trivial
theorem hd.tw3229955645248102723 : True := trivial
theorem hd.tw3381375190539634487 : True := trivial
theorem hd.tw3429492842335990350 : True := trivial
theorem hd.tw3442329435671937591 : True := trivial
theorem hd.tw3443669649825651883 : True := trivial
theorem hd.tw3451239065008710300 : True := trivial
theorem hd.tw3452082135128663414 : True := trivial
theorem hd.tw3480954088277226078 : True := trivial
theorem hd.tw3493717111155160527 : True := trivial
theorem hd.tw3513179230801503054 : True := trivial
theorem hd.tw3646829019195819677 : True := trivial
theorem hd.tw3673089383077640791 : True := trivial
theorem hd.tw3694398316872202419 : True := trivial
theorem hd.tw3795277891434052102 : True := trivial
theorem hd.tw3818666328621016214 : True := trivial
theorem hd.tw3828038474966422129 : True := trivial
theorem hd.tw3915529967508079626 : True := trivial
theorem hd.tw3919010098100093602 : True := trivial
theorem hd.tw395138700845864316 : True := trivial
theorem hd.tw3953601041324332601 : True := trivial
theorem hd.tw4014540891139286612 : True := trivial
theorem hd.tw4015398097383911347 : True := trivial
theorem hd.tw402640490398009360 : True := trivial
theorem hd.tw4065347644161347641 : True := trivial
theorem hd.tw4086058157674990017 : True := trivial
theorem hd.tw4115565904173853331 : True := trivial
theorem hd.tw415706843491771442 : True := trivial
theorem hd.tw4172343393113369950 : True := trivial
theorem hd.tw4225703048834024713 : True := trivial
theorem hd.tw4272726840584523970 : True := trivial
theorem hd.tw4297731678662094536 : True := trivial
theorem hd.tw432457690288141553 : True := trivial
theorem hd.tw4326342887683818015 : True := trivial
theorem hd.tw4377701919642642989 : True := trivial
theorem hd.tw4402725079659364252 : True := trivial
theorem hd.tw4478166936697009375 : True := trivial
theorem hd.tw4478964076566166474 : True := trivial
theorem hd.tw4494801613693538912 : True := trivial
theorem hd.tw4595758421323213155 : True := trivial
theorem hd.tw461538923250603899 : True := trivial
theorem hd.tw4702841417184801058 : True := trivial
theorem hd.tw4706079058837389440 : True := trivial
theorem hd.tw4851647983119433812 : True := trivial
theorem hd.tw4886640224528722128 : True := trivial
theorem hd.tw4993660671451451078 : True := trivial
theorem hd.tw5036846961687405229 : True := trivial
theorem hd.tw5054737718236178183 : True := trivial
theorem hd.tw5074702030605083210 : True := trivial
theorem hd.tw5130813555471234732 : True := trivial
theorem hd.tw5148922909946612681 : True := trivial
theorem hd.tw5174551420813472067 : True := trivial
theorem hd.tw5190246844813560578 : True := trivial
theorem hd.tw519851828213033955 : True := trivial
theorem hd.tw5245234834050458271 : True := trivial
theorem hd.tw5278057926702712004 : True := trivial
theorem hd.tw5282504435634884242 : True := trivial
theorem hd.tw5292301768408028288 : True := trivial
theorem hd.tw5343241284826551009 : True := trivial
theorem hd.tw5363564295841288755 : True := trivial
theorem hd.tw5366084841770067474 : True := trivial
theorem hd.tw541196102884509978 : True := trivial
theorem hd.tw5416991563250132298 : True := trivial
theorem hd.tw5480042469492414594 : True := trivial
theorem hd.tw5562173858411828344 : True := trivial
theorem hd.tw5567388512258382067 : True := trivial
theorem hd.tw5608270528595127837 : True := trivial
theorem hd.tw5629675986466331604 : True := trivial
theorem hd.tw5635641802508607975 : True := trivial
theorem hd.tw5657824000916062451 : True := trivial
theorem hd.tw5902613922787404954 : True := trivial
theorem hd.tw5961118342813265553 : True := trivial
theorem hd.tw5987830557187376847 : True := trivial
theorem hd.tw6019021122589006684 : True := trivial
theorem hd.tw6038821095411175016 : True := trivial
theorem hd.tw6123773746684550334 : True := trivial
theorem hd.tw6184460063843016694 : True := trivial
theorem hd.tw6196171512934965099 : True := trivial
theorem hd.tw6264232113106981867 : True := trivial
theorem hd.tw6293948785866598258 : True := trivial
theorem hd.tw6394381022753523788 : True := trivial
theorem hd.tw6407587892757256292 : True := trivial
theorem hd.tw6411954120941647267 : True := trivial
theorem hd.tw6412100933407834118 : True := trivial
theorem hd.tw6442067068224118133 : True := trivial
theorem hd.tw6528754448969337418 : True := trivial
theorem hd.tw6545403380812914513 : True := trivial
theorem hd.tw6555240042291301478 : True := trivial
theorem hd.tw6759412095888398321 : True := trivial
theorem hd.tw6767318904944593275 : True := trivial
theorem hd.tw6785817131721698500 : True := trivial
theorem hd.tw6820862383352777685 : True := trivial
theorem hd.tw6830512106363814048 : True := trivial
theorem hd.tw6838551448383532254 : True := trivial
theorem hd.tw6868836192036940282 : True := trivial
theorem hd.tw6924109203229866365 : True := trivial
theorem hd.tw6982297934935202809 : True := trivial
theorem hd.tw6990203504111849199 : True := trivial
theorem hd.tw6998783941825042932 : True := trivial
theorem hd.tw7023726343779634624 : True := trivial
theorem hd.tw7028611270464810887 : True := trivial
theorem hd.tw7068711184596962023 : True := trivial
theorem hd.tw7085514621470718492 : True := trivial
theorem hd.tw7120233287515763914 : True := trivial
theorem hd.tw7184745663730752293 : True := trivial
theorem hd.tw7270182246851987180 : True := trivial
theorem hd.tw7289634563603522867 : True := trivial
theorem hd.tw7296583596125217682 : True := trivial
theorem hd.tw7494724483528729301 : True := trivial
theorem hd.tw7512474625130614241 : True := trivial
theorem hd.tw7519716089354478335 : True := trivial
theorem hd.tw7540655947842036084 : True := trivial
theorem hd.tw7553592314356048186 : True := trivial
theorem hd.tw758273949599710562 : True := trivial
theorem hd.tw7628703163842673926 : True := trivial
theorem hd.tw7721951785955056133 : True := trivial
theorem hd.tw7746578258024575070 : True := trivial
theorem hd.tw7752767780024739350 : True := trivial
theorem hd.tw7754304195085646258 : True := trivial
theorem hd.tw7891253978561527248 : True := trivial
theorem hd.tw7914949630228597729 : True := trivial
theorem hd.tw7951154912783665155 : True := trivial
theorem hd.tw8004679753235328684 : True := trivial
theorem hd.tw8025032847418708242 : True := trivial
theorem hd.tw8047900516022102942 : True := trivial
theorem hd.tw8075568018651887793 : True := trivial
theorem hd.tw8117029840178788049 : True := trivial
theorem hd.tw8134915037123179040 : True := trivial
theorem hd.tw8172801818164162472 : True := trivial
theorem hd.tw8226494294326810461 : True := trivial
theorem hd.tw8228950375871286339 : True := trivial
theorem hd.tw8268277133935991078 : True := trivial
theorem hd.tw8343274005884668182 : True := trivial
theorem hd.tw8356816923877370021 : True := trivial
theorem hd.tw8516288146210602744 : True := trivial
theorem hd.tw8545014587354053640 : True := trivial
theorem hd.tw8609351116199087170 : True := trivial
theorem hd.tw8624962836598465499 : True := trivial
theorem hd.tw8671608845466749128 : True := trivial
theorem hd.tw8684328023851190084 : True := trivial
theorem hd.tw8716120427605611371 : True := trivial
theorem hd.tw8727321023445011275 : True := trivial
theorem hd.tw8735263284916673568 : True := trivial
theorem hd.tw8770205317985620760 : True := trivial
theorem hd.tw8879563391730754479 : True := trivial
theorem hd.tw8934143017859847078 : True := trivial
theorem hd.tw8960069828448710407 : True := trivial
theorem hd.tw8977307856219701671 : True := trivial
theorem hd.tw9170477692918782315 : True := trivial
theorem hd.tw922143313871775805 : True := trivial
theorem hd.tw9244321171653502345 : True := trivial
theorem hd.tw9345929723534960622 : True := trivial
theorem hd.tw9386895884608548742 : True := trivial
theorem hd.tw9421340871869096474 : True := trivial
theorem hd.tw9430268157657104642 : True := trivial
theorem hd.tw9557236495431379559 : True := trivial
theorem hd.tw9566141503761928105 : True := trivial
theorem hd.tw9641152695372364146 : True := trivial
theorem hd.tw9657781627882305391 : True := trivial
theorem hd.tw9673543361469618366 : True := trivial
theorem hd.tw9702936160620672325 : True := trivial
theorem hd.tw9719896912496429819 : True := trivial
theorem hd.tw9741134391959003819 : True := trivial
theorem hd.tw9748044761591592747 : True := trivial
theorem hd.tw9763420282994701918 : True := trivial
theorem hd.tw9783614193127449063 : True := trivial
theorem hd.tw991500863812532542 : True := trivial
theorem hd.tw991583007596301734 : True := trivial
theorem hd.tw9960721518486171458 : True := trivial
set_option Elab.async true in
theorem hd : PySem.Challenge.rw_on0261_01.Holds := by
  w_on
  o_law
  o_head (kHook hd.heap_39 hd.at hd.at_eq)
  (case hw => w_witness2)
  exact law_walk
end Mine
set_option maxRecDepth 100000 in
set_option maxHeartbeats 8000000 in
theorem PySem.Challenge.cw_on0261_01_holds : PySem.Challenge.rw_on0261_01.Holds :=
  Mine.hd
