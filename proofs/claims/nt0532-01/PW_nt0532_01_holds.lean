import PyProof.Rows.All
import Wide.All
import OpenK.AllK
import Wide.FinOn
import PySem.Challenge.RW_nt0532_01
open PySem PySem.W PySem.Calls PyProof.Rows
set_option Elab.async false
namespace Mine
/-! A logic beside wpAny: over the contexts on whose stack no decoder stands.
  bytearray.append and bytearray.__init__ ask the stack for such a holder; Around does not bound them. -/
noncomputable def decodes (c : Code) : Bool := match c with
  | .builtin id _ => Builtin.Bytes.decodersThatHold.contains id
  | _ => false
def FreeB (Γ : Ctx) : Prop := ∀ x ∈ Γ.below, decodes x.1 = false
def FreeC (Γ : Ctx) : Prop := decodes Γ.code = false ∧ FreeB Γ

structure wpP {α : Type} (M : Model) (A : Around) (t : Sem α) (Q : α → Shared → Prop) (E : Value → Shared → Prop) (s : Shared) : Prop where
  run : ∀ Γ p, Γ.In A → FreeC Γ → Sem.wp M Γ t (fun a _ s' => Q a s') (fun e _ s' => E e s') p s
structure codeP (M : Model) (A : Around) (c : Code) (R : Result → Shared → Prop) (s : Shared) : Prop where
  run : ∀ Γ p, Γ.code = c → Γ.Below A → FreeB Γ → wpCode M Γ R p s

section
variable {α β : Type} {M : Model} {A : Around} {E : Value → Shared → Prop} {s : Shared}
theorem P_any {t : Sem α} {Q : α → Shared → Prop} (h : wpAny M A t Q E s) : wpP M A t Q E s := ⟨fun Γ p i _ => h Γ p i⟩
theorem P_codeAny {c : Code} {R : Result → Shared → Prop} (h : codeAny M A c R s) : codeP M A c R s := ⟨fun Γ p e b _ => h Γ p e b⟩
theorem P_pure {a : α} {Q : α → Shared → Prop} (h : Q a s) : wpP M A (pure a) Q E s := ⟨fun _ _ _ _ => h⟩
theorem P_mono {t : Sem α} {Q Q' : α → Shared → Prop} {E' : Value → Shared → Prop} (h : wpP M A t Q E s) (hQ : ∀ a s, Q a s → Q' a s) (hE : ∀ e s, E e s → E' e s) : wpP M A t Q' E' s :=
  ⟨fun Γ p i f => Sem.wp_mono M Γ t (fun a _ s => hQ a s) (fun e _ s => hE e s) p s (h.run Γ p i f)⟩
theorem P_bind {m : Sem α} {k : α → Sem β} {Q : β → Shared → Prop} (h : wpP M A m (fun a s' => wpP M A (k a) Q E s') E s) : wpP M A (m >>= k) Q E s := ⟨fun Γ p i f => by
  rw [Sem.wp_bind']
  exact Sem.wp_mono M Γ m (fun _ p' _ h' => h'.run Γ p' i f) (fun _ _ _ h' => h') p s (h.run Γ p i f)⟩
theorem P_onRaise {m : Sem α} {k : Value → Sem Unit} {Q : α → Shared → Prop} (h : wpP M A m Q (fun e s' => wpP M A (k e) (fun _ s'' => E e s'') E s') s) : wpP M A (m.onRaise k) Q E s := ⟨fun Γ p i f => by
  rw [Sem.wp_onRaise]
  exact Sem.wp_mono M Γ m (fun _ _ _ h' => h') (fun _ p' _ h' => h'.run Γ p' i f) p s (h.run Γ p i f)⟩
theorem P_attempt {m : Sem α} {Q : Except Value α → Shared → Prop} (h : wpP M A m (fun a => Q (.ok a)) (fun e => Q (.error e)) s) : wpP M A m.attempt Q E s := ⟨fun Γ p i f => by
  rw [Sem.wp_attempt]; exact h.run Γ p i f⟩
theorem P_holding {vs : List Value} {m : Sem α} {Q : α → Shared → Prop} (h : wpP M A m Q E s) : wpP M A (holding vs m) Q E s := ⟨fun Γ p i f => by
  rw [Sem.wp_holding]; exact h.run Γ p i f⟩
theorem P_operate {vs : List Value} {m : Sem Value} {Q : Value → Shared → Prop} (h : wpP M A m Q E s) : wpP M A (operate vs m) Q E s := ⟨fun Γ p i f => by
  rw [Sem.wp_operate]; exact h.run Γ p i f⟩
theorem P_standAt {pos : Pos} {Q : Unit → Shared → Prop} (h : Q () s) : wpP M A (standAt pos) Q E s := ⟨fun _ _ _ _ => h⟩
theorem P_point {Q : Unit → Shared → Prop} (h : Q () s) : wpP M A point Q E s := ⟨fun _ _ _ _ => h⟩

theorem P_codeMono {c : Code} {R R' : Result → Shared → Prop} (h : codeP M A c R s) (hR : ∀ r s, R r s → R' r s) : codeP M A c R' s :=
  ⟨fun Γ p e b f => wpCode_mono hR (h.run Γ p e b f)⟩
theorem P_run {c : Code} {h : Option Value} {Q : Flow → Shared → Prop}
    (hc : codeP M (A.mark h) c (fun r s' => match r with | .ok f => Q f s' | .error e => E e s') s) (hnb : h ≠ some byPass) : wpP M A (run c h) Q E s :=
  ⟨fun Γ p i f => by rw [Sem.wp_run]; exact hc.run _ p rfl (i.enter c h p hnb) (List.forall_mem_cons.mpr f)⟩
theorem P_runValue {c : Code} {Q : Value → Shared → Prop}
    (hc : codeP M A c (fun r s' => match r with | .ok (.ret v) => Q v s' | .ok _ => False | .error e => E e s') s) : wpP M A (runValue c) Q E s :=
  ⟨fun Γ p i f => by rw [Sem.wp_runValue]; exact hc.run _ p rfl (i.enter c none p (by intro x; cases x)) (List.forall_mem_cons.mpr f)⟩
theorem P_call {f : Value} {pos : List Value} {kw : List (Str × Value)} {Q : Value → Shared → Prop}
    (hc : codeP M A (.call f ⟨pos, kw⟩) (fun r s' => match r with | .ok (.ret v) => Q v s' | .ok _ => False | .error e => E e s') s) : wpP M A (call f pos kw) Q E s := P_runValue hc
theorem P_tree {c : Code} {R : Result → Shared → Prop} (hd : decodes c = false)
    (h : wpP M (A.under c) (M.den c) (fun fin s' => match fin with | .done f => R (.ok f) s' | .again c' => c'.quiet = true ∧ codeP M A c' R s') (fun e s' => R (.error e) s') s) : codeP M A c R s := ⟨fun Γ p hc b f => by
  rw [wpCode_iff_wp, hc]
  refine Sem.wp_mono M Γ _ (fun fin p' s' h' => ?_) (fun _ _ _ h' => h') p s (h.run Γ p (hc ▸ b.in) ⟨hc ▸ hd, f⟩)
  cases fin with
  | done f => exact h'
  | again c' => exact ⟨h'.1, h'.2.run (Γ.goto c') p' rfl (b.goto c') f⟩⟩
/-- What a bytearray asks of the stack before it grows: nobody holds it. -/
theorem P_stack {Q : List (Code × Pos) → Shared → Prop}
    (h : ∀ st : List (Code × Pos), (∀ g, A.guards = some g → guardsOf st = g) → (∀ x ∈ st, decodes x.1 = false) → Q st s) : wpP M A stack Q E s := ⟨fun Γ p i f => by
  show Q ((Γ.code, p) :: Γ.below) s
  exact h _ (fun g hg => by rw [guardsOf_cons]; exact i.2.2.2.1 g hg) (List.forall_mem_cons.mpr f)⟩
end

/-! The head over this logic. -/
noncomputable def callerC : Ctx := ⟨.builtin "claim.caller" {}, none, none, [], none⟩
theorem callerC_free : FreeC callerC := ⟨by decide +kernel, by intro x hx; cases hx⟩

theorem ends_gensP {prog : Program} {w : World} {t : Sem Fin} {s : Shared} {R : Result → Shared → Prop} (hreg : s.asleep) (hG : leftWithCleanup s.gens = false)
    (h : wpP (model prog w) callerA t (fun fin s' => ∃ f, fin = .done f ∧ (R (.ok f) s' ∧ s'.gens = #[])) (fun e s' => R (.error e) s' ∧ s'.gens = #[]) { s with gens := #[] }) :
    ∃ n r s', schedN (denote table) prog w n (.single s ⟨t, .builtin "claim.caller" {}, default, []⟩) = .halted (outcomeOf r) { s' with gens := s.gens } ∧ s'.heap.life = s.heap.life ∧ R r s' := by
  have ho : Sem.wp (model prog w) callerC t (Sem.finPost (model prog w) callerC fun r s' => (R r s' ∧ s'.gens = #[]) ∧ leftWithCleanup s'.gens = false)
      (fun e _ s' => (R (.error e) s' ∧ s'.gens = #[]) ∧ leftWithCleanup s'.gens = false) default { s with gens := #[] } := by
    refine Sem.wp_mono _ _ t (fun fin _ s' x => ?_) (fun e _ s' x => ⟨x, by rw [x.2]; simp [leftWithCleanup]⟩) _ _ (h.run callerC default caller_in callerC_free)
    obtain ⟨f, rfl, a, b⟩ := x
    exact ⟨⟨a, b⟩, by rw [b]; simp [leftWithCleanup]⟩
  obtain ⟨n, r, s₁, hn, hR, hg⟩ := (wp_iff_halts (M := model prog w) (R := fun r s' => R r s' ∧ s'.gens = #[]) ..).mp ho
  obtain ⟨s₂, hr, hf, hc⟩ := runNI_real _ _ _ hn (outcomeOf_ends r)
  obtain rfl : s₂ = s₁ := Shared.eq_of_forget_eq hf hg
  exact ⟨n, r, s₂, sched_gens (s := { s with gens := #[] }) hG hr (outcomeOf_ends r) hg rfl hc hreg, runN_life (s := { s with gens := #[] }) _ _ _ hr, hR⟩

theorem callFromP {c : ClaimW} {tree : List Value → Sem Fin} {w : World} {s : Shared} {free : Addr → Prop} {gens : Prop} {kept : Heap → Prop} (hz : s.asleep)
    (hspec : ∀ args, c.pre args = true → WData.layableAll args = true → ∀ ord : List DictEntry → List DictEntry, (∀ l, (ord l).Perm l) →
      ∃ vs s₁, layAllW c.records (classAt s.heap) w.params ord args s = some (vs, s₁) ∧ s₁.gens = #[] ∧
        wpP (model c.prog w) callerA (tree vs) (fun fin s' => ∃ f, fin = .done f ∧ (c.Ends s args vs s₁ (.ok f) s' ∧ s'.os = s.os ∧ s'.gens = #[] ∧ kept s'.heap))
          (fun e s' => c.Ends s args vs s₁ (.error e) s' ∧ s'.os = s.os ∧ s'.gens = #[] ∧ kept s'.heap) s₁) :
    c.CallFrom (fun vs => ⟨tree vs, .builtin "claim.caller" {}, default, []⟩) w free gens kept s := by
  intro args hpre hlay ord hord
  obtain ⟨vs, s₁, Z⟩ := hspec args hpre hlay ord hord
  have hal := layAllW_rest _ _ _ Z.1
  have he : ({ s₁ with gens := #[] } : Shared) = s₁ := by rw [← Z.2.1]
  obtain ⟨k, r, s', Y⟩ := ends_gensP (prog := c.prog) (w := w) (t := tree vs) (s := s₁) (R := fun r s' => c.Ends s args vs s₁ r s' ∧ s'.os = s.os ∧ kept s'.heap)
    (Shared.asleep_of_life hal.2.2.2 hz) (by rw [Z.2.1]; simp [leftWithCleanup])
    (he.symm ▸ P_mono Z.2.2 (fun _ _ ⟨f, e, a, b, d, k⟩ => ⟨f, e, ⟨a, b, k⟩, d⟩) fun _ _ ⟨a, b, d, k⟩ => ⟨⟨a, b, k⟩, d⟩)
  refine ⟨vs, s₁, Z.1, k, _, _, Y.1, ?_, (fun _ i x hx => by rw [← hx]; exact congrArg (·[i]?) hal.1), Y.2.2.2.2, congrArg Life.seen (Y.2.1.trans hal.2.2.2), Shared.rest_eq Y.2.2.2.1⟩
  rcases Y.2.2.1 with ⟨v, D⟩ | ⟨e, ob, cls, D⟩
  · exact .inl ⟨v, congrArg outcomeOf D.1, D.2.1, D.2.2.1, D.2.2.2.1, fun b o y _ => D.2.2.2.2.1 b o y, D.2.2.2.2.2⟩
  · exact .inr ⟨e, ob, cls, congrArg outcomeOf D.1, D.2.1, D.2.2.1, D.2.2.2.1, D.2.2.2.2.1, fun b o y _ => D.2.2.2.2.2 b o y⟩

abbrev WalkP (q : Program) (loose : List Str) (XP : (Str → Option Value) → Heap → Prop) (YP : World → Heap → Prop) (r : RowW) (d : DefRec) (kwd : List (Str × Expr)) : Prop :=
  ∀ (w : World) (s₀ s₁ : Shared) (mg mb : Str → Option Value), Ground q loose r.records XP w s₀ mg mb s₁.heap → YP w s₁.heap → ∀ (a : Addr) (o : Obj) (pm cd doc dV kV : Value), s₁.heap.get? a = some o →
    o.data = .func { docDef d.name d.params d.body d.scope pm cd doc with defaults := dV, kwdefaults := kV } → s₁.heap.CodeRec cd d.name → Dflts mg s₁.heap d.params kwd dV kV → mg d.name = some (.ref a) → s₁.gens = #[] →
    ∀ (args : List WData) (vals : List Value) (as : List Addr), r.claim.pre args = true → WData.layableAll args = true → ReadsAllW r.records (classAt s₀.heap) s₁.heap vals args as → WellAll w.params s₁.heap vals args → (∀ a ∈ as, (a == sysModules) = false) →
      wpP (model r.prog w) callerA (PySem.call (.ref a) vals) (fun v s' => GoodWG r.claim (classAt s₀.heap) (ExcName.means s₀.heap) args s₁ (.ok (.ret v)) s' ∧ s'.gens = #[]) (fun _ _ => False) s₁

/-- The library's head of the same last name, with the call owed over free stacks alone: «o_head» finds this one first inside this namespace. -/
theorem PySem.W.holds_open {r : OpenRow} {q : Program} {loose : List Str} {Xt : Shared → Bool} {XP : (Str → Option Value) → Heap → Prop} {α : Type} {Yf : Shared → α} {Ya : World → α} {YP : World → Heap → Prop} {d : DefRec} {kwd : List (Str × Expr)} {N : Nat}
    (left : LeftO r.prog q loose Xt Yf Ya N) (hY : ∀ w s, Yf s = Ya w → YP w s.heap) (hYk : ∀ w h h', YP w h → (∀ b o, h.get? b = some o → h'.get? b = some o) → YP w h')
    (hX : ∀ s, Xt s = true → XP (s.heap.nsMap mainGlobals) s.heap) (hXk : ∀ mg h h', XP mg h → (∀ b o, h.get? b = some o → h'.get? b = some o) → XP mg h')
    (hdef : defOf q r.name = some (d, kwd)) (hp : r.prog.theDef r.name = some (d.params, d.body, d.scope)) (hk : kwWritten? d.params.kwonlyargs d.params.kw_defaults = some kwd) (hRf : ∀ s, Xt s = true → RecFacts r.records s.heap) (hwr : (!r.writes || r.records.isEmpty) = true)
    (k1 : r.wellSaid = true) (ok : (chainsOk q && opensWell r.prog && (frees r.toRowW && r.within.isEmpty)) = true) (hb : r.prog.bare) (hw : r.toRowW.promised)
    (call : WalkP q loose XP YP r.toRowW d kwd) : r.Holds := by
  refine ⟨k1, hw, ?_⟩
  have q1 := Bool.and_eq_true_iff.mp ok
  have q2 := Bool.and_eq_true_iff.mp q1.1
  have q3 := Bool.and_eq_true_iff.mp q1.2
  have q4 := frees_parts q3.1
  refine ⟨⟨hb, q2.2, by show r.toRowW.makers.map _ = []; rw [q4.2.2.2.2]; rfl⟩, hw.witness, fun w => ⟨(left.behind hX q2.1 w).1, fun s' hs' => ?_⟩⟩
  obtain ⟨s₀, V0⟩ := (left.behind (XP := fun mg h => XP mg h ∧ RecFacts r.records h) (fun s hs => ⟨hX s hs, hRf s hs⟩) q2.1 w).2 s' hs'
  obtain ⟨s, U0⟩ := V0.2.2
  have G00 := U0.2.2.2.2.1
  have G0 : Ground q loose [] XP w s (s.heap.nsMap mainGlobals) (s.heap.nsMap builtinsNs) s.heap := ⟨G00.T, G00.B, G00.D, G00.TE, G00.TD, G00.W, G00.X.1, G00.cls, G00.has, G00.apart, G00.once, G00.K⟩
  have RF := G00.X.2
  refine ⟨s₀, V0.1, V0.2.1, s, U0.1, fun n hn => ?_, RF.1, RF.2.1, ?_⟩
  · obtain rfl : n = r.name := by split at hn <;> simp_all
    exact pinned_of_view U0.2.2.2.1 G0 hdef hp hk
  have hgens : s.gens = #[] := Array.eq_empty_of_size_eq_zero (beq_iff_eq.mp U0.2.2.1)
  have G : Ground q loose r.records XP w s _ _ s.heap := RF.ground G0
  refine callFromP (c := r.toRowW.claim) U0.2.1 fun args hpre hlay ord hord => ?_
  obtain ⟨⟨vs, s₁⟩, hlaid⟩ := Option.isSome_iff_exists.mp (layAllW_isSome (P := w.params) (ord := ord) G.has args r.args s (pre_splitW hpre).1)
  have keeps := layAllW_keeps _ _ _ hlaid
  have hal := layAllW_rest _ _ _ hlaid
  obtain ⟨as, R0⟩ := reads_layAllW hord _ _ _ hlaid hlay s₁.heap (fun _ _ e => e)
  have L : Laid r.records w s s₁ args vs as := ⟨⟨ord, hord, hlaid⟩, R0.1, R0.2.1, R0.2.2, keeps, hal.1.trans hgens, hal.2.2.1⟩
  have G₁ := G.keeps hXk keeps
  obtain ⟨a, o, pm, cd, doc, dV, kV, W0⟩ := G₁.fn hdef
  have hc := call w s s₁ _ _ G₁ (hYk _ _ _ (hY w s U0.2.2.2.2.2) keeps) a o pm cd doc dV kV W0.2.1 W0.2.2.1 W0.2.2.2.1 W0.2.2.2.2 (defOf_name hdef ▸ W0.1) L.gens args vs as hpre hlay L.reads L.well (L.low G.low)
  have hi := ident_freeW q4.2.1 q4.2.2.1 q4.2.2.2.1
  have hwi : r.toRowW.claim.within = [] := List.isEmpty_iff.mp q3.2
  refine ⟨vs, s₁, hlaid, L.gens, P_bind (P_any (wpAny_nsGet G₁.T.g ?_))⟩
  show wpP _ _ (match (Heap.nsMap s.heap mainGlobals) r.name with | some f => _ | none => _) _ _ _
  rw [W0.1]
  refine P_bind (P_mono hc (fun v s' g => P_pure ⟨_, rfl, ?_⟩) fun e s' g => g.elim)
  have z := g.1.laid (c := r.toRowW.claim) q4.1 hwi hi L
  exact ⟨z.1, z.2.1, g.2, fun q => ⟨namesKept_of U0.1 U0.2.2.2.1 _ keeps g.1.2.1.old, noTable hwr q⟩⟩
section
set_option maxRecDepth 100000
set_option maxHeartbeats 8000000
namespace hd
noncomputable abbrev pr : Program := (OpenLaw.row PySem.Challenge.rw_nt0532_01).toRowW.prog
@[reducible] noncomputable def de (P : Params) (n : Str) (t : Nat) (v : Value) : DictEntry := DictEntry.mk (PyData.keyHash P n) (Value.str n t) v
noncomputable def nthS : List Stmt → Nat → Stmt
  | [], _ => default
  | s :: _, 0 => s
  | _ :: l, n + 1 => nthS l n
noncomputable def inS : Stmt → List Stmt
  | .ClassDef _ _ _ b .. => b
  | _ => []
noncomputable def at_ : List Nat → Stmt
  | [i] => nthS (behindTheImports pr) i
  | [i, j] => nthS (inS (nthS (behindTheImports pr) i)) j
  | _ => default
/-- What a def of the text leaves: its name, parameters, body and scope are the text's own. -/
@[reducible] noncomputable def fd {st : Stmt} {n : Str} {ps : Arguments} {b : List Stmt} {dl : List Expr} {rt : Option Expr} {tp : List TypeParam} {sc : Scope} {ts : Option Scope} {bd : Str} {po : Pos} (_ : st = Stmt.FunctionDef n ps b dl rt tp sc ts bd po)
  (q : Str) (g : Addr) (cl : List (Str × Addr)) (df kd doc pm : Value) (an : Option Addr) (cd ct : Value) (bu : Addr) : FuncData := ⟨n, q, ps, .stmts b, sc, g, cl, df, kd, doc, pm, an, cd, ct, bu⟩
@[reducible] noncomputable def nd (P : Params) (o : Params → Obj) (l r : BT) : BT := .node (o P) l r
@[reducible] noncomputable def lf (P : Params) (o : Params → Obj) : BT := .node (o P) .nil .nil
@[reducible] noncomputable def n0 : BT := .nil
@[reducible] noncomputable def o_43 : Params → Obj := (fun _ => (Obj.mk (Value.type "tuple") none (Data.seq #[] 0) #[]))
@[reducible] noncomputable def o_44 : Params → Obj := (fun _ => (Obj.mk Value.none none (Data.fields #[]) #[]))
@[reducible] noncomputable def o_45 : Params → Obj := (fun _ => (Obj.mk (Value.type "code") none (Data.fields #[(Value.str "<module>" (nat_lit 182)), (Value.str "<module>" (nat_lit 183)), (Value.str "/claim/cut.py" (nat_lit 184)), (Value.int 1 (nat_lit 0)), (Value.int 0 (nat_lit 0)), (Value.int 0 (nat_lit 0)), (Value.int 0 (nat_lit 0)), (Value.int 0 (nat_lit 0)), (Value.ref 11), (Value.bool false), (Value.int 181 (nat_lit 0)), (Value.ref 12), Value.none, Value.none, Value.none, Value.none, (Value.int 185 (nat_lit 0)), (Value.int 1 (nat_lit 0)), (Value.str "/claim/cut.py" (nat_lit 186))]) #[]))
@[reducible] noncomputable def o_46 : Params → Obj := (fun _ => (Obj.mk (Value.type "frame") none Data.plain #[(Option.some (Value.ref 13)), (Option.some (Value.ref 3)), (Option.some (Value.ref 3)), none, (Option.some (Value.str "__main__" (nat_lit 164))), none, (Option.some (Value.ref 0))]))
@[reducible] noncomputable def o_49 : Params → Obj := (fun P => (Obj.mk Value.none none (Data.dict #[(de P "type.__subclasses__.Exception.0" (nat_lit 242) (Value.int 39 (nat_lit 0))), (de P "type.__subclasses__.Exception.n" (nat_lit 243) (Value.int 1 (nat_lit 0)))] 2) #[]))
@[reducible] noncomputable def o_50 : Params → Obj := (fun P => (Obj.mk (Value.type "dict") none (Data.dict #[(de P "__name__" (nat_lit 165) (Value.str "postcore.base" (nat_lit 194))), (de P "__doc__" (nat_lit 166) Value.none), (de P "__package__" (nat_lit 167) Value.none), (de P "__loader__" (nat_lit 168) (Value.builtin "__main__.__loader__#opaque")), (de P "__spec__" (nat_lit 169) Value.none), (de P "__annotations__" (nat_lit 170) (Value.ref 6)), (de P "__builtins__" (nat_lit 171) (Value.ref 4)), (de P "__file__" (nat_lit 173) (Value.str "/claim/cut.py" (nat_lit 172))), (de P "__cached__" (nat_lit 174) Value.none), (de P "_wall" (nat_lit 193) (Value.ref 21)), (de P "GRAIN" (nat_lit 197) (Value.int 1000000 (nat_lit 196))), (de P "LEAST_INT" (nat_lit 202) (Value.int (-2147483648) (nat_lit 201))), (de P "MOST_INT" (nat_lit 208) (Value.int 2147483647 (nat_lit 207))), (de P "WHITE" (nat_lit 210) (Value.bytes #[0, 9, 10, 12, 13, 32] (nat_lit 209))), (de P "DELIMITERS" (nat_lit 212) (Value.bytes #[40, 41, 60, 62, 91, 93, 123, 125, 47, 37] (nat_lit 211))), (de P "LINE_FEED" (nat_lit 214) (Value.int 10 (nat_lit 213))), (de P "CARRIAGE_RETURN" (nat_lit 216) (Value.int 13 (nat_lit 215))), (de P "PostError" (nat_lit 245) (Value.ref 39))] 18) #[]))
@[reducible] noncomputable def o_51 : Params → Obj := (fun _ => (Obj.mk Value.none none (Data.fields #[(Value.int 1 (nat_lit 0)), (Value.int 0 (nat_lit 0)), (Value.ref 20), (Value.int 12 (nat_lit 0)), (Value.int 0 (nat_lit 0)), (Value.ref 27)]) #[]))
@[reducible] noncomputable def o_54 : Params → Obj := (fun _ => (Obj.mk (Value.type "tuple") none (Data.seq #[(Value.str "k" (nat_lit 190))] 0) #[]))
@[reducible] noncomputable def o_56 : Params → Obj := (fun _ => (Obj.mk Value.none none (Data.func (fd (st := at_ [0]) rfl "_wall" 0 [] Value.none Value.none Value.none Value.none none Value.none Value.none 0)) #[]))
@[reducible] noncomputable def o_57 : Params → Obj := (fun _ => (Obj.mk (Value.type "code") none (Data.fields #[(Value.str "_wall" (nat_lit 187)), (Value.str "_wall" (nat_lit 188)), (Value.str "/claim/cut.py" (nat_lit 189)), (Value.int 1 (nat_lit 0)), (Value.int 1 (nat_lit 0)), (Value.int 0 (nat_lit 0)), (Value.int 0 (nat_lit 0)), (Value.int 3 (nat_lit 0)), (Value.ref 15), (Value.bool true), (Value.int 181 (nat_lit 0)), (Value.ref 16), Value.none, (Value.ref 17), (Value.ref 18), (Value.ref 19), (Value.int 191 (nat_lit 0)), (Value.int 1 (nat_lit 0)), (Value.str "/claim/cut.py" (nat_lit 192))]) #[]))
@[reducible] noncomputable def o_58 : Params → Obj := (fun _ => (Obj.mk (Value.type "function") none (Data.func (fd (st := at_ [0]) rfl "_wall" 3 [] Value.none Value.none Value.none (Value.str "__main__" (nat_lit 164)) none (Value.ref 20) Value.none 0)) #[]))
@[reducible] noncomputable def o_59 : Params → Obj := (fun _ => (Obj.mk (Value.type "tuple") none (Data.seq #[(Value.type "Exception")] 0) #[]))
@[reducible] noncomputable def o_60 : Params → Obj := (fun _ => (Obj.mk (Value.type "builtin_function_or_method") none (Data.fields #[(Value.builtin "type.__prepare__"), (Value.type "type")]) #[]))
@[reducible] noncomputable def o_61 : Params → Obj := (fun P => (Obj.mk (Value.type "dict") none (Data.dict #[(de P "__module__" (nat_lit 224) (Value.str "postcore.base" (nat_lit 194))), (de P "__qualname__" (nat_lit 226) (Value.str "PostError" (nat_lit 225))), (de P "__firstlineno__" (nat_lit 228) (Value.int 12 (nat_lit 227))), (de P "__init__" (nat_lit 236) (Value.ref 36)), (de P "__static_attributes__" (nat_lit 238) (Value.ref 37))] 5) #[]))
@[reducible] noncomputable def o_63 : Params → Obj := (fun _ => (Obj.mk Value.none none (Data.fields #[(Value.int 14 (nat_lit 0)), (Value.int 4 (nat_lit 0)), (Value.ref 35)]) #[]))
@[reducible] noncomputable def o_64 : Params → Obj := (fun _ => (Obj.mk (Value.type "code") none (Data.fields #[(Value.str "PostError" (nat_lit 219)), (Value.str "PostError" (nat_lit 220)), (Value.str "/claim/cut.py" (nat_lit 221)), (Value.int 12 (nat_lit 0)), (Value.int 0 (nat_lit 0)), (Value.int 0 (nat_lit 0)), (Value.int 0 (nat_lit 0)), (Value.int 0 (nat_lit 0)), (Value.ref 25), (Value.bool false), (Value.int 181 (nat_lit 0)), (Value.ref 26), Value.none, Value.none, Value.none, Value.none, (Value.int 222 (nat_lit 0)), (Value.int 12 (nat_lit 0)), (Value.str "/claim/cut.py" (nat_lit 223))]) #[]))
@[reducible] noncomputable def o_65 : Params → Obj := (fun _ => (Obj.mk (Value.type "frame") none Data.plain #[(Option.some (Value.ref 27)), (Option.some (Value.ref 3)), (Option.some (Value.ref 24)), none, (Option.some (Value.str "postcore.base" (nat_lit 194))), none, (Option.some (Value.ref 0))]))
@[reducible] noncomputable def o_66 : Params → Obj := (fun _ => (Obj.mk (Value.type "tuple") none (Data.seq #[Value.none] 0) #[]))
@[reducible] noncomputable def o_69 : Params → Obj := (fun _ => (Obj.mk (Value.type "tuple") none (Data.seq #[(Value.str "self" (nat_lit 232)), (Value.str "told" (nat_lit 233))] 0) #[]))
@[reducible] noncomputable def o_71 : Params → Obj := (fun _ => (Obj.mk Value.none none (Data.func (fd (st := at_ [9, 0]) rfl "PostError.__init__" 0 [] Value.none Value.none Value.none Value.none none Value.none Value.none 0)) #[]))
@[reducible] noncomputable def o_72 : Params → Obj := (fun _ => (Obj.mk (Value.type "code") none (Data.fields #[(Value.str "__init__" (nat_lit 229)), (Value.str "PostError.__init__" (nat_lit 230)), (Value.str "/claim/cut.py" (nat_lit 231)), (Value.int 14 (nat_lit 0)), (Value.int 2 (nat_lit 0)), (Value.int 0 (nat_lit 0)), (Value.int 0 (nat_lit 0)), (Value.int 3 (nat_lit 0)), (Value.ref 30), (Value.bool true), (Value.int 181 (nat_lit 0)), (Value.ref 31), Value.none, (Value.ref 32), (Value.ref 33), (Value.ref 34), (Value.int 234 (nat_lit 0)), (Value.int 14 (nat_lit 0)), (Value.str "/claim/cut.py" (nat_lit 235))]) #[]))
@[reducible] noncomputable def o_73 : Params → Obj := (fun _ => (Obj.mk (Value.type "function") none (Data.func (fd (st := at_ [9, 0]) rfl "PostError.__init__" 3 [] (Value.ref 29) Value.none Value.none (Value.str "postcore.base" (nat_lit 194)) none (Value.ref 35) Value.none 0)) #[]))
@[reducible] noncomputable def o_74 : Params → Obj := (fun _ => (Obj.mk (Value.type "tuple") none (Data.seq #[(Value.str "told" (nat_lit 237))] 0) #[]))
@[reducible] noncomputable def o_75 : Params → Obj := (fun P => (Obj.mk (Value.type "dict") none (Data.dict #[(de P "__module__" (nat_lit 224) (Value.str "postcore.base" (nat_lit 194))), (de P "__firstlineno__" (nat_lit 228) (Value.int 12 (nat_lit 227))), (de P "__init__" (nat_lit 236) (Value.ref 36)), (de P "__static_attributes__" (nat_lit 238) (Value.ref 37)), (de P "__weakref__" (nat_lit 240) (Value.ref 40)), (de P "__doc__" (nat_lit 241) Value.none)] 3) #[]))
@[reducible] noncomputable def o_76 : Params → Obj := (fun _ => (Obj.mk (Value.type "type") none (Data.cls (ClassData.mk "PostError" [(Value.type "Exception")] [(Value.ref 39), (Value.type "Exception"), (Value.type "BaseException"), (Value.type "object")] 38 "PostError" true [] [] false none false)) #[(Option.some (Value.ref 22)), none, (Option.some (Value.str "PostError" (nat_lit 217))), (Option.some (Value.str "PostError" (nat_lit 225))), (Option.some (Value.builtin "Exception.__new__")), (Option.some (Value.bool true))]))
@[reducible] noncomputable def o_77 : Params → Obj := (fun _ => (Obj.mk (Value.type "getset_descriptor") none (Data.fields #[(Value.str "__weakref__" (nat_lit 239)), (Value.ref 39), (Value.builtin "ExceptionGroup.__weakref__"), Value.none]) #[]))
@[reducible] noncomputable def o_78 : Params → Obj := (fun _ => (Obj.mk (Value.type "super") none (Data.fields #[(Value.ref 39), (Value.ref 39), (Value.ref 39)]) #[]))
@[reducible] noncomputable def o_79 : Params → Obj := (fun _ => (Obj.mk (Value.type "builtin_function_or_method") none (Data.fields #[(Value.builtin "object.__init_subclass__"), (Value.ref 39)]) #[]))
@[reducible] noncomputable def o_80 : Params → Obj := (fun P => (Obj.mk (Value.type "dict") none (Data.dict #[(de P "__name__" (nat_lit 165) (Value.str "postcore.numbers" (nat_lit 304))), (de P "__doc__" (nat_lit 166) Value.none), (de P "__package__" (nat_lit 167) Value.none), (de P "__loader__" (nat_lit 168) (Value.builtin "__main__.__loader__#opaque")), (de P "__spec__" (nat_lit 169) Value.none), (de P "__annotations__" (nat_lit 170) (Value.ref 6)), (de P "__builtins__" (nat_lit 171) (Value.ref 4)), (de P "__file__" (nat_lit 173) (Value.str "/claim/cut.py" (nat_lit 172))), (de P "__cached__" (nat_lit 174) Value.none), (de P "_wall" (nat_lit 193) (Value.ref 21)), (de P "GRAIN" (nat_lit 197) (Value.int 1000000 (nat_lit 196))), (de P "LEAST_INT" (nat_lit 202) (Value.int (-2147483648) (nat_lit 201))), (de P "MOST_INT" (nat_lit 208) (Value.int 2147483647 (nat_lit 207))), (de P "WHITE" (nat_lit 210) (Value.bytes #[0, 9, 10, 12, 13, 32] (nat_lit 209))), (de P "DELIMITERS" (nat_lit 212) (Value.bytes #[40, 41, 60, 62, 91, 93, 123, 125, 47, 37] (nat_lit 211))), (de P "LINE_FEED" (nat_lit 214) (Value.int 10 (nat_lit 213))), (de P "CARRIAGE_RETURN" (nat_lit 216) (Value.int 13 (nat_lit 215))), (de P "PostError" (nat_lit 245) (Value.ref 39)), (de P "PsError" (nat_lit 261) (Value.ref 52)), (de P "is_white" (nat_lit 268) (Value.ref 61)), (de P "is_delimiter" (nat_lit 275) (Value.ref 68)), (de P "is_line_end" (nat_lit 282) (Value.ref 75)), (de P "is_octal" (nat_lit 289) (Value.ref 82)), (de P "hex_value" (nat_lit 296) (Value.ref 89)), (de P "digit_value" (nat_lit 303) (Value.ref 96))] 25) #[]))
@[reducible] noncomputable def o_81 : Params → Obj := (fun _ => (Obj.mk Value.none none (Data.fields #[(Value.int 1 (nat_lit 0)), (Value.int 0 (nat_lit 0)), (Value.ref 20), (Value.int 12 (nat_lit 0)), (Value.int 0 (nat_lit 0)), (Value.ref 27), (Value.int 16 (nat_lit 0)), (Value.int 0 (nat_lit 0)), (Value.ref 48), (Value.int 18 (nat_lit 0)), (Value.int 0 (nat_lit 0)), (Value.ref 60), (Value.int 20 (nat_lit 0)), (Value.int 0 (nat_lit 0)), (Value.ref 67), (Value.int 22 (nat_lit 0)), (Value.int 0 (nat_lit 0)), (Value.ref 74), (Value.int 24 (nat_lit 0)), (Value.int 0 (nat_lit 0)), (Value.ref 81), (Value.int 26 (nat_lit 0)), (Value.int 0 (nat_lit 0)), (Value.ref 88), (Value.int 34 (nat_lit 0)), (Value.int 0 (nat_lit 0)), (Value.ref 95)]) #[]))
@[reducible] noncomputable def o_82 : Params → Obj := (fun _ => (Obj.mk (Value.type "type") none (Data.cls (ClassData.mk "PostError" [(Value.type "Exception")] [(Value.ref 39), (Value.type "Exception"), (Value.type "BaseException"), (Value.type "object")] 38 "PostError" true [] [(Value.ref 52)] false none false)) #[(Option.some (Value.ref 22)), none, (Option.some (Value.str "PostError" (nat_lit 217))), (Option.some (Value.str "PostError" (nat_lit 225))), (Option.some (Value.builtin "Exception.__new__")), (Option.some (Value.bool true))]))
@[reducible] noncomputable def o_83 : Params → Obj := (fun _ => (Obj.mk (Value.type "tuple") none (Data.seq #[(Value.ref 39)] 0) #[]))
@[reducible] noncomputable def o_85 : Params → Obj := (fun P => (Obj.mk (Value.type "dict") none (Data.dict #[(de P "__module__" (nat_lit 253) (Value.str "postcore.base" (nat_lit 194))), (de P "__qualname__" (nat_lit 255) (Value.str "PsError" (nat_lit 254))), (de P "__firstlineno__" (nat_lit 257) (Value.int 16 (nat_lit 256))), (de P "__static_attributes__" (nat_lit 258) (Value.ref 50))] 4) #[]))
@[reducible] noncomputable def o_88 : Params → Obj := (fun _ => (Obj.mk (Value.type "code") none (Data.fields #[(Value.str "PsError" (nat_lit 248)), (Value.str "PsError" (nat_lit 249)), (Value.str "/claim/cut.py" (nat_lit 250)), (Value.int 16 (nat_lit 0)), (Value.int 0 (nat_lit 0)), (Value.int 0 (nat_lit 0)), (Value.int 0 (nat_lit 0)), (Value.int 0 (nat_lit 0)), (Value.ref 46), (Value.bool false), (Value.int 181 (nat_lit 0)), (Value.ref 47), Value.none, Value.none, Value.none, Value.none, (Value.int 251 (nat_lit 0)), (Value.int 16 (nat_lit 0)), (Value.str "/claim/cut.py" (nat_lit 252))]) #[]))
@[reducible] noncomputable def o_89 : Params → Obj := (fun _ => (Obj.mk (Value.type "frame") none Data.plain #[(Option.some (Value.ref 48)), (Option.some (Value.ref 3)), (Option.some (Value.ref 45)), none, (Option.some (Value.str "postcore.base" (nat_lit 194))), none, (Option.some (Value.ref 0))]))
@[reducible] noncomputable def o_91 : Params → Obj := (fun P => (Obj.mk (Value.type "dict") none (Data.dict #[(de P "__module__" (nat_lit 253) (Value.str "postcore.base" (nat_lit 194))), (de P "__firstlineno__" (nat_lit 257) (Value.int 16 (nat_lit 256))), (de P "__static_attributes__" (nat_lit 258) (Value.ref 50)), (de P "__doc__" (nat_lit 259) Value.none)] 2) #[]))
@[reducible] noncomputable def o_92 : Params → Obj := (fun _ => (Obj.mk (Value.type "type") none (Data.cls (ClassData.mk "PsError" [(Value.ref 39)] [(Value.ref 52), (Value.ref 39), (Value.type "Exception"), (Value.type "BaseException"), (Value.type "object")] 51 "PsError" true [] [] false none false)) #[(Option.some (Value.ref 43)), none, (Option.some (Value.str "PsError" (nat_lit 246))), (Option.some (Value.str "PsError" (nat_lit 254))), (Option.some (Value.builtin "Exception.__new__")), (Option.some (Value.bool true))]))
@[reducible] noncomputable def o_93 : Params → Obj := (fun _ => (Obj.mk (Value.type "super") none (Data.fields #[(Value.ref 52), (Value.ref 52), (Value.ref 52)]) #[]))
@[reducible] noncomputable def o_94 : Params → Obj := (fun _ => (Obj.mk (Value.type "builtin_function_or_method") none (Data.fields #[(Value.builtin "object.__init_subclass__"), (Value.ref 52)]) #[]))
@[reducible] noncomputable def o_97 : Params → Obj := (fun _ => (Obj.mk (Value.type "tuple") none (Data.seq #[(Value.str "octet" (nat_lit 265))] 0) #[]))
@[reducible] noncomputable def o_99 : Params → Obj := (fun _ => (Obj.mk Value.none none (Data.func (fd (st := at_ [11]) rfl "is_white" 0 [] Value.none Value.none Value.none Value.none none Value.none Value.none 0)) #[]))
@[reducible] noncomputable def o_100 : Params → Obj := (fun _ => (Obj.mk (Value.type "code") none (Data.fields #[(Value.str "is_white" (nat_lit 262)), (Value.str "is_white" (nat_lit 263)), (Value.str "/claim/cut.py" (nat_lit 264)), (Value.int 18 (nat_lit 0)), (Value.int 1 (nat_lit 0)), (Value.int 0 (nat_lit 0)), (Value.int 0 (nat_lit 0)), (Value.int 3 (nat_lit 0)), (Value.ref 55), (Value.bool true), (Value.int 181 (nat_lit 0)), (Value.ref 56), Value.none, (Value.ref 57), (Value.ref 58), (Value.ref 59), (Value.int 266 (nat_lit 0)), (Value.int 18 (nat_lit 0)), (Value.str "/claim/cut.py" (nat_lit 267))]) #[]))
@[reducible] noncomputable def o_101 : Params → Obj := (fun _ => (Obj.mk (Value.type "function") none (Data.func (fd (st := at_ [11]) rfl "is_white" 3 [] Value.none Value.none Value.none (Value.str "postcore.base" (nat_lit 194)) none (Value.ref 60) Value.none 0)) #[]))
@[reducible] noncomputable def o_104 : Params → Obj := (fun _ => (Obj.mk (Value.type "tuple") none (Data.seq #[(Value.str "octet" (nat_lit 272))] 0) #[]))
@[reducible] noncomputable def o_106 : Params → Obj := (fun _ => (Obj.mk Value.none none (Data.func (fd (st := at_ [12]) rfl "is_delimiter" 0 [] Value.none Value.none Value.none Value.none none Value.none Value.none 0)) #[]))
@[reducible] noncomputable def o_107 : Params → Obj := (fun _ => (Obj.mk (Value.type "code") none (Data.fields #[(Value.str "is_delimiter" (nat_lit 269)), (Value.str "is_delimiter" (nat_lit 270)), (Value.str "/claim/cut.py" (nat_lit 271)), (Value.int 20 (nat_lit 0)), (Value.int 1 (nat_lit 0)), (Value.int 0 (nat_lit 0)), (Value.int 0 (nat_lit 0)), (Value.int 3 (nat_lit 0)), (Value.ref 62), (Value.bool true), (Value.int 181 (nat_lit 0)), (Value.ref 63), Value.none, (Value.ref 64), (Value.ref 65), (Value.ref 66), (Value.int 273 (nat_lit 0)), (Value.int 20 (nat_lit 0)), (Value.str "/claim/cut.py" (nat_lit 274))]) #[]))
@[reducible] noncomputable def o_108 : Params → Obj := (fun _ => (Obj.mk (Value.type "function") none (Data.func (fd (st := at_ [12]) rfl "is_delimiter" 3 [] Value.none Value.none Value.none (Value.str "postcore.base" (nat_lit 194)) none (Value.ref 67) Value.none 0)) #[]))
@[reducible] noncomputable def o_111 : Params → Obj := (fun _ => (Obj.mk (Value.type "tuple") none (Data.seq #[(Value.str "octet" (nat_lit 279))] 0) #[]))
@[reducible] noncomputable def o_113 : Params → Obj := (fun _ => (Obj.mk Value.none none (Data.func (fd (st := at_ [13]) rfl "is_line_end" 0 [] Value.none Value.none Value.none Value.none none Value.none Value.none 0)) #[]))
@[reducible] noncomputable def o_114 : Params → Obj := (fun _ => (Obj.mk (Value.type "code") none (Data.fields #[(Value.str "is_line_end" (nat_lit 276)), (Value.str "is_line_end" (nat_lit 277)), (Value.str "/claim/cut.py" (nat_lit 278)), (Value.int 22 (nat_lit 0)), (Value.int 1 (nat_lit 0)), (Value.int 0 (nat_lit 0)), (Value.int 0 (nat_lit 0)), (Value.int 3 (nat_lit 0)), (Value.ref 69), (Value.bool true), (Value.int 181 (nat_lit 0)), (Value.ref 70), Value.none, (Value.ref 71), (Value.ref 72), (Value.ref 73), (Value.int 280 (nat_lit 0)), (Value.int 22 (nat_lit 0)), (Value.str "/claim/cut.py" (nat_lit 281))]) #[]))
@[reducible] noncomputable def o_115 : Params → Obj := (fun _ => (Obj.mk (Value.type "function") none (Data.func (fd (st := at_ [13]) rfl "is_line_end" 3 [] Value.none Value.none Value.none (Value.str "postcore.base" (nat_lit 194)) none (Value.ref 74) Value.none 0)) #[]))
@[reducible] noncomputable def o_118 : Params → Obj := (fun _ => (Obj.mk (Value.type "tuple") none (Data.seq #[(Value.str "octet" (nat_lit 286))] 0) #[]))
@[reducible] noncomputable def o_120 : Params → Obj := (fun _ => (Obj.mk Value.none none (Data.func (fd (st := at_ [14]) rfl "is_octal" 0 [] Value.none Value.none Value.none Value.none none Value.none Value.none 0)) #[]))
@[reducible] noncomputable def o_121 : Params → Obj := (fun _ => (Obj.mk (Value.type "code") none (Data.fields #[(Value.str "is_octal" (nat_lit 283)), (Value.str "is_octal" (nat_lit 284)), (Value.str "/claim/cut.py" (nat_lit 285)), (Value.int 24 (nat_lit 0)), (Value.int 1 (nat_lit 0)), (Value.int 0 (nat_lit 0)), (Value.int 0 (nat_lit 0)), (Value.int 3 (nat_lit 0)), (Value.ref 76), (Value.bool true), (Value.int 181 (nat_lit 0)), (Value.ref 77), Value.none, (Value.ref 78), (Value.ref 79), (Value.ref 80), (Value.int 287 (nat_lit 0)), (Value.int 24 (nat_lit 0)), (Value.str "/claim/cut.py" (nat_lit 288))]) #[]))
@[reducible] noncomputable def o_122 : Params → Obj := (fun _ => (Obj.mk (Value.type "function") none (Data.func (fd (st := at_ [14]) rfl "is_octal" 3 [] Value.none Value.none Value.none (Value.str "postcore.base" (nat_lit 194)) none (Value.ref 81) Value.none 0)) #[]))
@[reducible] noncomputable def o_125 : Params → Obj := (fun _ => (Obj.mk (Value.type "tuple") none (Data.seq #[(Value.str "octet" (nat_lit 293))] 0) #[]))
@[reducible] noncomputable def o_127 : Params → Obj := (fun _ => (Obj.mk Value.none none (Data.func (fd (st := at_ [15]) rfl "hex_value" 0 [] Value.none Value.none Value.none Value.none none Value.none Value.none 0)) #[]))
@[reducible] noncomputable def o_128 : Params → Obj := (fun _ => (Obj.mk (Value.type "code") none (Data.fields #[(Value.str "hex_value" (nat_lit 290)), (Value.str "hex_value" (nat_lit 291)), (Value.str "/claim/cut.py" (nat_lit 292)), (Value.int 26 (nat_lit 0)), (Value.int 1 (nat_lit 0)), (Value.int 0 (nat_lit 0)), (Value.int 0 (nat_lit 0)), (Value.int 3 (nat_lit 0)), (Value.ref 83), (Value.bool true), (Value.int 181 (nat_lit 0)), (Value.ref 84), Value.none, (Value.ref 85), (Value.ref 86), (Value.ref 87), (Value.int 294 (nat_lit 0)), (Value.int 26 (nat_lit 0)), (Value.str "/claim/cut.py" (nat_lit 295))]) #[]))
@[reducible] noncomputable def o_129 : Params → Obj := (fun _ => (Obj.mk (Value.type "function") none (Data.func (fd (st := at_ [15]) rfl "hex_value" 3 [] Value.none Value.none Value.none (Value.str "postcore.base" (nat_lit 194)) none (Value.ref 88) Value.none 0)) #[]))
@[reducible] noncomputable def o_132 : Params → Obj := (fun _ => (Obj.mk (Value.type "tuple") none (Data.seq #[(Value.str "octet" (nat_lit 300))] 0) #[]))
@[reducible] noncomputable def o_134 : Params → Obj := (fun _ => (Obj.mk Value.none none (Data.func (fd (st := at_ [16]) rfl "digit_value" 0 [] Value.none Value.none Value.none Value.none none Value.none Value.none 0)) #[]))
@[reducible] noncomputable def o_135 : Params → Obj := (fun _ => (Obj.mk (Value.type "code") none (Data.fields #[(Value.str "digit_value" (nat_lit 297)), (Value.str "digit_value" (nat_lit 298)), (Value.str "/claim/cut.py" (nat_lit 299)), (Value.int 34 (nat_lit 0)), (Value.int 1 (nat_lit 0)), (Value.int 0 (nat_lit 0)), (Value.int 0 (nat_lit 0)), (Value.int 3 (nat_lit 0)), (Value.ref 90), (Value.bool true), (Value.int 181 (nat_lit 0)), (Value.ref 91), Value.none, (Value.ref 92), (Value.ref 93), (Value.ref 94), (Value.int 301 (nat_lit 0)), (Value.int 34 (nat_lit 0)), (Value.str "/claim/cut.py" (nat_lit 302))]) #[]))
@[reducible] noncomputable def o_136 : Params → Obj := (fun _ => (Obj.mk (Value.type "function") none (Data.func (fd (st := at_ [16]) rfl "digit_value" 3 [] Value.none Value.none Value.none (Value.str "postcore.base" (nat_lit 194)) none (Value.ref 95) Value.none 0)) #[]))
@[reducible] noncomputable def o_137 : Params → Obj := (fun P => (Obj.mk (Value.type "dict") none (Data.dict #[(de P "__name__" (nat_lit 165) (Value.str "postcore.numbers" (nat_lit 304))), (de P "__doc__" (nat_lit 166) Value.none), (de P "__package__" (nat_lit 167) Value.none), (de P "__loader__" (nat_lit 168) (Value.builtin "__main__.__loader__#opaque")), (de P "__spec__" (nat_lit 169) Value.none), (de P "__annotations__" (nat_lit 170) (Value.ref 6)), (de P "__builtins__" (nat_lit 171) (Value.ref 4)), (de P "__file__" (nat_lit 173) (Value.str "/claim/cut.py" (nat_lit 172))), (de P "__cached__" (nat_lit 174) Value.none), (de P "_wall" (nat_lit 193) (Value.ref 21)), (de P "GRAIN" (nat_lit 197) (Value.int 1000000 (nat_lit 196))), (de P "LEAST_INT" (nat_lit 202) (Value.int (-2147483648) (nat_lit 201))), (de P "MOST_INT" (nat_lit 208) (Value.int 2147483647 (nat_lit 207))), (de P "WHITE" (nat_lit 210) (Value.bytes #[0, 9, 10, 12, 13, 32] (nat_lit 209))), (de P "DELIMITERS" (nat_lit 212) (Value.bytes #[40, 41, 60, 62, 91, 93, 123, 125, 47, 37] (nat_lit 211))), (de P "LINE_FEED" (nat_lit 214) (Value.int 10 (nat_lit 213))), (de P "CARRIAGE_RETURN" (nat_lit 216) (Value.int 13 (nat_lit 215))), (de P "PostError" (nat_lit 245) (Value.ref 39)), (de P "PsError" (nat_lit 261) (Value.ref 52)), (de P "is_white" (nat_lit 268) (Value.ref 61)), (de P "is_delimiter" (nat_lit 275) (Value.ref 68)), (de P "is_line_end" (nat_lit 282) (Value.ref 75)), (de P "is_octal" (nat_lit 289) (Value.ref 82)), (de P "hex_value" (nat_lit 296) (Value.ref 89)), (de P "digit_value" (nat_lit 303) (Value.ref 96)), (de P "INTEGER" (nat_lit 307) (Value.str "integer" (nat_lit 306))), (de P "REAL" (nat_lit 309) (Value.str "real" (nat_lit 308))), (de P "MOST_REAL" (nat_lit 314) (Value.int 1000000000000000000000 (nat_lit 313))), (de P "PLACES" (nat_lit 316) (Value.int 6 (nat_lit 315))), (de P "WORD_SIZE" (nat_lit 320) (Value.int 4294967296 (nat_lit 319))), (de P "MOST_FIGURES" (nat_lit 322) (Value.int 6 (nat_lit 321))), (de P "divided" (nat_lit 333) (Value.ref 103)), (de P "is_integer_size" (nat_lit 340) (Value.ref 110)), (de P "checked_real" (nat_lit 347) (Value.ref 117)), (de P "real_of" (nat_lit 354) (Value.ref 124)), (de P "whole_number" (nat_lit 361) (Value.ref 131)), (de P "figures_value" (nat_lit 372) (Value.ref 138)), (de P "read_radix" (nat_lit 382) (Value.ref 145)), (de P "signed_word" (nat_lit 390) (Value.ref 152)), (de P "read_exponent" (nat_lit 400) (Value.ref 159)), (de P "number_scaled" (nat_lit 408) (Value.ref 166))] 41) #[]))
@[reducible] noncomputable def o_138 : Params → Obj := (fun _ => (Obj.mk Value.none none (Data.fields #[(Value.int 1 (nat_lit 0)), (Value.int 0 (nat_lit 0)), (Value.ref 20), (Value.int 12 (nat_lit 0)), (Value.int 0 (nat_lit 0)), (Value.ref 27), (Value.int 16 (nat_lit 0)), (Value.int 0 (nat_lit 0)), (Value.ref 48), (Value.int 18 (nat_lit 0)), (Value.int 0 (nat_lit 0)), (Value.ref 60), (Value.int 20 (nat_lit 0)), (Value.int 0 (nat_lit 0)), (Value.ref 67), (Value.int 22 (nat_lit 0)), (Value.int 0 (nat_lit 0)), (Value.ref 74), (Value.int 24 (nat_lit 0)), (Value.int 0 (nat_lit 0)), (Value.ref 81), (Value.int 26 (nat_lit 0)), (Value.int 0 (nat_lit 0)), (Value.ref 88), (Value.int 34 (nat_lit 0)), (Value.int 0 (nat_lit 0)), (Value.ref 95), (Value.int 49 (nat_lit 0)), (Value.int 0 (nat_lit 0)), (Value.ref 102), (Value.int 53 (nat_lit 0)), (Value.int 0 (nat_lit 0)), (Value.ref 109), (Value.int 55 (nat_lit 0)), (Value.int 0 (nat_lit 0)), (Value.ref 116), (Value.int 59 (nat_lit 0)), (Value.int 0 (nat_lit 0)), (Value.ref 123), (Value.int 61 (nat_lit 0)), (Value.int 0 (nat_lit 0)), (Value.ref 130), (Value.int 65 (nat_lit 0)), (Value.int 0 (nat_lit 0)), (Value.ref 137), (Value.int 75 (nat_lit 0)), (Value.int 0 (nat_lit 0)), (Value.ref 144), (Value.int 85 (nat_lit 0)), (Value.int 0 (nat_lit 0)), (Value.ref 151), (Value.int 88 (nat_lit 0)), (Value.int 0 (nat_lit 0)), (Value.ref 158), (Value.int 96 (nat_lit 0)), (Value.int 0 (nat_lit 0)), (Value.ref 165)]) #[]))
@[reducible] noncomputable def o_141 : Params → Obj := (fun _ => (Obj.mk (Value.type "tuple") none (Data.seq #[(Value.str "number" (nat_lit 326)), (Value.str "by" (nat_lit 327)), (Value.str "size" (nat_lit 328)), (Value.str "parts" (nat_lit 329)), (Value.str "found" (nat_lit 330))] 0) #[]))
@[reducible] noncomputable def o_143 : Params → Obj := (fun _ => (Obj.mk Value.none none (Data.func (fd (st := at_ [24]) rfl "divided" 0 [] Value.none Value.none Value.none Value.none none Value.none Value.none 0)) #[]))
@[reducible] noncomputable def o_144 : Params → Obj := (fun _ => (Obj.mk (Value.type "code") none (Data.fields #[(Value.str "divided" (nat_lit 323)), (Value.str "divided" (nat_lit 324)), (Value.str "/claim/cut.py" (nat_lit 325)), (Value.int 49 (nat_lit 0)), (Value.int 2 (nat_lit 0)), (Value.int 0 (nat_lit 0)), (Value.int 0 (nat_lit 0)), (Value.int 3 (nat_lit 0)), (Value.ref 97), (Value.bool true), (Value.int 181 (nat_lit 0)), (Value.ref 98), Value.none, (Value.ref 99), (Value.ref 100), (Value.ref 101), (Value.int 331 (nat_lit 0)), (Value.int 49 (nat_lit 0)), (Value.str "/claim/cut.py" (nat_lit 332))]) #[]))
@[reducible] noncomputable def o_145 : Params → Obj := (fun _ => (Obj.mk (Value.type "function") none (Data.func (fd (st := at_ [24]) rfl "divided" 3 [] Value.none Value.none Value.none (Value.str "postcore.numbers" (nat_lit 304)) none (Value.ref 102) Value.none 0)) #[]))
@[reducible] noncomputable def o_148 : Params → Obj := (fun _ => (Obj.mk (Value.type "tuple") none (Data.seq #[(Value.str "number" (nat_lit 337))] 0) #[]))
@[reducible] noncomputable def o_150 : Params → Obj := (fun _ => (Obj.mk Value.none none (Data.func (fd (st := at_ [25]) rfl "is_integer_size" 0 [] Value.none Value.none Value.none Value.none none Value.none Value.none 0)) #[]))
@[reducible] noncomputable def o_151 : Params → Obj := (fun _ => (Obj.mk (Value.type "code") none (Data.fields #[(Value.str "is_integer_size" (nat_lit 334)), (Value.str "is_integer_size" (nat_lit 335)), (Value.str "/claim/cut.py" (nat_lit 336)), (Value.int 53 (nat_lit 0)), (Value.int 1 (nat_lit 0)), (Value.int 0 (nat_lit 0)), (Value.int 0 (nat_lit 0)), (Value.int 3 (nat_lit 0)), (Value.ref 104), (Value.bool true), (Value.int 181 (nat_lit 0)), (Value.ref 105), Value.none, (Value.ref 106), (Value.ref 107), (Value.ref 108), (Value.int 338 (nat_lit 0)), (Value.int 53 (nat_lit 0)), (Value.str "/claim/cut.py" (nat_lit 339))]) #[]))
@[reducible] noncomputable def o_152 : Params → Obj := (fun _ => (Obj.mk (Value.type "function") none (Data.func (fd (st := at_ [25]) rfl "is_integer_size" 3 [] Value.none Value.none Value.none (Value.str "postcore.numbers" (nat_lit 304)) none (Value.ref 109) Value.none 0)) #[]))
@[reducible] noncomputable def o_155 : Params → Obj := (fun _ => (Obj.mk (Value.type "tuple") none (Data.seq #[(Value.str "millionths" (nat_lit 344))] 0) #[]))
@[reducible] noncomputable def o_157 : Params → Obj := (fun _ => (Obj.mk Value.none none (Data.func (fd (st := at_ [26]) rfl "checked_real" 0 [] Value.none Value.none Value.none Value.none none Value.none Value.none 0)) #[]))
@[reducible] noncomputable def o_158 : Params → Obj := (fun _ => (Obj.mk (Value.type "code") none (Data.fields #[(Value.str "checked_real" (nat_lit 341)), (Value.str "checked_real" (nat_lit 342)), (Value.str "/claim/cut.py" (nat_lit 343)), (Value.int 55 (nat_lit 0)), (Value.int 1 (nat_lit 0)), (Value.int 0 (nat_lit 0)), (Value.int 0 (nat_lit 0)), (Value.int 3 (nat_lit 0)), (Value.ref 111), (Value.bool true), (Value.int 181 (nat_lit 0)), (Value.ref 112), Value.none, (Value.ref 113), (Value.ref 114), (Value.ref 115), (Value.int 345 (nat_lit 0)), (Value.int 55 (nat_lit 0)), (Value.str "/claim/cut.py" (nat_lit 346))]) #[]))
@[reducible] noncomputable def o_159 : Params → Obj := (fun _ => (Obj.mk (Value.type "function") none (Data.func (fd (st := at_ [26]) rfl "checked_real" 3 [] Value.none Value.none Value.none (Value.str "postcore.numbers" (nat_lit 304)) none (Value.ref 116) Value.none 0)) #[]))
@[reducible] noncomputable def o_162 : Params → Obj := (fun _ => (Obj.mk (Value.type "tuple") none (Data.seq #[(Value.str "number" (nat_lit 351))] 0) #[]))
@[reducible] noncomputable def o_164 : Params → Obj := (fun _ => (Obj.mk Value.none none (Data.func (fd (st := at_ [27]) rfl "real_of" 0 [] Value.none Value.none Value.none Value.none none Value.none Value.none 0)) #[]))
@[reducible] noncomputable def o_165 : Params → Obj := (fun _ => (Obj.mk (Value.type "code") none (Data.fields #[(Value.str "real_of" (nat_lit 348)), (Value.str "real_of" (nat_lit 349)), (Value.str "/claim/cut.py" (nat_lit 350)), (Value.int 59 (nat_lit 0)), (Value.int 1 (nat_lit 0)), (Value.int 0 (nat_lit 0)), (Value.int 0 (nat_lit 0)), (Value.int 3 (nat_lit 0)), (Value.ref 118), (Value.bool true), (Value.int 181 (nat_lit 0)), (Value.ref 119), Value.none, (Value.ref 120), (Value.ref 121), (Value.ref 122), (Value.int 352 (nat_lit 0)), (Value.int 59 (nat_lit 0)), (Value.str "/claim/cut.py" (nat_lit 353))]) #[]))
@[reducible] noncomputable def o_166 : Params → Obj := (fun _ => (Obj.mk (Value.type "function") none (Data.func (fd (st := at_ [27]) rfl "real_of" 3 [] Value.none Value.none Value.none (Value.str "postcore.numbers" (nat_lit 304)) none (Value.ref 123) Value.none 0)) #[]))
@[reducible] noncomputable def o_169 : Params → Obj := (fun _ => (Obj.mk (Value.type "tuple") none (Data.seq #[(Value.str "number" (nat_lit 358))] 0) #[]))
@[reducible] noncomputable def o_171 : Params → Obj := (fun _ => (Obj.mk Value.none none (Data.func (fd (st := at_ [28]) rfl "whole_number" 0 [] Value.none Value.none Value.none Value.none none Value.none Value.none 0)) #[]))
@[reducible] noncomputable def o_172 : Params → Obj := (fun _ => (Obj.mk (Value.type "code") none (Data.fields #[(Value.str "whole_number" (nat_lit 355)), (Value.str "whole_number" (nat_lit 356)), (Value.str "/claim/cut.py" (nat_lit 357)), (Value.int 61 (nat_lit 0)), (Value.int 1 (nat_lit 0)), (Value.int 0 (nat_lit 0)), (Value.int 0 (nat_lit 0)), (Value.int 3 (nat_lit 0)), (Value.ref 125), (Value.bool true), (Value.int 181 (nat_lit 0)), (Value.ref 126), Value.none, (Value.ref 127), (Value.ref 128), (Value.ref 129), (Value.int 359 (nat_lit 0)), (Value.int 61 (nat_lit 0)), (Value.str "/claim/cut.py" (nat_lit 360))]) #[]))
@[reducible] noncomputable def o_173 : Params → Obj := (fun _ => (Obj.mk (Value.type "function") none (Data.func (fd (st := at_ [28]) rfl "whole_number" 3 [] Value.none Value.none Value.none (Value.str "postcore.numbers" (nat_lit 304)) none (Value.ref 130) Value.none 0)) #[]))
@[reducible] noncomputable def o_176 : Params → Obj := (fun _ => (Obj.mk (Value.type "tuple") none (Data.seq #[(Value.str "octets" (nat_lit 365)), (Value.str "base" (nat_lit 366)), (Value.str "found" (nat_lit 367)), (Value.str "octet" (nat_lit 368)), (Value.str "figure" (nat_lit 369))] 0) #[]))
@[reducible] noncomputable def o_178 : Params → Obj := (fun _ => (Obj.mk Value.none none (Data.func (fd (st := at_ [29]) rfl "figures_value" 0 [] Value.none Value.none Value.none Value.none none Value.none Value.none 0)) #[]))
@[reducible] noncomputable def o_179 : Params → Obj := (fun _ => (Obj.mk (Value.type "code") none (Data.fields #[(Value.str "figures_value" (nat_lit 362)), (Value.str "figures_value" (nat_lit 363)), (Value.str "/claim/cut.py" (nat_lit 364)), (Value.int 65 (nat_lit 0)), (Value.int 2 (nat_lit 0)), (Value.int 0 (nat_lit 0)), (Value.int 0 (nat_lit 0)), (Value.int 3 (nat_lit 0)), (Value.ref 132), (Value.bool true), (Value.int 181 (nat_lit 0)), (Value.ref 133), Value.none, (Value.ref 134), (Value.ref 135), (Value.ref 136), (Value.int 370 (nat_lit 0)), (Value.int 65 (nat_lit 0)), (Value.str "/claim/cut.py" (nat_lit 371))]) #[]))
@[reducible] noncomputable def o_180 : Params → Obj := (fun _ => (Obj.mk (Value.type "function") none (Data.func (fd (st := at_ [29]) rfl "figures_value" 3 [] Value.none Value.none Value.none (Value.str "postcore.numbers" (nat_lit 304)) none (Value.ref 137) Value.none 0)) #[]))
@[reducible] noncomputable def o_183 : Params → Obj := (fun _ => (Obj.mk (Value.type "tuple") none (Data.seq #[(Value.str "octets" (nat_lit 376)), (Value.str "at" (nat_lit 377)), (Value.str "base" (nat_lit 378)), (Value.str "found" (nat_lit 379))] 0) #[]))
@[reducible] noncomputable def o_185 : Params → Obj := (fun _ => (Obj.mk Value.none none (Data.func (fd (st := at_ [30]) rfl "read_radix" 0 [] Value.none Value.none Value.none Value.none none Value.none Value.none 0)) #[]))
@[reducible] noncomputable def o_186 : Params → Obj := (fun _ => (Obj.mk (Value.type "code") none (Data.fields #[(Value.str "read_radix" (nat_lit 373)), (Value.str "read_radix" (nat_lit 374)), (Value.str "/claim/cut.py" (nat_lit 375)), (Value.int 75 (nat_lit 0)), (Value.int 2 (nat_lit 0)), (Value.int 0 (nat_lit 0)), (Value.int 0 (nat_lit 0)), (Value.int 3 (nat_lit 0)), (Value.ref 139), (Value.bool true), (Value.int 181 (nat_lit 0)), (Value.ref 140), Value.none, (Value.ref 141), (Value.ref 142), (Value.ref 143), (Value.int 380 (nat_lit 0)), (Value.int 75 (nat_lit 0)), (Value.str "/claim/cut.py" (nat_lit 381))]) #[]))
@[reducible] noncomputable def o_187 : Params → Obj := (fun _ => (Obj.mk (Value.type "function") none (Data.func (fd (st := at_ [30]) rfl "read_radix" 3 [] Value.none Value.none Value.none (Value.str "postcore.numbers" (nat_lit 304)) none (Value.ref 144) Value.none 0)) #[]))
@[reducible] noncomputable def o_190 : Params → Obj := (fun _ => (Obj.mk (Value.type "tuple") none (Data.seq #[(Value.str "number" (nat_lit 386)), (Value.str "found" (nat_lit 387))] 0) #[]))
@[reducible] noncomputable def o_192 : Params → Obj := (fun _ => (Obj.mk Value.none none (Data.func (fd (st := at_ [31]) rfl "signed_word" 0 [] Value.none Value.none Value.none Value.none none Value.none Value.none 0)) #[]))
@[reducible] noncomputable def o_193 : Params → Obj := (fun _ => (Obj.mk (Value.type "code") none (Data.fields #[(Value.str "signed_word" (nat_lit 383)), (Value.str "signed_word" (nat_lit 384)), (Value.str "/claim/cut.py" (nat_lit 385)), (Value.int 85 (nat_lit 0)), (Value.int 1 (nat_lit 0)), (Value.int 0 (nat_lit 0)), (Value.int 0 (nat_lit 0)), (Value.int 3 (nat_lit 0)), (Value.ref 146), (Value.bool true), (Value.int 181 (nat_lit 0)), (Value.ref 147), Value.none, (Value.ref 148), (Value.ref 149), (Value.ref 150), (Value.int 388 (nat_lit 0)), (Value.int 85 (nat_lit 0)), (Value.str "/claim/cut.py" (nat_lit 389))]) #[]))
@[reducible] noncomputable def o_194 : Params → Obj := (fun _ => (Obj.mk (Value.type "function") none (Data.func (fd (st := at_ [31]) rfl "signed_word" 3 [] Value.none Value.none Value.none (Value.str "postcore.numbers" (nat_lit 304)) none (Value.ref 151) Value.none 0)) #[]))
@[reducible] noncomputable def o_197 : Params → Obj := (fun _ => (Obj.mk (Value.type "tuple") none (Data.seq #[(Value.str "octets" (nat_lit 394)), (Value.str "begin" (nat_lit 395)), (Value.str "figures" (nat_lit 396)), (Value.str "found" (nat_lit 397))] 0) #[]))
@[reducible] noncomputable def o_199 : Params → Obj := (fun _ => (Obj.mk Value.none none (Data.func (fd (st := at_ [32]) rfl "read_exponent" 0 [] Value.none Value.none Value.none Value.none none Value.none Value.none 0)) #[]))
@[reducible] noncomputable def o_200 : Params → Obj := (fun _ => (Obj.mk (Value.type "code") none (Data.fields #[(Value.str "read_exponent" (nat_lit 391)), (Value.str "read_exponent" (nat_lit 392)), (Value.str "/claim/cut.py" (nat_lit 393)), (Value.int 88 (nat_lit 0)), (Value.int 1 (nat_lit 0)), (Value.int 0 (nat_lit 0)), (Value.int 0 (nat_lit 0)), (Value.int 3 (nat_lit 0)), (Value.ref 153), (Value.bool true), (Value.int 181 (nat_lit 0)), (Value.ref 154), Value.none, (Value.ref 155), (Value.ref 156), (Value.ref 157), (Value.int 398 (nat_lit 0)), (Value.int 88 (nat_lit 0)), (Value.str "/claim/cut.py" (nat_lit 399))]) #[]))
@[reducible] noncomputable def o_201 : Params → Obj := (fun _ => (Obj.mk (Value.type "function") none (Data.func (fd (st := at_ [32]) rfl "read_exponent" 3 [] Value.none Value.none Value.none (Value.str "postcore.numbers" (nat_lit 304)) none (Value.ref 158) Value.none 0)) #[]))
@[reducible] noncomputable def o_204 : Params → Obj := (fun _ => (Obj.mk (Value.type "tuple") none (Data.seq #[(Value.str "number" (nat_lit 404)), (Value.str "tens" (nat_lit 405))] 0) #[]))
@[reducible] noncomputable def o_206 : Params → Obj := (fun _ => (Obj.mk Value.none none (Data.func (fd (st := at_ [33]) rfl "number_scaled" 0 [] Value.none Value.none Value.none Value.none none Value.none Value.none 0)) #[]))
@[reducible] noncomputable def o_207 : Params → Obj := (fun _ => (Obj.mk (Value.type "code") none (Data.fields #[(Value.str "number_scaled" (nat_lit 401)), (Value.str "number_scaled" (nat_lit 402)), (Value.str "/claim/cut.py" (nat_lit 403)), (Value.int 96 (nat_lit 0)), (Value.int 2 (nat_lit 0)), (Value.int 0 (nat_lit 0)), (Value.int 0 (nat_lit 0)), (Value.int 3 (nat_lit 0)), (Value.ref 160), (Value.bool true), (Value.int 181 (nat_lit 0)), (Value.ref 161), Value.none, (Value.ref 162), (Value.ref 163), (Value.ref 164), (Value.int 406 (nat_lit 0)), (Value.int 96 (nat_lit 0)), (Value.str "/claim/cut.py" (nat_lit 407))]) #[]))
@[reducible] noncomputable def o_208 : Params → Obj := (fun _ => (Obj.mk (Value.type "function") none (Data.func (fd (st := at_ [33]) rfl "number_scaled" 3 [] Value.none Value.none Value.none (Value.str "postcore.numbers" (nat_lit 304)) none (Value.ref 165) Value.none 0)) #[]))
@[reducible] noncomputable def o_209 : Params → Obj := (fun P => (Obj.mk (Value.type "dict") none (Data.dict #[(de P "__name__" (nat_lit 165) (Value.str "postcore.objects" (nat_lit 446))), (de P "__doc__" (nat_lit 166) Value.none), (de P "__package__" (nat_lit 167) Value.none), (de P "__loader__" (nat_lit 168) (Value.builtin "__main__.__loader__#opaque")), (de P "__spec__" (nat_lit 169) Value.none), (de P "__annotations__" (nat_lit 170) (Value.ref 6)), (de P "__builtins__" (nat_lit 171) (Value.ref 4)), (de P "__file__" (nat_lit 173) (Value.str "/claim/cut.py" (nat_lit 172))), (de P "__cached__" (nat_lit 174) Value.none), (de P "_wall" (nat_lit 193) (Value.ref 21)), (de P "GRAIN" (nat_lit 197) (Value.int 1000000 (nat_lit 196))), (de P "LEAST_INT" (nat_lit 202) (Value.int (-2147483648) (nat_lit 201))), (de P "MOST_INT" (nat_lit 208) (Value.int 2147483647 (nat_lit 207))), (de P "WHITE" (nat_lit 210) (Value.bytes #[0, 9, 10, 12, 13, 32] (nat_lit 209))), (de P "DELIMITERS" (nat_lit 212) (Value.bytes #[40, 41, 60, 62, 91, 93, 123, 125, 47, 37] (nat_lit 211))), (de P "LINE_FEED" (nat_lit 214) (Value.int 10 (nat_lit 213))), (de P "CARRIAGE_RETURN" (nat_lit 216) (Value.int 13 (nat_lit 215))), (de P "PostError" (nat_lit 245) (Value.ref 39)), (de P "PsError" (nat_lit 261) (Value.ref 52)), (de P "is_white" (nat_lit 268) (Value.ref 61)), (de P "is_delimiter" (nat_lit 275) (Value.ref 68)), (de P "is_line_end" (nat_lit 282) (Value.ref 75)), (de P "is_octal" (nat_lit 289) (Value.ref 82)), (de P "hex_value" (nat_lit 296) (Value.ref 89)), (de P "digit_value" (nat_lit 303) (Value.ref 96)), (de P "INTEGER" (nat_lit 307) (Value.str "integer" (nat_lit 306))), (de P "REAL" (nat_lit 309) (Value.str "real" (nat_lit 308))), (de P "MOST_REAL" (nat_lit 314) (Value.int 1000000000000000000000 (nat_lit 313))), (de P "PLACES" (nat_lit 316) (Value.int 6 (nat_lit 315))), (de P "WORD_SIZE" (nat_lit 320) (Value.int 4294967296 (nat_lit 319))), (de P "MOST_FIGURES" (nat_lit 322) (Value.int 6 (nat_lit 321))), (de P "divided" (nat_lit 333) (Value.ref 103)), (de P "is_integer_size" (nat_lit 340) (Value.ref 110)), (de P "checked_real" (nat_lit 347) (Value.ref 117)), (de P "real_of" (nat_lit 354) (Value.ref 124)), (de P "whole_number" (nat_lit 361) (Value.ref 131)), (de P "figures_value" (nat_lit 372) (Value.ref 138)), (de P "read_radix" (nat_lit 382) (Value.ref 145)), (de P "signed_word" (nat_lit 390) (Value.ref 152)), (de P "read_exponent" (nat_lit 400) (Value.ref 159)), (de P "number_scaled" (nat_lit 408) (Value.ref 166)), (de P "split_at" (nat_lit 418) (Value.ref 173)), (de P "read_real" (nat_lit 433) (Value.ref 180)), (de P "read_number" (nat_lit 445) (Value.ref 187)), (de P "READ_ONLY" (nat_lit 449) (Value.int 2 (nat_lit 448))), (de P "UNLIMITED" (nat_lit 451) (Value.int 3 (nat_lit 450))), (de P "Thing" (nat_lit 486) (Value.ref 205))] 47) #[]))
@[reducible] noncomputable def o_210 : Params → Obj := (fun _ => (Obj.mk Value.none none (Data.fields (List.toArray ((Value.int 1 (nat_lit 0)) :: (Value.int 0 (nat_lit 0)) :: (Value.ref 20) :: (Value.int 12 (nat_lit 0)) :: (Value.int 0 (nat_lit 0)) :: (Value.ref 27) :: (Value.int 16 (nat_lit 0)) :: (Value.int 0 (nat_lit 0)) :: (Value.ref 48) :: (Value.int 18 (nat_lit 0)) :: (Value.int 0 (nat_lit 0)) :: (Value.ref 60) :: (Value.int 20 (nat_lit 0)) :: (Value.int 0 (nat_lit 0)) :: (Value.ref 67) :: (Value.int 22 (nat_lit 0)) :: (Value.int 0 (nat_lit 0)) :: (Value.ref 74) :: (Value.int 24 (nat_lit 0)) :: (Value.int 0 (nat_lit 0)) :: (Value.ref 81) :: (Value.int 26 (nat_lit 0)) :: (Value.int 0 (nat_lit 0)) :: (Value.ref 88) :: (Value.int 34 (nat_lit 0)) :: (Value.int 0 (nat_lit 0)) :: (Value.ref 95) :: (Value.int 49 (nat_lit 0)) :: (Value.int 0 (nat_lit 0)) :: (Value.ref 102) :: (Value.int 53 (nat_lit 0)) :: (Value.int 0 (nat_lit 0)) :: (Value.ref 109) :: (Value.int 55 (nat_lit 0)) :: (Value.int 0 (nat_lit 0)) :: (Value.ref 116) :: (Value.int 59 (nat_lit 0)) :: (Value.int 0 (nat_lit 0)) :: (Value.ref 123) :: (Value.int 61 (nat_lit 0)) :: (Value.int 0 (nat_lit 0)) :: (Value.ref 130) :: (Value.int 65 (nat_lit 0)) :: (Value.int 0 (nat_lit 0)) :: (Value.ref 137) :: (Value.int 75 (nat_lit 0)) :: (Value.int 0 (nat_lit 0)) :: (Value.ref 144) :: (Value.int 85 (nat_lit 0)) :: (Value.int 0 (nat_lit 0)) :: (Value.ref 151) :: (Value.int 88 (nat_lit 0)) :: (Value.int 0 (nat_lit 0)) :: (Value.ref 158) :: (Value.int 96 (nat_lit 0)) :: (Value.int 0 (nat_lit 0)) :: (Value.ref 165) :: (Value.int 106 (nat_lit 0)) :: (Value.int 0 (nat_lit 0)) :: (Value.ref 172) :: (Value.int 111 (nat_lit 0)) :: (Value.int 0 (nat_lit 0)) :: (Value.ref 179) :: (Value.int 122 (nat_lit 0)) :: (Value.int 0 (nat_lit 0)) :: (Value.ref 186) :: (Value.int 135 (nat_lit 0)) :: (Value.int 0 (nat_lit 0)) :: (Value.ref 193) :: []))) #[]))
@[reducible] noncomputable def o_213 : Params → Obj := (fun _ => (Obj.mk (Value.type "tuple") none (Data.seq #[(Value.str "octets" (nat_lit 412)), (Value.str "signs" (nat_lit 413)), (Value.str "at" (nat_lit 414)), (Value.str "octet" (nat_lit 415))] 0) #[]))
@[reducible] noncomputable def o_215 : Params → Obj := (fun _ => (Obj.mk Value.none none (Data.func (fd (st := at_ [34]) rfl "split_at" 0 [] Value.none Value.none Value.none Value.none none Value.none Value.none 0)) #[]))
@[reducible] noncomputable def o_216 : Params → Obj := (fun _ => (Obj.mk (Value.type "code") none (Data.fields #[(Value.str "split_at" (nat_lit 409)), (Value.str "split_at" (nat_lit 410)), (Value.str "/claim/cut.py" (nat_lit 411)), (Value.int 106 (nat_lit 0)), (Value.int 2 (nat_lit 0)), (Value.int 0 (nat_lit 0)), (Value.int 0 (nat_lit 0)), (Value.int 3 (nat_lit 0)), (Value.ref 167), (Value.bool true), (Value.int 181 (nat_lit 0)), (Value.ref 168), Value.none, (Value.ref 169), (Value.ref 170), (Value.ref 171), (Value.int 416 (nat_lit 0)), (Value.int 106 (nat_lit 0)), (Value.str "/claim/cut.py" (nat_lit 417))]) #[]))
@[reducible] noncomputable def o_217 : Params → Obj := (fun _ => (Obj.mk (Value.type "function") none (Data.func (fd (st := at_ [34]) rfl "split_at" 3 [] Value.none Value.none Value.none (Value.str "postcore.numbers" (nat_lit 304)) none (Value.ref 172) Value.none 0)) #[]))
@[reducible] noncomputable def o_220 : Params → Obj := (fun _ => (Obj.mk (Value.type "tuple") none (Data.seq #[(Value.str "octets" (nat_lit 422)), (Value.str "is_below" (nat_lit 423)), (Value.str "figures" (nat_lit 424)), (Value.str "exponent" (nat_lit 425)), (Value.str "whole" (nat_lit 426)), (Value.str "rest" (nat_lit 427)), (Value.str "tens" (nat_lit 428)), (Value.str "behind" (nat_lit 429)), (Value.str "number" (nat_lit 430))] 0) #[]))
@[reducible] noncomputable def o_222 : Params → Obj := (fun _ => (Obj.mk Value.none none (Data.func (fd (st := at_ [35]) rfl "read_real" 0 [] Value.none Value.none Value.none Value.none none Value.none Value.none 0)) #[]))
@[reducible] noncomputable def o_223 : Params → Obj := (fun _ => (Obj.mk (Value.type "code") none (Data.fields #[(Value.str "read_real" (nat_lit 419)), (Value.str "read_real" (nat_lit 420)), (Value.str "/claim/cut.py" (nat_lit 421)), (Value.int 111 (nat_lit 0)), (Value.int 2 (nat_lit 0)), (Value.int 0 (nat_lit 0)), (Value.int 0 (nat_lit 0)), (Value.int 3 (nat_lit 0)), (Value.ref 174), (Value.bool true), (Value.int 181 (nat_lit 0)), (Value.ref 175), Value.none, (Value.ref 176), (Value.ref 177), (Value.ref 178), (Value.int 431 (nat_lit 0)), (Value.int 111 (nat_lit 0)), (Value.str "/claim/cut.py" (nat_lit 432))]) #[]))
@[reducible] noncomputable def o_224 : Params → Obj := (fun _ => (Obj.mk (Value.type "function") none (Data.func (fd (st := at_ [35]) rfl "read_real" 3 [] Value.none Value.none Value.none (Value.str "postcore.numbers" (nat_lit 304)) none (Value.ref 179) Value.none 0)) #[]))
@[reducible] noncomputable def o_227 : Params → Obj := (fun _ => (Obj.mk (Value.type "tuple") none (Data.seq #[(Value.str "octets" (nat_lit 437)), (Value.str "at" (nat_lit 438)), (Value.str "octet" (nat_lit 439)), (Value.str "begin" (nat_lit 440)), (Value.str "is_below" (nat_lit 441)), (Value.str "number" (nat_lit 442))] 0) #[]))
@[reducible] noncomputable def o_229 : Params → Obj := (fun _ => (Obj.mk Value.none none (Data.func (fd (st := at_ [36]) rfl "read_number" 0 [] Value.none Value.none Value.none Value.none none Value.none Value.none 0)) #[]))
@[reducible] noncomputable def o_230 : Params → Obj := (fun _ => (Obj.mk (Value.type "code") none (Data.fields #[(Value.str "read_number" (nat_lit 434)), (Value.str "read_number" (nat_lit 435)), (Value.str "/claim/cut.py" (nat_lit 436)), (Value.int 122 (nat_lit 0)), (Value.int 1 (nat_lit 0)), (Value.int 0 (nat_lit 0)), (Value.int 0 (nat_lit 0)), (Value.int 3 (nat_lit 0)), (Value.ref 181), (Value.bool true), (Value.int 181 (nat_lit 0)), (Value.ref 182), Value.none, (Value.ref 183), (Value.ref 184), (Value.ref 185), (Value.int 443 (nat_lit 0)), (Value.int 122 (nat_lit 0)), (Value.str "/claim/cut.py" (nat_lit 444))]) #[]))
@[reducible] noncomputable def o_231 : Params → Obj := (fun _ => (Obj.mk (Value.type "function") none (Data.func (fd (st := at_ [36]) rfl "read_number" 3 [] Value.none Value.none Value.none (Value.str "postcore.numbers" (nat_lit 304)) none (Value.ref 186) Value.none 0)) #[]))
@[reducible] noncomputable def o_234 : Params → Obj := (fun P => (Obj.mk (Value.type "dict") none (Data.dict #[(de P "__module__" (nat_lit 459) (Value.str "postcore.objects" (nat_lit 446))), (de P "__qualname__" (nat_lit 461) (Value.str "Thing" (nat_lit 460))), (de P "__firstlineno__" (nat_lit 463) (Value.int 135 (nat_lit 462))), (de P "__init__" (nat_lit 474) (Value.ref 202)), (de P "__static_attributes__" (nat_lit 479) (Value.ref 203))] 5) #[]))
@[reducible] noncomputable def o_236 : Params → Obj := (fun _ => (Obj.mk Value.none none (Data.fields #[(Value.int 137 (nat_lit 0)), (Value.int 4 (nat_lit 0)), (Value.ref 201)]) #[]))
@[reducible] noncomputable def o_237 : Params → Obj := (fun _ => (Obj.mk (Value.type "code") none (Data.fields #[(Value.str "Thing" (nat_lit 454)), (Value.str "Thing" (nat_lit 455)), (Value.str "/claim/cut.py" (nat_lit 456)), (Value.int 135 (nat_lit 0)), (Value.int 0 (nat_lit 0)), (Value.int 0 (nat_lit 0)), (Value.int 0 (nat_lit 0)), (Value.int 0 (nat_lit 0)), (Value.ref 191), (Value.bool false), (Value.int 181 (nat_lit 0)), (Value.ref 192), Value.none, Value.none, Value.none, Value.none, (Value.int 457 (nat_lit 0)), (Value.int 135 (nat_lit 0)), (Value.str "/claim/cut.py" (nat_lit 458))]) #[]))
@[reducible] noncomputable def o_238 : Params → Obj := (fun _ => (Obj.mk (Value.type "frame") none Data.plain #[(Option.some (Value.ref 193)), (Option.some (Value.ref 3)), (Option.some (Value.ref 190)), none, (Option.some (Value.str "postcore.objects" (nat_lit 446))), none, (Option.some (Value.ref 0))]))
@[reducible] noncomputable def o_239 : Params → Obj := (fun _ => (Obj.mk (Value.type "tuple") none (Data.seq #[(Value.bool false), (Value.int 3 (nat_lit 450))] 0) #[]))
@[reducible] noncomputable def o_242 : Params → Obj := (fun _ => (Obj.mk (Value.type "tuple") none (Data.seq #[(Value.str "self" (nat_lit 467)), (Value.str "kind" (nat_lit 468)), (Value.str "value" (nat_lit 469)), (Value.str "is_exec" (nat_lit 470)), (Value.str "access" (nat_lit 471))] 0) #[]))
@[reducible] noncomputable def o_244 : Params → Obj := (fun _ => (Obj.mk Value.none none (Data.func (fd (st := at_ [40, 0]) rfl "Thing.__init__" 0 [] Value.none Value.none Value.none Value.none none Value.none Value.none 0)) #[]))
@[reducible] noncomputable def o_245 : Params → Obj := (fun _ => (Obj.mk (Value.type "code") none (Data.fields #[(Value.str "__init__" (nat_lit 464)), (Value.str "Thing.__init__" (nat_lit 465)), (Value.str "/claim/cut.py" (nat_lit 466)), (Value.int 137 (nat_lit 0)), (Value.int 5 (nat_lit 0)), (Value.int 0 (nat_lit 0)), (Value.int 0 (nat_lit 0)), (Value.int 3 (nat_lit 0)), (Value.ref 196), (Value.bool true), (Value.int 181 (nat_lit 0)), (Value.ref 197), Value.none, (Value.ref 198), (Value.ref 199), (Value.ref 200), (Value.int 472 (nat_lit 0)), (Value.int 137 (nat_lit 0)), (Value.str "/claim/cut.py" (nat_lit 473))]) #[]))
@[reducible] noncomputable def o_246 : Params → Obj := (fun _ => (Obj.mk (Value.type "function") none (Data.func (fd (st := at_ [40, 0]) rfl "Thing.__init__" 3 [] (Value.ref 195) Value.none Value.none (Value.str "postcore.objects" (nat_lit 446)) none (Value.ref 201) Value.none 0)) #[]))
@[reducible] noncomputable def o_247 : Params → Obj := (fun _ => (Obj.mk (Value.type "tuple") none (Data.seq #[(Value.str "access" (nat_lit 475)), (Value.str "is_exec" (nat_lit 476)), (Value.str "kind" (nat_lit 477)), (Value.str "value" (nat_lit 478))] 0) #[]))
@[reducible] noncomputable def o_248 : Params → Obj := (fun P => (Obj.mk (Value.type "dict") none (Data.dict #[(de P "__module__" (nat_lit 459) (Value.str "postcore.objects" (nat_lit 446))), (de P "__firstlineno__" (nat_lit 463) (Value.int 135 (nat_lit 462))), (de P "__init__" (nat_lit 474) (Value.ref 202)), (de P "__static_attributes__" (nat_lit 479) (Value.ref 203)), (de P "__dict__" (nat_lit 481) (Value.ref 206)), (de P "__weakref__" (nat_lit 483) (Value.ref 207)), (de P "__doc__" (nat_lit 484) Value.none)] 4) #[]))
@[reducible] noncomputable def o_249 : Params → Obj := (fun _ => (Obj.mk (Value.type "type") none (Data.cls (ClassData.mk "Thing" [(Value.type "object")] [(Value.ref 205), (Value.type "object")] 204 "Thing" true [] [] false none false)) #[none, none, (Option.some (Value.str "Thing" (nat_lit 452))), (Option.some (Value.str "Thing" (nat_lit 460))), (Option.some (Value.builtin "object.__new__")), (Option.some (Value.bool true))]))
@[reducible] noncomputable def o_250 : Params → Obj := (fun _ => (Obj.mk (Value.type "getset_descriptor") none (Data.fields #[(Value.str "__dict__" (nat_lit 480)), (Value.ref 205), (Value.builtin "function.__dict__"), (Value.builtin "function.__dict__#set")]) #[]))
@[reducible] noncomputable def o_251 : Params → Obj := (fun _ => (Obj.mk (Value.type "getset_descriptor") none (Data.fields #[(Value.str "__weakref__" (nat_lit 482)), (Value.ref 205), (Value.builtin "ExceptionGroup.__weakref__"), Value.none]) #[]))
@[reducible] noncomputable def o_252 : Params → Obj := (fun _ => (Obj.mk (Value.type "super") none (Data.fields #[(Value.ref 205), (Value.ref 205), (Value.ref 205)]) #[]))
@[reducible] noncomputable def o_253 : Params → Obj := (fun _ => (Obj.mk (Value.type "builtin_function_or_method") none (Data.fields #[(Value.builtin "object.__init_subclass__"), (Value.ref 205)]) #[]))
@[reducible] noncomputable def o_254 : Params → Obj := (fun P => (Obj.mk (Value.type "dict") none (Data.dict #[(de P "__name__" (nat_lit 165) (Value.str "postcore.objects" (nat_lit 446))), (de P "__doc__" (nat_lit 166) Value.none), (de P "__package__" (nat_lit 167) Value.none), (de P "__loader__" (nat_lit 168) (Value.builtin "__main__.__loader__#opaque")), (de P "__spec__" (nat_lit 169) Value.none), (de P "__annotations__" (nat_lit 170) (Value.ref 6)), (de P "__builtins__" (nat_lit 171) (Value.ref 4)), (de P "__file__" (nat_lit 173) (Value.str "/claim/cut.py" (nat_lit 172))), (de P "__cached__" (nat_lit 174) Value.none), (de P "_wall" (nat_lit 193) (Value.ref 21)), (de P "GRAIN" (nat_lit 197) (Value.int 1000000 (nat_lit 196))), (de P "LEAST_INT" (nat_lit 202) (Value.int (-2147483648) (nat_lit 201))), (de P "MOST_INT" (nat_lit 208) (Value.int 2147483647 (nat_lit 207))), (de P "WHITE" (nat_lit 210) (Value.bytes #[0, 9, 10, 12, 13, 32] (nat_lit 209))), (de P "DELIMITERS" (nat_lit 212) (Value.bytes #[40, 41, 60, 62, 91, 93, 123, 125, 47, 37] (nat_lit 211))), (de P "LINE_FEED" (nat_lit 214) (Value.int 10 (nat_lit 213))), (de P "CARRIAGE_RETURN" (nat_lit 216) (Value.int 13 (nat_lit 215))), (de P "PostError" (nat_lit 245) (Value.ref 39)), (de P "PsError" (nat_lit 261) (Value.ref 52)), (de P "is_white" (nat_lit 268) (Value.ref 61)), (de P "is_delimiter" (nat_lit 275) (Value.ref 68)), (de P "is_line_end" (nat_lit 282) (Value.ref 75)), (de P "is_octal" (nat_lit 289) (Value.ref 82)), (de P "hex_value" (nat_lit 296) (Value.ref 89)), (de P "digit_value" (nat_lit 303) (Value.ref 96)), (de P "INTEGER" (nat_lit 307) (Value.str "integer" (nat_lit 306))), (de P "REAL" (nat_lit 309) (Value.str "real" (nat_lit 308))), (de P "MOST_REAL" (nat_lit 314) (Value.int 1000000000000000000000 (nat_lit 313))), (de P "PLACES" (nat_lit 316) (Value.int 6 (nat_lit 315))), (de P "WORD_SIZE" (nat_lit 320) (Value.int 4294967296 (nat_lit 319))), (de P "MOST_FIGURES" (nat_lit 322) (Value.int 6 (nat_lit 321))), (de P "divided" (nat_lit 333) (Value.ref 103)), (de P "is_integer_size" (nat_lit 340) (Value.ref 110)), (de P "checked_real" (nat_lit 347) (Value.ref 117)), (de P "real_of" (nat_lit 354) (Value.ref 124)), (de P "whole_number" (nat_lit 361) (Value.ref 131)), (de P "figures_value" (nat_lit 372) (Value.ref 138)), (de P "read_radix" (nat_lit 382) (Value.ref 145)), (de P "signed_word" (nat_lit 390) (Value.ref 152)), (de P "read_exponent" (nat_lit 400) (Value.ref 159)), (de P "number_scaled" (nat_lit 408) (Value.ref 166)), (de P "split_at" (nat_lit 418) (Value.ref 173)), (de P "read_real" (nat_lit 433) (Value.ref 180)), (de P "read_number" (nat_lit 445) (Value.ref 187)), (de P "READ_ONLY" (nat_lit 449) (Value.int 2 (nat_lit 448))), (de P "UNLIMITED" (nat_lit 451) (Value.int 3 (nat_lit 450))), (de P "Thing" (nat_lit 486) (Value.ref 205)), (de P "Text" (nat_lit 521) (Value.ref 226))] 48) #[]))
@[reducible] noncomputable def o_255 : Params → Obj := (fun _ => (Obj.mk Value.none none (Data.fields (List.toArray ((Value.int 1 (nat_lit 0)) :: (Value.int 0 (nat_lit 0)) :: (Value.ref 20) :: (Value.int 12 (nat_lit 0)) :: (Value.int 0 (nat_lit 0)) :: (Value.ref 27) :: (Value.int 16 (nat_lit 0)) :: (Value.int 0 (nat_lit 0)) :: (Value.ref 48) :: (Value.int 18 (nat_lit 0)) :: (Value.int 0 (nat_lit 0)) :: (Value.ref 60) :: (Value.int 20 (nat_lit 0)) :: (Value.int 0 (nat_lit 0)) :: (Value.ref 67) :: (Value.int 22 (nat_lit 0)) :: (Value.int 0 (nat_lit 0)) :: (Value.ref 74) :: (Value.int 24 (nat_lit 0)) :: (Value.int 0 (nat_lit 0)) :: (Value.ref 81) :: (Value.int 26 (nat_lit 0)) :: (Value.int 0 (nat_lit 0)) :: (Value.ref 88) :: (Value.int 34 (nat_lit 0)) :: (Value.int 0 (nat_lit 0)) :: (Value.ref 95) :: (Value.int 49 (nat_lit 0)) :: (Value.int 0 (nat_lit 0)) :: (Value.ref 102) :: (Value.int 53 (nat_lit 0)) :: (Value.int 0 (nat_lit 0)) :: (Value.ref 109) :: (Value.int 55 (nat_lit 0)) :: (Value.int 0 (nat_lit 0)) :: (Value.ref 116) :: (Value.int 59 (nat_lit 0)) :: (Value.int 0 (nat_lit 0)) :: (Value.ref 123) :: (Value.int 61 (nat_lit 0)) :: (Value.int 0 (nat_lit 0)) :: (Value.ref 130) :: (Value.int 65 (nat_lit 0)) :: (Value.int 0 (nat_lit 0)) :: (Value.ref 137) :: (Value.int 75 (nat_lit 0)) :: (Value.int 0 (nat_lit 0)) :: (Value.ref 144) :: (Value.int 85 (nat_lit 0)) :: (Value.int 0 (nat_lit 0)) :: (Value.ref 151) :: (Value.int 88 (nat_lit 0)) :: (Value.int 0 (nat_lit 0)) :: (Value.ref 158) :: (Value.int 96 (nat_lit 0)) :: (Value.int 0 (nat_lit 0)) :: (Value.ref 165) :: (Value.int 106 (nat_lit 0)) :: (Value.int 0 (nat_lit 0)) :: (Value.ref 172) :: (Value.int 111 (nat_lit 0)) :: (Value.int 0 (nat_lit 0)) :: (Value.ref 179) :: (Value.int 122 (nat_lit 0)) :: (Value.int 0 (nat_lit 0)) :: (Value.ref 186) :: (Value.int 135 (nat_lit 0)) :: (Value.int 0 (nat_lit 0)) :: (Value.ref 193) :: (Value.int 142 (nat_lit 0)) :: (Value.int 0 (nat_lit 0)) :: (Value.ref 215) :: []))) #[]))
@[reducible] noncomputable def o_258 : Params → Obj := (fun P => (Obj.mk (Value.type "dict") none (Data.dict #[(de P "__module__" (nat_lit 494) (Value.str "postcore.objects" (nat_lit 446))), (de P "__qualname__" (nat_lit 496) (Value.str "Text" (nat_lit 495))), (de P "__firstlineno__" (nat_lit 498) (Value.int 142 (nat_lit 497))), (de P "__init__" (nat_lit 509) (Value.ref 223)), (de P "__static_attributes__" (nat_lit 514) (Value.ref 224))] 5) #[]))
@[reducible] noncomputable def o_260 : Params → Obj := (fun _ => (Obj.mk Value.none none (Data.fields #[(Value.int 144 (nat_lit 0)), (Value.int 4 (nat_lit 0)), (Value.ref 222)]) #[]))
@[reducible] noncomputable def o_261 : Params → Obj := (fun _ => (Obj.mk (Value.type "code") none (Data.fields #[(Value.str "Text" (nat_lit 489)), (Value.str "Text" (nat_lit 490)), (Value.str "/claim/cut.py" (nat_lit 491)), (Value.int 142 (nat_lit 0)), (Value.int 0 (nat_lit 0)), (Value.int 0 (nat_lit 0)), (Value.int 0 (nat_lit 0)), (Value.int 0 (nat_lit 0)), (Value.ref 213), (Value.bool false), (Value.int 181 (nat_lit 0)), (Value.ref 214), Value.none, Value.none, Value.none, Value.none, (Value.int 492 (nat_lit 0)), (Value.int 142 (nat_lit 0)), (Value.str "/claim/cut.py" (nat_lit 493))]) #[]))
@[reducible] noncomputable def o_262 : Params → Obj := (fun _ => (Obj.mk (Value.type "frame") none Data.plain #[(Option.some (Value.ref 215)), (Option.some (Value.ref 3)), (Option.some (Value.ref 212)), none, (Option.some (Value.str "postcore.objects" (nat_lit 446))), none, (Option.some (Value.ref 0))]))
@[reducible] noncomputable def o_265 : Params → Obj := (fun _ => (Obj.mk (Value.type "tuple") none (Data.seq #[(Value.str "self" (nat_lit 502)), (Value.str "number" (nat_lit 503)), (Value.str "octets" (nat_lit 504)), (Value.str "is_global" (nat_lit 505)), (Value.str "level" (nat_lit 506))] 0) #[]))
@[reducible] noncomputable def o_267 : Params → Obj := (fun _ => (Obj.mk Value.none none (Data.func (fd (st := at_ [41, 0]) rfl "Text.__init__" 0 [] Value.none Value.none Value.none Value.none none Value.none Value.none 0)) #[]))
@[reducible] noncomputable def o_268 : Params → Obj := (fun _ => (Obj.mk (Value.type "code") none (Data.fields #[(Value.str "__init__" (nat_lit 499)), (Value.str "Text.__init__" (nat_lit 500)), (Value.str "/claim/cut.py" (nat_lit 501)), (Value.int 144 (nat_lit 0)), (Value.int 5 (nat_lit 0)), (Value.int 0 (nat_lit 0)), (Value.int 0 (nat_lit 0)), (Value.int 3 (nat_lit 0)), (Value.ref 217), (Value.bool true), (Value.int 181 (nat_lit 0)), (Value.ref 218), Value.none, (Value.ref 219), (Value.ref 220), (Value.ref 221), (Value.int 507 (nat_lit 0)), (Value.int 144 (nat_lit 0)), (Value.str "/claim/cut.py" (nat_lit 508))]) #[]))
@[reducible] noncomputable def o_269 : Params → Obj := (fun _ => (Obj.mk (Value.type "function") none (Data.func (fd (st := at_ [41, 0]) rfl "Text.__init__" 3 [] Value.none Value.none Value.none (Value.str "postcore.objects" (nat_lit 446)) none (Value.ref 222) Value.none 0)) #[]))
@[reducible] noncomputable def o_270 : Params → Obj := (fun _ => (Obj.mk (Value.type "tuple") none (Data.seq #[(Value.str "is_global" (nat_lit 510)), (Value.str "level" (nat_lit 511)), (Value.str "number" (nat_lit 512)), (Value.str "octets" (nat_lit 513))] 0) #[]))
@[reducible] noncomputable def o_271 : Params → Obj := (fun P => (Obj.mk (Value.type "dict") none (Data.dict #[(de P "__module__" (nat_lit 494) (Value.str "postcore.objects" (nat_lit 446))), (de P "__firstlineno__" (nat_lit 498) (Value.int 142 (nat_lit 497))), (de P "__init__" (nat_lit 509) (Value.ref 223)), (de P "__static_attributes__" (nat_lit 514) (Value.ref 224)), (de P "__dict__" (nat_lit 516) (Value.ref 227)), (de P "__weakref__" (nat_lit 518) (Value.ref 228)), (de P "__doc__" (nat_lit 519) Value.none)] 4) #[]))
@[reducible] noncomputable def o_272 : Params → Obj := (fun _ => (Obj.mk (Value.type "type") none (Data.cls (ClassData.mk "Text" [(Value.type "object")] [(Value.ref 226), (Value.type "object")] 225 "Text" true [] [] false none false)) #[none, none, (Option.some (Value.str "Text" (nat_lit 487))), (Option.some (Value.str "Text" (nat_lit 495))), (Option.some (Value.builtin "object.__new__")), (Option.some (Value.bool true))]))
@[reducible] noncomputable def o_273 : Params → Obj := (fun _ => (Obj.mk (Value.type "getset_descriptor") none (Data.fields #[(Value.str "__dict__" (nat_lit 515)), (Value.ref 226), (Value.builtin "function.__dict__"), (Value.builtin "function.__dict__#set")]) #[]))
@[reducible] noncomputable def o_274 : Params → Obj := (fun _ => (Obj.mk (Value.type "getset_descriptor") none (Data.fields #[(Value.str "__weakref__" (nat_lit 517)), (Value.ref 226), (Value.builtin "ExceptionGroup.__weakref__"), Value.none]) #[]))
@[reducible] noncomputable def o_275 : Params → Obj := (fun _ => (Obj.mk (Value.type "super") none (Data.fields #[(Value.ref 226), (Value.ref 226), (Value.ref 226)]) #[]))
@[reducible] noncomputable def o_276 : Params → Obj := (fun _ => (Obj.mk (Value.type "builtin_function_or_method") none (Data.fields #[(Value.builtin "object.__init_subclass__"), (Value.ref 226)]) #[]))
@[reducible] noncomputable def o_277 : Params → Obj := (fun P => (Obj.mk (Value.type "dict") none (Data.dict #[(de P "__name__" (nat_lit 165) (Value.str "postcore.objects" (nat_lit 446))), (de P "__doc__" (nat_lit 166) Value.none), (de P "__package__" (nat_lit 167) Value.none), (de P "__loader__" (nat_lit 168) (Value.builtin "__main__.__loader__#opaque")), (de P "__spec__" (nat_lit 169) Value.none), (de P "__annotations__" (nat_lit 170) (Value.ref 6)), (de P "__builtins__" (nat_lit 171) (Value.ref 4)), (de P "__file__" (nat_lit 173) (Value.str "/claim/cut.py" (nat_lit 172))), (de P "__cached__" (nat_lit 174) Value.none), (de P "_wall" (nat_lit 193) (Value.ref 21)), (de P "GRAIN" (nat_lit 197) (Value.int 1000000 (nat_lit 196))), (de P "LEAST_INT" (nat_lit 202) (Value.int (-2147483648) (nat_lit 201))), (de P "MOST_INT" (nat_lit 208) (Value.int 2147483647 (nat_lit 207))), (de P "WHITE" (nat_lit 210) (Value.bytes #[0, 9, 10, 12, 13, 32] (nat_lit 209))), (de P "DELIMITERS" (nat_lit 212) (Value.bytes #[40, 41, 60, 62, 91, 93, 123, 125, 47, 37] (nat_lit 211))), (de P "LINE_FEED" (nat_lit 214) (Value.int 10 (nat_lit 213))), (de P "CARRIAGE_RETURN" (nat_lit 216) (Value.int 13 (nat_lit 215))), (de P "PostError" (nat_lit 245) (Value.ref 39)), (de P "PsError" (nat_lit 261) (Value.ref 52)), (de P "is_white" (nat_lit 268) (Value.ref 61)), (de P "is_delimiter" (nat_lit 275) (Value.ref 68)), (de P "is_line_end" (nat_lit 282) (Value.ref 75)), (de P "is_octal" (nat_lit 289) (Value.ref 82)), (de P "hex_value" (nat_lit 296) (Value.ref 89)), (de P "digit_value" (nat_lit 303) (Value.ref 96)), (de P "INTEGER" (nat_lit 307) (Value.str "integer" (nat_lit 306))), (de P "REAL" (nat_lit 309) (Value.str "real" (nat_lit 308))), (de P "MOST_REAL" (nat_lit 314) (Value.int 1000000000000000000000 (nat_lit 313))), (de P "PLACES" (nat_lit 316) (Value.int 6 (nat_lit 315))), (de P "WORD_SIZE" (nat_lit 320) (Value.int 4294967296 (nat_lit 319))), (de P "MOST_FIGURES" (nat_lit 322) (Value.int 6 (nat_lit 321))), (de P "divided" (nat_lit 333) (Value.ref 103)), (de P "is_integer_size" (nat_lit 340) (Value.ref 110)), (de P "checked_real" (nat_lit 347) (Value.ref 117)), (de P "real_of" (nat_lit 354) (Value.ref 124)), (de P "whole_number" (nat_lit 361) (Value.ref 131)), (de P "figures_value" (nat_lit 372) (Value.ref 138)), (de P "read_radix" (nat_lit 382) (Value.ref 145)), (de P "signed_word" (nat_lit 390) (Value.ref 152)), (de P "read_exponent" (nat_lit 400) (Value.ref 159)), (de P "number_scaled" (nat_lit 408) (Value.ref 166)), (de P "split_at" (nat_lit 418) (Value.ref 173)), (de P "read_real" (nat_lit 433) (Value.ref 180)), (de P "read_number" (nat_lit 445) (Value.ref 187)), (de P "READ_ONLY" (nat_lit 449) (Value.int 2 (nat_lit 448))), (de P "UNLIMITED" (nat_lit 451) (Value.int 3 (nat_lit 450))), (de P "Thing" (nat_lit 486) (Value.ref 205)), (de P "Text" (nat_lit 521) (Value.ref 226)), (de P "Row" (nat_lit 556) (Value.ref 247))] 49) #[]))
@[reducible] noncomputable def o_278 : Params → Obj := (fun _ => (Obj.mk Value.none none (Data.fields (List.toArray ((Value.int 1 (nat_lit 0)) :: (Value.int 0 (nat_lit 0)) :: (Value.ref 20) :: (Value.int 12 (nat_lit 0)) :: (Value.int 0 (nat_lit 0)) :: (Value.ref 27) :: (Value.int 16 (nat_lit 0)) :: (Value.int 0 (nat_lit 0)) :: (Value.ref 48) :: (Value.int 18 (nat_lit 0)) :: (Value.int 0 (nat_lit 0)) :: (Value.ref 60) :: (Value.int 20 (nat_lit 0)) :: (Value.int 0 (nat_lit 0)) :: (Value.ref 67) :: (Value.int 22 (nat_lit 0)) :: (Value.int 0 (nat_lit 0)) :: (Value.ref 74) :: (Value.int 24 (nat_lit 0)) :: (Value.int 0 (nat_lit 0)) :: (Value.ref 81) :: (Value.int 26 (nat_lit 0)) :: (Value.int 0 (nat_lit 0)) :: (Value.ref 88) :: (Value.int 34 (nat_lit 0)) :: (Value.int 0 (nat_lit 0)) :: (Value.ref 95) :: (Value.int 49 (nat_lit 0)) :: (Value.int 0 (nat_lit 0)) :: (Value.ref 102) :: (Value.int 53 (nat_lit 0)) :: (Value.int 0 (nat_lit 0)) :: (Value.ref 109) :: (Value.int 55 (nat_lit 0)) :: (Value.int 0 (nat_lit 0)) :: (Value.ref 116) :: (Value.int 59 (nat_lit 0)) :: (Value.int 0 (nat_lit 0)) :: (Value.ref 123) :: (Value.int 61 (nat_lit 0)) :: (Value.int 0 (nat_lit 0)) :: (Value.ref 130) :: (Value.int 65 (nat_lit 0)) :: (Value.int 0 (nat_lit 0)) :: (Value.ref 137) :: (Value.int 75 (nat_lit 0)) :: (Value.int 0 (nat_lit 0)) :: (Value.ref 144) :: (Value.int 85 (nat_lit 0)) :: (Value.int 0 (nat_lit 0)) :: (Value.ref 151) :: (Value.int 88 (nat_lit 0)) :: (Value.int 0 (nat_lit 0)) :: (Value.ref 158) :: (Value.int 96 (nat_lit 0)) :: (Value.int 0 (nat_lit 0)) :: (Value.ref 165) :: (Value.int 106 (nat_lit 0)) :: (Value.int 0 (nat_lit 0)) :: (Value.ref 172) :: (Value.int 111 (nat_lit 0)) :: (Value.int 0 (nat_lit 0)) :: (Value.ref 179) :: (Value.int 122 (nat_lit 0)) :: (Value.int 0 (nat_lit 0)) :: (Value.ref 186) :: (Value.int 135 (nat_lit 0)) :: (Value.int 0 (nat_lit 0)) :: (Value.ref 193) :: (Value.int 142 (nat_lit 0)) :: (Value.int 0 (nat_lit 0)) :: (Value.ref 215) :: (Value.int 149 (nat_lit 0)) :: (Value.int 0 (nat_lit 0)) :: (Value.ref 236) :: []))) #[]))
@[reducible] noncomputable def o_281 : Params → Obj := (fun P => (Obj.mk (Value.type "dict") none (Data.dict #[(de P "__module__" (nat_lit 529) (Value.str "postcore.objects" (nat_lit 446))), (de P "__qualname__" (nat_lit 531) (Value.str "Row" (nat_lit 530))), (de P "__firstlineno__" (nat_lit 533) (Value.int 149 (nat_lit 532))), (de P "__init__" (nat_lit 544) (Value.ref 244)), (de P "__static_attributes__" (nat_lit 549) (Value.ref 245))] 5) #[]))
@[reducible] noncomputable def o_283 : Params → Obj := (fun _ => (Obj.mk Value.none none (Data.fields #[(Value.int 151 (nat_lit 0)), (Value.int 4 (nat_lit 0)), (Value.ref 243)]) #[]))
@[reducible] noncomputable def o_284 : Params → Obj := (fun _ => (Obj.mk (Value.type "code") none (Data.fields #[(Value.str "Row" (nat_lit 524)), (Value.str "Row" (nat_lit 525)), (Value.str "/claim/cut.py" (nat_lit 526)), (Value.int 149 (nat_lit 0)), (Value.int 0 (nat_lit 0)), (Value.int 0 (nat_lit 0)), (Value.int 0 (nat_lit 0)), (Value.int 0 (nat_lit 0)), (Value.ref 234), (Value.bool false), (Value.int 181 (nat_lit 0)), (Value.ref 235), Value.none, Value.none, Value.none, Value.none, (Value.int 527 (nat_lit 0)), (Value.int 149 (nat_lit 0)), (Value.str "/claim/cut.py" (nat_lit 528))]) #[]))
@[reducible] noncomputable def o_285 : Params → Obj := (fun _ => (Obj.mk (Value.type "frame") none Data.plain #[(Option.some (Value.ref 236)), (Option.some (Value.ref 3)), (Option.some (Value.ref 233)), none, (Option.some (Value.str "postcore.objects" (nat_lit 446))), none, (Option.some (Value.ref 0))]))
@[reducible] noncomputable def o_288 : Params → Obj := (fun _ => (Obj.mk (Value.type "tuple") none (Data.seq #[(Value.str "self" (nat_lit 537)), (Value.str "number" (nat_lit 538)), (Value.str "things" (nat_lit 539)), (Value.str "is_global" (nat_lit 540)), (Value.str "level" (nat_lit 541))] 0) #[]))
@[reducible] noncomputable def o_290 : Params → Obj := (fun _ => (Obj.mk Value.none none (Data.func (fd (st := at_ [42, 0]) rfl "Row.__init__" 0 [] Value.none Value.none Value.none Value.none none Value.none Value.none 0)) #[]))
@[reducible] noncomputable def o_291 : Params → Obj := (fun _ => (Obj.mk (Value.type "code") none (Data.fields #[(Value.str "__init__" (nat_lit 534)), (Value.str "Row.__init__" (nat_lit 535)), (Value.str "/claim/cut.py" (nat_lit 536)), (Value.int 151 (nat_lit 0)), (Value.int 5 (nat_lit 0)), (Value.int 0 (nat_lit 0)), (Value.int 0 (nat_lit 0)), (Value.int 3 (nat_lit 0)), (Value.ref 238), (Value.bool true), (Value.int 181 (nat_lit 0)), (Value.ref 239), Value.none, (Value.ref 240), (Value.ref 241), (Value.ref 242), (Value.int 542 (nat_lit 0)), (Value.int 151 (nat_lit 0)), (Value.str "/claim/cut.py" (nat_lit 543))]) #[]))
@[reducible] noncomputable def o_292 : Params → Obj := (fun _ => (Obj.mk (Value.type "function") none (Data.func (fd (st := at_ [42, 0]) rfl "Row.__init__" 3 [] Value.none Value.none Value.none (Value.str "postcore.objects" (nat_lit 446)) none (Value.ref 243) Value.none 0)) #[]))
@[reducible] noncomputable def o_293 : Params → Obj := (fun _ => (Obj.mk (Value.type "tuple") none (Data.seq #[(Value.str "is_global" (nat_lit 545)), (Value.str "level" (nat_lit 546)), (Value.str "number" (nat_lit 547)), (Value.str "things" (nat_lit 548))] 0) #[]))
@[reducible] noncomputable def o_294 : Params → Obj := (fun P => (Obj.mk (Value.type "dict") none (Data.dict #[(de P "__module__" (nat_lit 529) (Value.str "postcore.objects" (nat_lit 446))), (de P "__firstlineno__" (nat_lit 533) (Value.int 149 (nat_lit 532))), (de P "__init__" (nat_lit 544) (Value.ref 244)), (de P "__static_attributes__" (nat_lit 549) (Value.ref 245)), (de P "__dict__" (nat_lit 551) (Value.ref 248)), (de P "__weakref__" (nat_lit 553) (Value.ref 249)), (de P "__doc__" (nat_lit 554) Value.none)] 4) #[]))
@[reducible] noncomputable def o_295 : Params → Obj := (fun _ => (Obj.mk (Value.type "type") none (Data.cls (ClassData.mk "Row" [(Value.type "object")] [(Value.ref 247), (Value.type "object")] 246 "Row" true [] [] false none false)) #[none, none, (Option.some (Value.str "Row" (nat_lit 522))), (Option.some (Value.str "Row" (nat_lit 530))), (Option.some (Value.builtin "object.__new__")), (Option.some (Value.bool true))]))
@[reducible] noncomputable def o_296 : Params → Obj := (fun _ => (Obj.mk (Value.type "getset_descriptor") none (Data.fields #[(Value.str "__dict__" (nat_lit 550)), (Value.ref 247), (Value.builtin "function.__dict__"), (Value.builtin "function.__dict__#set")]) #[]))
@[reducible] noncomputable def o_297 : Params → Obj := (fun _ => (Obj.mk (Value.type "getset_descriptor") none (Data.fields #[(Value.str "__weakref__" (nat_lit 552)), (Value.ref 247), (Value.builtin "ExceptionGroup.__weakref__"), Value.none]) #[]))
@[reducible] noncomputable def o_298 : Params → Obj := (fun _ => (Obj.mk (Value.type "super") none (Data.fields #[(Value.ref 247), (Value.ref 247), (Value.ref 247)]) #[]))
@[reducible] noncomputable def o_299 : Params → Obj := (fun _ => (Obj.mk (Value.type "builtin_function_or_method") none (Data.fields #[(Value.builtin "object.__init_subclass__"), (Value.ref 247)]) #[]))
@[reducible] noncomputable def o_300 : Params → Obj := (fun P => (Obj.mk (Value.type "dict") none (Data.dict #[(de P "__name__" (nat_lit 165) (Value.str "postcore.objects" (nat_lit 446))), (de P "__doc__" (nat_lit 166) Value.none), (de P "__package__" (nat_lit 167) Value.none), (de P "__loader__" (nat_lit 168) (Value.builtin "__main__.__loader__#opaque")), (de P "__spec__" (nat_lit 169) Value.none), (de P "__annotations__" (nat_lit 170) (Value.ref 6)), (de P "__builtins__" (nat_lit 171) (Value.ref 4)), (de P "__file__" (nat_lit 173) (Value.str "/claim/cut.py" (nat_lit 172))), (de P "__cached__" (nat_lit 174) Value.none), (de P "_wall" (nat_lit 193) (Value.ref 21)), (de P "GRAIN" (nat_lit 197) (Value.int 1000000 (nat_lit 196))), (de P "LEAST_INT" (nat_lit 202) (Value.int (-2147483648) (nat_lit 201))), (de P "MOST_INT" (nat_lit 208) (Value.int 2147483647 (nat_lit 207))), (de P "WHITE" (nat_lit 210) (Value.bytes #[0, 9, 10, 12, 13, 32] (nat_lit 209))), (de P "DELIMITERS" (nat_lit 212) (Value.bytes #[40, 41, 60, 62, 91, 93, 123, 125, 47, 37] (nat_lit 211))), (de P "LINE_FEED" (nat_lit 214) (Value.int 10 (nat_lit 213))), (de P "CARRIAGE_RETURN" (nat_lit 216) (Value.int 13 (nat_lit 215))), (de P "PostError" (nat_lit 245) (Value.ref 39)), (de P "PsError" (nat_lit 261) (Value.ref 52)), (de P "is_white" (nat_lit 268) (Value.ref 61)), (de P "is_delimiter" (nat_lit 275) (Value.ref 68)), (de P "is_line_end" (nat_lit 282) (Value.ref 75)), (de P "is_octal" (nat_lit 289) (Value.ref 82)), (de P "hex_value" (nat_lit 296) (Value.ref 89)), (de P "digit_value" (nat_lit 303) (Value.ref 96)), (de P "INTEGER" (nat_lit 307) (Value.str "integer" (nat_lit 306))), (de P "REAL" (nat_lit 309) (Value.str "real" (nat_lit 308))), (de P "MOST_REAL" (nat_lit 314) (Value.int 1000000000000000000000 (nat_lit 313))), (de P "PLACES" (nat_lit 316) (Value.int 6 (nat_lit 315))), (de P "WORD_SIZE" (nat_lit 320) (Value.int 4294967296 (nat_lit 319))), (de P "MOST_FIGURES" (nat_lit 322) (Value.int 6 (nat_lit 321))), (de P "divided" (nat_lit 333) (Value.ref 103)), (de P "is_integer_size" (nat_lit 340) (Value.ref 110)), (de P "checked_real" (nat_lit 347) (Value.ref 117)), (de P "real_of" (nat_lit 354) (Value.ref 124)), (de P "whole_number" (nat_lit 361) (Value.ref 131)), (de P "figures_value" (nat_lit 372) (Value.ref 138)), (de P "read_radix" (nat_lit 382) (Value.ref 145)), (de P "signed_word" (nat_lit 390) (Value.ref 152)), (de P "read_exponent" (nat_lit 400) (Value.ref 159)), (de P "number_scaled" (nat_lit 408) (Value.ref 166)), (de P "split_at" (nat_lit 418) (Value.ref 173)), (de P "read_real" (nat_lit 433) (Value.ref 180)), (de P "read_number" (nat_lit 445) (Value.ref 187)), (de P "READ_ONLY" (nat_lit 449) (Value.int 2 (nat_lit 448))), (de P "UNLIMITED" (nat_lit 451) (Value.int 3 (nat_lit 450))), (de P "Thing" (nat_lit 486) (Value.ref 205)), (de P "Text" (nat_lit 521) (Value.ref 226)), (de P "Row" (nat_lit 556) (Value.ref 247)), (de P "Span" (nat_lit 589) (Value.ref 268)), (de P "integer" (nat_lit 596) (Value.ref 279)), (de P "real" (nat_lit 603) (Value.ref 286)), (de P "name" (nat_lit 611) (Value.ref 294)), (de P "null" (nat_lit 617) (Value.ref 301)), (de P "of_string" (nat_lit 626) (Value.ref 309))] 55) #[]))
@[reducible] noncomputable def o_301 : Params → Obj := (fun _ => (Obj.mk Value.none none (Data.fields (List.toArray ((Value.int 1 (nat_lit 0)) :: (Value.int 0 (nat_lit 0)) :: (Value.ref 20) :: (Value.int 12 (nat_lit 0)) :: (Value.int 0 (nat_lit 0)) :: (Value.ref 27) :: (Value.int 16 (nat_lit 0)) :: (Value.int 0 (nat_lit 0)) :: (Value.ref 48) :: (Value.int 18 (nat_lit 0)) :: (Value.int 0 (nat_lit 0)) :: (Value.ref 60) :: (Value.int 20 (nat_lit 0)) :: (Value.int 0 (nat_lit 0)) :: (Value.ref 67) :: (Value.int 22 (nat_lit 0)) :: (Value.int 0 (nat_lit 0)) :: (Value.ref 74) :: (Value.int 24 (nat_lit 0)) :: (Value.int 0 (nat_lit 0)) :: (Value.ref 81) :: (Value.int 26 (nat_lit 0)) :: (Value.int 0 (nat_lit 0)) :: (Value.ref 88) :: (Value.int 34 (nat_lit 0)) :: (Value.int 0 (nat_lit 0)) :: (Value.ref 95) :: (Value.int 49 (nat_lit 0)) :: (Value.int 0 (nat_lit 0)) :: (Value.ref 102) :: (Value.int 53 (nat_lit 0)) :: (Value.int 0 (nat_lit 0)) :: (Value.ref 109) :: (Value.int 55 (nat_lit 0)) :: (Value.int 0 (nat_lit 0)) :: (Value.ref 116) :: (Value.int 59 (nat_lit 0)) :: (Value.int 0 (nat_lit 0)) :: (Value.ref 123) :: (Value.int 61 (nat_lit 0)) :: (Value.int 0 (nat_lit 0)) :: (Value.ref 130) :: (Value.int 65 (nat_lit 0)) :: (Value.int 0 (nat_lit 0)) :: (Value.ref 137) :: (Value.int 75 (nat_lit 0)) :: (Value.int 0 (nat_lit 0)) :: (Value.ref 144) :: (Value.int 85 (nat_lit 0)) :: (Value.int 0 (nat_lit 0)) :: (Value.ref 151) :: (Value.int 88 (nat_lit 0)) :: (Value.int 0 (nat_lit 0)) :: (Value.ref 158) :: (Value.int 96 (nat_lit 0)) :: (Value.int 0 (nat_lit 0)) :: (Value.ref 165) :: (Value.int 106 (nat_lit 0)) :: (Value.int 0 (nat_lit 0)) :: (Value.ref 172) :: (Value.int 111 (nat_lit 0)) :: (Value.int 0 (nat_lit 0)) :: (Value.ref 179) :: (Value.int 122 (nat_lit 0)) :: (Value.int 0 (nat_lit 0)) :: (Value.ref 186) :: (Value.int 135 (nat_lit 0)) :: (Value.int 0 (nat_lit 0)) :: (Value.ref 193) :: (Value.int 142 (nat_lit 0)) :: (Value.int 0 (nat_lit 0)) :: (Value.ref 215) :: (Value.int 149 (nat_lit 0)) :: (Value.int 0 (nat_lit 0)) :: (Value.ref 236) :: (Value.int 156 (nat_lit 0)) :: (Value.int 0 (nat_lit 0)) :: (Value.ref 257) :: (Value.int 162 (nat_lit 0)) :: (Value.int 0 (nat_lit 0)) :: (Value.ref 278) :: (Value.int 164 (nat_lit 0)) :: (Value.int 0 (nat_lit 0)) :: (Value.ref 285) :: (Value.int 166 (nat_lit 0)) :: (Value.int 0 (nat_lit 0)) :: (Value.ref 293) :: (Value.int 168 (nat_lit 0)) :: (Value.int 0 (nat_lit 0)) :: (Value.ref 300) :: (Value.int 170 (nat_lit 0)) :: (Value.int 0 (nat_lit 0)) :: (Value.ref 308) :: []))) #[]))
@[reducible] noncomputable def o_304 : Params → Obj := (fun P => (Obj.mk (Value.type "dict") none (Data.dict #[(de P "__module__" (nat_lit 564) (Value.str "postcore.objects" (nat_lit 446))), (de P "__qualname__" (nat_lit 566) (Value.str "Span" (nat_lit 565))), (de P "__firstlineno__" (nat_lit 568) (Value.int 156 (nat_lit 567))), (de P "__init__" (nat_lit 578) (Value.ref 265)), (de P "__static_attributes__" (nat_lit 582) (Value.ref 266))] 5) #[]))
@[reducible] noncomputable def o_306 : Params → Obj := (fun _ => (Obj.mk Value.none none (Data.fields #[(Value.int 158 (nat_lit 0)), (Value.int 4 (nat_lit 0)), (Value.ref 264)]) #[]))
@[reducible] noncomputable def o_307 : Params → Obj := (fun _ => (Obj.mk (Value.type "code") none (Data.fields #[(Value.str "Span" (nat_lit 559)), (Value.str "Span" (nat_lit 560)), (Value.str "/claim/cut.py" (nat_lit 561)), (Value.int 156 (nat_lit 0)), (Value.int 0 (nat_lit 0)), (Value.int 0 (nat_lit 0)), (Value.int 0 (nat_lit 0)), (Value.int 0 (nat_lit 0)), (Value.ref 255), (Value.bool false), (Value.int 181 (nat_lit 0)), (Value.ref 256), Value.none, Value.none, Value.none, Value.none, (Value.int 562 (nat_lit 0)), (Value.int 156 (nat_lit 0)), (Value.str "/claim/cut.py" (nat_lit 563))]) #[]))
@[reducible] noncomputable def o_308 : Params → Obj := (fun _ => (Obj.mk (Value.type "frame") none Data.plain #[(Option.some (Value.ref 257)), (Option.some (Value.ref 3)), (Option.some (Value.ref 254)), none, (Option.some (Value.str "postcore.objects" (nat_lit 446))), none, (Option.some (Value.ref 0))]))
@[reducible] noncomputable def o_311 : Params → Obj := (fun _ => (Obj.mk (Value.type "tuple") none (Data.seq #[(Value.str "self" (nat_lit 572)), (Value.str "body" (nat_lit 573)), (Value.str "start" (nat_lit 574)), (Value.str "many" (nat_lit 575))] 0) #[]))
@[reducible] noncomputable def o_313 : Params → Obj := (fun _ => (Obj.mk Value.none none (Data.func (fd (st := at_ [43, 0]) rfl "Span.__init__" 0 [] Value.none Value.none Value.none Value.none none Value.none Value.none 0)) #[]))
@[reducible] noncomputable def o_314 : Params → Obj := (fun _ => (Obj.mk (Value.type "code") none (Data.fields #[(Value.str "__init__" (nat_lit 569)), (Value.str "Span.__init__" (nat_lit 570)), (Value.str "/claim/cut.py" (nat_lit 571)), (Value.int 158 (nat_lit 0)), (Value.int 4 (nat_lit 0)), (Value.int 0 (nat_lit 0)), (Value.int 0 (nat_lit 0)), (Value.int 3 (nat_lit 0)), (Value.ref 259), (Value.bool true), (Value.int 181 (nat_lit 0)), (Value.ref 260), Value.none, (Value.ref 261), (Value.ref 262), (Value.ref 263), (Value.int 576 (nat_lit 0)), (Value.int 158 (nat_lit 0)), (Value.str "/claim/cut.py" (nat_lit 577))]) #[]))
@[reducible] noncomputable def o_315 : Params → Obj := (fun _ => (Obj.mk (Value.type "function") none (Data.func (fd (st := at_ [43, 0]) rfl "Span.__init__" 3 [] Value.none Value.none Value.none (Value.str "postcore.objects" (nat_lit 446)) none (Value.ref 264) Value.none 0)) #[]))
@[reducible] noncomputable def o_316 : Params → Obj := (fun _ => (Obj.mk (Value.type "tuple") none (Data.seq #[(Value.str "body" (nat_lit 579)), (Value.str "many" (nat_lit 580)), (Value.str "start" (nat_lit 581))] 0) #[]))
@[reducible] noncomputable def o_317 : Params → Obj := (fun P => (Obj.mk (Value.type "dict") none (Data.dict #[(de P "__module__" (nat_lit 564) (Value.str "postcore.objects" (nat_lit 446))), (de P "__firstlineno__" (nat_lit 568) (Value.int 156 (nat_lit 567))), (de P "__init__" (nat_lit 578) (Value.ref 265)), (de P "__static_attributes__" (nat_lit 582) (Value.ref 266)), (de P "__dict__" (nat_lit 584) (Value.ref 269)), (de P "__weakref__" (nat_lit 586) (Value.ref 270)), (de P "__doc__" (nat_lit 587) Value.none)] 4) #[]))
@[reducible] noncomputable def o_318 : Params → Obj := (fun _ => (Obj.mk (Value.type "type") none (Data.cls (ClassData.mk "Span" [(Value.type "object")] [(Value.ref 268), (Value.type "object")] 267 "Span" true [] [] false none false)) #[none, none, (Option.some (Value.str "Span" (nat_lit 557))), (Option.some (Value.str "Span" (nat_lit 565))), (Option.some (Value.builtin "object.__new__")), (Option.some (Value.bool true))]))
@[reducible] noncomputable def o_319 : Params → Obj := (fun _ => (Obj.mk (Value.type "getset_descriptor") none (Data.fields #[(Value.str "__dict__" (nat_lit 583)), (Value.ref 268), (Value.builtin "function.__dict__"), (Value.builtin "function.__dict__#set")]) #[]))
@[reducible] noncomputable def o_320 : Params → Obj := (fun _ => (Obj.mk (Value.type "getset_descriptor") none (Data.fields #[(Value.str "__weakref__" (nat_lit 585)), (Value.ref 268), (Value.builtin "ExceptionGroup.__weakref__"), Value.none]) #[]))
@[reducible] noncomputable def o_321 : Params → Obj := (fun _ => (Obj.mk (Value.type "super") none (Data.fields #[(Value.ref 268), (Value.ref 268), (Value.ref 268)]) #[]))
@[reducible] noncomputable def o_322 : Params → Obj := (fun _ => (Obj.mk (Value.type "builtin_function_or_method") none (Data.fields #[(Value.builtin "object.__init_subclass__"), (Value.ref 268)]) #[]))
@[reducible] noncomputable def o_325 : Params → Obj := (fun _ => (Obj.mk (Value.type "tuple") none (Data.seq #[(Value.str "number" (nat_lit 593))] 0) #[]))
@[reducible] noncomputable def o_327 : Params → Obj := (fun _ => (Obj.mk Value.none none (Data.func (fd (st := at_ [44]) rfl "integer" 0 [] Value.none Value.none Value.none Value.none none Value.none Value.none 0)) #[]))
@[reducible] noncomputable def o_328 : Params → Obj := (fun _ => (Obj.mk (Value.type "code") none (Data.fields #[(Value.str "integer" (nat_lit 590)), (Value.str "integer" (nat_lit 591)), (Value.str "/claim/cut.py" (nat_lit 592)), (Value.int 162 (nat_lit 0)), (Value.int 1 (nat_lit 0)), (Value.int 0 (nat_lit 0)), (Value.int 0 (nat_lit 0)), (Value.int 3 (nat_lit 0)), (Value.ref 273), (Value.bool true), (Value.int 181 (nat_lit 0)), (Value.ref 274), Value.none, (Value.ref 275), (Value.ref 276), (Value.ref 277), (Value.int 594 (nat_lit 0)), (Value.int 162 (nat_lit 0)), (Value.str "/claim/cut.py" (nat_lit 595))]) #[]))
@[reducible] noncomputable def o_329 : Params → Obj := (fun _ => (Obj.mk (Value.type "function") none (Data.func (fd (st := at_ [44]) rfl "integer" 3 [] Value.none Value.none Value.none (Value.str "postcore.objects" (nat_lit 446)) none (Value.ref 278) Value.none 0)) #[]))
@[reducible] noncomputable def o_332 : Params → Obj := (fun _ => (Obj.mk (Value.type "tuple") none (Data.seq #[(Value.str "millionths" (nat_lit 600))] 0) #[]))
@[reducible] noncomputable def o_334 : Params → Obj := (fun _ => (Obj.mk Value.none none (Data.func (fd (st := at_ [45]) rfl "real" 0 [] Value.none Value.none Value.none Value.none none Value.none Value.none 0)) #[]))
@[reducible] noncomputable def o_335 : Params → Obj := (fun _ => (Obj.mk (Value.type "code") none (Data.fields #[(Value.str "real" (nat_lit 597)), (Value.str "real" (nat_lit 598)), (Value.str "/claim/cut.py" (nat_lit 599)), (Value.int 164 (nat_lit 0)), (Value.int 1 (nat_lit 0)), (Value.int 0 (nat_lit 0)), (Value.int 0 (nat_lit 0)), (Value.int 3 (nat_lit 0)), (Value.ref 280), (Value.bool true), (Value.int 181 (nat_lit 0)), (Value.ref 281), Value.none, (Value.ref 282), (Value.ref 283), (Value.ref 284), (Value.int 601 (nat_lit 0)), (Value.int 164 (nat_lit 0)), (Value.str "/claim/cut.py" (nat_lit 602))]) #[]))
@[reducible] noncomputable def o_336 : Params → Obj := (fun _ => (Obj.mk (Value.type "function") none (Data.func (fd (st := at_ [45]) rfl "real" 3 [] Value.none Value.none Value.none (Value.str "postcore.objects" (nat_lit 446)) none (Value.ref 285) Value.none 0)) #[]))
@[reducible] noncomputable def o_337 : Params → Obj := (fun _ => (Obj.mk (Value.type "tuple") none (Data.seq #[(Value.bool false)] 0) #[]))
@[reducible] noncomputable def o_340 : Params → Obj := (fun _ => (Obj.mk (Value.type "tuple") none (Data.seq #[(Value.str "octets" (nat_lit 607)), (Value.str "is_exec" (nat_lit 608))] 0) #[]))
@[reducible] noncomputable def o_342 : Params → Obj := (fun _ => (Obj.mk Value.none none (Data.func (fd (st := at_ [46]) rfl "name" 0 [] Value.none Value.none Value.none Value.none none Value.none Value.none 0)) #[]))
@[reducible] noncomputable def o_343 : Params → Obj := (fun _ => (Obj.mk (Value.type "code") none (Data.fields #[(Value.str "name" (nat_lit 604)), (Value.str "name" (nat_lit 605)), (Value.str "/claim/cut.py" (nat_lit 606)), (Value.int 166 (nat_lit 0)), (Value.int 2 (nat_lit 0)), (Value.int 0 (nat_lit 0)), (Value.int 0 (nat_lit 0)), (Value.int 3 (nat_lit 0)), (Value.ref 288), (Value.bool true), (Value.int 181 (nat_lit 0)), (Value.ref 289), Value.none, (Value.ref 290), (Value.ref 291), (Value.ref 292), (Value.int 609 (nat_lit 0)), (Value.int 166 (nat_lit 0)), (Value.str "/claim/cut.py" (nat_lit 610))]) #[]))
@[reducible] noncomputable def o_344 : Params → Obj := (fun _ => (Obj.mk (Value.type "function") none (Data.func (fd (st := at_ [46]) rfl "name" 3 [] (Value.ref 287) Value.none Value.none (Value.str "postcore.objects" (nat_lit 446)) none (Value.ref 293) Value.none 0)) #[]))
@[reducible] noncomputable def o_349 : Params → Obj := (fun _ => (Obj.mk Value.none none (Data.func (fd (st := at_ [47]) rfl "null" 0 [] Value.none Value.none Value.none Value.none none Value.none Value.none 0)) #[]))
@[reducible] noncomputable def o_350 : Params → Obj := (fun _ => (Obj.mk (Value.type "code") none (Data.fields #[(Value.str "null" (nat_lit 612)), (Value.str "null" (nat_lit 613)), (Value.str "/claim/cut.py" (nat_lit 614)), (Value.int 168 (nat_lit 0)), (Value.int 0 (nat_lit 0)), (Value.int 0 (nat_lit 0)), (Value.int 0 (nat_lit 0)), (Value.int 3 (nat_lit 0)), (Value.ref 295), (Value.bool true), (Value.int 181 (nat_lit 0)), (Value.ref 296), Value.none, (Value.ref 297), (Value.ref 298), (Value.ref 299), (Value.int 615 (nat_lit 0)), (Value.int 168 (nat_lit 0)), (Value.str "/claim/cut.py" (nat_lit 616))]) #[]))
@[reducible] noncomputable def o_351 : Params → Obj := (fun _ => (Obj.mk (Value.type "function") none (Data.func (fd (st := at_ [47]) rfl "null" 3 [] Value.none Value.none Value.none (Value.str "postcore.objects" (nat_lit 446)) none (Value.ref 300) Value.none 0)) #[]))
@[reducible] noncomputable def o_355 : Params → Obj := (fun _ => (Obj.mk (Value.type "tuple") none (Data.seq #[(Value.str "text" (nat_lit 621)), (Value.str "is_exec" (nat_lit 622)), (Value.str "access" (nat_lit 623))] 0) #[]))
@[reducible] noncomputable def o_357 : Params → Obj := (fun _ => (Obj.mk Value.none none (Data.func (fd (st := at_ [48]) rfl "of_string" 0 [] Value.none Value.none Value.none Value.none none Value.none Value.none 0)) #[]))
@[reducible] noncomputable def o_358 : Params → Obj := (fun _ => (Obj.mk (Value.type "code") none (Data.fields #[(Value.str "of_string" (nat_lit 618)), (Value.str "of_string" (nat_lit 619)), (Value.str "/claim/cut.py" (nat_lit 620)), (Value.int 170 (nat_lit 0)), (Value.int 3 (nat_lit 0)), (Value.int 0 (nat_lit 0)), (Value.int 0 (nat_lit 0)), (Value.int 3 (nat_lit 0)), (Value.ref 303), (Value.bool true), (Value.int 181 (nat_lit 0)), (Value.ref 304), Value.none, (Value.ref 305), (Value.ref 306), (Value.ref 307), (Value.int 624 (nat_lit 0)), (Value.int 170 (nat_lit 0)), (Value.str "/claim/cut.py" (nat_lit 625))]) #[]))
@[reducible] noncomputable def o_359 : Params → Obj := (fun _ => (Obj.mk (Value.type "function") none (Data.func (fd (st := at_ [48]) rfl "of_string" 3 [] (Value.ref 302) Value.none Value.none (Value.str "postcore.objects" (nat_lit 446)) none (Value.ref 308) Value.none 0)) #[]))
@[reducible] noncomputable def o_360 : Params → Obj := (fun P => (Obj.mk (Value.type "dict") none (Data.dict (List.toArray ((de P "__name__" (nat_lit 165) (Value.str "postcore.scanner" (nat_lit 673))) :: (de P "__doc__" (nat_lit 166) Value.none) :: (de P "__package__" (nat_lit 167) Value.none) :: (de P "__loader__" (nat_lit 168) (Value.builtin "__main__.__loader__#opaque")) :: (de P "__spec__" (nat_lit 169) Value.none) :: (de P "__annotations__" (nat_lit 170) (Value.ref 6)) :: (de P "__builtins__" (nat_lit 171) (Value.ref 4)) :: (de P "__file__" (nat_lit 173) (Value.str "/claim/cut.py" (nat_lit 172))) :: (de P "__cached__" (nat_lit 174) Value.none) :: (de P "_wall" (nat_lit 193) (Value.ref 21)) :: (de P "GRAIN" (nat_lit 197) (Value.int 1000000 (nat_lit 196))) :: (de P "LEAST_INT" (nat_lit 202) (Value.int (-2147483648) (nat_lit 201))) :: (de P "MOST_INT" (nat_lit 208) (Value.int 2147483647 (nat_lit 207))) :: (de P "WHITE" (nat_lit 210) (Value.bytes #[0, 9, 10, 12, 13, 32] (nat_lit 209))) :: (de P "DELIMITERS" (nat_lit 212) (Value.bytes #[40, 41, 60, 62, 91, 93, 123, 125, 47, 37] (nat_lit 211))) :: (de P "LINE_FEED" (nat_lit 214) (Value.int 10 (nat_lit 213))) :: (de P "CARRIAGE_RETURN" (nat_lit 216) (Value.int 13 (nat_lit 215))) :: (de P "PostError" (nat_lit 245) (Value.ref 39)) :: (de P "PsError" (nat_lit 261) (Value.ref 52)) :: (de P "is_white" (nat_lit 268) (Value.ref 61)) :: (de P "is_delimiter" (nat_lit 275) (Value.ref 68)) :: (de P "is_line_end" (nat_lit 282) (Value.ref 75)) :: (de P "is_octal" (nat_lit 289) (Value.ref 82)) :: (de P "hex_value" (nat_lit 296) (Value.ref 89)) :: (de P "digit_value" (nat_lit 303) (Value.ref 96)) :: (de P "INTEGER" (nat_lit 307) (Value.str "integer" (nat_lit 306))) :: (de P "REAL" (nat_lit 309) (Value.str "real" (nat_lit 308))) :: (de P "MOST_REAL" (nat_lit 314) (Value.int 1000000000000000000000 (nat_lit 313))) :: (de P "PLACES" (nat_lit 316) (Value.int 6 (nat_lit 315))) :: (de P "WORD_SIZE" (nat_lit 320) (Value.int 4294967296 (nat_lit 319))) :: (de P "MOST_FIGURES" (nat_lit 322) (Value.int 6 (nat_lit 321))) :: (de P "divided" (nat_lit 333) (Value.ref 103)) :: (de P "is_integer_size" (nat_lit 340) (Value.ref 110)) :: (de P "checked_real" (nat_lit 347) (Value.ref 117)) :: (de P "real_of" (nat_lit 354) (Value.ref 124)) :: (de P "whole_number" (nat_lit 361) (Value.ref 131)) :: (de P "figures_value" (nat_lit 372) (Value.ref 138)) :: (de P "read_radix" (nat_lit 382) (Value.ref 145)) :: (de P "signed_word" (nat_lit 390) (Value.ref 152)) :: (de P "read_exponent" (nat_lit 400) (Value.ref 159)) :: (de P "number_scaled" (nat_lit 408) (Value.ref 166)) :: (de P "split_at" (nat_lit 418) (Value.ref 173)) :: (de P "read_real" (nat_lit 433) (Value.ref 180)) :: (de P "read_number" (nat_lit 445) (Value.ref 187)) :: (de P "READ_ONLY" (nat_lit 449) (Value.int 2 (nat_lit 448))) :: (de P "UNLIMITED" (nat_lit 451) (Value.int 3 (nat_lit 450))) :: (de P "Thing" (nat_lit 486) (Value.ref 205)) :: (de P "Text" (nat_lit 521) (Value.ref 226)) :: (de P "Row" (nat_lit 556) (Value.ref 247)) :: (de P "Span" (nat_lit 589) (Value.ref 268)) :: (de P "integer" (nat_lit 596) (Value.ref 279)) :: (de P "real" (nat_lit 603) (Value.ref 286)) :: (de P "name" (nat_lit 611) (Value.ref 294)) :: (de P "null" (nat_lit 617) (Value.ref 301)) :: (de P "of_string" (nat_lit 626) (Value.ref 309)) :: (de P "of_row" (nat_lit 635) (Value.ref 317)) :: (de P "of_packed" (nat_lit 643) (Value.ref 325)) :: (de P "is_in_array" (nat_lit 650) (Value.ref 332)) :: (de P "body_of" (nat_lit 657) (Value.ref 339)) :: (de P "is_local" (nat_lit 665) (Value.ref 346)) :: (de P "octets_of_span" (nat_lit 672) (Value.ref 353)) :: (de P "SCAN_END" (nat_lit 676) (Value.int 4 (nat_lit 675))) :: (de P "SCAN_FORM_FEED" (nat_lit 678) (Value.int 12 (nat_lit 677))) :: (de P "SCAN_MOST_NAME" (nat_lit 680) (Value.int 127 (nat_lit 679))) :: (de P "SCAN_BASE" (nat_lit 682) (Value.int 85 (nat_lit 681))) :: (de P "SCAN_FIRST" (nat_lit 684) (Value.int 33 (nat_lit 683))) :: (de P "SCAN_OPEN" (nat_lit 686) (Value.int 40 (nat_lit 685))) :: (de P "SCAN_CLOSE" (nat_lit 688) (Value.int 41 (nat_lit 687))) :: (de P "SCAN_SLASH" (nat_lit 690) (Value.int 47 (nat_lit 689))) :: (de P "SCAN_LESS" (nat_lit 692) (Value.int 60 (nat_lit 691))) :: (de P "SCAN_MORE" (nat_lit 694) (Value.int 62 (nat_lit 693))) :: (de P "SCAN_BACKSLASH" (nat_lit 696) (Value.int 92 (nat_lit 695))) :: (de P "SCAN_ROW_OPEN" (nat_lit 698) (Value.int 91 (nat_lit 697))) :: (de P "SCAN_ROW_CLOSE" (nat_lit 700) (Value.int 93 (nat_lit 699))) :: (de P "SCAN_PROC_OPEN" (nat_lit 702) (Value.int 123 (nat_lit 701))) :: (de P "SCAN_PROC_CLOSE" (nat_lit 704) (Value.int 125 (nat_lit 703))) :: (de P "SCAN_TILDE" (nat_lit 706) (Value.int 126 (nat_lit 705))) :: (de P "SCAN_NOUGHTS" (nat_lit 708) (Value.int 122 (nat_lit 707))) :: (de P "SCAN_PERCENT" (nat_lit 710) (Value.int 37 (nat_lit 709))) :: [])) 79) #[]))
@[reducible] noncomputable def o_361 : Params → Obj := (fun _ => (Obj.mk Value.none none (Data.fields (List.toArray ((Value.int 1 (nat_lit 0)) :: (Value.int 0 (nat_lit 0)) :: (Value.ref 20) :: (Value.int 12 (nat_lit 0)) :: (Value.int 0 (nat_lit 0)) :: (Value.ref 27) :: (Value.int 16 (nat_lit 0)) :: (Value.int 0 (nat_lit 0)) :: (Value.ref 48) :: (Value.int 18 (nat_lit 0)) :: (Value.int 0 (nat_lit 0)) :: (Value.ref 60) :: (Value.int 20 (nat_lit 0)) :: (Value.int 0 (nat_lit 0)) :: (Value.ref 67) :: (Value.int 22 (nat_lit 0)) :: (Value.int 0 (nat_lit 0)) :: (Value.ref 74) :: (Value.int 24 (nat_lit 0)) :: (Value.int 0 (nat_lit 0)) :: (Value.ref 81) :: (Value.int 26 (nat_lit 0)) :: (Value.int 0 (nat_lit 0)) :: (Value.ref 88) :: (Value.int 34 (nat_lit 0)) :: (Value.int 0 (nat_lit 0)) :: (Value.ref 95) :: (Value.int 49 (nat_lit 0)) :: (Value.int 0 (nat_lit 0)) :: (Value.ref 102) :: (Value.int 53 (nat_lit 0)) :: (Value.int 0 (nat_lit 0)) :: (Value.ref 109) :: (Value.int 55 (nat_lit 0)) :: (Value.int 0 (nat_lit 0)) :: (Value.ref 116) :: (Value.int 59 (nat_lit 0)) :: (Value.int 0 (nat_lit 0)) :: (Value.ref 123) :: (Value.int 61 (nat_lit 0)) :: (Value.int 0 (nat_lit 0)) :: (Value.ref 130) :: (Value.int 65 (nat_lit 0)) :: (Value.int 0 (nat_lit 0)) :: (Value.ref 137) :: (Value.int 75 (nat_lit 0)) :: (Value.int 0 (nat_lit 0)) :: (Value.ref 144) :: (Value.int 85 (nat_lit 0)) :: (Value.int 0 (nat_lit 0)) :: (Value.ref 151) :: (Value.int 88 (nat_lit 0)) :: (Value.int 0 (nat_lit 0)) :: (Value.ref 158) :: (Value.int 96 (nat_lit 0)) :: (Value.int 0 (nat_lit 0)) :: (Value.ref 165) :: (Value.int 106 (nat_lit 0)) :: (Value.int 0 (nat_lit 0)) :: (Value.ref 172) :: (Value.int 111 (nat_lit 0)) :: (Value.int 0 (nat_lit 0)) :: (Value.ref 179) :: (Value.int 122 (nat_lit 0)) :: (Value.int 0 (nat_lit 0)) :: (Value.ref 186) :: (Value.int 135 (nat_lit 0)) :: (Value.int 0 (nat_lit 0)) :: (Value.ref 193) :: (Value.int 142 (nat_lit 0)) :: (Value.int 0 (nat_lit 0)) :: (Value.ref 215) :: (Value.int 149 (nat_lit 0)) :: (Value.int 0 (nat_lit 0)) :: (Value.ref 236) :: (Value.int 156 (nat_lit 0)) :: (Value.int 0 (nat_lit 0)) :: (Value.ref 257) :: (Value.int 162 (nat_lit 0)) :: (Value.int 0 (nat_lit 0)) :: (Value.ref 278) :: (Value.int 164 (nat_lit 0)) :: (Value.int 0 (nat_lit 0)) :: (Value.ref 285) :: (Value.int 166 (nat_lit 0)) :: (Value.int 0 (nat_lit 0)) :: (Value.ref 293) :: (Value.int 168 (nat_lit 0)) :: (Value.int 0 (nat_lit 0)) :: (Value.ref 300) :: (Value.int 170 (nat_lit 0)) :: (Value.int 0 (nat_lit 0)) :: (Value.ref 308) :: (Value.int 172 (nat_lit 0)) :: (Value.int 0 (nat_lit 0)) :: (Value.ref 316) :: (Value.int 174 (nat_lit 0)) :: (Value.int 0 (nat_lit 0)) :: (Value.ref 324) :: (Value.int 176 (nat_lit 0)) :: (Value.int 0 (nat_lit 0)) :: (Value.ref 331) :: (Value.int 178 (nat_lit 0)) :: (Value.int 0 (nat_lit 0)) :: (Value.ref 338) :: (Value.int 182 (nat_lit 0)) :: (Value.int 0 (nat_lit 0)) :: (Value.ref 345) :: (Value.int 185 (nat_lit 0)) :: (Value.int 0 (nat_lit 0)) :: (Value.ref 352) :: []))) #[]))
@[reducible] noncomputable def o_365 : Params → Obj := (fun _ => (Obj.mk (Value.type "tuple") none (Data.seq #[(Value.str "row" (nat_lit 630)), (Value.str "is_exec" (nat_lit 631)), (Value.str "access" (nat_lit 632))] 0) #[]))
@[reducible] noncomputable def o_367 : Params → Obj := (fun _ => (Obj.mk Value.none none (Data.func (fd (st := at_ [49]) rfl "of_row" 0 [] Value.none Value.none Value.none Value.none none Value.none Value.none 0)) #[]))
@[reducible] noncomputable def o_368 : Params → Obj := (fun _ => (Obj.mk (Value.type "code") none (Data.fields #[(Value.str "of_row" (nat_lit 627)), (Value.str "of_row" (nat_lit 628)), (Value.str "/claim/cut.py" (nat_lit 629)), (Value.int 172 (nat_lit 0)), (Value.int 3 (nat_lit 0)), (Value.int 0 (nat_lit 0)), (Value.int 0 (nat_lit 0)), (Value.int 3 (nat_lit 0)), (Value.ref 311), (Value.bool true), (Value.int 181 (nat_lit 0)), (Value.ref 312), Value.none, (Value.ref 313), (Value.ref 314), (Value.ref 315), (Value.int 633 (nat_lit 0)), (Value.int 172 (nat_lit 0)), (Value.str "/claim/cut.py" (nat_lit 634))]) #[]))
@[reducible] noncomputable def o_369 : Params → Obj := (fun _ => (Obj.mk (Value.type "function") none (Data.func (fd (st := at_ [49]) rfl "of_row" 3 [] (Value.ref 310) Value.none Value.none (Value.str "postcore.objects" (nat_lit 446)) none (Value.ref 316) Value.none 0)) #[]))
@[reducible] noncomputable def o_373 : Params → Obj := (fun _ => (Obj.mk (Value.type "tuple") none (Data.seq #[(Value.str "row" (nat_lit 639)), (Value.str "is_exec" (nat_lit 640))] 0) #[]))
@[reducible] noncomputable def o_375 : Params → Obj := (fun _ => (Obj.mk Value.none none (Data.func (fd (st := at_ [50]) rfl "of_packed" 0 [] Value.none Value.none Value.none Value.none none Value.none Value.none 0)) #[]))
@[reducible] noncomputable def o_376 : Params → Obj := (fun _ => (Obj.mk (Value.type "code") none (Data.fields #[(Value.str "of_packed" (nat_lit 636)), (Value.str "of_packed" (nat_lit 637)), (Value.str "/claim/cut.py" (nat_lit 638)), (Value.int 174 (nat_lit 0)), (Value.int 2 (nat_lit 0)), (Value.int 0 (nat_lit 0)), (Value.int 0 (nat_lit 0)), (Value.int 3 (nat_lit 0)), (Value.ref 319), (Value.bool true), (Value.int 181 (nat_lit 0)), (Value.ref 320), Value.none, (Value.ref 321), (Value.ref 322), (Value.ref 323), (Value.int 641 (nat_lit 0)), (Value.int 174 (nat_lit 0)), (Value.str "/claim/cut.py" (nat_lit 642))]) #[]))
@[reducible] noncomputable def o_377 : Params → Obj := (fun _ => (Obj.mk (Value.type "function") none (Data.func (fd (st := at_ [50]) rfl "of_packed" 3 [] (Value.ref 318) Value.none Value.none (Value.str "postcore.objects" (nat_lit 446)) none (Value.ref 324) Value.none 0)) #[]))
@[reducible] noncomputable def o_380 : Params → Obj := (fun _ => (Obj.mk (Value.type "tuple") none (Data.seq #[(Value.str "thing" (nat_lit 647))] 0) #[]))
@[reducible] noncomputable def o_382 : Params → Obj := (fun _ => (Obj.mk Value.none none (Data.func (fd (st := at_ [51]) rfl "is_in_array" 0 [] Value.none Value.none Value.none Value.none none Value.none Value.none 0)) #[]))
@[reducible] noncomputable def o_383 : Params → Obj := (fun _ => (Obj.mk (Value.type "code") none (Data.fields #[(Value.str "is_in_array" (nat_lit 644)), (Value.str "is_in_array" (nat_lit 645)), (Value.str "/claim/cut.py" (nat_lit 646)), (Value.int 176 (nat_lit 0)), (Value.int 1 (nat_lit 0)), (Value.int 0 (nat_lit 0)), (Value.int 0 (nat_lit 0)), (Value.int 3 (nat_lit 0)), (Value.ref 326), (Value.bool true), (Value.int 181 (nat_lit 0)), (Value.ref 327), Value.none, (Value.ref 328), (Value.ref 329), (Value.ref 330), (Value.int 648 (nat_lit 0)), (Value.int 176 (nat_lit 0)), (Value.str "/claim/cut.py" (nat_lit 649))]) #[]))
@[reducible] noncomputable def o_384 : Params → Obj := (fun _ => (Obj.mk (Value.type "function") none (Data.func (fd (st := at_ [51]) rfl "is_in_array" 3 [] Value.none Value.none Value.none (Value.str "postcore.objects" (nat_lit 446)) none (Value.ref 331) Value.none 0)) #[]))
@[reducible] noncomputable def o_387 : Params → Obj := (fun _ => (Obj.mk (Value.type "tuple") none (Data.seq #[(Value.str "thing" (nat_lit 654))] 0) #[]))
@[reducible] noncomputable def o_389 : Params → Obj := (fun _ => (Obj.mk Value.none none (Data.func (fd (st := at_ [52]) rfl "body_of" 0 [] Value.none Value.none Value.none Value.none none Value.none Value.none 0)) #[]))
@[reducible] noncomputable def o_390 : Params → Obj := (fun _ => (Obj.mk (Value.type "code") none (Data.fields #[(Value.str "body_of" (nat_lit 651)), (Value.str "body_of" (nat_lit 652)), (Value.str "/claim/cut.py" (nat_lit 653)), (Value.int 178 (nat_lit 0)), (Value.int 1 (nat_lit 0)), (Value.int 0 (nat_lit 0)), (Value.int 0 (nat_lit 0)), (Value.int 3 (nat_lit 0)), (Value.ref 333), (Value.bool true), (Value.int 181 (nat_lit 0)), (Value.ref 334), Value.none, (Value.ref 335), (Value.ref 336), (Value.ref 337), (Value.int 655 (nat_lit 0)), (Value.int 178 (nat_lit 0)), (Value.str "/claim/cut.py" (nat_lit 656))]) #[]))
@[reducible] noncomputable def o_391 : Params → Obj := (fun _ => (Obj.mk (Value.type "function") none (Data.func (fd (st := at_ [52]) rfl "body_of" 3 [] Value.none Value.none Value.none (Value.str "postcore.objects" (nat_lit 446)) none (Value.ref 338) Value.none 0)) #[]))
@[reducible] noncomputable def o_394 : Params → Obj := (fun _ => (Obj.mk (Value.type "tuple") none (Data.seq #[(Value.str "thing" (nat_lit 661)), (Value.str "body" (nat_lit 662))] 0) #[]))
@[reducible] noncomputable def o_396 : Params → Obj := (fun _ => (Obj.mk Value.none none (Data.func (fd (st := at_ [53]) rfl "is_local" 0 [] Value.none Value.none Value.none Value.none none Value.none Value.none 0)) #[]))
@[reducible] noncomputable def o_397 : Params → Obj := (fun _ => (Obj.mk (Value.type "code") none (Data.fields #[(Value.str "is_local" (nat_lit 658)), (Value.str "is_local" (nat_lit 659)), (Value.str "/claim/cut.py" (nat_lit 660)), (Value.int 182 (nat_lit 0)), (Value.int 1 (nat_lit 0)), (Value.int 0 (nat_lit 0)), (Value.int 0 (nat_lit 0)), (Value.int 3 (nat_lit 0)), (Value.ref 340), (Value.bool true), (Value.int 181 (nat_lit 0)), (Value.ref 341), Value.none, (Value.ref 342), (Value.ref 343), (Value.ref 344), (Value.int 663 (nat_lit 0)), (Value.int 182 (nat_lit 0)), (Value.str "/claim/cut.py" (nat_lit 664))]) #[]))
@[reducible] noncomputable def o_398 : Params → Obj := (fun _ => (Obj.mk (Value.type "function") none (Data.func (fd (st := at_ [53]) rfl "is_local" 3 [] Value.none Value.none Value.none (Value.str "postcore.objects" (nat_lit 446)) none (Value.ref 345) Value.none 0)) #[]))
@[reducible] noncomputable def o_401 : Params → Obj := (fun _ => (Obj.mk (Value.type "tuple") none (Data.seq #[(Value.str "span" (nat_lit 669))] 0) #[]))
@[reducible] noncomputable def o_403 : Params → Obj := (fun _ => (Obj.mk Value.none none (Data.func (fd (st := at_ [54]) rfl "octets_of_span" 0 [] Value.none Value.none Value.none Value.none none Value.none Value.none 0)) #[]))
@[reducible] noncomputable def o_404 : Params → Obj := (fun _ => (Obj.mk (Value.type "code") none (Data.fields #[(Value.str "octets_of_span" (nat_lit 666)), (Value.str "octets_of_span" (nat_lit 667)), (Value.str "/claim/cut.py" (nat_lit 668)), (Value.int 185 (nat_lit 0)), (Value.int 1 (nat_lit 0)), (Value.int 0 (nat_lit 0)), (Value.int 0 (nat_lit 0)), (Value.int 3 (nat_lit 0)), (Value.ref 347), (Value.bool true), (Value.int 181 (nat_lit 0)), (Value.ref 348), Value.none, (Value.ref 349), (Value.ref 350), (Value.ref 351), (Value.int 670 (nat_lit 0)), (Value.int 185 (nat_lit 0)), (Value.str "/claim/cut.py" (nat_lit 671))]) #[]))
@[reducible] noncomputable def o_405 : Params → Obj := (fun _ => (Obj.mk (Value.type "function") none (Data.func (fd (st := at_ [54]) rfl "octets_of_span" 3 [] Value.none Value.none Value.none (Value.str "postcore.objects" (nat_lit 446)) none (Value.ref 352) Value.none 0)) #[]))
@[reducible] noncomputable def o_406 : Params → Obj := (fun P => (Obj.mk (Value.type "dict") none (Data.dict (List.toArray ((de P "__name__" (nat_lit 165) (Value.str "postcore.scanner" (nat_lit 673))) :: (de P "__doc__" (nat_lit 166) Value.none) :: (de P "__package__" (nat_lit 167) Value.none) :: (de P "__loader__" (nat_lit 168) (Value.builtin "__main__.__loader__#opaque")) :: (de P "__spec__" (nat_lit 169) Value.none) :: (de P "__annotations__" (nat_lit 170) (Value.ref 6)) :: (de P "__builtins__" (nat_lit 171) (Value.ref 4)) :: (de P "__file__" (nat_lit 173) (Value.str "/claim/cut.py" (nat_lit 172))) :: (de P "__cached__" (nat_lit 174) Value.none) :: (de P "_wall" (nat_lit 193) (Value.ref 21)) :: (de P "GRAIN" (nat_lit 197) (Value.int 1000000 (nat_lit 196))) :: (de P "LEAST_INT" (nat_lit 202) (Value.int (-2147483648) (nat_lit 201))) :: (de P "MOST_INT" (nat_lit 208) (Value.int 2147483647 (nat_lit 207))) :: (de P "WHITE" (nat_lit 210) (Value.bytes #[0, 9, 10, 12, 13, 32] (nat_lit 209))) :: (de P "DELIMITERS" (nat_lit 212) (Value.bytes #[40, 41, 60, 62, 91, 93, 123, 125, 47, 37] (nat_lit 211))) :: (de P "LINE_FEED" (nat_lit 214) (Value.int 10 (nat_lit 213))) :: (de P "CARRIAGE_RETURN" (nat_lit 216) (Value.int 13 (nat_lit 215))) :: (de P "PostError" (nat_lit 245) (Value.ref 39)) :: (de P "PsError" (nat_lit 261) (Value.ref 52)) :: (de P "is_white" (nat_lit 268) (Value.ref 61)) :: (de P "is_delimiter" (nat_lit 275) (Value.ref 68)) :: (de P "is_line_end" (nat_lit 282) (Value.ref 75)) :: (de P "is_octal" (nat_lit 289) (Value.ref 82)) :: (de P "hex_value" (nat_lit 296) (Value.ref 89)) :: (de P "digit_value" (nat_lit 303) (Value.ref 96)) :: (de P "INTEGER" (nat_lit 307) (Value.str "integer" (nat_lit 306))) :: (de P "REAL" (nat_lit 309) (Value.str "real" (nat_lit 308))) :: (de P "MOST_REAL" (nat_lit 314) (Value.int 1000000000000000000000 (nat_lit 313))) :: (de P "PLACES" (nat_lit 316) (Value.int 6 (nat_lit 315))) :: (de P "WORD_SIZE" (nat_lit 320) (Value.int 4294967296 (nat_lit 319))) :: (de P "MOST_FIGURES" (nat_lit 322) (Value.int 6 (nat_lit 321))) :: (de P "divided" (nat_lit 333) (Value.ref 103)) :: (de P "is_integer_size" (nat_lit 340) (Value.ref 110)) :: (de P "checked_real" (nat_lit 347) (Value.ref 117)) :: (de P "real_of" (nat_lit 354) (Value.ref 124)) :: (de P "whole_number" (nat_lit 361) (Value.ref 131)) :: (de P "figures_value" (nat_lit 372) (Value.ref 138)) :: (de P "read_radix" (nat_lit 382) (Value.ref 145)) :: (de P "signed_word" (nat_lit 390) (Value.ref 152)) :: (de P "read_exponent" (nat_lit 400) (Value.ref 159)) :: (de P "number_scaled" (nat_lit 408) (Value.ref 166)) :: (de P "split_at" (nat_lit 418) (Value.ref 173)) :: (de P "read_real" (nat_lit 433) (Value.ref 180)) :: (de P "read_number" (nat_lit 445) (Value.ref 187)) :: (de P "READ_ONLY" (nat_lit 449) (Value.int 2 (nat_lit 448))) :: (de P "UNLIMITED" (nat_lit 451) (Value.int 3 (nat_lit 450))) :: (de P "Thing" (nat_lit 486) (Value.ref 205)) :: (de P "Text" (nat_lit 521) (Value.ref 226)) :: (de P "Row" (nat_lit 556) (Value.ref 247)) :: (de P "Span" (nat_lit 589) (Value.ref 268)) :: (de P "integer" (nat_lit 596) (Value.ref 279)) :: (de P "real" (nat_lit 603) (Value.ref 286)) :: (de P "name" (nat_lit 611) (Value.ref 294)) :: (de P "null" (nat_lit 617) (Value.ref 301)) :: (de P "of_string" (nat_lit 626) (Value.ref 309)) :: (de P "of_row" (nat_lit 635) (Value.ref 317)) :: (de P "of_packed" (nat_lit 643) (Value.ref 325)) :: (de P "is_in_array" (nat_lit 650) (Value.ref 332)) :: (de P "body_of" (nat_lit 657) (Value.ref 339)) :: (de P "is_local" (nat_lit 665) (Value.ref 346)) :: (de P "octets_of_span" (nat_lit 672) (Value.ref 353)) :: (de P "SCAN_END" (nat_lit 676) (Value.int 4 (nat_lit 675))) :: (de P "SCAN_FORM_FEED" (nat_lit 678) (Value.int 12 (nat_lit 677))) :: (de P "SCAN_MOST_NAME" (nat_lit 680) (Value.int 127 (nat_lit 679))) :: (de P "SCAN_BASE" (nat_lit 682) (Value.int 85 (nat_lit 681))) :: (de P "SCAN_FIRST" (nat_lit 684) (Value.int 33 (nat_lit 683))) :: (de P "SCAN_OPEN" (nat_lit 686) (Value.int 40 (nat_lit 685))) :: (de P "SCAN_CLOSE" (nat_lit 688) (Value.int 41 (nat_lit 687))) :: (de P "SCAN_SLASH" (nat_lit 690) (Value.int 47 (nat_lit 689))) :: (de P "SCAN_LESS" (nat_lit 692) (Value.int 60 (nat_lit 691))) :: (de P "SCAN_MORE" (nat_lit 694) (Value.int 62 (nat_lit 693))) :: (de P "SCAN_BACKSLASH" (nat_lit 696) (Value.int 92 (nat_lit 695))) :: (de P "SCAN_ROW_OPEN" (nat_lit 698) (Value.int 91 (nat_lit 697))) :: (de P "SCAN_ROW_CLOSE" (nat_lit 700) (Value.int 93 (nat_lit 699))) :: (de P "SCAN_PROC_OPEN" (nat_lit 702) (Value.int 123 (nat_lit 701))) :: (de P "SCAN_PROC_CLOSE" (nat_lit 704) (Value.int 125 (nat_lit 703))) :: (de P "SCAN_TILDE" (nat_lit 706) (Value.int 126 (nat_lit 705))) :: (de P "SCAN_NOUGHTS" (nat_lit 708) (Value.int 122 (nat_lit 707))) :: (de P "SCAN_PERCENT" (nat_lit 710) (Value.int 37 (nat_lit 709))) :: (de P "OctetSource" (nat_lit 764) (Value.ref 393)) :: [])) 80) #[]))
@[reducible] noncomputable def o_407 : Params → Obj := (fun _ => (Obj.mk Value.none none (Data.fields (List.toArray ((Value.int 1 (nat_lit 0)) :: (Value.int 0 (nat_lit 0)) :: (Value.ref 20) :: (Value.int 12 (nat_lit 0)) :: (Value.int 0 (nat_lit 0)) :: (Value.ref 27) :: (Value.int 16 (nat_lit 0)) :: (Value.int 0 (nat_lit 0)) :: (Value.ref 48) :: (Value.int 18 (nat_lit 0)) :: (Value.int 0 (nat_lit 0)) :: (Value.ref 60) :: (Value.int 20 (nat_lit 0)) :: (Value.int 0 (nat_lit 0)) :: (Value.ref 67) :: (Value.int 22 (nat_lit 0)) :: (Value.int 0 (nat_lit 0)) :: (Value.ref 74) :: (Value.int 24 (nat_lit 0)) :: (Value.int 0 (nat_lit 0)) :: (Value.ref 81) :: (Value.int 26 (nat_lit 0)) :: (Value.int 0 (nat_lit 0)) :: (Value.ref 88) :: (Value.int 34 (nat_lit 0)) :: (Value.int 0 (nat_lit 0)) :: (Value.ref 95) :: (Value.int 49 (nat_lit 0)) :: (Value.int 0 (nat_lit 0)) :: (Value.ref 102) :: (Value.int 53 (nat_lit 0)) :: (Value.int 0 (nat_lit 0)) :: (Value.ref 109) :: (Value.int 55 (nat_lit 0)) :: (Value.int 0 (nat_lit 0)) :: (Value.ref 116) :: (Value.int 59 (nat_lit 0)) :: (Value.int 0 (nat_lit 0)) :: (Value.ref 123) :: (Value.int 61 (nat_lit 0)) :: (Value.int 0 (nat_lit 0)) :: (Value.ref 130) :: (Value.int 65 (nat_lit 0)) :: (Value.int 0 (nat_lit 0)) :: (Value.ref 137) :: (Value.int 75 (nat_lit 0)) :: (Value.int 0 (nat_lit 0)) :: (Value.ref 144) :: (Value.int 85 (nat_lit 0)) :: (Value.int 0 (nat_lit 0)) :: (Value.ref 151) :: (Value.int 88 (nat_lit 0)) :: (Value.int 0 (nat_lit 0)) :: (Value.ref 158) :: (Value.int 96 (nat_lit 0)) :: (Value.int 0 (nat_lit 0)) :: (Value.ref 165) :: (Value.int 106 (nat_lit 0)) :: (Value.int 0 (nat_lit 0)) :: (Value.ref 172) :: (Value.int 111 (nat_lit 0)) :: (Value.int 0 (nat_lit 0)) :: (Value.ref 179) :: (Value.int 122 (nat_lit 0)) :: (Value.int 0 (nat_lit 0)) :: (Value.ref 186) :: (Value.int 135 (nat_lit 0)) :: (Value.int 0 (nat_lit 0)) :: (Value.ref 193) :: (Value.int 142 (nat_lit 0)) :: (Value.int 0 (nat_lit 0)) :: (Value.ref 215) :: (Value.int 149 (nat_lit 0)) :: (Value.int 0 (nat_lit 0)) :: (Value.ref 236) :: (Value.int 156 (nat_lit 0)) :: (Value.int 0 (nat_lit 0)) :: (Value.ref 257) :: (Value.int 162 (nat_lit 0)) :: (Value.int 0 (nat_lit 0)) :: (Value.ref 278) :: (Value.int 164 (nat_lit 0)) :: (Value.int 0 (nat_lit 0)) :: (Value.ref 285) :: (Value.int 166 (nat_lit 0)) :: (Value.int 0 (nat_lit 0)) :: (Value.ref 293) :: (Value.int 168 (nat_lit 0)) :: (Value.int 0 (nat_lit 0)) :: (Value.ref 300) :: (Value.int 170 (nat_lit 0)) :: (Value.int 0 (nat_lit 0)) :: (Value.ref 308) :: (Value.int 172 (nat_lit 0)) :: (Value.int 0 (nat_lit 0)) :: (Value.ref 316) :: (Value.int 174 (nat_lit 0)) :: (Value.int 0 (nat_lit 0)) :: (Value.ref 324) :: (Value.int 176 (nat_lit 0)) :: (Value.int 0 (nat_lit 0)) :: (Value.ref 331) :: (Value.int 178 (nat_lit 0)) :: (Value.int 0 (nat_lit 0)) :: (Value.ref 338) :: (Value.int 182 (nat_lit 0)) :: (Value.int 0 (nat_lit 0)) :: (Value.ref 345) :: (Value.int 185 (nat_lit 0)) :: (Value.int 0 (nat_lit 0)) :: (Value.ref 352) :: (Value.int 206 (nat_lit 0)) :: (Value.int 0 (nat_lit 0)) :: (Value.ref 359) :: []))) #[]))
@[reducible] noncomputable def o_410 : Params → Obj := (fun P => (Obj.mk (Value.type "dict") none (Data.dict #[(de P "__module__" (nat_lit 718) (Value.str "postcore.scanner" (nat_lit 673))), (de P "__qualname__" (nat_lit 720) (Value.str "OctetSource" (nat_lit 719))), (de P "__firstlineno__" (nat_lit 722) (Value.int 206 (nat_lit 721))), (de P "__init__" (nat_lit 732) (Value.ref 368)), (de P "place" (nat_lit 740) (Value.ref 376)), (de P "next" (nat_lit 747) (Value.ref 383)), (de P "back" (nat_lit 754) (Value.ref 390)), (de P "__static_attributes__" (nat_lit 757) (Value.ref 391))] 8) #[]))
@[reducible] noncomputable def o_412 : Params → Obj := (fun _ => (Obj.mk Value.none none (Data.fields #[(Value.int 208 (nat_lit 0)), (Value.int 4 (nat_lit 0)), (Value.ref 367), (Value.int 213 (nat_lit 0)), (Value.int 4 (nat_lit 0)), (Value.ref 374), (Value.int 216 (nat_lit 0)), (Value.int 4 (nat_lit 0)), (Value.ref 382), (Value.int 222 (nat_lit 0)), (Value.int 4 (nat_lit 0)), (Value.ref 389)]) #[]))
@[reducible] noncomputable def o_413 : Params → Obj := (fun _ => (Obj.mk (Value.type "code") none (Data.fields #[(Value.str "OctetSource" (nat_lit 713)), (Value.str "OctetSource" (nat_lit 714)), (Value.str "/claim/cut.py" (nat_lit 715)), (Value.int 206 (nat_lit 0)), (Value.int 0 (nat_lit 0)), (Value.int 0 (nat_lit 0)), (Value.int 0 (nat_lit 0)), (Value.int 0 (nat_lit 0)), (Value.ref 357), (Value.bool false), (Value.int 181 (nat_lit 0)), (Value.ref 358), Value.none, Value.none, Value.none, Value.none, (Value.int 716 (nat_lit 0)), (Value.int 206 (nat_lit 0)), (Value.str "/claim/cut.py" (nat_lit 717))]) #[]))
@[reducible] noncomputable def o_414 : Params → Obj := (fun _ => (Obj.mk (Value.type "frame") none Data.plain #[(Option.some (Value.ref 359)), (Option.some (Value.ref 3)), (Option.some (Value.ref 356)), none, (Option.some (Value.str "postcore.scanner" (nat_lit 673))), none, (Option.some (Value.ref 0))]))
@[reducible] noncomputable def o_415 : Params → Obj := (fun _ => (Obj.mk (Value.type "tuple") none (Data.seq #[(Value.int 0 (nat_lit 723))] 0) #[]))
@[reducible] noncomputable def o_418 : Params → Obj := (fun _ => (Obj.mk (Value.type "tuple") none (Data.seq #[(Value.str "self" (nat_lit 727)), (Value.str "octets" (nat_lit 728)), (Value.str "at" (nat_lit 729))] 0) #[]))
@[reducible] noncomputable def o_420 : Params → Obj := (fun _ => (Obj.mk Value.none none (Data.func (fd (st := at_ [74, 0]) rfl "OctetSource.__init__" 0 [] Value.none Value.none Value.none Value.none none Value.none Value.none 0)) #[]))
@[reducible] noncomputable def o_421 : Params → Obj := (fun _ => (Obj.mk (Value.type "code") none (Data.fields #[(Value.str "__init__" (nat_lit 724)), (Value.str "OctetSource.__init__" (nat_lit 725)), (Value.str "/claim/cut.py" (nat_lit 726)), (Value.int 208 (nat_lit 0)), (Value.int 3 (nat_lit 0)), (Value.int 0 (nat_lit 0)), (Value.int 0 (nat_lit 0)), (Value.int 3 (nat_lit 0)), (Value.ref 362), (Value.bool true), (Value.int 181 (nat_lit 0)), (Value.ref 363), Value.none, (Value.ref 364), (Value.ref 365), (Value.ref 366), (Value.int 730 (nat_lit 0)), (Value.int 208 (nat_lit 0)), (Value.str "/claim/cut.py" (nat_lit 731))]) #[]))
@[reducible] noncomputable def o_422 : Params → Obj := (fun _ => (Obj.mk (Value.type "function") none (Data.func (fd (st := at_ [74, 0]) rfl "OctetSource.__init__" 3 [] (Value.ref 361) Value.none Value.none (Value.str "postcore.scanner" (nat_lit 673)) none (Value.ref 367) Value.none 0)) #[]))
@[reducible] noncomputable def o_425 : Params → Obj := (fun _ => (Obj.mk (Value.type "tuple") none (Data.seq #[(Value.str "self" (nat_lit 736))] 0) #[]))
@[reducible] noncomputable def o_427 : Params → Obj := (fun _ => (Obj.mk Value.none none (Data.func (fd (st := at_ [74, 1]) rfl "OctetSource.place" 0 [] Value.none Value.none Value.none Value.none none Value.none Value.none 0)) #[]))
@[reducible] noncomputable def o_428 : Params → Obj := (fun _ => (Obj.mk (Value.type "code") none (Data.fields #[(Value.str "place" (nat_lit 733)), (Value.str "OctetSource.place" (nat_lit 734)), (Value.str "/claim/cut.py" (nat_lit 735)), (Value.int 212 (nat_lit 0)), (Value.int 1 (nat_lit 0)), (Value.int 0 (nat_lit 0)), (Value.int 0 (nat_lit 0)), (Value.int 3 (nat_lit 0)), (Value.ref 369), (Value.bool true), (Value.int 181 (nat_lit 0)), (Value.ref 370), Value.none, (Value.ref 371), (Value.ref 372), (Value.ref 373), (Value.int 737 (nat_lit 0)), (Value.int 212 (nat_lit 0)), (Value.str "/claim/cut.py" (nat_lit 738))]) #[]))
@[reducible] noncomputable def o_429 : Params → Obj := (fun _ => (Obj.mk (Value.type "function") none (Data.func (fd (st := at_ [74, 1]) rfl "OctetSource.place" 3 [] Value.none Value.none Value.none (Value.str "postcore.scanner" (nat_lit 673)) none (Value.ref 374) Value.none 0)) #[]))
@[reducible] noncomputable def o_430 : Params → Obj := (fun _ => (Obj.mk (Value.type "property") none (Data.fields #[(Value.ref 375), Value.none, Value.none, Value.none, (Value.str "place" (nat_lit 740)), (Value.bool false)]) #[]))
@[reducible] noncomputable def o_433 : Params → Obj := (fun _ => (Obj.mk (Value.type "tuple") none (Data.seq #[(Value.str "self" (nat_lit 744))] 0) #[]))
@[reducible] noncomputable def o_435 : Params → Obj := (fun _ => (Obj.mk Value.none none (Data.func (fd (st := at_ [74, 2]) rfl "OctetSource.next" 0 [] Value.none Value.none Value.none Value.none none Value.none Value.none 0)) #[]))
@[reducible] noncomputable def o_436 : Params → Obj := (fun _ => (Obj.mk (Value.type "code") none (Data.fields #[(Value.str "next" (nat_lit 741)), (Value.str "OctetSource.next" (nat_lit 742)), (Value.str "/claim/cut.py" (nat_lit 743)), (Value.int 216 (nat_lit 0)), (Value.int 1 (nat_lit 0)), (Value.int 0 (nat_lit 0)), (Value.int 0 (nat_lit 0)), (Value.int 3 (nat_lit 0)), (Value.ref 377), (Value.bool true), (Value.int 181 (nat_lit 0)), (Value.ref 378), Value.none, (Value.ref 379), (Value.ref 380), (Value.ref 381), (Value.int 745 (nat_lit 0)), (Value.int 216 (nat_lit 0)), (Value.str "/claim/cut.py" (nat_lit 746))]) #[]))
@[reducible] noncomputable def o_437 : Params → Obj := (fun _ => (Obj.mk (Value.type "function") none (Data.func (fd (st := at_ [74, 2]) rfl "OctetSource.next" 3 [] Value.none Value.none Value.none (Value.str "postcore.scanner" (nat_lit 673)) none (Value.ref 382) Value.none 0)) #[]))
@[reducible] noncomputable def o_440 : Params → Obj := (fun _ => (Obj.mk (Value.type "tuple") none (Data.seq #[(Value.str "self" (nat_lit 751))] 0) #[]))
@[reducible] noncomputable def o_442 : Params → Obj := (fun _ => (Obj.mk Value.none none (Data.func (fd (st := at_ [74, 3]) rfl "OctetSource.back" 0 [] Value.none Value.none Value.none Value.none none Value.none Value.none 0)) #[]))
@[reducible] noncomputable def o_443 : Params → Obj := (fun _ => (Obj.mk (Value.type "code") none (Data.fields #[(Value.str "back" (nat_lit 748)), (Value.str "OctetSource.back" (nat_lit 749)), (Value.str "/claim/cut.py" (nat_lit 750)), (Value.int 222 (nat_lit 0)), (Value.int 1 (nat_lit 0)), (Value.int 0 (nat_lit 0)), (Value.int 0 (nat_lit 0)), (Value.int 3 (nat_lit 0)), (Value.ref 384), (Value.bool true), (Value.int 181 (nat_lit 0)), (Value.ref 385), Value.none, (Value.ref 386), (Value.ref 387), (Value.ref 388), (Value.int 752 (nat_lit 0)), (Value.int 222 (nat_lit 0)), (Value.str "/claim/cut.py" (nat_lit 753))]) #[]))
@[reducible] noncomputable def o_444 : Params → Obj := (fun _ => (Obj.mk (Value.type "function") none (Data.func (fd (st := at_ [74, 3]) rfl "OctetSource.back" 3 [] Value.none Value.none Value.none (Value.str "postcore.scanner" (nat_lit 673)) none (Value.ref 389) Value.none 0)) #[]))
@[reducible] noncomputable def o_445 : Params → Obj := (fun _ => (Obj.mk (Value.type "tuple") none (Data.seq #[(Value.str "at" (nat_lit 755)), (Value.str "octets" (nat_lit 756))] 0) #[]))
@[reducible] noncomputable def o_446 : Params → Obj := (fun P => (Obj.mk (Value.type "dict") none (Data.dict #[(de P "__module__" (nat_lit 718) (Value.str "postcore.scanner" (nat_lit 673))), (de P "__firstlineno__" (nat_lit 722) (Value.int 206 (nat_lit 721))), (de P "__init__" (nat_lit 732) (Value.ref 368)), (de P "place" (nat_lit 740) (Value.ref 376)), (de P "next" (nat_lit 747) (Value.ref 383)), (de P "back" (nat_lit 754) (Value.ref 390)), (de P "__static_attributes__" (nat_lit 757) (Value.ref 391)), (de P "__dict__" (nat_lit 759) (Value.ref 394)), (de P "__weakref__" (nat_lit 761) (Value.ref 395)), (de P "__doc__" (nat_lit 762) Value.none)] 4) #[]))
@[reducible] noncomputable def o_447 : Params → Obj := (fun _ => (Obj.mk (Value.type "type") none (Data.cls (ClassData.mk "OctetSource" [(Value.type "object")] [(Value.ref 393), (Value.type "object")] 392 "OctetSource" true [] [] false none false)) #[none, none, (Option.some (Value.str "OctetSource" (nat_lit 711))), (Option.some (Value.str "OctetSource" (nat_lit 719))), (Option.some (Value.builtin "object.__new__")), (Option.some (Value.bool true))]))
@[reducible] noncomputable def o_448 : Params → Obj := (fun _ => (Obj.mk (Value.type "getset_descriptor") none (Data.fields #[(Value.str "__dict__" (nat_lit 758)), (Value.ref 393), (Value.builtin "function.__dict__"), (Value.builtin "function.__dict__#set")]) #[]))
@[reducible] noncomputable def o_449 : Params → Obj := (fun _ => (Obj.mk (Value.type "getset_descriptor") none (Data.fields #[(Value.str "__weakref__" (nat_lit 760)), (Value.ref 393), (Value.builtin "ExceptionGroup.__weakref__"), Value.none]) #[]))
@[reducible] noncomputable def o_450 : Params → Obj := (fun _ => (Obj.mk (Value.type "super") none (Data.fields #[(Value.ref 393), (Value.ref 393), (Value.ref 393)]) #[]))
@[reducible] noncomputable def o_451 : Params → Obj := (fun _ => (Obj.mk (Value.type "builtin_function_or_method") none (Data.fields #[(Value.builtin "object.__init_subclass__"), (Value.ref 393)]) #[]))
@[reducible] noncomputable def o_452 : Params → Obj := (fun P => (Obj.mk (Value.type "dict") none (Data.dict (List.toArray ((de P "__name__" (nat_lit 165) (Value.str "postcore.scanner" (nat_lit 673))) :: (de P "__doc__" (nat_lit 166) Value.none) :: (de P "__package__" (nat_lit 167) Value.none) :: (de P "__loader__" (nat_lit 168) (Value.builtin "__main__.__loader__#opaque")) :: (de P "__spec__" (nat_lit 169) Value.none) :: (de P "__annotations__" (nat_lit 170) (Value.ref 6)) :: (de P "__builtins__" (nat_lit 171) (Value.ref 4)) :: (de P "__file__" (nat_lit 173) (Value.str "/claim/cut.py" (nat_lit 172))) :: (de P "__cached__" (nat_lit 174) Value.none) :: (de P "_wall" (nat_lit 193) (Value.ref 21)) :: (de P "GRAIN" (nat_lit 197) (Value.int 1000000 (nat_lit 196))) :: (de P "LEAST_INT" (nat_lit 202) (Value.int (-2147483648) (nat_lit 201))) :: (de P "MOST_INT" (nat_lit 208) (Value.int 2147483647 (nat_lit 207))) :: (de P "WHITE" (nat_lit 210) (Value.bytes #[0, 9, 10, 12, 13, 32] (nat_lit 209))) :: (de P "DELIMITERS" (nat_lit 212) (Value.bytes #[40, 41, 60, 62, 91, 93, 123, 125, 47, 37] (nat_lit 211))) :: (de P "LINE_FEED" (nat_lit 214) (Value.int 10 (nat_lit 213))) :: (de P "CARRIAGE_RETURN" (nat_lit 216) (Value.int 13 (nat_lit 215))) :: (de P "PostError" (nat_lit 245) (Value.ref 39)) :: (de P "PsError" (nat_lit 261) (Value.ref 52)) :: (de P "is_white" (nat_lit 268) (Value.ref 61)) :: (de P "is_delimiter" (nat_lit 275) (Value.ref 68)) :: (de P "is_line_end" (nat_lit 282) (Value.ref 75)) :: (de P "is_octal" (nat_lit 289) (Value.ref 82)) :: (de P "hex_value" (nat_lit 296) (Value.ref 89)) :: (de P "digit_value" (nat_lit 303) (Value.ref 96)) :: (de P "INTEGER" (nat_lit 307) (Value.str "integer" (nat_lit 306))) :: (de P "REAL" (nat_lit 309) (Value.str "real" (nat_lit 308))) :: (de P "MOST_REAL" (nat_lit 314) (Value.int 1000000000000000000000 (nat_lit 313))) :: (de P "PLACES" (nat_lit 316) (Value.int 6 (nat_lit 315))) :: (de P "WORD_SIZE" (nat_lit 320) (Value.int 4294967296 (nat_lit 319))) :: (de P "MOST_FIGURES" (nat_lit 322) (Value.int 6 (nat_lit 321))) :: (de P "divided" (nat_lit 333) (Value.ref 103)) :: (de P "is_integer_size" (nat_lit 340) (Value.ref 110)) :: (de P "checked_real" (nat_lit 347) (Value.ref 117)) :: (de P "real_of" (nat_lit 354) (Value.ref 124)) :: (de P "whole_number" (nat_lit 361) (Value.ref 131)) :: (de P "figures_value" (nat_lit 372) (Value.ref 138)) :: (de P "read_radix" (nat_lit 382) (Value.ref 145)) :: (de P "signed_word" (nat_lit 390) (Value.ref 152)) :: (de P "read_exponent" (nat_lit 400) (Value.ref 159)) :: (de P "number_scaled" (nat_lit 408) (Value.ref 166)) :: (de P "split_at" (nat_lit 418) (Value.ref 173)) :: (de P "read_real" (nat_lit 433) (Value.ref 180)) :: (de P "read_number" (nat_lit 445) (Value.ref 187)) :: (de P "READ_ONLY" (nat_lit 449) (Value.int 2 (nat_lit 448))) :: (de P "UNLIMITED" (nat_lit 451) (Value.int 3 (nat_lit 450))) :: (de P "Thing" (nat_lit 486) (Value.ref 205)) :: (de P "Text" (nat_lit 521) (Value.ref 226)) :: (de P "Row" (nat_lit 556) (Value.ref 247)) :: (de P "Span" (nat_lit 589) (Value.ref 268)) :: (de P "integer" (nat_lit 596) (Value.ref 279)) :: (de P "real" (nat_lit 603) (Value.ref 286)) :: (de P "name" (nat_lit 611) (Value.ref 294)) :: (de P "null" (nat_lit 617) (Value.ref 301)) :: (de P "of_string" (nat_lit 626) (Value.ref 309)) :: (de P "of_row" (nat_lit 635) (Value.ref 317)) :: (de P "of_packed" (nat_lit 643) (Value.ref 325)) :: (de P "is_in_array" (nat_lit 650) (Value.ref 332)) :: (de P "body_of" (nat_lit 657) (Value.ref 339)) :: (de P "is_local" (nat_lit 665) (Value.ref 346)) :: (de P "octets_of_span" (nat_lit 672) (Value.ref 353)) :: (de P "SCAN_END" (nat_lit 676) (Value.int 4 (nat_lit 675))) :: (de P "SCAN_FORM_FEED" (nat_lit 678) (Value.int 12 (nat_lit 677))) :: (de P "SCAN_MOST_NAME" (nat_lit 680) (Value.int 127 (nat_lit 679))) :: (de P "SCAN_BASE" (nat_lit 682) (Value.int 85 (nat_lit 681))) :: (de P "SCAN_FIRST" (nat_lit 684) (Value.int 33 (nat_lit 683))) :: (de P "SCAN_OPEN" (nat_lit 686) (Value.int 40 (nat_lit 685))) :: (de P "SCAN_CLOSE" (nat_lit 688) (Value.int 41 (nat_lit 687))) :: (de P "SCAN_SLASH" (nat_lit 690) (Value.int 47 (nat_lit 689))) :: (de P "SCAN_LESS" (nat_lit 692) (Value.int 60 (nat_lit 691))) :: (de P "SCAN_MORE" (nat_lit 694) (Value.int 62 (nat_lit 693))) :: (de P "SCAN_BACKSLASH" (nat_lit 696) (Value.int 92 (nat_lit 695))) :: (de P "SCAN_ROW_OPEN" (nat_lit 698) (Value.int 91 (nat_lit 697))) :: (de P "SCAN_ROW_CLOSE" (nat_lit 700) (Value.int 93 (nat_lit 699))) :: (de P "SCAN_PROC_OPEN" (nat_lit 702) (Value.int 123 (nat_lit 701))) :: (de P "SCAN_PROC_CLOSE" (nat_lit 704) (Value.int 125 (nat_lit 703))) :: (de P "SCAN_TILDE" (nat_lit 706) (Value.int 126 (nat_lit 705))) :: (de P "SCAN_NOUGHTS" (nat_lit 708) (Value.int 122 (nat_lit 707))) :: (de P "SCAN_PERCENT" (nat_lit 710) (Value.int 37 (nat_lit 709))) :: (de P "OctetSource" (nat_lit 764) (Value.ref 393)) :: (de P "is_blank" (nat_lit 771) (Value.ref 404)) :: (de P "scan_skip_feed" (nat_lit 779) (Value.ref 411)) :: (de P "scan_line" (nat_lit 787) (Value.ref 418)) :: (de P "scan_first" (nat_lit 795) (Value.ref 425)) :: (de P "scan_word" (nat_lit 804) (Value.ref 432)) :: (de P "scan_sure" (nat_lit 812) (Value.ref 439)) :: (de P "scan_octal" (nat_lit 822) (Value.ref 446)) :: (de P "scan_escape" (nat_lit 832) (Value.ref 453)) :: (de P "scan_string" (nat_lit 842) (Value.ref 460)) :: (de P "scan_hex" (nat_lit 853) (Value.ref 467)) :: (de P "scan_group" (nat_lit 862) (Value.ref 474)) :: (de P "scan_base85" (nat_lit 872) (Value.ref 481)) :: [])) 92) #[]))
@[reducible] noncomputable def o_453 : Params → Obj := (fun _ => (Obj.mk Value.none none (Data.fields (List.toArray ((Value.int 1 (nat_lit 0)) :: (Value.int 0 (nat_lit 0)) :: (Value.ref 20) :: (Value.int 12 (nat_lit 0)) :: (Value.int 0 (nat_lit 0)) :: (Value.ref 27) :: (Value.int 16 (nat_lit 0)) :: (Value.int 0 (nat_lit 0)) :: (Value.ref 48) :: (Value.int 18 (nat_lit 0)) :: (Value.int 0 (nat_lit 0)) :: (Value.ref 60) :: (Value.int 20 (nat_lit 0)) :: (Value.int 0 (nat_lit 0)) :: (Value.ref 67) :: (Value.int 22 (nat_lit 0)) :: (Value.int 0 (nat_lit 0)) :: (Value.ref 74) :: (Value.int 24 (nat_lit 0)) :: (Value.int 0 (nat_lit 0)) :: (Value.ref 81) :: (Value.int 26 (nat_lit 0)) :: (Value.int 0 (nat_lit 0)) :: (Value.ref 88) :: (Value.int 34 (nat_lit 0)) :: (Value.int 0 (nat_lit 0)) :: (Value.ref 95) :: (Value.int 49 (nat_lit 0)) :: (Value.int 0 (nat_lit 0)) :: (Value.ref 102) :: (Value.int 53 (nat_lit 0)) :: (Value.int 0 (nat_lit 0)) :: (Value.ref 109) :: (Value.int 55 (nat_lit 0)) :: (Value.int 0 (nat_lit 0)) :: (Value.ref 116) :: (Value.int 59 (nat_lit 0)) :: (Value.int 0 (nat_lit 0)) :: (Value.ref 123) :: (Value.int 61 (nat_lit 0)) :: (Value.int 0 (nat_lit 0)) :: (Value.ref 130) :: (Value.int 65 (nat_lit 0)) :: (Value.int 0 (nat_lit 0)) :: (Value.ref 137) :: (Value.int 75 (nat_lit 0)) :: (Value.int 0 (nat_lit 0)) :: (Value.ref 144) :: (Value.int 85 (nat_lit 0)) :: (Value.int 0 (nat_lit 0)) :: (Value.ref 151) :: (Value.int 88 (nat_lit 0)) :: (Value.int 0 (nat_lit 0)) :: (Value.ref 158) :: (Value.int 96 (nat_lit 0)) :: (Value.int 0 (nat_lit 0)) :: (Value.ref 165) :: (Value.int 106 (nat_lit 0)) :: (Value.int 0 (nat_lit 0)) :: (Value.ref 172) :: (Value.int 111 (nat_lit 0)) :: (Value.int 0 (nat_lit 0)) :: (Value.ref 179) :: (Value.int 122 (nat_lit 0)) :: (Value.int 0 (nat_lit 0)) :: (Value.ref 186) :: (Value.int 135 (nat_lit 0)) :: (Value.int 0 (nat_lit 0)) :: (Value.ref 193) :: (Value.int 142 (nat_lit 0)) :: (Value.int 0 (nat_lit 0)) :: (Value.ref 215) :: (Value.int 149 (nat_lit 0)) :: (Value.int 0 (nat_lit 0)) :: (Value.ref 236) :: (Value.int 156 (nat_lit 0)) :: (Value.int 0 (nat_lit 0)) :: (Value.ref 257) :: (Value.int 162 (nat_lit 0)) :: (Value.int 0 (nat_lit 0)) :: (Value.ref 278) :: (Value.int 164 (nat_lit 0)) :: (Value.int 0 (nat_lit 0)) :: (Value.ref 285) :: (Value.int 166 (nat_lit 0)) :: (Value.int 0 (nat_lit 0)) :: (Value.ref 293) :: (Value.int 168 (nat_lit 0)) :: (Value.int 0 (nat_lit 0)) :: (Value.ref 300) :: (Value.int 170 (nat_lit 0)) :: (Value.int 0 (nat_lit 0)) :: (Value.ref 308) :: (Value.int 172 (nat_lit 0)) :: (Value.int 0 (nat_lit 0)) :: (Value.ref 316) :: (Value.int 174 (nat_lit 0)) :: (Value.int 0 (nat_lit 0)) :: (Value.ref 324) :: (Value.int 176 (nat_lit 0)) :: (Value.int 0 (nat_lit 0)) :: (Value.ref 331) :: (Value.int 178 (nat_lit 0)) :: (Value.int 0 (nat_lit 0)) :: (Value.ref 338) :: (Value.int 182 (nat_lit 0)) :: (Value.int 0 (nat_lit 0)) :: (Value.ref 345) :: (Value.int 185 (nat_lit 0)) :: (Value.int 0 (nat_lit 0)) :: (Value.ref 352) :: (Value.int 206 (nat_lit 0)) :: (Value.int 0 (nat_lit 0)) :: (Value.ref 359) :: (Value.int 224 (nat_lit 0)) :: (Value.int 0 (nat_lit 0)) :: (Value.ref 403) :: (Value.int 226 (nat_lit 0)) :: (Value.int 0 (nat_lit 0)) :: (Value.ref 410) :: (Value.int 230 (nat_lit 0)) :: (Value.int 0 (nat_lit 0)) :: (Value.ref 417) :: (Value.int 236 (nat_lit 0)) :: (Value.int 0 (nat_lit 0)) :: (Value.ref 424) :: (Value.int 245 (nat_lit 0)) :: (Value.int 0 (nat_lit 0)) :: (Value.ref 431) :: (Value.int 258 (nat_lit 0)) :: (Value.int 0 (nat_lit 0)) :: (Value.ref 438) :: (Value.int 263 (nat_lit 0)) :: (Value.int 0 (nat_lit 0)) :: (Value.ref 445) :: (Value.int 274 (nat_lit 0)) :: (Value.int 0 (nat_lit 0)) :: (Value.ref 452) :: (Value.int 283 (nat_lit 0)) :: (Value.int 0 (nat_lit 0)) :: (Value.ref 459) :: (Value.int 300 (nat_lit 0)) :: (Value.int 0 (nat_lit 0)) :: (Value.ref 466) :: (Value.int 316 (nat_lit 0)) :: (Value.int 0 (nat_lit 0)) :: (Value.ref 473) :: (Value.int 323 (nat_lit 0)) :: (Value.int 0 (nat_lit 0)) :: (Value.ref 480) :: []))) #[]))
@[reducible] noncomputable def o_456 : Params → Obj := (fun _ => (Obj.mk (Value.type "tuple") none (Data.seq #[(Value.str "octet" (nat_lit 768))] 0) #[]))
@[reducible] noncomputable def o_458 : Params → Obj := (fun _ => (Obj.mk Value.none none (Data.func (fd (st := at_ [75]) rfl "is_blank" 0 [] Value.none Value.none Value.none Value.none none Value.none Value.none 0)) #[]))
@[reducible] noncomputable def o_459 : Params → Obj := (fun _ => (Obj.mk (Value.type "code") none (Data.fields #[(Value.str "is_blank" (nat_lit 765)), (Value.str "is_blank" (nat_lit 766)), (Value.str "/claim/cut.py" (nat_lit 767)), (Value.int 224 (nat_lit 0)), (Value.int 1 (nat_lit 0)), (Value.int 0 (nat_lit 0)), (Value.int 0 (nat_lit 0)), (Value.int 3 (nat_lit 0)), (Value.ref 398), (Value.bool true), (Value.int 181 (nat_lit 0)), (Value.ref 399), Value.none, (Value.ref 400), (Value.ref 401), (Value.ref 402), (Value.int 769 (nat_lit 0)), (Value.int 224 (nat_lit 0)), (Value.str "/claim/cut.py" (nat_lit 770))]) #[]))
@[reducible] noncomputable def o_460 : Params → Obj := (fun _ => (Obj.mk (Value.type "function") none (Data.func (fd (st := at_ [75]) rfl "is_blank" 3 [] Value.none Value.none Value.none (Value.str "postcore.scanner" (nat_lit 673)) none (Value.ref 403) Value.none 0)) #[]))
@[reducible] noncomputable def o_463 : Params → Obj := (fun _ => (Obj.mk (Value.type "tuple") none (Data.seq #[(Value.str "source" (nat_lit 775)), (Value.str "following" (nat_lit 776))] 0) #[]))
@[reducible] noncomputable def o_465 : Params → Obj := (fun _ => (Obj.mk Value.none none (Data.func (fd (st := at_ [76]) rfl "scan_skip_feed" 0 [] Value.none Value.none Value.none Value.none none Value.none Value.none 0)) #[]))
@[reducible] noncomputable def o_466 : Params → Obj := (fun _ => (Obj.mk (Value.type "code") none (Data.fields #[(Value.str "scan_skip_feed" (nat_lit 772)), (Value.str "scan_skip_feed" (nat_lit 773)), (Value.str "/claim/cut.py" (nat_lit 774)), (Value.int 226 (nat_lit 0)), (Value.int 1 (nat_lit 0)), (Value.int 0 (nat_lit 0)), (Value.int 0 (nat_lit 0)), (Value.int 3 (nat_lit 0)), (Value.ref 405), (Value.bool true), (Value.int 181 (nat_lit 0)), (Value.ref 406), Value.none, (Value.ref 407), (Value.ref 408), (Value.ref 409), (Value.int 777 (nat_lit 0)), (Value.int 226 (nat_lit 0)), (Value.str "/claim/cut.py" (nat_lit 778))]) #[]))
@[reducible] noncomputable def o_467 : Params → Obj := (fun _ => (Obj.mk (Value.type "function") none (Data.func (fd (st := at_ [76]) rfl "scan_skip_feed" 3 [] Value.none Value.none Value.none (Value.str "postcore.scanner" (nat_lit 673)) none (Value.ref 410) Value.none 0)) #[]))
@[reducible] noncomputable def o_470 : Params → Obj := (fun _ => (Obj.mk (Value.type "tuple") none (Data.seq #[(Value.str "source" (nat_lit 783)), (Value.str "octet" (nat_lit 784))] 0) #[]))
@[reducible] noncomputable def o_472 : Params → Obj := (fun _ => (Obj.mk Value.none none (Data.func (fd (st := at_ [77]) rfl "scan_line" 0 [] Value.none Value.none Value.none Value.none none Value.none Value.none 0)) #[]))
@[reducible] noncomputable def o_473 : Params → Obj := (fun _ => (Obj.mk (Value.type "code") none (Data.fields #[(Value.str "scan_line" (nat_lit 780)), (Value.str "scan_line" (nat_lit 781)), (Value.str "/claim/cut.py" (nat_lit 782)), (Value.int 230 (nat_lit 0)), (Value.int 1 (nat_lit 0)), (Value.int 0 (nat_lit 0)), (Value.int 0 (nat_lit 0)), (Value.int 3 (nat_lit 0)), (Value.ref 412), (Value.bool true), (Value.int 181 (nat_lit 0)), (Value.ref 413), Value.none, (Value.ref 414), (Value.ref 415), (Value.ref 416), (Value.int 785 (nat_lit 0)), (Value.int 230 (nat_lit 0)), (Value.str "/claim/cut.py" (nat_lit 786))]) #[]))
@[reducible] noncomputable def o_474 : Params → Obj := (fun _ => (Obj.mk (Value.type "function") none (Data.func (fd (st := at_ [77]) rfl "scan_line" 3 [] Value.none Value.none Value.none (Value.str "postcore.scanner" (nat_lit 673)) none (Value.ref 417) Value.none 0)) #[]))
@[reducible] noncomputable def o_477 : Params → Obj := (fun _ => (Obj.mk (Value.type "tuple") none (Data.seq #[(Value.str "source" (nat_lit 791)), (Value.str "octet" (nat_lit 792))] 0) #[]))
@[reducible] noncomputable def o_479 : Params → Obj := (fun _ => (Obj.mk Value.none none (Data.func (fd (st := at_ [78]) rfl "scan_first" 0 [] Value.none Value.none Value.none Value.none none Value.none Value.none 0)) #[]))
@[reducible] noncomputable def o_480 : Params → Obj := (fun _ => (Obj.mk (Value.type "code") none (Data.fields #[(Value.str "scan_first" (nat_lit 788)), (Value.str "scan_first" (nat_lit 789)), (Value.str "/claim/cut.py" (nat_lit 790)), (Value.int 236 (nat_lit 0)), (Value.int 1 (nat_lit 0)), (Value.int 0 (nat_lit 0)), (Value.int 0 (nat_lit 0)), (Value.int 3 (nat_lit 0)), (Value.ref 419), (Value.bool true), (Value.int 181 (nat_lit 0)), (Value.ref 420), Value.none, (Value.ref 421), (Value.ref 422), (Value.ref 423), (Value.int 793 (nat_lit 0)), (Value.int 236 (nat_lit 0)), (Value.str "/claim/cut.py" (nat_lit 794))]) #[]))
@[reducible] noncomputable def o_481 : Params → Obj := (fun _ => (Obj.mk (Value.type "function") none (Data.func (fd (st := at_ [78]) rfl "scan_first" 3 [] Value.none Value.none Value.none (Value.str "postcore.scanner" (nat_lit 673)) none (Value.ref 424) Value.none 0)) #[]))
@[reducible] noncomputable def o_484 : Params → Obj := (fun _ => (Obj.mk (Value.type "tuple") none (Data.seq #[(Value.str "source" (nat_lit 799)), (Value.str "found" (nat_lit 800)), (Value.str "octet" (nat_lit 801))] 0) #[]))
@[reducible] noncomputable def o_486 : Params → Obj := (fun _ => (Obj.mk Value.none none (Data.func (fd (st := at_ [79]) rfl "scan_word" 0 [] Value.none Value.none Value.none Value.none none Value.none Value.none 0)) #[]))
@[reducible] noncomputable def o_487 : Params → Obj := (fun _ => (Obj.mk (Value.type "code") none (Data.fields #[(Value.str "scan_word" (nat_lit 796)), (Value.str "scan_word" (nat_lit 797)), (Value.str "/claim/cut.py" (nat_lit 798)), (Value.int 245 (nat_lit 0)), (Value.int 1 (nat_lit 0)), (Value.int 0 (nat_lit 0)), (Value.int 0 (nat_lit 0)), (Value.int 3 (nat_lit 0)), (Value.ref 426), (Value.bool true), (Value.int 181 (nat_lit 0)), (Value.ref 427), Value.none, (Value.ref 428), (Value.ref 429), (Value.ref 430), (Value.int 802 (nat_lit 0)), (Value.int 245 (nat_lit 0)), (Value.str "/claim/cut.py" (nat_lit 803))]) #[]))
@[reducible] noncomputable def o_488 : Params → Obj := (fun _ => (Obj.mk (Value.type "function") none (Data.func (fd (st := at_ [79]) rfl "scan_word" 3 [] Value.none Value.none Value.none (Value.str "postcore.scanner" (nat_lit 673)) none (Value.ref 431) Value.none 0)) #[]))
@[reducible] noncomputable def o_491 : Params → Obj := (fun _ => (Obj.mk (Value.type "tuple") none (Data.seq #[(Value.str "source" (nat_lit 808)), (Value.str "octet" (nat_lit 809))] 0) #[]))
@[reducible] noncomputable def o_493 : Params → Obj := (fun _ => (Obj.mk Value.none none (Data.func (fd (st := at_ [80]) rfl "scan_sure" 0 [] Value.none Value.none Value.none Value.none none Value.none Value.none 0)) #[]))
@[reducible] noncomputable def o_494 : Params → Obj := (fun _ => (Obj.mk (Value.type "code") none (Data.fields #[(Value.str "scan_sure" (nat_lit 805)), (Value.str "scan_sure" (nat_lit 806)), (Value.str "/claim/cut.py" (nat_lit 807)), (Value.int 258 (nat_lit 0)), (Value.int 1 (nat_lit 0)), (Value.int 0 (nat_lit 0)), (Value.int 0 (nat_lit 0)), (Value.int 3 (nat_lit 0)), (Value.ref 433), (Value.bool true), (Value.int 181 (nat_lit 0)), (Value.ref 434), Value.none, (Value.ref 435), (Value.ref 436), (Value.ref 437), (Value.int 810 (nat_lit 0)), (Value.int 258 (nat_lit 0)), (Value.str "/claim/cut.py" (nat_lit 811))]) #[]))
@[reducible] noncomputable def o_495 : Params → Obj := (fun _ => (Obj.mk (Value.type "function") none (Data.func (fd (st := at_ [80]) rfl "scan_sure" 3 [] Value.none Value.none Value.none (Value.str "postcore.scanner" (nat_lit 673)) none (Value.ref 438) Value.none 0)) #[]))
@[reducible] noncomputable def o_498 : Params → Obj := (fun _ => (Obj.mk (Value.type "tuple") none (Data.seq #[(Value.str "source" (nat_lit 816)), (Value.str "octet" (nat_lit 817)), (Value.str "number" (nat_lit 818)), (Value.str "turn" (nat_lit 819))] 0) #[]))
@[reducible] noncomputable def o_500 : Params → Obj := (fun _ => (Obj.mk Value.none none (Data.func (fd (st := at_ [81]) rfl "scan_octal" 0 [] Value.none Value.none Value.none Value.none none Value.none Value.none 0)) #[]))
@[reducible] noncomputable def o_501 : Params → Obj := (fun _ => (Obj.mk (Value.type "code") none (Data.fields #[(Value.str "scan_octal" (nat_lit 813)), (Value.str "scan_octal" (nat_lit 814)), (Value.str "/claim/cut.py" (nat_lit 815)), (Value.int 263 (nat_lit 0)), (Value.int 2 (nat_lit 0)), (Value.int 0 (nat_lit 0)), (Value.int 0 (nat_lit 0)), (Value.int 3 (nat_lit 0)), (Value.ref 440), (Value.bool true), (Value.int 181 (nat_lit 0)), (Value.ref 441), Value.none, (Value.ref 442), (Value.ref 443), (Value.ref 444), (Value.int 820 (nat_lit 0)), (Value.int 263 (nat_lit 0)), (Value.str "/claim/cut.py" (nat_lit 821))]) #[]))
@[reducible] noncomputable def o_502 : Params → Obj := (fun _ => (Obj.mk (Value.type "function") none (Data.func (fd (st := at_ [81]) rfl "scan_octal" 3 [] Value.none Value.none Value.none (Value.str "postcore.scanner" (nat_lit 673)) none (Value.ref 445) Value.none 0)) #[]))
@[reducible] noncomputable def o_505 : Params → Obj := (fun _ => (Obj.mk (Value.type "tuple") none (Data.seq #[(Value.str "source" (nat_lit 826)), (Value.str "found" (nat_lit 827)), (Value.str "meanings" (nat_lit 828)), (Value.str "octet" (nat_lit 829))] 0) #[]))
@[reducible] noncomputable def o_507 : Params → Obj := (fun _ => (Obj.mk Value.none none (Data.func (fd (st := at_ [82]) rfl "scan_escape" 0 [] Value.none Value.none Value.none Value.none none Value.none Value.none 0)) #[]))
@[reducible] noncomputable def o_508 : Params → Obj := (fun _ => (Obj.mk (Value.type "code") none (Data.fields #[(Value.str "scan_escape" (nat_lit 823)), (Value.str "scan_escape" (nat_lit 824)), (Value.str "/claim/cut.py" (nat_lit 825)), (Value.int 274 (nat_lit 0)), (Value.int 2 (nat_lit 0)), (Value.int 0 (nat_lit 0)), (Value.int 0 (nat_lit 0)), (Value.int 3 (nat_lit 0)), (Value.ref 447), (Value.bool true), (Value.int 181 (nat_lit 0)), (Value.ref 448), Value.none, (Value.ref 449), (Value.ref 450), (Value.ref 451), (Value.int 830 (nat_lit 0)), (Value.int 274 (nat_lit 0)), (Value.str "/claim/cut.py" (nat_lit 831))]) #[]))
@[reducible] noncomputable def o_509 : Params → Obj := (fun _ => (Obj.mk (Value.type "function") none (Data.func (fd (st := at_ [82]) rfl "scan_escape" 3 [] Value.none Value.none Value.none (Value.str "postcore.scanner" (nat_lit 673)) none (Value.ref 452) Value.none 0)) #[]))
@[reducible] noncomputable def o_512 : Params → Obj := (fun _ => (Obj.mk (Value.type "tuple") none (Data.seq #[(Value.str "source" (nat_lit 836)), (Value.str "found" (nat_lit 837)), (Value.str "depth" (nat_lit 838)), (Value.str "octet" (nat_lit 839))] 0) #[]))
@[reducible] noncomputable def o_514 : Params → Obj := (fun _ => (Obj.mk Value.none none (Data.func (fd (st := at_ [83]) rfl "scan_string" 0 [] Value.none Value.none Value.none Value.none none Value.none Value.none 0)) #[]))
@[reducible] noncomputable def o_515 : Params → Obj := (fun _ => (Obj.mk (Value.type "code") none (Data.fields #[(Value.str "scan_string" (nat_lit 833)), (Value.str "scan_string" (nat_lit 834)), (Value.str "/claim/cut.py" (nat_lit 835)), (Value.int 283 (nat_lit 0)), (Value.int 1 (nat_lit 0)), (Value.int 0 (nat_lit 0)), (Value.int 0 (nat_lit 0)), (Value.int 3 (nat_lit 0)), (Value.ref 454), (Value.bool true), (Value.int 181 (nat_lit 0)), (Value.ref 455), Value.none, (Value.ref 456), (Value.ref 457), (Value.ref 458), (Value.int 840 (nat_lit 0)), (Value.int 283 (nat_lit 0)), (Value.str "/claim/cut.py" (nat_lit 841))]) #[]))
@[reducible] noncomputable def o_516 : Params → Obj := (fun _ => (Obj.mk (Value.type "function") none (Data.func (fd (st := at_ [83]) rfl "scan_string" 3 [] Value.none Value.none Value.none (Value.str "postcore.scanner" (nat_lit 673)) none (Value.ref 459) Value.none 0)) #[]))
@[reducible] noncomputable def o_519 : Params → Obj := (fun _ => (Obj.mk (Value.type "tuple") none (Data.seq #[(Value.str "source" (nat_lit 846)), (Value.str "found" (nat_lit 847)), (Value.str "high" (nat_lit 848)), (Value.str "octet" (nat_lit 849)), (Value.str "digit" (nat_lit 850))] 0) #[]))
@[reducible] noncomputable def o_521 : Params → Obj := (fun _ => (Obj.mk Value.none none (Data.func (fd (st := at_ [84]) rfl "scan_hex" 0 [] Value.none Value.none Value.none Value.none none Value.none Value.none 0)) #[]))
@[reducible] noncomputable def o_522 : Params → Obj := (fun _ => (Obj.mk (Value.type "code") none (Data.fields #[(Value.str "scan_hex" (nat_lit 843)), (Value.str "scan_hex" (nat_lit 844)), (Value.str "/claim/cut.py" (nat_lit 845)), (Value.int 300 (nat_lit 0)), (Value.int 1 (nat_lit 0)), (Value.int 0 (nat_lit 0)), (Value.int 0 (nat_lit 0)), (Value.int 3 (nat_lit 0)), (Value.ref 461), (Value.bool true), (Value.int 181 (nat_lit 0)), (Value.ref 462), Value.none, (Value.ref 463), (Value.ref 464), (Value.ref 465), (Value.int 851 (nat_lit 0)), (Value.int 300 (nat_lit 0)), (Value.str "/claim/cut.py" (nat_lit 852))]) #[]))
@[reducible] noncomputable def o_523 : Params → Obj := (fun _ => (Obj.mk (Value.type "function") none (Data.func (fd (st := at_ [84]) rfl "scan_hex" 3 [] Value.none Value.none Value.none (Value.str "postcore.scanner" (nat_lit 673)) none (Value.ref 466) Value.none 0)) #[]))
@[reducible] noncomputable def o_526 : Params → Obj := (fun _ => (Obj.mk (Value.type "tuple") none (Data.seq #[(Value.str "signs" (nat_lit 857)), (Value.str "number" (nat_lit 858)), (Value.str "sign" (nat_lit 859))] 0) #[]))
@[reducible] noncomputable def o_528 : Params → Obj := (fun _ => (Obj.mk Value.none none (Data.func (fd (st := at_ [85]) rfl "scan_group" 0 [] Value.none Value.none Value.none Value.none none Value.none Value.none 0)) #[]))
@[reducible] noncomputable def o_529 : Params → Obj := (fun _ => (Obj.mk (Value.type "code") none (Data.fields #[(Value.str "scan_group" (nat_lit 854)), (Value.str "scan_group" (nat_lit 855)), (Value.str "/claim/cut.py" (nat_lit 856)), (Value.int 316 (nat_lit 0)), (Value.int 1 (nat_lit 0)), (Value.int 0 (nat_lit 0)), (Value.int 0 (nat_lit 0)), (Value.int 3 (nat_lit 0)), (Value.ref 468), (Value.bool true), (Value.int 181 (nat_lit 0)), (Value.ref 469), Value.none, (Value.ref 470), (Value.ref 471), (Value.ref 472), (Value.int 860 (nat_lit 0)), (Value.int 316 (nat_lit 0)), (Value.str "/claim/cut.py" (nat_lit 861))]) #[]))
@[reducible] noncomputable def o_530 : Params → Obj := (fun _ => (Obj.mk (Value.type "function") none (Data.func (fd (st := at_ [85]) rfl "scan_group" 3 [] Value.none Value.none Value.none (Value.str "postcore.scanner" (nat_lit 673)) none (Value.ref 473) Value.none 0)) #[]))
@[reducible] noncomputable def o_533 : Params → Obj := (fun _ => (Obj.mk (Value.type "tuple") none (Data.seq #[(Value.str "source" (nat_lit 866)), (Value.str "found" (nat_lit 867)), (Value.str "signs" (nat_lit 868)), (Value.str "octet" (nat_lit 869))] 0) #[]))
@[reducible] noncomputable def o_535 : Params → Obj := (fun _ => (Obj.mk Value.none none (Data.func (fd (st := at_ [86]) rfl "scan_base85" 0 [] Value.none Value.none Value.none Value.none none Value.none Value.none 0)) #[]))
@[reducible] noncomputable def o_536 : Params → Obj := (fun _ => (Obj.mk (Value.type "code") none (Data.fields #[(Value.str "scan_base85" (nat_lit 863)), (Value.str "scan_base85" (nat_lit 864)), (Value.str "/claim/cut.py" (nat_lit 865)), (Value.int 323 (nat_lit 0)), (Value.int 1 (nat_lit 0)), (Value.int 0 (nat_lit 0)), (Value.int 0 (nat_lit 0)), (Value.int 3 (nat_lit 0)), (Value.ref 475), (Value.bool true), (Value.int 181 (nat_lit 0)), (Value.ref 476), Value.none, (Value.ref 477), (Value.ref 478), (Value.ref 479), (Value.int 870 (nat_lit 0)), (Value.int 323 (nat_lit 0)), (Value.str "/claim/cut.py" (nat_lit 871))]) #[]))
@[reducible] noncomputable def o_537 : Params → Obj := (fun _ => (Obj.mk (Value.type "function") none (Data.func (fd (st := at_ [86]) rfl "scan_base85" 3 [] Value.none Value.none Value.none (Value.str "postcore.scanner" (nat_lit 673)) none (Value.ref 480) Value.none 0)) #[]))
@[reducible] noncomputable def o_538 : Params → Obj := (fun P => (Obj.mk (Value.type "dict") none (Data.dict (List.toArray ((de P "__name__" (nat_lit 165) (Value.str "postcore.scanner" (nat_lit 673))) :: (de P "__doc__" (nat_lit 166) Value.none) :: (de P "__package__" (nat_lit 167) Value.none) :: (de P "__loader__" (nat_lit 168) (Value.builtin "__main__.__loader__#opaque")) :: (de P "__spec__" (nat_lit 169) Value.none) :: (de P "__annotations__" (nat_lit 170) (Value.ref 6)) :: (de P "__builtins__" (nat_lit 171) (Value.ref 4)) :: (de P "__file__" (nat_lit 173) (Value.str "/claim/cut.py" (nat_lit 172))) :: (de P "__cached__" (nat_lit 174) Value.none) :: (de P "_wall" (nat_lit 193) (Value.ref 21)) :: (de P "GRAIN" (nat_lit 197) (Value.int 1000000 (nat_lit 196))) :: (de P "LEAST_INT" (nat_lit 202) (Value.int (-2147483648) (nat_lit 201))) :: (de P "MOST_INT" (nat_lit 208) (Value.int 2147483647 (nat_lit 207))) :: (de P "WHITE" (nat_lit 210) (Value.bytes #[0, 9, 10, 12, 13, 32] (nat_lit 209))) :: (de P "DELIMITERS" (nat_lit 212) (Value.bytes #[40, 41, 60, 62, 91, 93, 123, 125, 47, 37] (nat_lit 211))) :: (de P "LINE_FEED" (nat_lit 214) (Value.int 10 (nat_lit 213))) :: (de P "CARRIAGE_RETURN" (nat_lit 216) (Value.int 13 (nat_lit 215))) :: (de P "PostError" (nat_lit 245) (Value.ref 39)) :: (de P "PsError" (nat_lit 261) (Value.ref 52)) :: (de P "is_white" (nat_lit 268) (Value.ref 61)) :: (de P "is_delimiter" (nat_lit 275) (Value.ref 68)) :: (de P "is_line_end" (nat_lit 282) (Value.ref 75)) :: (de P "is_octal" (nat_lit 289) (Value.ref 82)) :: (de P "hex_value" (nat_lit 296) (Value.ref 89)) :: (de P "digit_value" (nat_lit 303) (Value.ref 96)) :: (de P "INTEGER" (nat_lit 307) (Value.str "integer" (nat_lit 306))) :: (de P "REAL" (nat_lit 309) (Value.str "real" (nat_lit 308))) :: (de P "MOST_REAL" (nat_lit 314) (Value.int 1000000000000000000000 (nat_lit 313))) :: (de P "PLACES" (nat_lit 316) (Value.int 6 (nat_lit 315))) :: (de P "WORD_SIZE" (nat_lit 320) (Value.int 4294967296 (nat_lit 319))) :: (de P "MOST_FIGURES" (nat_lit 322) (Value.int 6 (nat_lit 321))) :: (de P "divided" (nat_lit 333) (Value.ref 103)) :: (de P "is_integer_size" (nat_lit 340) (Value.ref 110)) :: (de P "checked_real" (nat_lit 347) (Value.ref 117)) :: (de P "real_of" (nat_lit 354) (Value.ref 124)) :: (de P "whole_number" (nat_lit 361) (Value.ref 131)) :: (de P "figures_value" (nat_lit 372) (Value.ref 138)) :: (de P "read_radix" (nat_lit 382) (Value.ref 145)) :: (de P "signed_word" (nat_lit 390) (Value.ref 152)) :: (de P "read_exponent" (nat_lit 400) (Value.ref 159)) :: (de P "number_scaled" (nat_lit 408) (Value.ref 166)) :: (de P "split_at" (nat_lit 418) (Value.ref 173)) :: (de P "read_real" (nat_lit 433) (Value.ref 180)) :: (de P "read_number" (nat_lit 445) (Value.ref 187)) :: (de P "READ_ONLY" (nat_lit 449) (Value.int 2 (nat_lit 448))) :: (de P "UNLIMITED" (nat_lit 451) (Value.int 3 (nat_lit 450))) :: (de P "Thing" (nat_lit 486) (Value.ref 205)) :: (de P "Text" (nat_lit 521) (Value.ref 226)) :: (de P "Row" (nat_lit 556) (Value.ref 247)) :: (de P "Span" (nat_lit 589) (Value.ref 268)) :: (de P "integer" (nat_lit 596) (Value.ref 279)) :: (de P "real" (nat_lit 603) (Value.ref 286)) :: (de P "name" (nat_lit 611) (Value.ref 294)) :: (de P "null" (nat_lit 617) (Value.ref 301)) :: (de P "of_string" (nat_lit 626) (Value.ref 309)) :: (de P "of_row" (nat_lit 635) (Value.ref 317)) :: (de P "of_packed" (nat_lit 643) (Value.ref 325)) :: (de P "is_in_array" (nat_lit 650) (Value.ref 332)) :: (de P "body_of" (nat_lit 657) (Value.ref 339)) :: (de P "is_local" (nat_lit 665) (Value.ref 346)) :: (de P "octets_of_span" (nat_lit 672) (Value.ref 353)) :: (de P "SCAN_END" (nat_lit 676) (Value.int 4 (nat_lit 675))) :: (de P "SCAN_FORM_FEED" (nat_lit 678) (Value.int 12 (nat_lit 677))) :: (de P "SCAN_MOST_NAME" (nat_lit 680) (Value.int 127 (nat_lit 679))) :: (de P "SCAN_BASE" (nat_lit 682) (Value.int 85 (nat_lit 681))) :: (de P "SCAN_FIRST" (nat_lit 684) (Value.int 33 (nat_lit 683))) :: (de P "SCAN_OPEN" (nat_lit 686) (Value.int 40 (nat_lit 685))) :: (de P "SCAN_CLOSE" (nat_lit 688) (Value.int 41 (nat_lit 687))) :: (de P "SCAN_SLASH" (nat_lit 690) (Value.int 47 (nat_lit 689))) :: (de P "SCAN_LESS" (nat_lit 692) (Value.int 60 (nat_lit 691))) :: (de P "SCAN_MORE" (nat_lit 694) (Value.int 62 (nat_lit 693))) :: (de P "SCAN_BACKSLASH" (nat_lit 696) (Value.int 92 (nat_lit 695))) :: (de P "SCAN_ROW_OPEN" (nat_lit 698) (Value.int 91 (nat_lit 697))) :: (de P "SCAN_ROW_CLOSE" (nat_lit 700) (Value.int 93 (nat_lit 699))) :: (de P "SCAN_PROC_OPEN" (nat_lit 702) (Value.int 123 (nat_lit 701))) :: (de P "SCAN_PROC_CLOSE" (nat_lit 704) (Value.int 125 (nat_lit 703))) :: (de P "SCAN_TILDE" (nat_lit 706) (Value.int 126 (nat_lit 705))) :: (de P "SCAN_NOUGHTS" (nat_lit 708) (Value.int 122 (nat_lit 707))) :: (de P "SCAN_PERCENT" (nat_lit 710) (Value.int 37 (nat_lit 709))) :: (de P "OctetSource" (nat_lit 764) (Value.ref 393)) :: (de P "is_blank" (nat_lit 771) (Value.ref 404)) :: (de P "scan_skip_feed" (nat_lit 779) (Value.ref 411)) :: (de P "scan_line" (nat_lit 787) (Value.ref 418)) :: (de P "scan_first" (nat_lit 795) (Value.ref 425)) :: (de P "scan_word" (nat_lit 804) (Value.ref 432)) :: (de P "scan_sure" (nat_lit 812) (Value.ref 439)) :: (de P "scan_octal" (nat_lit 822) (Value.ref 446)) :: (de P "scan_escape" (nat_lit 832) (Value.ref 453)) :: (de P "scan_string" (nat_lit 842) (Value.ref 460)) :: (de P "scan_hex" (nat_lit 853) (Value.ref 467)) :: (de P "scan_group" (nat_lit 862) (Value.ref 474)) :: (de P "scan_base85" (nat_lit 872) (Value.ref 481)) :: (de P "scan_name" (nat_lit 880) (Value.ref 488)) :: (de P "scan_regular" (nat_lit 888) (Value.ref 495)) :: (de P "scan_at_once" (nat_lit 897) (Value.ref 502)) :: [])) 95) #[]))
@[reducible] noncomputable def o_539 : Params → Obj := (fun _ => (Obj.mk Value.none none (Data.fields (List.toArray ((Value.int 1 (nat_lit 0)) :: (Value.int 0 (nat_lit 0)) :: (Value.ref 20) :: (Value.int 12 (nat_lit 0)) :: (Value.int 0 (nat_lit 0)) :: (Value.ref 27) :: (Value.int 16 (nat_lit 0)) :: (Value.int 0 (nat_lit 0)) :: (Value.ref 48) :: (Value.int 18 (nat_lit 0)) :: (Value.int 0 (nat_lit 0)) :: (Value.ref 60) :: (Value.int 20 (nat_lit 0)) :: (Value.int 0 (nat_lit 0)) :: (Value.ref 67) :: (Value.int 22 (nat_lit 0)) :: (Value.int 0 (nat_lit 0)) :: (Value.ref 74) :: (Value.int 24 (nat_lit 0)) :: (Value.int 0 (nat_lit 0)) :: (Value.ref 81) :: (Value.int 26 (nat_lit 0)) :: (Value.int 0 (nat_lit 0)) :: (Value.ref 88) :: (Value.int 34 (nat_lit 0)) :: (Value.int 0 (nat_lit 0)) :: (Value.ref 95) :: (Value.int 49 (nat_lit 0)) :: (Value.int 0 (nat_lit 0)) :: (Value.ref 102) :: (Value.int 53 (nat_lit 0)) :: (Value.int 0 (nat_lit 0)) :: (Value.ref 109) :: (Value.int 55 (nat_lit 0)) :: (Value.int 0 (nat_lit 0)) :: (Value.ref 116) :: (Value.int 59 (nat_lit 0)) :: (Value.int 0 (nat_lit 0)) :: (Value.ref 123) :: (Value.int 61 (nat_lit 0)) :: (Value.int 0 (nat_lit 0)) :: (Value.ref 130) :: (Value.int 65 (nat_lit 0)) :: (Value.int 0 (nat_lit 0)) :: (Value.ref 137) :: (Value.int 75 (nat_lit 0)) :: (Value.int 0 (nat_lit 0)) :: (Value.ref 144) :: (Value.int 85 (nat_lit 0)) :: (Value.int 0 (nat_lit 0)) :: (Value.ref 151) :: (Value.int 88 (nat_lit 0)) :: (Value.int 0 (nat_lit 0)) :: (Value.ref 158) :: (Value.int 96 (nat_lit 0)) :: (Value.int 0 (nat_lit 0)) :: (Value.ref 165) :: (Value.int 106 (nat_lit 0)) :: (Value.int 0 (nat_lit 0)) :: (Value.ref 172) :: (Value.int 111 (nat_lit 0)) :: (Value.int 0 (nat_lit 0)) :: (Value.ref 179) :: (Value.int 122 (nat_lit 0)) :: (Value.int 0 (nat_lit 0)) :: (Value.ref 186) :: (Value.int 135 (nat_lit 0)) :: (Value.int 0 (nat_lit 0)) :: (Value.ref 193) :: (Value.int 142 (nat_lit 0)) :: (Value.int 0 (nat_lit 0)) :: (Value.ref 215) :: (Value.int 149 (nat_lit 0)) :: (Value.int 0 (nat_lit 0)) :: (Value.ref 236) :: (Value.int 156 (nat_lit 0)) :: (Value.int 0 (nat_lit 0)) :: (Value.ref 257) :: (Value.int 162 (nat_lit 0)) :: (Value.int 0 (nat_lit 0)) :: (Value.ref 278) :: (Value.int 164 (nat_lit 0)) :: (Value.int 0 (nat_lit 0)) :: (Value.ref 285) :: (Value.int 166 (nat_lit 0)) :: (Value.int 0 (nat_lit 0)) :: (Value.ref 293) :: (Value.int 168 (nat_lit 0)) :: (Value.int 0 (nat_lit 0)) :: (Value.ref 300) :: (Value.int 170 (nat_lit 0)) :: (Value.int 0 (nat_lit 0)) :: (Value.ref 308) :: (Value.int 172 (nat_lit 0)) :: (Value.int 0 (nat_lit 0)) :: (Value.ref 316) :: (Value.int 174 (nat_lit 0)) :: (Value.int 0 (nat_lit 0)) :: (Value.ref 324) :: (Value.int 176 (nat_lit 0)) :: (Value.int 0 (nat_lit 0)) :: (Value.ref 331) :: (Value.int 178 (nat_lit 0)) :: (Value.int 0 (nat_lit 0)) :: (Value.ref 338) :: (Value.int 182 (nat_lit 0)) :: (Value.int 0 (nat_lit 0)) :: (Value.ref 345) :: (Value.int 185 (nat_lit 0)) :: (Value.int 0 (nat_lit 0)) :: (Value.ref 352) :: (Value.int 206 (nat_lit 0)) :: (Value.int 0 (nat_lit 0)) :: (Value.ref 359) :: (Value.int 224 (nat_lit 0)) :: (Value.int 0 (nat_lit 0)) :: (Value.ref 403) :: (Value.int 226 (nat_lit 0)) :: (Value.int 0 (nat_lit 0)) :: (Value.ref 410) :: (Value.int 230 (nat_lit 0)) :: (Value.int 0 (nat_lit 0)) :: (Value.ref 417) :: (Value.int 236 (nat_lit 0)) :: (Value.int 0 (nat_lit 0)) :: (Value.ref 424) :: (Value.int 245 (nat_lit 0)) :: (Value.int 0 (nat_lit 0)) :: (Value.ref 431) :: (Value.int 258 (nat_lit 0)) :: (Value.int 0 (nat_lit 0)) :: (Value.ref 438) :: (Value.int 263 (nat_lit 0)) :: (Value.int 0 (nat_lit 0)) :: (Value.ref 445) :: (Value.int 274 (nat_lit 0)) :: (Value.int 0 (nat_lit 0)) :: (Value.ref 452) :: (Value.int 283 (nat_lit 0)) :: (Value.int 0 (nat_lit 0)) :: (Value.ref 459) :: (Value.int 300 (nat_lit 0)) :: (Value.int 0 (nat_lit 0)) :: (Value.ref 466) :: (Value.int 316 (nat_lit 0)) :: (Value.int 0 (nat_lit 0)) :: (Value.ref 473) :: (Value.int 323 (nat_lit 0)) :: (Value.int 0 (nat_lit 0)) :: (Value.ref 480) :: (Value.int 342 (nat_lit 0)) :: (Value.int 0 (nat_lit 0)) :: (Value.ref 487) :: (Value.int 346 (nat_lit 0)) :: (Value.int 0 (nat_lit 0)) :: (Value.ref 494) :: (Value.int 351 (nat_lit 0)) :: (Value.int 0 (nat_lit 0)) :: (Value.ref 501) :: []))) #[]))
@[reducible] noncomputable def o_542 : Params → Obj := (fun _ => (Obj.mk (Value.type "tuple") none (Data.seq #[(Value.str "word" (nat_lit 876)), (Value.str "is_exec" (nat_lit 877))] 0) #[]))
@[reducible] noncomputable def o_544 : Params → Obj := (fun _ => (Obj.mk Value.none none (Data.func (fd (st := at_ [87]) rfl "scan_name" 0 [] Value.none Value.none Value.none Value.none none Value.none Value.none 0)) #[]))
@[reducible] noncomputable def o_545 : Params → Obj := (fun _ => (Obj.mk (Value.type "code") none (Data.fields #[(Value.str "scan_name" (nat_lit 873)), (Value.str "scan_name" (nat_lit 874)), (Value.str "/claim/cut.py" (nat_lit 875)), (Value.int 342 (nat_lit 0)), (Value.int 2 (nat_lit 0)), (Value.int 0 (nat_lit 0)), (Value.int 0 (nat_lit 0)), (Value.int 3 (nat_lit 0)), (Value.ref 482), (Value.bool true), (Value.int 181 (nat_lit 0)), (Value.ref 483), Value.none, (Value.ref 484), (Value.ref 485), (Value.ref 486), (Value.int 878 (nat_lit 0)), (Value.int 342 (nat_lit 0)), (Value.str "/claim/cut.py" (nat_lit 879))]) #[]))
@[reducible] noncomputable def o_546 : Params → Obj := (fun _ => (Obj.mk (Value.type "function") none (Data.func (fd (st := at_ [87]) rfl "scan_name" 3 [] Value.none Value.none Value.none (Value.str "postcore.scanner" (nat_lit 673)) none (Value.ref 487) Value.none 0)) #[]))
@[reducible] noncomputable def o_549 : Params → Obj := (fun _ => (Obj.mk (Value.type "tuple") none (Data.seq #[(Value.str "word" (nat_lit 884)), (Value.str "told" (nat_lit 885))] 0) #[]))
@[reducible] noncomputable def o_551 : Params → Obj := (fun _ => (Obj.mk Value.none none (Data.func (fd (st := at_ [88]) rfl "scan_regular" 0 [] Value.none Value.none Value.none Value.none none Value.none Value.none 0)) #[]))
@[reducible] noncomputable def o_552 : Params → Obj := (fun _ => (Obj.mk (Value.type "code") none (Data.fields #[(Value.str "scan_regular" (nat_lit 881)), (Value.str "scan_regular" (nat_lit 882)), (Value.str "/claim/cut.py" (nat_lit 883)), (Value.int 346 (nat_lit 0)), (Value.int 1 (nat_lit 0)), (Value.int 0 (nat_lit 0)), (Value.int 0 (nat_lit 0)), (Value.int 3 (nat_lit 0)), (Value.ref 489), (Value.bool true), (Value.int 181 (nat_lit 0)), (Value.ref 490), Value.none, (Value.ref 491), (Value.ref 492), (Value.ref 493), (Value.int 886 (nat_lit 0)), (Value.int 346 (nat_lit 0)), (Value.str "/claim/cut.py" (nat_lit 887))]) #[]))
@[reducible] noncomputable def o_553 : Params → Obj := (fun _ => (Obj.mk (Value.type "function") none (Data.func (fd (st := at_ [88]) rfl "scan_regular" 3 [] Value.none Value.none Value.none (Value.str "postcore.scanner" (nat_lit 673)) none (Value.ref 494) Value.none 0)) #[]))
@[reducible] noncomputable def o_556 : Params → Obj := (fun _ => (Obj.mk (Value.type "tuple") none (Data.seq #[(Value.str "word" (nat_lit 892)), (Value.str "lookup" (nat_lit 893)), (Value.str "found" (nat_lit 894))] 0) #[]))
@[reducible] noncomputable def o_558 : Params → Obj := (fun _ => (Obj.mk Value.none none (Data.func (fd (st := at_ [89]) rfl "scan_at_once" 0 [] Value.none Value.none Value.none Value.none none Value.none Value.none 0)) #[]))
@[reducible] noncomputable def o_559 : Params → Obj := (fun _ => (Obj.mk (Value.type "code") none (Data.fields #[(Value.str "scan_at_once" (nat_lit 889)), (Value.str "scan_at_once" (nat_lit 890)), (Value.str "/claim/cut.py" (nat_lit 891)), (Value.int 351 (nat_lit 0)), (Value.int 2 (nat_lit 0)), (Value.int 0 (nat_lit 0)), (Value.int 0 (nat_lit 0)), (Value.int 3 (nat_lit 0)), (Value.ref 496), (Value.bool true), (Value.int 181 (nat_lit 0)), (Value.ref 497), Value.none, (Value.ref 498), (Value.ref 499), (Value.ref 500), (Value.int 895 (nat_lit 0)), (Value.int 351 (nat_lit 0)), (Value.str "/claim/cut.py" (nat_lit 896))]) #[]))
@[reducible] noncomputable def o_560 : Params → Obj := (fun _ => (Obj.mk (Value.type "function") none (Data.func (fd (st := at_ [89]) rfl "scan_at_once" 3 [] Value.none Value.none Value.none (Value.str "postcore.scanner" (nat_lit 673)) none (Value.ref 501) Value.none 0)) #[]))
@[reducible] noncomputable def o_561 : Params → Obj := (fun P => (Obj.mk (Value.type "dict") none (Data.dict (List.toArray ((de P "__name__" (nat_lit 165) (Value.str "postcore.scanner" (nat_lit 673))) :: (de P "__doc__" (nat_lit 166) Value.none) :: (de P "__package__" (nat_lit 167) Value.none) :: (de P "__loader__" (nat_lit 168) (Value.builtin "__main__.__loader__#opaque")) :: (de P "__spec__" (nat_lit 169) Value.none) :: (de P "__annotations__" (nat_lit 170) (Value.ref 6)) :: (de P "__builtins__" (nat_lit 171) (Value.ref 4)) :: (de P "__file__" (nat_lit 173) (Value.str "/claim/cut.py" (nat_lit 172))) :: (de P "__cached__" (nat_lit 174) Value.none) :: (de P "_wall" (nat_lit 193) (Value.ref 21)) :: (de P "GRAIN" (nat_lit 197) (Value.int 1000000 (nat_lit 196))) :: (de P "LEAST_INT" (nat_lit 202) (Value.int (-2147483648) (nat_lit 201))) :: (de P "MOST_INT" (nat_lit 208) (Value.int 2147483647 (nat_lit 207))) :: (de P "WHITE" (nat_lit 210) (Value.bytes #[0, 9, 10, 12, 13, 32] (nat_lit 209))) :: (de P "DELIMITERS" (nat_lit 212) (Value.bytes #[40, 41, 60, 62, 91, 93, 123, 125, 47, 37] (nat_lit 211))) :: (de P "LINE_FEED" (nat_lit 214) (Value.int 10 (nat_lit 213))) :: (de P "CARRIAGE_RETURN" (nat_lit 216) (Value.int 13 (nat_lit 215))) :: (de P "PostError" (nat_lit 245) (Value.ref 39)) :: (de P "PsError" (nat_lit 261) (Value.ref 52)) :: (de P "is_white" (nat_lit 268) (Value.ref 61)) :: (de P "is_delimiter" (nat_lit 275) (Value.ref 68)) :: (de P "is_line_end" (nat_lit 282) (Value.ref 75)) :: (de P "is_octal" (nat_lit 289) (Value.ref 82)) :: (de P "hex_value" (nat_lit 296) (Value.ref 89)) :: (de P "digit_value" (nat_lit 303) (Value.ref 96)) :: (de P "INTEGER" (nat_lit 307) (Value.str "integer" (nat_lit 306))) :: (de P "REAL" (nat_lit 309) (Value.str "real" (nat_lit 308))) :: (de P "MOST_REAL" (nat_lit 314) (Value.int 1000000000000000000000 (nat_lit 313))) :: (de P "PLACES" (nat_lit 316) (Value.int 6 (nat_lit 315))) :: (de P "WORD_SIZE" (nat_lit 320) (Value.int 4294967296 (nat_lit 319))) :: (de P "MOST_FIGURES" (nat_lit 322) (Value.int 6 (nat_lit 321))) :: (de P "divided" (nat_lit 333) (Value.ref 103)) :: (de P "is_integer_size" (nat_lit 340) (Value.ref 110)) :: (de P "checked_real" (nat_lit 347) (Value.ref 117)) :: (de P "real_of" (nat_lit 354) (Value.ref 124)) :: (de P "whole_number" (nat_lit 361) (Value.ref 131)) :: (de P "figures_value" (nat_lit 372) (Value.ref 138)) :: (de P "read_radix" (nat_lit 382) (Value.ref 145)) :: (de P "signed_word" (nat_lit 390) (Value.ref 152)) :: (de P "read_exponent" (nat_lit 400) (Value.ref 159)) :: (de P "number_scaled" (nat_lit 408) (Value.ref 166)) :: (de P "split_at" (nat_lit 418) (Value.ref 173)) :: (de P "read_real" (nat_lit 433) (Value.ref 180)) :: (de P "read_number" (nat_lit 445) (Value.ref 187)) :: (de P "READ_ONLY" (nat_lit 449) (Value.int 2 (nat_lit 448))) :: (de P "UNLIMITED" (nat_lit 451) (Value.int 3 (nat_lit 450))) :: (de P "Thing" (nat_lit 486) (Value.ref 205)) :: (de P "Text" (nat_lit 521) (Value.ref 226)) :: (de P "Row" (nat_lit 556) (Value.ref 247)) :: (de P "Span" (nat_lit 589) (Value.ref 268)) :: (de P "integer" (nat_lit 596) (Value.ref 279)) :: (de P "real" (nat_lit 603) (Value.ref 286)) :: (de P "name" (nat_lit 611) (Value.ref 294)) :: (de P "null" (nat_lit 617) (Value.ref 301)) :: (de P "of_string" (nat_lit 626) (Value.ref 309)) :: (de P "of_row" (nat_lit 635) (Value.ref 317)) :: (de P "of_packed" (nat_lit 643) (Value.ref 325)) :: (de P "is_in_array" (nat_lit 650) (Value.ref 332)) :: (de P "body_of" (nat_lit 657) (Value.ref 339)) :: (de P "is_local" (nat_lit 665) (Value.ref 346)) :: (de P "octets_of_span" (nat_lit 672) (Value.ref 353)) :: (de P "SCAN_END" (nat_lit 676) (Value.int 4 (nat_lit 675))) :: (de P "SCAN_FORM_FEED" (nat_lit 678) (Value.int 12 (nat_lit 677))) :: (de P "SCAN_MOST_NAME" (nat_lit 680) (Value.int 127 (nat_lit 679))) :: (de P "SCAN_BASE" (nat_lit 682) (Value.int 85 (nat_lit 681))) :: (de P "SCAN_FIRST" (nat_lit 684) (Value.int 33 (nat_lit 683))) :: (de P "SCAN_OPEN" (nat_lit 686) (Value.int 40 (nat_lit 685))) :: (de P "SCAN_CLOSE" (nat_lit 688) (Value.int 41 (nat_lit 687))) :: (de P "SCAN_SLASH" (nat_lit 690) (Value.int 47 (nat_lit 689))) :: (de P "SCAN_LESS" (nat_lit 692) (Value.int 60 (nat_lit 691))) :: (de P "SCAN_MORE" (nat_lit 694) (Value.int 62 (nat_lit 693))) :: (de P "SCAN_BACKSLASH" (nat_lit 696) (Value.int 92 (nat_lit 695))) :: (de P "SCAN_ROW_OPEN" (nat_lit 698) (Value.int 91 (nat_lit 697))) :: (de P "SCAN_ROW_CLOSE" (nat_lit 700) (Value.int 93 (nat_lit 699))) :: (de P "SCAN_PROC_OPEN" (nat_lit 702) (Value.int 123 (nat_lit 701))) :: (de P "SCAN_PROC_CLOSE" (nat_lit 704) (Value.int 125 (nat_lit 703))) :: (de P "SCAN_TILDE" (nat_lit 706) (Value.int 126 (nat_lit 705))) :: (de P "SCAN_NOUGHTS" (nat_lit 708) (Value.int 122 (nat_lit 707))) :: (de P "SCAN_PERCENT" (nat_lit 710) (Value.int 37 (nat_lit 709))) :: (de P "OctetSource" (nat_lit 764) (Value.ref 393)) :: (de P "is_blank" (nat_lit 771) (Value.ref 404)) :: (de P "scan_skip_feed" (nat_lit 779) (Value.ref 411)) :: (de P "scan_line" (nat_lit 787) (Value.ref 418)) :: (de P "scan_first" (nat_lit 795) (Value.ref 425)) :: (de P "scan_word" (nat_lit 804) (Value.ref 432)) :: (de P "scan_sure" (nat_lit 812) (Value.ref 439)) :: (de P "scan_octal" (nat_lit 822) (Value.ref 446)) :: (de P "scan_escape" (nat_lit 832) (Value.ref 453)) :: (de P "scan_string" (nat_lit 842) (Value.ref 460)) :: (de P "scan_hex" (nat_lit 853) (Value.ref 467)) :: (de P "scan_group" (nat_lit 862) (Value.ref 474)) :: (de P "scan_base85" (nat_lit 872) (Value.ref 481)) :: (de P "scan_name" (nat_lit 880) (Value.ref 488)) :: (de P "scan_regular" (nat_lit 888) (Value.ref 495)) :: (de P "scan_at_once" (nat_lit 897) (Value.ref 502)) :: (de P "Scanner" (nat_lit 1018) (Value.ref 585)) :: [])) 96) #[]))
@[reducible] noncomputable def o_562 : Params → Obj := (fun _ => (Obj.mk Value.none none (Data.fields (List.toArray ((Value.int 1 (nat_lit 0)) :: (Value.int 0 (nat_lit 0)) :: (Value.ref 20) :: (Value.int 12 (nat_lit 0)) :: (Value.int 0 (nat_lit 0)) :: (Value.ref 27) :: (Value.int 16 (nat_lit 0)) :: (Value.int 0 (nat_lit 0)) :: (Value.ref 48) :: (Value.int 18 (nat_lit 0)) :: (Value.int 0 (nat_lit 0)) :: (Value.ref 60) :: (Value.int 20 (nat_lit 0)) :: (Value.int 0 (nat_lit 0)) :: (Value.ref 67) :: (Value.int 22 (nat_lit 0)) :: (Value.int 0 (nat_lit 0)) :: (Value.ref 74) :: (Value.int 24 (nat_lit 0)) :: (Value.int 0 (nat_lit 0)) :: (Value.ref 81) :: (Value.int 26 (nat_lit 0)) :: (Value.int 0 (nat_lit 0)) :: (Value.ref 88) :: (Value.int 34 (nat_lit 0)) :: (Value.int 0 (nat_lit 0)) :: (Value.ref 95) :: (Value.int 49 (nat_lit 0)) :: (Value.int 0 (nat_lit 0)) :: (Value.ref 102) :: (Value.int 53 (nat_lit 0)) :: (Value.int 0 (nat_lit 0)) :: (Value.ref 109) :: (Value.int 55 (nat_lit 0)) :: (Value.int 0 (nat_lit 0)) :: (Value.ref 116) :: (Value.int 59 (nat_lit 0)) :: (Value.int 0 (nat_lit 0)) :: (Value.ref 123) :: (Value.int 61 (nat_lit 0)) :: (Value.int 0 (nat_lit 0)) :: (Value.ref 130) :: (Value.int 65 (nat_lit 0)) :: (Value.int 0 (nat_lit 0)) :: (Value.ref 137) :: (Value.int 75 (nat_lit 0)) :: (Value.int 0 (nat_lit 0)) :: (Value.ref 144) :: (Value.int 85 (nat_lit 0)) :: (Value.int 0 (nat_lit 0)) :: (Value.ref 151) :: (Value.int 88 (nat_lit 0)) :: (Value.int 0 (nat_lit 0)) :: (Value.ref 158) :: (Value.int 96 (nat_lit 0)) :: (Value.int 0 (nat_lit 0)) :: (Value.ref 165) :: (Value.int 106 (nat_lit 0)) :: (Value.int 0 (nat_lit 0)) :: (Value.ref 172) :: (Value.int 111 (nat_lit 0)) :: (Value.int 0 (nat_lit 0)) :: (Value.ref 179) :: (Value.int 122 (nat_lit 0)) :: (Value.int 0 (nat_lit 0)) :: (Value.ref 186) :: (Value.int 135 (nat_lit 0)) :: (Value.int 0 (nat_lit 0)) :: (Value.ref 193) :: (Value.int 142 (nat_lit 0)) :: (Value.int 0 (nat_lit 0)) :: (Value.ref 215) :: (Value.int 149 (nat_lit 0)) :: (Value.int 0 (nat_lit 0)) :: (Value.ref 236) :: (Value.int 156 (nat_lit 0)) :: (Value.int 0 (nat_lit 0)) :: (Value.ref 257) :: (Value.int 162 (nat_lit 0)) :: (Value.int 0 (nat_lit 0)) :: (Value.ref 278) :: (Value.int 164 (nat_lit 0)) :: (Value.int 0 (nat_lit 0)) :: (Value.ref 285) :: (Value.int 166 (nat_lit 0)) :: (Value.int 0 (nat_lit 0)) :: (Value.ref 293) :: (Value.int 168 (nat_lit 0)) :: (Value.int 0 (nat_lit 0)) :: (Value.ref 300) :: (Value.int 170 (nat_lit 0)) :: (Value.int 0 (nat_lit 0)) :: (Value.ref 308) :: (Value.int 172 (nat_lit 0)) :: (Value.int 0 (nat_lit 0)) :: (Value.ref 316) :: (Value.int 174 (nat_lit 0)) :: (Value.int 0 (nat_lit 0)) :: (Value.ref 324) :: (Value.int 176 (nat_lit 0)) :: (Value.int 0 (nat_lit 0)) :: (Value.ref 331) :: (Value.int 178 (nat_lit 0)) :: (Value.int 0 (nat_lit 0)) :: (Value.ref 338) :: (Value.int 182 (nat_lit 0)) :: (Value.int 0 (nat_lit 0)) :: (Value.ref 345) :: (Value.int 185 (nat_lit 0)) :: (Value.int 0 (nat_lit 0)) :: (Value.ref 352) :: (Value.int 206 (nat_lit 0)) :: (Value.int 0 (nat_lit 0)) :: (Value.ref 359) :: (Value.int 224 (nat_lit 0)) :: (Value.int 0 (nat_lit 0)) :: (Value.ref 403) :: (Value.int 226 (nat_lit 0)) :: (Value.int 0 (nat_lit 0)) :: (Value.ref 410) :: (Value.int 230 (nat_lit 0)) :: (Value.int 0 (nat_lit 0)) :: (Value.ref 417) :: (Value.int 236 (nat_lit 0)) :: (Value.int 0 (nat_lit 0)) :: (Value.ref 424) :: (Value.int 245 (nat_lit 0)) :: (Value.int 0 (nat_lit 0)) :: (Value.ref 431) :: (Value.int 258 (nat_lit 0)) :: (Value.int 0 (nat_lit 0)) :: (Value.ref 438) :: (Value.int 263 (nat_lit 0)) :: (Value.int 0 (nat_lit 0)) :: (Value.ref 445) :: (Value.int 274 (nat_lit 0)) :: (Value.int 0 (nat_lit 0)) :: (Value.ref 452) :: (Value.int 283 (nat_lit 0)) :: (Value.int 0 (nat_lit 0)) :: (Value.ref 459) :: (Value.int 300 (nat_lit 0)) :: (Value.int 0 (nat_lit 0)) :: (Value.ref 466) :: (Value.int 316 (nat_lit 0)) :: (Value.int 0 (nat_lit 0)) :: (Value.ref 473) :: (Value.int 323 (nat_lit 0)) :: (Value.int 0 (nat_lit 0)) :: (Value.ref 480) :: (Value.int 342 (nat_lit 0)) :: (Value.int 0 (nat_lit 0)) :: (Value.ref 487) :: (Value.int 346 (nat_lit 0)) :: (Value.int 0 (nat_lit 0)) :: (Value.ref 494) :: (Value.int 351 (nat_lit 0)) :: (Value.int 0 (nat_lit 0)) :: (Value.ref 501) :: (Value.int 356 (nat_lit 0)) :: (Value.int 0 (nat_lit 0)) :: (Value.ref 508) :: []))) #[]))
@[reducible] noncomputable def o_565 : Params → Obj := (fun P => (Obj.mk (Value.type "dict") none (Data.dict #[(de P "__module__" (nat_lit 905) (Value.str "postcore.scanner" (nat_lit 673))), (de P "__qualname__" (nat_lit 907) (Value.str "Scanner" (nat_lit 906))), (de P "__firstlineno__" (nat_lit 909) (Value.int 356 (nat_lit 908))), (de P "__init__" (nat_lit 917) (Value.ref 516)), (de P "string" (nat_lit 925) (Value.ref 523)), (de P "procedure" (nat_lit 935) (Value.ref 530)), (de P "slashed" (nat_lit 945) (Value.ref 537)), (de P "pointed" (nat_lit 954) (Value.ref 544)), (de P "closed" (nat_lit 962) (Value.ref 551)), (de P "plain" (nat_lit 972) (Value.ref 558)), (de P "token" (nat_lit 985) (Value.ref 566)), (de P "things" (nat_lit 997) (Value.ref 574)), (de P "token_in" (nat_lit 1009) (Value.ref 582)), (de P "__static_attributes__" (nat_lit 1011) (Value.ref 583))] 14) #[]))
@[reducible] noncomputable def o_567 : Params → Obj := (fun _ => (Obj.mk Value.none none (Data.fields #[(Value.int 358 (nat_lit 0)), (Value.int 4 (nat_lit 0)), (Value.ref 515), (Value.int 361 (nat_lit 0)), (Value.int 4 (nat_lit 0)), (Value.ref 522), (Value.int 364 (nat_lit 0)), (Value.int 4 (nat_lit 0)), (Value.ref 529), (Value.int 368 (nat_lit 0)), (Value.int 4 (nat_lit 0)), (Value.ref 536), (Value.int 376 (nat_lit 0)), (Value.int 4 (nat_lit 0)), (Value.ref 543), (Value.int 385 (nat_lit 0)), (Value.int 4 (nat_lit 0)), (Value.ref 550), (Value.int 390 (nat_lit 0)), (Value.int 4 (nat_lit 0)), (Value.ref 557), (Value.int 406 (nat_lit 0)), (Value.int 4 (nat_lit 0)), (Value.ref 565), (Value.int 428 (nat_lit 0)), (Value.int 4 (nat_lit 0)), (Value.ref 573), (Value.int 436 (nat_lit 0)), (Value.int 4 (nat_lit 0)), (Value.ref 581)]) #[]))
@[reducible] noncomputable def o_568 : Params → Obj := (fun _ => (Obj.mk (Value.type "code") none (Data.fields #[(Value.str "Scanner" (nat_lit 900)), (Value.str "Scanner" (nat_lit 901)), (Value.str "/claim/cut.py" (nat_lit 902)), (Value.int 356 (nat_lit 0)), (Value.int 0 (nat_lit 0)), (Value.int 0 (nat_lit 0)), (Value.int 0 (nat_lit 0)), (Value.int 0 (nat_lit 0)), (Value.ref 506), (Value.bool false), (Value.int 181 (nat_lit 0)), (Value.ref 507), Value.none, Value.none, Value.none, Value.none, (Value.int 903 (nat_lit 0)), (Value.int 356 (nat_lit 0)), (Value.str "/claim/cut.py" (nat_lit 904))]) #[]))
@[reducible] noncomputable def o_569 : Params → Obj := (fun _ => (Obj.mk (Value.type "frame") none Data.plain #[(Option.some (Value.ref 508)), (Option.some (Value.ref 3)), (Option.some (Value.ref 505)), none, (Option.some (Value.str "postcore.scanner" (nat_lit 673))), none, (Option.some (Value.ref 0))]))
@[reducible] noncomputable def o_572 : Params → Obj := (fun _ => (Obj.mk (Value.type "tuple") none (Data.seq #[(Value.str "self" (nat_lit 913)), (Value.str "memory" (nat_lit 914))] 0) #[]))
@[reducible] noncomputable def o_574 : Params → Obj := (fun _ => (Obj.mk Value.none none (Data.func (fd (st := at_ [90, 0]) rfl "Scanner.__init__" 0 [] Value.none Value.none Value.none Value.none none Value.none Value.none 0)) #[]))
@[reducible] noncomputable def o_575 : Params → Obj := (fun _ => (Obj.mk (Value.type "code") none (Data.fields #[(Value.str "__init__" (nat_lit 910)), (Value.str "Scanner.__init__" (nat_lit 911)), (Value.str "/claim/cut.py" (nat_lit 912)), (Value.int 358 (nat_lit 0)), (Value.int 2 (nat_lit 0)), (Value.int 0 (nat_lit 0)), (Value.int 0 (nat_lit 0)), (Value.int 3 (nat_lit 0)), (Value.ref 510), (Value.bool true), (Value.int 181 (nat_lit 0)), (Value.ref 511), Value.none, (Value.ref 512), (Value.ref 513), (Value.ref 514), (Value.int 915 (nat_lit 0)), (Value.int 358 (nat_lit 0)), (Value.str "/claim/cut.py" (nat_lit 916))]) #[]))
@[reducible] noncomputable def o_576 : Params → Obj := (fun _ => (Obj.mk (Value.type "function") none (Data.func (fd (st := at_ [90, 0]) rfl "Scanner.__init__" 3 [] Value.none Value.none Value.none (Value.str "postcore.scanner" (nat_lit 673)) none (Value.ref 515) Value.none 0)) #[]))
@[reducible] noncomputable def o_579 : Params → Obj := (fun _ => (Obj.mk (Value.type "tuple") none (Data.seq #[(Value.str "self" (nat_lit 921)), (Value.str "octets" (nat_lit 922))] 0) #[]))
@[reducible] noncomputable def o_581 : Params → Obj := (fun _ => (Obj.mk Value.none none (Data.func (fd (st := at_ [90, 1]) rfl "Scanner.string" 0 [] Value.none Value.none Value.none Value.none none Value.none Value.none 0)) #[]))
@[reducible] noncomputable def o_582 : Params → Obj := (fun _ => (Obj.mk (Value.type "code") none (Data.fields #[(Value.str "string" (nat_lit 918)), (Value.str "Scanner.string" (nat_lit 919)), (Value.str "/claim/cut.py" (nat_lit 920)), (Value.int 361 (nat_lit 0)), (Value.int 2 (nat_lit 0)), (Value.int 0 (nat_lit 0)), (Value.int 0 (nat_lit 0)), (Value.int 3 (nat_lit 0)), (Value.ref 517), (Value.bool true), (Value.int 181 (nat_lit 0)), (Value.ref 518), Value.none, (Value.ref 519), (Value.ref 520), (Value.ref 521), (Value.int 923 (nat_lit 0)), (Value.int 361 (nat_lit 0)), (Value.str "/claim/cut.py" (nat_lit 924))]) #[]))
@[reducible] noncomputable def o_583 : Params → Obj := (fun _ => (Obj.mk (Value.type "function") none (Data.func (fd (st := at_ [90, 1]) rfl "Scanner.string" 3 [] Value.none Value.none Value.none (Value.str "postcore.scanner" (nat_lit 673)) none (Value.ref 522) Value.none 0)) #[]))
@[reducible] noncomputable def o_586 : Params → Obj := (fun _ => (Obj.mk (Value.type "tuple") none (Data.seq #[(Value.str "self" (nat_lit 929)), (Value.str "things" (nat_lit 930)), (Value.str "is_packing" (nat_lit 931)), (Value.str "row" (nat_lit 932))] 0) #[]))
@[reducible] noncomputable def o_588 : Params → Obj := (fun _ => (Obj.mk Value.none none (Data.func (fd (st := at_ [90, 2]) rfl "Scanner.procedure" 0 [] Value.none Value.none Value.none Value.none none Value.none Value.none 0)) #[]))
@[reducible] noncomputable def o_589 : Params → Obj := (fun _ => (Obj.mk (Value.type "code") none (Data.fields #[(Value.str "procedure" (nat_lit 926)), (Value.str "Scanner.procedure" (nat_lit 927)), (Value.str "/claim/cut.py" (nat_lit 928)), (Value.int 364 (nat_lit 0)), (Value.int 3 (nat_lit 0)), (Value.int 0 (nat_lit 0)), (Value.int 0 (nat_lit 0)), (Value.int 3 (nat_lit 0)), (Value.ref 524), (Value.bool true), (Value.int 181 (nat_lit 0)), (Value.ref 525), Value.none, (Value.ref 526), (Value.ref 527), (Value.ref 528), (Value.int 933 (nat_lit 0)), (Value.int 364 (nat_lit 0)), (Value.str "/claim/cut.py" (nat_lit 934))]) #[]))
@[reducible] noncomputable def o_590 : Params → Obj := (fun _ => (Obj.mk (Value.type "function") none (Data.func (fd (st := at_ [90, 2]) rfl "Scanner.procedure" 3 [] Value.none Value.none Value.none (Value.str "postcore.scanner" (nat_lit 673)) none (Value.ref 529) Value.none 0)) #[]))
@[reducible] noncomputable def o_593 : Params → Obj := (fun _ => (Obj.mk (Value.type "tuple") none (Data.seq #[(Value.str "self" (nat_lit 939)), (Value.str "source" (nat_lit 940)), (Value.str "lookup" (nat_lit 941)), (Value.str "octet" (nat_lit 942))] 0) #[]))
@[reducible] noncomputable def o_595 : Params → Obj := (fun _ => (Obj.mk Value.none none (Data.func (fd (st := at_ [90, 3]) rfl "Scanner.slashed" 0 [] Value.none Value.none Value.none Value.none none Value.none Value.none 0)) #[]))
@[reducible] noncomputable def o_596 : Params → Obj := (fun _ => (Obj.mk (Value.type "code") none (Data.fields #[(Value.str "slashed" (nat_lit 936)), (Value.str "Scanner.slashed" (nat_lit 937)), (Value.str "/claim/cut.py" (nat_lit 938)), (Value.int 368 (nat_lit 0)), (Value.int 3 (nat_lit 0)), (Value.int 0 (nat_lit 0)), (Value.int 0 (nat_lit 0)), (Value.int 3 (nat_lit 0)), (Value.ref 531), (Value.bool true), (Value.int 181 (nat_lit 0)), (Value.ref 532), Value.none, (Value.ref 533), (Value.ref 534), (Value.ref 535), (Value.int 943 (nat_lit 0)), (Value.int 368 (nat_lit 0)), (Value.str "/claim/cut.py" (nat_lit 944))]) #[]))
@[reducible] noncomputable def o_597 : Params → Obj := (fun _ => (Obj.mk (Value.type "function") none (Data.func (fd (st := at_ [90, 3]) rfl "Scanner.slashed" 3 [] Value.none Value.none Value.none (Value.str "postcore.scanner" (nat_lit 673)) none (Value.ref 536) Value.none 0)) #[]))
@[reducible] noncomputable def o_600 : Params → Obj := (fun _ => (Obj.mk (Value.type "tuple") none (Data.seq #[(Value.str "self" (nat_lit 949)), (Value.str "source" (nat_lit 950)), (Value.str "octet" (nat_lit 951))] 0) #[]))
@[reducible] noncomputable def o_602 : Params → Obj := (fun _ => (Obj.mk Value.none none (Data.func (fd (st := at_ [90, 4]) rfl "Scanner.pointed" 0 [] Value.none Value.none Value.none Value.none none Value.none Value.none 0)) #[]))
@[reducible] noncomputable def o_603 : Params → Obj := (fun _ => (Obj.mk (Value.type "code") none (Data.fields #[(Value.str "pointed" (nat_lit 946)), (Value.str "Scanner.pointed" (nat_lit 947)), (Value.str "/claim/cut.py" (nat_lit 948)), (Value.int 376 (nat_lit 0)), (Value.int 2 (nat_lit 0)), (Value.int 0 (nat_lit 0)), (Value.int 0 (nat_lit 0)), (Value.int 3 (nat_lit 0)), (Value.ref 538), (Value.bool true), (Value.int 181 (nat_lit 0)), (Value.ref 539), Value.none, (Value.ref 540), (Value.ref 541), (Value.ref 542), (Value.int 952 (nat_lit 0)), (Value.int 376 (nat_lit 0)), (Value.str "/claim/cut.py" (nat_lit 953))]) #[]))
@[reducible] noncomputable def o_604 : Params → Obj := (fun _ => (Obj.mk (Value.type "function") none (Data.func (fd (st := at_ [90, 4]) rfl "Scanner.pointed" 3 [] Value.none Value.none Value.none (Value.str "postcore.scanner" (nat_lit 673)) none (Value.ref 543) Value.none 0)) #[]))
@[reducible] noncomputable def o_607 : Params → Obj := (fun _ => (Obj.mk (Value.type "tuple") none (Data.seq #[(Value.str "self" (nat_lit 958)), (Value.str "source" (nat_lit 959))] 0) #[]))
@[reducible] noncomputable def o_609 : Params → Obj := (fun _ => (Obj.mk Value.none none (Data.func (fd (st := at_ [90, 5]) rfl "Scanner.closed" 0 [] Value.none Value.none Value.none Value.none none Value.none Value.none 0)) #[]))
@[reducible] noncomputable def o_610 : Params → Obj := (fun _ => (Obj.mk (Value.type "code") none (Data.fields #[(Value.str "closed" (nat_lit 955)), (Value.str "Scanner.closed" (nat_lit 956)), (Value.str "/claim/cut.py" (nat_lit 957)), (Value.int 385 (nat_lit 0)), (Value.int 2 (nat_lit 0)), (Value.int 0 (nat_lit 0)), (Value.int 0 (nat_lit 0)), (Value.int 3 (nat_lit 0)), (Value.ref 545), (Value.bool true), (Value.int 181 (nat_lit 0)), (Value.ref 546), Value.none, (Value.ref 547), (Value.ref 548), (Value.ref 549), (Value.int 960 (nat_lit 0)), (Value.int 385 (nat_lit 0)), (Value.str "/claim/cut.py" (nat_lit 961))]) #[]))
@[reducible] noncomputable def o_611 : Params → Obj := (fun _ => (Obj.mk (Value.type "function") none (Data.func (fd (st := at_ [90, 5]) rfl "Scanner.closed" 3 [] Value.none Value.none Value.none (Value.str "postcore.scanner" (nat_lit 673)) none (Value.ref 550) Value.none 0)) #[]))
@[reducible] noncomputable def o_614 : Params → Obj := (fun _ => (Obj.mk (Value.type "tuple") none (Data.seq #[(Value.str "self" (nat_lit 966)), (Value.str "source" (nat_lit 967)), (Value.str "octet" (nat_lit 968)), (Value.str "lookup" (nat_lit 969))] 0) #[]))
@[reducible] noncomputable def o_616 : Params → Obj := (fun _ => (Obj.mk Value.none none (Data.func (fd (st := at_ [90, 6]) rfl "Scanner.plain" 0 [] Value.none Value.none Value.none Value.none none Value.none Value.none 0)) #[]))
@[reducible] noncomputable def o_617 : Params → Obj := (fun _ => (Obj.mk (Value.type "code") none (Data.fields #[(Value.str "plain" (nat_lit 963)), (Value.str "Scanner.plain" (nat_lit 964)), (Value.str "/claim/cut.py" (nat_lit 965)), (Value.int 390 (nat_lit 0)), (Value.int 4 (nat_lit 0)), (Value.int 0 (nat_lit 0)), (Value.int 0 (nat_lit 0)), (Value.int 3 (nat_lit 0)), (Value.ref 552), (Value.bool true), (Value.int 181 (nat_lit 0)), (Value.ref 553), Value.none, (Value.ref 554), (Value.ref 555), (Value.ref 556), (Value.int 970 (nat_lit 0)), (Value.int 390 (nat_lit 0)), (Value.str "/claim/cut.py" (nat_lit 971))]) #[]))
@[reducible] noncomputable def o_618 : Params → Obj := (fun _ => (Obj.mk (Value.type "function") none (Data.func (fd (st := at_ [90, 6]) rfl "Scanner.plain" 3 [] Value.none Value.none Value.none (Value.str "postcore.scanner" (nat_lit 673)) none (Value.ref 557) Value.none 0)) #[]))
@[reducible] noncomputable def o_619 : Params → Obj := (fun _ => (Obj.mk (Value.type "tuple") none (Data.seq #[(Value.bool false), Value.none] 0) #[]))
@[reducible] noncomputable def o_622 : Params → Obj := (fun _ => (Obj.mk (Value.type "tuple") none (Data.seq #[(Value.str "self" (nat_lit 976)), (Value.str "source" (nat_lit 977)), (Value.str "is_packing" (nat_lit 978)), (Value.str "lookup" (nat_lit 979)), (Value.str "opened" (nat_lit 980)), (Value.str "octet" (nat_lit 981)), (Value.str "done" (nat_lit 982))] 0) #[]))
@[reducible] noncomputable def o_624 : Params → Obj := (fun _ => (Obj.mk Value.none none (Data.func (fd (st := at_ [90, 7]) rfl "Scanner.token" 0 [] Value.none Value.none Value.none Value.none none Value.none Value.none 0)) #[]))
@[reducible] noncomputable def o_625 : Params → Obj := (fun _ => (Obj.mk (Value.type "code") none (Data.fields #[(Value.str "token" (nat_lit 973)), (Value.str "Scanner.token" (nat_lit 974)), (Value.str "/claim/cut.py" (nat_lit 975)), (Value.int 406 (nat_lit 0)), (Value.int 4 (nat_lit 0)), (Value.int 0 (nat_lit 0)), (Value.int 0 (nat_lit 0)), (Value.int 3 (nat_lit 0)), (Value.ref 560), (Value.bool true), (Value.int 181 (nat_lit 0)), (Value.ref 561), Value.none, (Value.ref 562), (Value.ref 563), (Value.ref 564), (Value.int 983 (nat_lit 0)), (Value.int 406 (nat_lit 0)), (Value.str "/claim/cut.py" (nat_lit 984))]) #[]))
@[reducible] noncomputable def o_626 : Params → Obj := (fun _ => (Obj.mk (Value.type "function") none (Data.func (fd (st := at_ [90, 7]) rfl "Scanner.token" 3 [] (Value.ref 559) Value.none Value.none (Value.str "postcore.scanner" (nat_lit 673)) none (Value.ref 565) Value.none 0)) #[]))
@[reducible] noncomputable def o_630 : Params → Obj := (fun _ => (Obj.mk (Value.type "tuple") none (Data.seq #[(Value.str "self" (nat_lit 989)), (Value.str "source" (nat_lit 990)), (Value.str "is_packing" (nat_lit 991)), (Value.str "lookup" (nat_lit 992)), (Value.str "found" (nat_lit 993)), (Value.str "done" (nat_lit 994))] 0) #[]))
@[reducible] noncomputable def o_632 : Params → Obj := (fun _ => (Obj.mk Value.none none (Data.func (fd (st := at_ [90, 8]) rfl "Scanner.things" 0 [] Value.none Value.none Value.none Value.none none Value.none Value.none 0)) #[]))
@[reducible] noncomputable def o_633 : Params → Obj := (fun _ => (Obj.mk (Value.type "code") none (Data.fields #[(Value.str "things" (nat_lit 986)), (Value.str "Scanner.things" (nat_lit 987)), (Value.str "/claim/cut.py" (nat_lit 988)), (Value.int 428 (nat_lit 0)), (Value.int 4 (nat_lit 0)), (Value.int 0 (nat_lit 0)), (Value.int 0 (nat_lit 0)), (Value.int 3 (nat_lit 0)), (Value.ref 568), (Value.bool true), (Value.int 181 (nat_lit 0)), (Value.ref 569), Value.none, (Value.ref 570), (Value.ref 571), (Value.ref 572), (Value.int 995 (nat_lit 0)), (Value.int 428 (nat_lit 0)), (Value.str "/claim/cut.py" (nat_lit 996))]) #[]))
@[reducible] noncomputable def o_634 : Params → Obj := (fun _ => (Obj.mk (Value.type "function") none (Data.func (fd (st := at_ [90, 8]) rfl "Scanner.things" 3 [] (Value.ref 567) Value.none Value.none (Value.str "postcore.scanner" (nat_lit 673)) none (Value.ref 573) Value.none 0)) #[]))
@[reducible] noncomputable def o_638 : Params → Obj := (fun _ => (Obj.mk (Value.type "tuple") none (Data.seq #[(Value.str "self" (nat_lit 1001)), (Value.str "octets" (nat_lit 1002)), (Value.str "is_packing" (nat_lit 1003)), (Value.str "lookup" (nat_lit 1004)), (Value.str "source" (nat_lit 1005)), (Value.str "done" (nat_lit 1006))] 0) #[]))
@[reducible] noncomputable def o_640 : Params → Obj := (fun _ => (Obj.mk Value.none none (Data.func (fd (st := at_ [90, 9]) rfl "Scanner.token_in" 0 [] Value.none Value.none Value.none Value.none none Value.none Value.none 0)) #[]))
@[reducible] noncomputable def o_641 : Params → Obj := (fun _ => (Obj.mk (Value.type "code") none (Data.fields #[(Value.str "token_in" (nat_lit 998)), (Value.str "Scanner.token_in" (nat_lit 999)), (Value.str "/claim/cut.py" (nat_lit 1000)), (Value.int 436 (nat_lit 0)), (Value.int 4 (nat_lit 0)), (Value.int 0 (nat_lit 0)), (Value.int 0 (nat_lit 0)), (Value.int 3 (nat_lit 0)), (Value.ref 576), (Value.bool true), (Value.int 181 (nat_lit 0)), (Value.ref 577), Value.none, (Value.ref 578), (Value.ref 579), (Value.ref 580), (Value.int 1007 (nat_lit 0)), (Value.int 436 (nat_lit 0)), (Value.str "/claim/cut.py" (nat_lit 1008))]) #[]))
@[reducible] noncomputable def o_642 : Params → Obj := (fun _ => (Obj.mk (Value.type "function") none (Data.func (fd (st := at_ [90, 9]) rfl "Scanner.token_in" 3 [] (Value.ref 575) Value.none Value.none (Value.str "postcore.scanner" (nat_lit 673)) none (Value.ref 581) Value.none 0)) #[]))
@[reducible] noncomputable def o_643 : Params → Obj := (fun _ => (Obj.mk (Value.type "tuple") none (Data.seq #[(Value.str "memory" (nat_lit 1010))] 0) #[]))
@[reducible] noncomputable def o_644 : Params → Obj := (fun P => (Obj.mk (Value.type "dict") none (Data.dict #[(de P "__module__" (nat_lit 905) (Value.str "postcore.scanner" (nat_lit 673))), (de P "__firstlineno__" (nat_lit 909) (Value.int 356 (nat_lit 908))), (de P "__init__" (nat_lit 917) (Value.ref 516)), (de P "string" (nat_lit 925) (Value.ref 523)), (de P "procedure" (nat_lit 935) (Value.ref 530)), (de P "slashed" (nat_lit 945) (Value.ref 537)), (de P "pointed" (nat_lit 954) (Value.ref 544)), (de P "closed" (nat_lit 962) (Value.ref 551)), (de P "plain" (nat_lit 972) (Value.ref 558)), (de P "token" (nat_lit 985) (Value.ref 566)), (de P "things" (nat_lit 997) (Value.ref 574)), (de P "token_in" (nat_lit 1009) (Value.ref 582)), (de P "__static_attributes__" (nat_lit 1011) (Value.ref 583)), (de P "__dict__" (nat_lit 1013) (Value.ref 586)), (de P "__weakref__" (nat_lit 1015) (Value.ref 587)), (de P "__doc__" (nat_lit 1016) Value.none)] 4) #[]))
@[reducible] noncomputable def o_645 : Params → Obj := (fun _ => (Obj.mk (Value.type "type") none (Data.cls (ClassData.mk "Scanner" [(Value.type "object")] [(Value.ref 585), (Value.type "object")] 584 "Scanner" true [] [] false none false)) #[none, none, (Option.some (Value.str "Scanner" (nat_lit 898))), (Option.some (Value.str "Scanner" (nat_lit 906))), (Option.some (Value.builtin "object.__new__")), (Option.some (Value.bool true))]))
@[reducible] noncomputable def o_646 : Params → Obj := (fun _ => (Obj.mk (Value.type "getset_descriptor") none (Data.fields #[(Value.str "__dict__" (nat_lit 1012)), (Value.ref 585), (Value.builtin "function.__dict__"), (Value.builtin "function.__dict__#set")]) #[]))
@[reducible] noncomputable def o_647 : Params → Obj := (fun _ => (Obj.mk (Value.type "getset_descriptor") none (Data.fields #[(Value.str "__weakref__" (nat_lit 1014)), (Value.ref 585), (Value.builtin "ExceptionGroup.__weakref__"), Value.none]) #[]))
@[reducible] noncomputable def o_648 : Params → Obj := (fun _ => (Obj.mk (Value.type "super") none (Data.fields #[(Value.ref 585), (Value.ref 585), (Value.ref 585)]) #[]))
@[reducible] noncomputable def o_649 : Params → Obj := (fun _ => (Obj.mk (Value.type "builtin_function_or_method") none (Data.fields #[(Value.builtin "object.__init_subclass__"), (Value.ref 585)]) #[]))
@[reducible] noncomputable def o_650 : Params → Obj := (fun P => (Obj.mk (Value.type "dict") none (Data.dict (List.toArray ((de P "__name__" (nat_lit 165) (Value.str "postcore.memory" (nat_lit 1019))) :: (de P "__doc__" (nat_lit 166) Value.none) :: (de P "__package__" (nat_lit 167) Value.none) :: (de P "__loader__" (nat_lit 168) (Value.builtin "__main__.__loader__#opaque")) :: (de P "__spec__" (nat_lit 169) Value.none) :: (de P "__annotations__" (nat_lit 170) (Value.ref 6)) :: (de P "__builtins__" (nat_lit 171) (Value.ref 4)) :: (de P "__file__" (nat_lit 173) (Value.str "/claim/cut.py" (nat_lit 172))) :: (de P "__cached__" (nat_lit 174) Value.none) :: (de P "_wall" (nat_lit 193) (Value.ref 21)) :: (de P "GRAIN" (nat_lit 197) (Value.int 1000000 (nat_lit 196))) :: (de P "LEAST_INT" (nat_lit 202) (Value.int (-2147483648) (nat_lit 201))) :: (de P "MOST_INT" (nat_lit 208) (Value.int 2147483647 (nat_lit 207))) :: (de P "WHITE" (nat_lit 210) (Value.bytes #[0, 9, 10, 12, 13, 32] (nat_lit 209))) :: (de P "DELIMITERS" (nat_lit 212) (Value.bytes #[40, 41, 60, 62, 91, 93, 123, 125, 47, 37] (nat_lit 211))) :: (de P "LINE_FEED" (nat_lit 214) (Value.int 10 (nat_lit 213))) :: (de P "CARRIAGE_RETURN" (nat_lit 216) (Value.int 13 (nat_lit 215))) :: (de P "PostError" (nat_lit 245) (Value.ref 39)) :: (de P "PsError" (nat_lit 261) (Value.ref 52)) :: (de P "is_white" (nat_lit 268) (Value.ref 61)) :: (de P "is_delimiter" (nat_lit 275) (Value.ref 68)) :: (de P "is_line_end" (nat_lit 282) (Value.ref 75)) :: (de P "is_octal" (nat_lit 289) (Value.ref 82)) :: (de P "hex_value" (nat_lit 296) (Value.ref 89)) :: (de P "digit_value" (nat_lit 303) (Value.ref 96)) :: (de P "INTEGER" (nat_lit 307) (Value.str "integer" (nat_lit 306))) :: (de P "REAL" (nat_lit 309) (Value.str "real" (nat_lit 308))) :: (de P "MOST_REAL" (nat_lit 314) (Value.int 1000000000000000000000 (nat_lit 313))) :: (de P "PLACES" (nat_lit 316) (Value.int 6 (nat_lit 315))) :: (de P "WORD_SIZE" (nat_lit 320) (Value.int 4294967296 (nat_lit 319))) :: (de P "MOST_FIGURES" (nat_lit 322) (Value.int 6 (nat_lit 321))) :: (de P "divided" (nat_lit 333) (Value.ref 103)) :: (de P "is_integer_size" (nat_lit 340) (Value.ref 110)) :: (de P "checked_real" (nat_lit 347) (Value.ref 117)) :: (de P "real_of" (nat_lit 354) (Value.ref 124)) :: (de P "whole_number" (nat_lit 361) (Value.ref 131)) :: (de P "figures_value" (nat_lit 372) (Value.ref 138)) :: (de P "read_radix" (nat_lit 382) (Value.ref 145)) :: (de P "signed_word" (nat_lit 390) (Value.ref 152)) :: (de P "read_exponent" (nat_lit 400) (Value.ref 159)) :: (de P "number_scaled" (nat_lit 408) (Value.ref 166)) :: (de P "split_at" (nat_lit 418) (Value.ref 173)) :: (de P "read_real" (nat_lit 433) (Value.ref 180)) :: (de P "read_number" (nat_lit 445) (Value.ref 187)) :: (de P "READ_ONLY" (nat_lit 449) (Value.int 2 (nat_lit 448))) :: (de P "UNLIMITED" (nat_lit 451) (Value.int 3 (nat_lit 450))) :: (de P "Thing" (nat_lit 486) (Value.ref 205)) :: (de P "Text" (nat_lit 521) (Value.ref 226)) :: (de P "Row" (nat_lit 556) (Value.ref 247)) :: (de P "Span" (nat_lit 589) (Value.ref 268)) :: (de P "integer" (nat_lit 596) (Value.ref 279)) :: (de P "real" (nat_lit 603) (Value.ref 286)) :: (de P "name" (nat_lit 611) (Value.ref 294)) :: (de P "null" (nat_lit 617) (Value.ref 301)) :: (de P "of_string" (nat_lit 626) (Value.ref 309)) :: (de P "of_row" (nat_lit 635) (Value.ref 317)) :: (de P "of_packed" (nat_lit 643) (Value.ref 325)) :: (de P "is_in_array" (nat_lit 650) (Value.ref 332)) :: (de P "body_of" (nat_lit 657) (Value.ref 339)) :: (de P "is_local" (nat_lit 665) (Value.ref 346)) :: (de P "octets_of_span" (nat_lit 672) (Value.ref 353)) :: (de P "SCAN_END" (nat_lit 676) (Value.int 4 (nat_lit 675))) :: (de P "SCAN_FORM_FEED" (nat_lit 678) (Value.int 12 (nat_lit 677))) :: (de P "SCAN_MOST_NAME" (nat_lit 680) (Value.int 127 (nat_lit 679))) :: (de P "SCAN_BASE" (nat_lit 682) (Value.int 85 (nat_lit 681))) :: (de P "SCAN_FIRST" (nat_lit 684) (Value.int 33 (nat_lit 683))) :: (de P "SCAN_OPEN" (nat_lit 686) (Value.int 40 (nat_lit 685))) :: (de P "SCAN_CLOSE" (nat_lit 688) (Value.int 41 (nat_lit 687))) :: (de P "SCAN_SLASH" (nat_lit 690) (Value.int 47 (nat_lit 689))) :: (de P "SCAN_LESS" (nat_lit 692) (Value.int 60 (nat_lit 691))) :: (de P "SCAN_MORE" (nat_lit 694) (Value.int 62 (nat_lit 693))) :: (de P "SCAN_BACKSLASH" (nat_lit 696) (Value.int 92 (nat_lit 695))) :: (de P "SCAN_ROW_OPEN" (nat_lit 698) (Value.int 91 (nat_lit 697))) :: (de P "SCAN_ROW_CLOSE" (nat_lit 700) (Value.int 93 (nat_lit 699))) :: (de P "SCAN_PROC_OPEN" (nat_lit 702) (Value.int 123 (nat_lit 701))) :: (de P "SCAN_PROC_CLOSE" (nat_lit 704) (Value.int 125 (nat_lit 703))) :: (de P "SCAN_TILDE" (nat_lit 706) (Value.int 126 (nat_lit 705))) :: (de P "SCAN_NOUGHTS" (nat_lit 708) (Value.int 122 (nat_lit 707))) :: (de P "SCAN_PERCENT" (nat_lit 710) (Value.int 37 (nat_lit 709))) :: (de P "OctetSource" (nat_lit 764) (Value.ref 393)) :: (de P "is_blank" (nat_lit 771) (Value.ref 404)) :: (de P "scan_skip_feed" (nat_lit 779) (Value.ref 411)) :: (de P "scan_line" (nat_lit 787) (Value.ref 418)) :: (de P "scan_first" (nat_lit 795) (Value.ref 425)) :: (de P "scan_word" (nat_lit 804) (Value.ref 432)) :: (de P "scan_sure" (nat_lit 812) (Value.ref 439)) :: (de P "scan_octal" (nat_lit 822) (Value.ref 446)) :: (de P "scan_escape" (nat_lit 832) (Value.ref 453)) :: (de P "scan_string" (nat_lit 842) (Value.ref 460)) :: (de P "scan_hex" (nat_lit 853) (Value.ref 467)) :: (de P "scan_group" (nat_lit 862) (Value.ref 474)) :: (de P "scan_base85" (nat_lit 872) (Value.ref 481)) :: (de P "scan_name" (nat_lit 880) (Value.ref 488)) :: (de P "scan_regular" (nat_lit 888) (Value.ref 495)) :: (de P "scan_at_once" (nat_lit 897) (Value.ref 502)) :: (de P "Scanner" (nat_lit 1018) (Value.ref 585)) :: (de P "ITEM_COST" (nat_lit 1022) (Value.int 8 (nat_lit 1021))) :: (de P "ENTRY_COST" (nat_lit 1024) (Value.int 16 (nat_lit 1023))) :: (de P "MOST_COST" (nat_lit 1028) (Value.int 16777216 (nat_lit 1027))) :: (de P "Limits" (nat_lit 1096) (Value.ref 607)) :: [])) 100) #[]))
@[reducible] noncomputable def o_651 : Params → Obj := (fun _ => (Obj.mk Value.none none (Data.fields (List.toArray ((Value.int 1 (nat_lit 0)) :: (Value.int 0 (nat_lit 0)) :: (Value.ref 20) :: (Value.int 12 (nat_lit 0)) :: (Value.int 0 (nat_lit 0)) :: (Value.ref 27) :: (Value.int 16 (nat_lit 0)) :: (Value.int 0 (nat_lit 0)) :: (Value.ref 48) :: (Value.int 18 (nat_lit 0)) :: (Value.int 0 (nat_lit 0)) :: (Value.ref 60) :: (Value.int 20 (nat_lit 0)) :: (Value.int 0 (nat_lit 0)) :: (Value.ref 67) :: (Value.int 22 (nat_lit 0)) :: (Value.int 0 (nat_lit 0)) :: (Value.ref 74) :: (Value.int 24 (nat_lit 0)) :: (Value.int 0 (nat_lit 0)) :: (Value.ref 81) :: (Value.int 26 (nat_lit 0)) :: (Value.int 0 (nat_lit 0)) :: (Value.ref 88) :: (Value.int 34 (nat_lit 0)) :: (Value.int 0 (nat_lit 0)) :: (Value.ref 95) :: (Value.int 49 (nat_lit 0)) :: (Value.int 0 (nat_lit 0)) :: (Value.ref 102) :: (Value.int 53 (nat_lit 0)) :: (Value.int 0 (nat_lit 0)) :: (Value.ref 109) :: (Value.int 55 (nat_lit 0)) :: (Value.int 0 (nat_lit 0)) :: (Value.ref 116) :: (Value.int 59 (nat_lit 0)) :: (Value.int 0 (nat_lit 0)) :: (Value.ref 123) :: (Value.int 61 (nat_lit 0)) :: (Value.int 0 (nat_lit 0)) :: (Value.ref 130) :: (Value.int 65 (nat_lit 0)) :: (Value.int 0 (nat_lit 0)) :: (Value.ref 137) :: (Value.int 75 (nat_lit 0)) :: (Value.int 0 (nat_lit 0)) :: (Value.ref 144) :: (Value.int 85 (nat_lit 0)) :: (Value.int 0 (nat_lit 0)) :: (Value.ref 151) :: (Value.int 88 (nat_lit 0)) :: (Value.int 0 (nat_lit 0)) :: (Value.ref 158) :: (Value.int 96 (nat_lit 0)) :: (Value.int 0 (nat_lit 0)) :: (Value.ref 165) :: (Value.int 106 (nat_lit 0)) :: (Value.int 0 (nat_lit 0)) :: (Value.ref 172) :: (Value.int 111 (nat_lit 0)) :: (Value.int 0 (nat_lit 0)) :: (Value.ref 179) :: (Value.int 122 (nat_lit 0)) :: (Value.int 0 (nat_lit 0)) :: (Value.ref 186) :: (Value.int 135 (nat_lit 0)) :: (Value.int 0 (nat_lit 0)) :: (Value.ref 193) :: (Value.int 142 (nat_lit 0)) :: (Value.int 0 (nat_lit 0)) :: (Value.ref 215) :: (Value.int 149 (nat_lit 0)) :: (Value.int 0 (nat_lit 0)) :: (Value.ref 236) :: (Value.int 156 (nat_lit 0)) :: (Value.int 0 (nat_lit 0)) :: (Value.ref 257) :: (Value.int 162 (nat_lit 0)) :: (Value.int 0 (nat_lit 0)) :: (Value.ref 278) :: (Value.int 164 (nat_lit 0)) :: (Value.int 0 (nat_lit 0)) :: (Value.ref 285) :: (Value.int 166 (nat_lit 0)) :: (Value.int 0 (nat_lit 0)) :: (Value.ref 293) :: (Value.int 168 (nat_lit 0)) :: (Value.int 0 (nat_lit 0)) :: (Value.ref 300) :: (Value.int 170 (nat_lit 0)) :: (Value.int 0 (nat_lit 0)) :: (Value.ref 308) :: (Value.int 172 (nat_lit 0)) :: (Value.int 0 (nat_lit 0)) :: (Value.ref 316) :: (Value.int 174 (nat_lit 0)) :: (Value.int 0 (nat_lit 0)) :: (Value.ref 324) :: (Value.int 176 (nat_lit 0)) :: (Value.int 0 (nat_lit 0)) :: (Value.ref 331) :: (Value.int 178 (nat_lit 0)) :: (Value.int 0 (nat_lit 0)) :: (Value.ref 338) :: (Value.int 182 (nat_lit 0)) :: (Value.int 0 (nat_lit 0)) :: (Value.ref 345) :: (Value.int 185 (nat_lit 0)) :: (Value.int 0 (nat_lit 0)) :: (Value.ref 352) :: (Value.int 206 (nat_lit 0)) :: (Value.int 0 (nat_lit 0)) :: (Value.ref 359) :: (Value.int 224 (nat_lit 0)) :: (Value.int 0 (nat_lit 0)) :: (Value.ref 403) :: (Value.int 226 (nat_lit 0)) :: (Value.int 0 (nat_lit 0)) :: (Value.ref 410) :: (Value.int 230 (nat_lit 0)) :: (Value.int 0 (nat_lit 0)) :: (Value.ref 417) :: (Value.int 236 (nat_lit 0)) :: (Value.int 0 (nat_lit 0)) :: (Value.ref 424) :: (Value.int 245 (nat_lit 0)) :: (Value.int 0 (nat_lit 0)) :: (Value.ref 431) :: (Value.int 258 (nat_lit 0)) :: (Value.int 0 (nat_lit 0)) :: (Value.ref 438) :: (Value.int 263 (nat_lit 0)) :: (Value.int 0 (nat_lit 0)) :: (Value.ref 445) :: (Value.int 274 (nat_lit 0)) :: (Value.int 0 (nat_lit 0)) :: (Value.ref 452) :: (Value.int 283 (nat_lit 0)) :: (Value.int 0 (nat_lit 0)) :: (Value.ref 459) :: (Value.int 300 (nat_lit 0)) :: (Value.int 0 (nat_lit 0)) :: (Value.ref 466) :: (Value.int 316 (nat_lit 0)) :: (Value.int 0 (nat_lit 0)) :: (Value.ref 473) :: (Value.int 323 (nat_lit 0)) :: (Value.int 0 (nat_lit 0)) :: (Value.ref 480) :: (Value.int 342 (nat_lit 0)) :: (Value.int 0 (nat_lit 0)) :: (Value.ref 487) :: (Value.int 346 (nat_lit 0)) :: (Value.int 0 (nat_lit 0)) :: (Value.ref 494) :: (Value.int 351 (nat_lit 0)) :: (Value.int 0 (nat_lit 0)) :: (Value.ref 501) :: (Value.int 356 (nat_lit 0)) :: (Value.int 0 (nat_lit 0)) :: (Value.ref 508) :: (Value.int 444 (nat_lit 0)) :: (Value.int 0 (nat_lit 0)) :: (Value.ref 595) :: []))) #[]))
@[reducible] noncomputable def o_654 : Params → Obj := (fun P => (Obj.mk (Value.type "dict") none (Data.dict #[(de P "__module__" (nat_lit 1036) (Value.str "postcore.memory" (nat_lit 1019))), (de P "__qualname__" (nat_lit 1038) (Value.str "Limits" (nat_lit 1037))), (de P "__firstlineno__" (nat_lit 1040) (Value.int 444 (nat_lit 1039))), (de P "__init__" (nat_lit 1074) (Value.ref 604)), (de P "__static_attributes__" (nat_lit 1089) (Value.ref 605))] 5) #[]))
@[reducible] noncomputable def o_656 : Params → Obj := (fun _ => (Obj.mk Value.none none (Data.fields #[(Value.int 446 (nat_lit 0)), (Value.int 4 (nat_lit 0)), (Value.ref 603)]) #[]))
@[reducible] noncomputable def o_657 : Params → Obj := (fun _ => (Obj.mk (Value.type "code") none (Data.fields #[(Value.str "Limits" (nat_lit 1031)), (Value.str "Limits" (nat_lit 1032)), (Value.str "/claim/cut.py" (nat_lit 1033)), (Value.int 444 (nat_lit 0)), (Value.int 0 (nat_lit 0)), (Value.int 0 (nat_lit 0)), (Value.int 0 (nat_lit 0)), (Value.int 0 (nat_lit 0)), (Value.ref 593), (Value.bool false), (Value.int 181 (nat_lit 0)), (Value.ref 594), Value.none, Value.none, Value.none, Value.none, (Value.int 1034 (nat_lit 0)), (Value.int 444 (nat_lit 0)), (Value.str "/claim/cut.py" (nat_lit 1035))]) #[]))
@[reducible] noncomputable def o_658 : Params → Obj := (fun _ => (Obj.mk (Value.type "frame") none Data.plain #[(Option.some (Value.ref 595)), (Option.some (Value.ref 3)), (Option.some (Value.ref 592)), none, (Option.some (Value.str "postcore.memory" (nat_lit 1019))), none, (Option.some (Value.ref 0))]))
@[reducible] noncomputable def o_659 : Params → Obj := (fun _ => (Obj.mk (Value.type "tuple") none (Data.seq #[(Value.int 500 (nat_lit 1041)), (Value.int 20 (nat_lit 1042)), (Value.int 250 (nat_lit 1043)), (Value.int 15 (nat_lit 1044)), (Value.int 31 (nat_lit 1045)), (Value.int 65535 (nat_lit 1046)), (Value.int 65535 (nat_lit 1047)), (Value.int 65535 (nat_lit 1048)), (Value.int 127 (nat_lit 1049)), (Value.int 1500 (nat_lit 1050)), (Value.int 11 (nat_lit 1051)), (Value.int 15 (nat_lit 1052)), (Value.int 600 (nat_lit 1053)), (Value.int 16777216 (nat_lit 1027))] 0) #[]))
@[reducible] noncomputable def o_662 : Params → Obj := (fun _ => (Obj.mk (Value.type "tuple") none (Data.seq #[(Value.str "self" (nat_lit 1057)), (Value.str "operands" (nat_lit 1058)), (Value.str "dicts" (nat_lit 1059)), (Value.str "frames" (nat_lit 1060)), (Value.str "saves" (nat_lit 1061)), (Value.str "gstates" (nat_lit 1062)), (Value.str "text" (nat_lit 1063)), (Value.str "row" (nat_lit 1064)), (Value.str "entries" (nat_lit 1065)), (Value.str "word" (nat_lit 1066)), (Value.str "path" (nat_lit 1067)), (Value.str "dash" (nat_lit 1068)), (Value.str "files" (nat_lit 1069)), (Value.str "system" (nat_lit 1070)), (Value.str "vm" (nat_lit 1071))] 0) #[]))
@[reducible] noncomputable def o_664 : Params → Obj := (fun _ => (Obj.mk Value.none none (Data.func (fd (st := at_ [95, 0]) rfl "Limits.__init__" 0 [] Value.none Value.none Value.none Value.none none Value.none Value.none 0)) #[]))
@[reducible] noncomputable def o_665 : Params → Obj := (fun _ => (Obj.mk (Value.type "code") none (Data.fields #[(Value.str "__init__" (nat_lit 1054)), (Value.str "Limits.__init__" (nat_lit 1055)), (Value.str "/claim/cut.py" (nat_lit 1056)), (Value.int 446 (nat_lit 0)), (Value.int 15 (nat_lit 0)), (Value.int 0 (nat_lit 0)), (Value.int 0 (nat_lit 0)), (Value.int 3 (nat_lit 0)), (Value.ref 598), (Value.bool true), (Value.int 181 (nat_lit 0)), (Value.ref 599), Value.none, (Value.ref 600), (Value.ref 601), (Value.ref 602), (Value.int 1072 (nat_lit 0)), (Value.int 446 (nat_lit 0)), (Value.str "/claim/cut.py" (nat_lit 1073))]) #[]))
@[reducible] noncomputable def o_666 : Params → Obj := (fun _ => (Obj.mk (Value.type "function") none (Data.func (fd (st := at_ [95, 0]) rfl "Limits.__init__" 3 [] (Value.ref 597) Value.none Value.none (Value.str "postcore.memory" (nat_lit 1019)) none (Value.ref 603) Value.none 0)) #[]))
@[reducible] noncomputable def o_667 : Params → Obj := (fun _ => (Obj.mk (Value.type "tuple") none (Data.seq #[(Value.str "dash" (nat_lit 1075)), (Value.str "dicts" (nat_lit 1076)), (Value.str "entries" (nat_lit 1077)), (Value.str "files" (nat_lit 1078)), (Value.str "frames" (nat_lit 1079)), (Value.str "gstates" (nat_lit 1080)), (Value.str "operands" (nat_lit 1081)), (Value.str "path" (nat_lit 1082)), (Value.str "row" (nat_lit 1083)), (Value.str "saves" (nat_lit 1084)), (Value.str "system" (nat_lit 1085)), (Value.str "text" (nat_lit 1086)), (Value.str "vm" (nat_lit 1087)), (Value.str "word" (nat_lit 1088))] 0) #[]))
@[reducible] noncomputable def o_668 : Params → Obj := (fun P => (Obj.mk (Value.type "dict") none (Data.dict #[(de P "__module__" (nat_lit 1036) (Value.str "postcore.memory" (nat_lit 1019))), (de P "__firstlineno__" (nat_lit 1040) (Value.int 444 (nat_lit 1039))), (de P "__init__" (nat_lit 1074) (Value.ref 604)), (de P "__static_attributes__" (nat_lit 1089) (Value.ref 605)), (de P "__dict__" (nat_lit 1091) (Value.ref 608)), (de P "__weakref__" (nat_lit 1093) (Value.ref 609)), (de P "__doc__" (nat_lit 1094) Value.none)] 4) #[]))
@[reducible] noncomputable def o_669 : Params → Obj := (fun _ => (Obj.mk (Value.type "type") none (Data.cls (ClassData.mk "Limits" [(Value.type "object")] [(Value.ref 607), (Value.type "object")] 606 "Limits" true [] [] false none false)) #[none, none, (Option.some (Value.str "Limits" (nat_lit 1029))), (Option.some (Value.str "Limits" (nat_lit 1037))), (Option.some (Value.builtin "object.__new__")), (Option.some (Value.bool true))]))
@[reducible] noncomputable def o_670 : Params → Obj := (fun _ => (Obj.mk (Value.type "getset_descriptor") none (Data.fields #[(Value.str "__dict__" (nat_lit 1090)), (Value.ref 607), (Value.builtin "function.__dict__"), (Value.builtin "function.__dict__#set")]) #[]))
@[reducible] noncomputable def o_671 : Params → Obj := (fun _ => (Obj.mk (Value.type "getset_descriptor") none (Data.fields #[(Value.str "__weakref__" (nat_lit 1092)), (Value.ref 607), (Value.builtin "ExceptionGroup.__weakref__"), Value.none]) #[]))
@[reducible] noncomputable def o_672 : Params → Obj := (fun _ => (Obj.mk (Value.type "super") none (Data.fields #[(Value.ref 607), (Value.ref 607), (Value.ref 607)]) #[]))
@[reducible] noncomputable def o_673 : Params → Obj := (fun _ => (Obj.mk (Value.type "builtin_function_or_method") none (Data.fields #[(Value.builtin "object.__init_subclass__"), (Value.ref 607)]) #[]))
@[reducible] noncomputable def o_674 : Params → Obj := (fun P => (Obj.mk (Value.type "dict") none (Data.dict (List.toArray ((de P "__name__" (nat_lit 165) (Value.str "postcore.memory" (nat_lit 1019))) :: (de P "__doc__" (nat_lit 166) Value.none) :: (de P "__package__" (nat_lit 167) Value.none) :: (de P "__loader__" (nat_lit 168) (Value.builtin "__main__.__loader__#opaque")) :: (de P "__spec__" (nat_lit 169) Value.none) :: (de P "__annotations__" (nat_lit 170) (Value.ref 6)) :: (de P "__builtins__" (nat_lit 171) (Value.ref 4)) :: (de P "__file__" (nat_lit 173) (Value.str "/claim/cut.py" (nat_lit 172))) :: (de P "__cached__" (nat_lit 174) Value.none) :: (de P "_wall" (nat_lit 193) (Value.ref 21)) :: (de P "GRAIN" (nat_lit 197) (Value.int 1000000 (nat_lit 196))) :: (de P "LEAST_INT" (nat_lit 202) (Value.int (-2147483648) (nat_lit 201))) :: (de P "MOST_INT" (nat_lit 208) (Value.int 2147483647 (nat_lit 207))) :: (de P "WHITE" (nat_lit 210) (Value.bytes #[0, 9, 10, 12, 13, 32] (nat_lit 209))) :: (de P "DELIMITERS" (nat_lit 212) (Value.bytes #[40, 41, 60, 62, 91, 93, 123, 125, 47, 37] (nat_lit 211))) :: (de P "LINE_FEED" (nat_lit 214) (Value.int 10 (nat_lit 213))) :: (de P "CARRIAGE_RETURN" (nat_lit 216) (Value.int 13 (nat_lit 215))) :: (de P "PostError" (nat_lit 245) (Value.ref 39)) :: (de P "PsError" (nat_lit 261) (Value.ref 52)) :: (de P "is_white" (nat_lit 268) (Value.ref 61)) :: (de P "is_delimiter" (nat_lit 275) (Value.ref 68)) :: (de P "is_line_end" (nat_lit 282) (Value.ref 75)) :: (de P "is_octal" (nat_lit 289) (Value.ref 82)) :: (de P "hex_value" (nat_lit 296) (Value.ref 89)) :: (de P "digit_value" (nat_lit 303) (Value.ref 96)) :: (de P "INTEGER" (nat_lit 307) (Value.str "integer" (nat_lit 306))) :: (de P "REAL" (nat_lit 309) (Value.str "real" (nat_lit 308))) :: (de P "MOST_REAL" (nat_lit 314) (Value.int 1000000000000000000000 (nat_lit 313))) :: (de P "PLACES" (nat_lit 316) (Value.int 6 (nat_lit 315))) :: (de P "WORD_SIZE" (nat_lit 320) (Value.int 4294967296 (nat_lit 319))) :: (de P "MOST_FIGURES" (nat_lit 322) (Value.int 6 (nat_lit 321))) :: (de P "divided" (nat_lit 333) (Value.ref 103)) :: (de P "is_integer_size" (nat_lit 340) (Value.ref 110)) :: (de P "checked_real" (nat_lit 347) (Value.ref 117)) :: (de P "real_of" (nat_lit 354) (Value.ref 124)) :: (de P "whole_number" (nat_lit 361) (Value.ref 131)) :: (de P "figures_value" (nat_lit 372) (Value.ref 138)) :: (de P "read_radix" (nat_lit 382) (Value.ref 145)) :: (de P "signed_word" (nat_lit 390) (Value.ref 152)) :: (de P "read_exponent" (nat_lit 400) (Value.ref 159)) :: (de P "number_scaled" (nat_lit 408) (Value.ref 166)) :: (de P "split_at" (nat_lit 418) (Value.ref 173)) :: (de P "read_real" (nat_lit 433) (Value.ref 180)) :: (de P "read_number" (nat_lit 445) (Value.ref 187)) :: (de P "READ_ONLY" (nat_lit 449) (Value.int 2 (nat_lit 448))) :: (de P "UNLIMITED" (nat_lit 451) (Value.int 3 (nat_lit 450))) :: (de P "Thing" (nat_lit 486) (Value.ref 205)) :: (de P "Text" (nat_lit 521) (Value.ref 226)) :: (de P "Row" (nat_lit 556) (Value.ref 247)) :: (de P "Span" (nat_lit 589) (Value.ref 268)) :: (de P "integer" (nat_lit 596) (Value.ref 279)) :: (de P "real" (nat_lit 603) (Value.ref 286)) :: (de P "name" (nat_lit 611) (Value.ref 294)) :: (de P "null" (nat_lit 617) (Value.ref 301)) :: (de P "of_string" (nat_lit 626) (Value.ref 309)) :: (de P "of_row" (nat_lit 635) (Value.ref 317)) :: (de P "of_packed" (nat_lit 643) (Value.ref 325)) :: (de P "is_in_array" (nat_lit 650) (Value.ref 332)) :: (de P "body_of" (nat_lit 657) (Value.ref 339)) :: (de P "is_local" (nat_lit 665) (Value.ref 346)) :: (de P "octets_of_span" (nat_lit 672) (Value.ref 353)) :: (de P "SCAN_END" (nat_lit 676) (Value.int 4 (nat_lit 675))) :: (de P "SCAN_FORM_FEED" (nat_lit 678) (Value.int 12 (nat_lit 677))) :: (de P "SCAN_MOST_NAME" (nat_lit 680) (Value.int 127 (nat_lit 679))) :: (de P "SCAN_BASE" (nat_lit 682) (Value.int 85 (nat_lit 681))) :: (de P "SCAN_FIRST" (nat_lit 684) (Value.int 33 (nat_lit 683))) :: (de P "SCAN_OPEN" (nat_lit 686) (Value.int 40 (nat_lit 685))) :: (de P "SCAN_CLOSE" (nat_lit 688) (Value.int 41 (nat_lit 687))) :: (de P "SCAN_SLASH" (nat_lit 690) (Value.int 47 (nat_lit 689))) :: (de P "SCAN_LESS" (nat_lit 692) (Value.int 60 (nat_lit 691))) :: (de P "SCAN_MORE" (nat_lit 694) (Value.int 62 (nat_lit 693))) :: (de P "SCAN_BACKSLASH" (nat_lit 696) (Value.int 92 (nat_lit 695))) :: (de P "SCAN_ROW_OPEN" (nat_lit 698) (Value.int 91 (nat_lit 697))) :: (de P "SCAN_ROW_CLOSE" (nat_lit 700) (Value.int 93 (nat_lit 699))) :: (de P "SCAN_PROC_OPEN" (nat_lit 702) (Value.int 123 (nat_lit 701))) :: (de P "SCAN_PROC_CLOSE" (nat_lit 704) (Value.int 125 (nat_lit 703))) :: (de P "SCAN_TILDE" (nat_lit 706) (Value.int 126 (nat_lit 705))) :: (de P "SCAN_NOUGHTS" (nat_lit 708) (Value.int 122 (nat_lit 707))) :: (de P "SCAN_PERCENT" (nat_lit 710) (Value.int 37 (nat_lit 709))) :: (de P "OctetSource" (nat_lit 764) (Value.ref 393)) :: (de P "is_blank" (nat_lit 771) (Value.ref 404)) :: (de P "scan_skip_feed" (nat_lit 779) (Value.ref 411)) :: (de P "scan_line" (nat_lit 787) (Value.ref 418)) :: (de P "scan_first" (nat_lit 795) (Value.ref 425)) :: (de P "scan_word" (nat_lit 804) (Value.ref 432)) :: (de P "scan_sure" (nat_lit 812) (Value.ref 439)) :: (de P "scan_octal" (nat_lit 822) (Value.ref 446)) :: (de P "scan_escape" (nat_lit 832) (Value.ref 453)) :: (de P "scan_string" (nat_lit 842) (Value.ref 460)) :: (de P "scan_hex" (nat_lit 853) (Value.ref 467)) :: (de P "scan_group" (nat_lit 862) (Value.ref 474)) :: (de P "scan_base85" (nat_lit 872) (Value.ref 481)) :: (de P "scan_name" (nat_lit 880) (Value.ref 488)) :: (de P "scan_regular" (nat_lit 888) (Value.ref 495)) :: (de P "scan_at_once" (nat_lit 897) (Value.ref 502)) :: (de P "Scanner" (nat_lit 1018) (Value.ref 585)) :: (de P "ITEM_COST" (nat_lit 1022) (Value.int 8 (nat_lit 1021))) :: (de P "ENTRY_COST" (nat_lit 1024) (Value.int 16 (nat_lit 1023))) :: (de P "MOST_COST" (nat_lit 1028) (Value.int 16777216 (nat_lit 1027))) :: (de P "Limits" (nat_lit 1096) (Value.ref 607)) :: (de P "VmSave" (nat_lit 1131) (Value.ref 628)) :: [])) 101) #[]))
@[reducible] noncomputable def o_675 : Params → Obj := (fun _ => (Obj.mk Value.none none (Data.fields (List.toArray ((Value.int 1 (nat_lit 0)) :: (Value.int 0 (nat_lit 0)) :: (Value.ref 20) :: (Value.int 12 (nat_lit 0)) :: (Value.int 0 (nat_lit 0)) :: (Value.ref 27) :: (Value.int 16 (nat_lit 0)) :: (Value.int 0 (nat_lit 0)) :: (Value.ref 48) :: (Value.int 18 (nat_lit 0)) :: (Value.int 0 (nat_lit 0)) :: (Value.ref 60) :: (Value.int 20 (nat_lit 0)) :: (Value.int 0 (nat_lit 0)) :: (Value.ref 67) :: (Value.int 22 (nat_lit 0)) :: (Value.int 0 (nat_lit 0)) :: (Value.ref 74) :: (Value.int 24 (nat_lit 0)) :: (Value.int 0 (nat_lit 0)) :: (Value.ref 81) :: (Value.int 26 (nat_lit 0)) :: (Value.int 0 (nat_lit 0)) :: (Value.ref 88) :: (Value.int 34 (nat_lit 0)) :: (Value.int 0 (nat_lit 0)) :: (Value.ref 95) :: (Value.int 49 (nat_lit 0)) :: (Value.int 0 (nat_lit 0)) :: (Value.ref 102) :: (Value.int 53 (nat_lit 0)) :: (Value.int 0 (nat_lit 0)) :: (Value.ref 109) :: (Value.int 55 (nat_lit 0)) :: (Value.int 0 (nat_lit 0)) :: (Value.ref 116) :: (Value.int 59 (nat_lit 0)) :: (Value.int 0 (nat_lit 0)) :: (Value.ref 123) :: (Value.int 61 (nat_lit 0)) :: (Value.int 0 (nat_lit 0)) :: (Value.ref 130) :: (Value.int 65 (nat_lit 0)) :: (Value.int 0 (nat_lit 0)) :: (Value.ref 137) :: (Value.int 75 (nat_lit 0)) :: (Value.int 0 (nat_lit 0)) :: (Value.ref 144) :: (Value.int 85 (nat_lit 0)) :: (Value.int 0 (nat_lit 0)) :: (Value.ref 151) :: (Value.int 88 (nat_lit 0)) :: (Value.int 0 (nat_lit 0)) :: (Value.ref 158) :: (Value.int 96 (nat_lit 0)) :: (Value.int 0 (nat_lit 0)) :: (Value.ref 165) :: (Value.int 106 (nat_lit 0)) :: (Value.int 0 (nat_lit 0)) :: (Value.ref 172) :: (Value.int 111 (nat_lit 0)) :: (Value.int 0 (nat_lit 0)) :: (Value.ref 179) :: (Value.int 122 (nat_lit 0)) :: (Value.int 0 (nat_lit 0)) :: (Value.ref 186) :: (Value.int 135 (nat_lit 0)) :: (Value.int 0 (nat_lit 0)) :: (Value.ref 193) :: (Value.int 142 (nat_lit 0)) :: (Value.int 0 (nat_lit 0)) :: (Value.ref 215) :: (Value.int 149 (nat_lit 0)) :: (Value.int 0 (nat_lit 0)) :: (Value.ref 236) :: (Value.int 156 (nat_lit 0)) :: (Value.int 0 (nat_lit 0)) :: (Value.ref 257) :: (Value.int 162 (nat_lit 0)) :: (Value.int 0 (nat_lit 0)) :: (Value.ref 278) :: (Value.int 164 (nat_lit 0)) :: (Value.int 0 (nat_lit 0)) :: (Value.ref 285) :: (Value.int 166 (nat_lit 0)) :: (Value.int 0 (nat_lit 0)) :: (Value.ref 293) :: (Value.int 168 (nat_lit 0)) :: (Value.int 0 (nat_lit 0)) :: (Value.ref 300) :: (Value.int 170 (nat_lit 0)) :: (Value.int 0 (nat_lit 0)) :: (Value.ref 308) :: (Value.int 172 (nat_lit 0)) :: (Value.int 0 (nat_lit 0)) :: (Value.ref 316) :: (Value.int 174 (nat_lit 0)) :: (Value.int 0 (nat_lit 0)) :: (Value.ref 324) :: (Value.int 176 (nat_lit 0)) :: (Value.int 0 (nat_lit 0)) :: (Value.ref 331) :: (Value.int 178 (nat_lit 0)) :: (Value.int 0 (nat_lit 0)) :: (Value.ref 338) :: (Value.int 182 (nat_lit 0)) :: (Value.int 0 (nat_lit 0)) :: (Value.ref 345) :: (Value.int 185 (nat_lit 0)) :: (Value.int 0 (nat_lit 0)) :: (Value.ref 352) :: (Value.int 206 (nat_lit 0)) :: (Value.int 0 (nat_lit 0)) :: (Value.ref 359) :: (Value.int 224 (nat_lit 0)) :: (Value.int 0 (nat_lit 0)) :: (Value.ref 403) :: (Value.int 226 (nat_lit 0)) :: (Value.int 0 (nat_lit 0)) :: (Value.ref 410) :: (Value.int 230 (nat_lit 0)) :: (Value.int 0 (nat_lit 0)) :: (Value.ref 417) :: (Value.int 236 (nat_lit 0)) :: (Value.int 0 (nat_lit 0)) :: (Value.ref 424) :: (Value.int 245 (nat_lit 0)) :: (Value.int 0 (nat_lit 0)) :: (Value.ref 431) :: (Value.int 258 (nat_lit 0)) :: (Value.int 0 (nat_lit 0)) :: (Value.ref 438) :: (Value.int 263 (nat_lit 0)) :: (Value.int 0 (nat_lit 0)) :: (Value.ref 445) :: (Value.int 274 (nat_lit 0)) :: (Value.int 0 (nat_lit 0)) :: (Value.ref 452) :: (Value.int 283 (nat_lit 0)) :: (Value.int 0 (nat_lit 0)) :: (Value.ref 459) :: (Value.int 300 (nat_lit 0)) :: (Value.int 0 (nat_lit 0)) :: (Value.ref 466) :: (Value.int 316 (nat_lit 0)) :: (Value.int 0 (nat_lit 0)) :: (Value.ref 473) :: (Value.int 323 (nat_lit 0)) :: (Value.int 0 (nat_lit 0)) :: (Value.ref 480) :: (Value.int 342 (nat_lit 0)) :: (Value.int 0 (nat_lit 0)) :: (Value.ref 487) :: (Value.int 346 (nat_lit 0)) :: (Value.int 0 (nat_lit 0)) :: (Value.ref 494) :: (Value.int 351 (nat_lit 0)) :: (Value.int 0 (nat_lit 0)) :: (Value.ref 501) :: (Value.int 356 (nat_lit 0)) :: (Value.int 0 (nat_lit 0)) :: (Value.ref 508) :: (Value.int 444 (nat_lit 0)) :: (Value.int 0 (nat_lit 0)) :: (Value.ref 595) :: (Value.int 461 (nat_lit 0)) :: (Value.int 0 (nat_lit 0)) :: (Value.ref 617) :: []))) #[]))
@[reducible] noncomputable def o_678 : Params → Obj := (fun P => (Obj.mk (Value.type "dict") none (Data.dict #[(de P "__module__" (nat_lit 1104) (Value.str "postcore.memory" (nat_lit 1019))), (de P "__qualname__" (nat_lit 1106) (Value.str "VmSave" (nat_lit 1105))), (de P "__firstlineno__" (nat_lit 1108) (Value.int 461 (nat_lit 1107))), (de P "__init__" (nat_lit 1119) (Value.ref 625)), (de P "__static_attributes__" (nat_lit 1124) (Value.ref 626))] 5) #[]))
@[reducible] noncomputable def o_680 : Params → Obj := (fun _ => (Obj.mk Value.none none (Data.fields #[(Value.int 463 (nat_lit 0)), (Value.int 4 (nat_lit 0)), (Value.ref 624)]) #[]))
@[reducible] noncomputable def o_681 : Params → Obj := (fun _ => (Obj.mk (Value.type "code") none (Data.fields #[(Value.str "VmSave" (nat_lit 1099)), (Value.str "VmSave" (nat_lit 1100)), (Value.str "/claim/cut.py" (nat_lit 1101)), (Value.int 461 (nat_lit 0)), (Value.int 0 (nat_lit 0)), (Value.int 0 (nat_lit 0)), (Value.int 0 (nat_lit 0)), (Value.int 0 (nat_lit 0)), (Value.ref 615), (Value.bool false), (Value.int 181 (nat_lit 0)), (Value.ref 616), Value.none, Value.none, Value.none, Value.none, (Value.int 1102 (nat_lit 0)), (Value.int 461 (nat_lit 0)), (Value.str "/claim/cut.py" (nat_lit 1103))]) #[]))
@[reducible] noncomputable def o_682 : Params → Obj := (fun _ => (Obj.mk (Value.type "frame") none Data.plain #[(Option.some (Value.ref 617)), (Option.some (Value.ref 3)), (Option.some (Value.ref 614)), none, (Option.some (Value.str "postcore.memory" (nat_lit 1019))), none, (Option.some (Value.ref 0))]))
@[reducible] noncomputable def o_685 : Params → Obj := (fun _ => (Obj.mk (Value.type "tuple") none (Data.seq #[(Value.str "self" (nat_lit 1112)), (Value.str "number" (nat_lit 1113)), (Value.str "many" (nat_lit 1114)), (Value.str "used" (nat_lit 1115)), (Value.str "note" (nat_lit 1116))] 0) #[]))
@[reducible] noncomputable def o_687 : Params → Obj := (fun _ => (Obj.mk Value.none none (Data.func (fd (st := at_ [96, 0]) rfl "VmSave.__init__" 0 [] Value.none Value.none Value.none Value.none none Value.none Value.none 0)) #[]))
@[reducible] noncomputable def o_688 : Params → Obj := (fun _ => (Obj.mk (Value.type "code") none (Data.fields #[(Value.str "__init__" (nat_lit 1109)), (Value.str "VmSave.__init__" (nat_lit 1110)), (Value.str "/claim/cut.py" (nat_lit 1111)), (Value.int 463 (nat_lit 0)), (Value.int 5 (nat_lit 0)), (Value.int 0 (nat_lit 0)), (Value.int 0 (nat_lit 0)), (Value.int 3 (nat_lit 0)), (Value.ref 619), (Value.bool true), (Value.int 181 (nat_lit 0)), (Value.ref 620), Value.none, (Value.ref 621), (Value.ref 622), (Value.ref 623), (Value.int 1117 (nat_lit 0)), (Value.int 463 (nat_lit 0)), (Value.str "/claim/cut.py" (nat_lit 1118))]) #[]))
@[reducible] noncomputable def o_689 : Params → Obj := (fun _ => (Obj.mk (Value.type "function") none (Data.func (fd (st := at_ [96, 0]) rfl "VmSave.__init__" 3 [] Value.none Value.none Value.none (Value.str "postcore.memory" (nat_lit 1019)) none (Value.ref 624) Value.none 0)) #[]))
@[reducible] noncomputable def o_690 : Params → Obj := (fun _ => (Obj.mk (Value.type "tuple") none (Data.seq #[(Value.str "many" (nat_lit 1120)), (Value.str "note" (nat_lit 1121)), (Value.str "number" (nat_lit 1122)), (Value.str "used" (nat_lit 1123))] 0) #[]))
@[reducible] noncomputable def o_691 : Params → Obj := (fun P => (Obj.mk (Value.type "dict") none (Data.dict #[(de P "__module__" (nat_lit 1104) (Value.str "postcore.memory" (nat_lit 1019))), (de P "__firstlineno__" (nat_lit 1108) (Value.int 461 (nat_lit 1107))), (de P "__init__" (nat_lit 1119) (Value.ref 625)), (de P "__static_attributes__" (nat_lit 1124) (Value.ref 626)), (de P "__dict__" (nat_lit 1126) (Value.ref 629)), (de P "__weakref__" (nat_lit 1128) (Value.ref 630)), (de P "__doc__" (nat_lit 1129) Value.none)] 4) #[]))
@[reducible] noncomputable def o_692 : Params → Obj := (fun _ => (Obj.mk (Value.type "type") none (Data.cls (ClassData.mk "VmSave" [(Value.type "object")] [(Value.ref 628), (Value.type "object")] 627 "VmSave" true [] [] false none false)) #[none, none, (Option.some (Value.str "VmSave" (nat_lit 1097))), (Option.some (Value.str "VmSave" (nat_lit 1105))), (Option.some (Value.builtin "object.__new__")), (Option.some (Value.bool true))]))
@[reducible] noncomputable def o_693 : Params → Obj := (fun _ => (Obj.mk (Value.type "getset_descriptor") none (Data.fields #[(Value.str "__dict__" (nat_lit 1125)), (Value.ref 628), (Value.builtin "function.__dict__"), (Value.builtin "function.__dict__#set")]) #[]))
@[reducible] noncomputable def o_694 : Params → Obj := (fun _ => (Obj.mk (Value.type "getset_descriptor") none (Data.fields #[(Value.str "__weakref__" (nat_lit 1127)), (Value.ref 628), (Value.builtin "ExceptionGroup.__weakref__"), Value.none]) #[]))
@[reducible] noncomputable def o_695 : Params → Obj := (fun _ => (Obj.mk (Value.type "super") none (Data.fields #[(Value.ref 628), (Value.ref 628), (Value.ref 628)]) #[]))
@[reducible] noncomputable def o_696 : Params → Obj := (fun _ => (Obj.mk (Value.type "builtin_function_or_method") none (Data.fields #[(Value.builtin "object.__init_subclass__"), (Value.ref 628)]) #[]))
@[reducible] noncomputable def o_697 : Params → Obj := (fun P => (Obj.mk (Value.type "dict") none (Data.dict (List.toArray ((de P "__name__" (nat_lit 165) (Value.str "postcore.memory" (nat_lit 1019))) :: (de P "__doc__" (nat_lit 166) Value.none) :: (de P "__package__" (nat_lit 167) Value.none) :: (de P "__loader__" (nat_lit 168) (Value.builtin "__main__.__loader__#opaque")) :: (de P "__spec__" (nat_lit 169) Value.none) :: (de P "__annotations__" (nat_lit 170) (Value.ref 6)) :: (de P "__builtins__" (nat_lit 171) (Value.ref 4)) :: (de P "__file__" (nat_lit 173) (Value.str "/claim/cut.py" (nat_lit 172))) :: (de P "__cached__" (nat_lit 174) Value.none) :: (de P "_wall" (nat_lit 193) (Value.ref 21)) :: (de P "GRAIN" (nat_lit 197) (Value.int 1000000 (nat_lit 196))) :: (de P "LEAST_INT" (nat_lit 202) (Value.int (-2147483648) (nat_lit 201))) :: (de P "MOST_INT" (nat_lit 208) (Value.int 2147483647 (nat_lit 207))) :: (de P "WHITE" (nat_lit 210) (Value.bytes #[0, 9, 10, 12, 13, 32] (nat_lit 209))) :: (de P "DELIMITERS" (nat_lit 212) (Value.bytes #[40, 41, 60, 62, 91, 93, 123, 125, 47, 37] (nat_lit 211))) :: (de P "LINE_FEED" (nat_lit 214) (Value.int 10 (nat_lit 213))) :: (de P "CARRIAGE_RETURN" (nat_lit 216) (Value.int 13 (nat_lit 215))) :: (de P "PostError" (nat_lit 245) (Value.ref 39)) :: (de P "PsError" (nat_lit 261) (Value.ref 52)) :: (de P "is_white" (nat_lit 268) (Value.ref 61)) :: (de P "is_delimiter" (nat_lit 275) (Value.ref 68)) :: (de P "is_line_end" (nat_lit 282) (Value.ref 75)) :: (de P "is_octal" (nat_lit 289) (Value.ref 82)) :: (de P "hex_value" (nat_lit 296) (Value.ref 89)) :: (de P "digit_value" (nat_lit 303) (Value.ref 96)) :: (de P "INTEGER" (nat_lit 307) (Value.str "integer" (nat_lit 306))) :: (de P "REAL" (nat_lit 309) (Value.str "real" (nat_lit 308))) :: (de P "MOST_REAL" (nat_lit 314) (Value.int 1000000000000000000000 (nat_lit 313))) :: (de P "PLACES" (nat_lit 316) (Value.int 6 (nat_lit 315))) :: (de P "WORD_SIZE" (nat_lit 320) (Value.int 4294967296 (nat_lit 319))) :: (de P "MOST_FIGURES" (nat_lit 322) (Value.int 6 (nat_lit 321))) :: (de P "divided" (nat_lit 333) (Value.ref 103)) :: (de P "is_integer_size" (nat_lit 340) (Value.ref 110)) :: (de P "checked_real" (nat_lit 347) (Value.ref 117)) :: (de P "real_of" (nat_lit 354) (Value.ref 124)) :: (de P "whole_number" (nat_lit 361) (Value.ref 131)) :: (de P "figures_value" (nat_lit 372) (Value.ref 138)) :: (de P "read_radix" (nat_lit 382) (Value.ref 145)) :: (de P "signed_word" (nat_lit 390) (Value.ref 152)) :: (de P "read_exponent" (nat_lit 400) (Value.ref 159)) :: (de P "number_scaled" (nat_lit 408) (Value.ref 166)) :: (de P "split_at" (nat_lit 418) (Value.ref 173)) :: (de P "read_real" (nat_lit 433) (Value.ref 180)) :: (de P "read_number" (nat_lit 445) (Value.ref 187)) :: (de P "READ_ONLY" (nat_lit 449) (Value.int 2 (nat_lit 448))) :: (de P "UNLIMITED" (nat_lit 451) (Value.int 3 (nat_lit 450))) :: (de P "Thing" (nat_lit 486) (Value.ref 205)) :: (de P "Text" (nat_lit 521) (Value.ref 226)) :: (de P "Row" (nat_lit 556) (Value.ref 247)) :: (de P "Span" (nat_lit 589) (Value.ref 268)) :: (de P "integer" (nat_lit 596) (Value.ref 279)) :: (de P "real" (nat_lit 603) (Value.ref 286)) :: (de P "name" (nat_lit 611) (Value.ref 294)) :: (de P "null" (nat_lit 617) (Value.ref 301)) :: (de P "of_string" (nat_lit 626) (Value.ref 309)) :: (de P "of_row" (nat_lit 635) (Value.ref 317)) :: (de P "of_packed" (nat_lit 643) (Value.ref 325)) :: (de P "is_in_array" (nat_lit 650) (Value.ref 332)) :: (de P "body_of" (nat_lit 657) (Value.ref 339)) :: (de P "is_local" (nat_lit 665) (Value.ref 346)) :: (de P "octets_of_span" (nat_lit 672) (Value.ref 353)) :: (de P "SCAN_END" (nat_lit 676) (Value.int 4 (nat_lit 675))) :: (de P "SCAN_FORM_FEED" (nat_lit 678) (Value.int 12 (nat_lit 677))) :: (de P "SCAN_MOST_NAME" (nat_lit 680) (Value.int 127 (nat_lit 679))) :: (de P "SCAN_BASE" (nat_lit 682) (Value.int 85 (nat_lit 681))) :: (de P "SCAN_FIRST" (nat_lit 684) (Value.int 33 (nat_lit 683))) :: (de P "SCAN_OPEN" (nat_lit 686) (Value.int 40 (nat_lit 685))) :: (de P "SCAN_CLOSE" (nat_lit 688) (Value.int 41 (nat_lit 687))) :: (de P "SCAN_SLASH" (nat_lit 690) (Value.int 47 (nat_lit 689))) :: (de P "SCAN_LESS" (nat_lit 692) (Value.int 60 (nat_lit 691))) :: (de P "SCAN_MORE" (nat_lit 694) (Value.int 62 (nat_lit 693))) :: (de P "SCAN_BACKSLASH" (nat_lit 696) (Value.int 92 (nat_lit 695))) :: (de P "SCAN_ROW_OPEN" (nat_lit 698) (Value.int 91 (nat_lit 697))) :: (de P "SCAN_ROW_CLOSE" (nat_lit 700) (Value.int 93 (nat_lit 699))) :: (de P "SCAN_PROC_OPEN" (nat_lit 702) (Value.int 123 (nat_lit 701))) :: (de P "SCAN_PROC_CLOSE" (nat_lit 704) (Value.int 125 (nat_lit 703))) :: (de P "SCAN_TILDE" (nat_lit 706) (Value.int 126 (nat_lit 705))) :: (de P "SCAN_NOUGHTS" (nat_lit 708) (Value.int 122 (nat_lit 707))) :: (de P "SCAN_PERCENT" (nat_lit 710) (Value.int 37 (nat_lit 709))) :: (de P "OctetSource" (nat_lit 764) (Value.ref 393)) :: (de P "is_blank" (nat_lit 771) (Value.ref 404)) :: (de P "scan_skip_feed" (nat_lit 779) (Value.ref 411)) :: (de P "scan_line" (nat_lit 787) (Value.ref 418)) :: (de P "scan_first" (nat_lit 795) (Value.ref 425)) :: (de P "scan_word" (nat_lit 804) (Value.ref 432)) :: (de P "scan_sure" (nat_lit 812) (Value.ref 439)) :: (de P "scan_octal" (nat_lit 822) (Value.ref 446)) :: (de P "scan_escape" (nat_lit 832) (Value.ref 453)) :: (de P "scan_string" (nat_lit 842) (Value.ref 460)) :: (de P "scan_hex" (nat_lit 853) (Value.ref 467)) :: (de P "scan_group" (nat_lit 862) (Value.ref 474)) :: (de P "scan_base85" (nat_lit 872) (Value.ref 481)) :: (de P "scan_name" (nat_lit 880) (Value.ref 488)) :: (de P "scan_regular" (nat_lit 888) (Value.ref 495)) :: (de P "scan_at_once" (nat_lit 897) (Value.ref 502)) :: (de P "Scanner" (nat_lit 1018) (Value.ref 585)) :: (de P "ITEM_COST" (nat_lit 1022) (Value.int 8 (nat_lit 1021))) :: (de P "ENTRY_COST" (nat_lit 1024) (Value.int 16 (nat_lit 1023))) :: (de P "MOST_COST" (nat_lit 1028) (Value.int 16777216 (nat_lit 1027))) :: (de P "Limits" (nat_lit 1096) (Value.ref 607)) :: (de P "VmSave" (nat_lit 1131) (Value.ref 628)) :: (de P "BodyMaker" (nat_lit 1233) (Value.ref 706)) :: [])) 102) #[]))
@[reducible] noncomputable def o_698 : Params → Obj := (fun _ => (Obj.mk Value.none none (Data.fields (List.toArray ((Value.int 1 (nat_lit 0)) :: (Value.int 0 (nat_lit 0)) :: (Value.ref 20) :: (Value.int 12 (nat_lit 0)) :: (Value.int 0 (nat_lit 0)) :: (Value.ref 27) :: (Value.int 16 (nat_lit 0)) :: (Value.int 0 (nat_lit 0)) :: (Value.ref 48) :: (Value.int 18 (nat_lit 0)) :: (Value.int 0 (nat_lit 0)) :: (Value.ref 60) :: (Value.int 20 (nat_lit 0)) :: (Value.int 0 (nat_lit 0)) :: (Value.ref 67) :: (Value.int 22 (nat_lit 0)) :: (Value.int 0 (nat_lit 0)) :: (Value.ref 74) :: (Value.int 24 (nat_lit 0)) :: (Value.int 0 (nat_lit 0)) :: (Value.ref 81) :: (Value.int 26 (nat_lit 0)) :: (Value.int 0 (nat_lit 0)) :: (Value.ref 88) :: (Value.int 34 (nat_lit 0)) :: (Value.int 0 (nat_lit 0)) :: (Value.ref 95) :: (Value.int 49 (nat_lit 0)) :: (Value.int 0 (nat_lit 0)) :: (Value.ref 102) :: (Value.int 53 (nat_lit 0)) :: (Value.int 0 (nat_lit 0)) :: (Value.ref 109) :: (Value.int 55 (nat_lit 0)) :: (Value.int 0 (nat_lit 0)) :: (Value.ref 116) :: (Value.int 59 (nat_lit 0)) :: (Value.int 0 (nat_lit 0)) :: (Value.ref 123) :: (Value.int 61 (nat_lit 0)) :: (Value.int 0 (nat_lit 0)) :: (Value.ref 130) :: (Value.int 65 (nat_lit 0)) :: (Value.int 0 (nat_lit 0)) :: (Value.ref 137) :: (Value.int 75 (nat_lit 0)) :: (Value.int 0 (nat_lit 0)) :: (Value.ref 144) :: (Value.int 85 (nat_lit 0)) :: (Value.int 0 (nat_lit 0)) :: (Value.ref 151) :: (Value.int 88 (nat_lit 0)) :: (Value.int 0 (nat_lit 0)) :: (Value.ref 158) :: (Value.int 96 (nat_lit 0)) :: (Value.int 0 (nat_lit 0)) :: (Value.ref 165) :: (Value.int 106 (nat_lit 0)) :: (Value.int 0 (nat_lit 0)) :: (Value.ref 172) :: (Value.int 111 (nat_lit 0)) :: (Value.int 0 (nat_lit 0)) :: (Value.ref 179) :: (Value.int 122 (nat_lit 0)) :: (Value.int 0 (nat_lit 0)) :: (Value.ref 186) :: (Value.int 135 (nat_lit 0)) :: (Value.int 0 (nat_lit 0)) :: (Value.ref 193) :: (Value.int 142 (nat_lit 0)) :: (Value.int 0 (nat_lit 0)) :: (Value.ref 215) :: (Value.int 149 (nat_lit 0)) :: (Value.int 0 (nat_lit 0)) :: (Value.ref 236) :: (Value.int 156 (nat_lit 0)) :: (Value.int 0 (nat_lit 0)) :: (Value.ref 257) :: (Value.int 162 (nat_lit 0)) :: (Value.int 0 (nat_lit 0)) :: (Value.ref 278) :: (Value.int 164 (nat_lit 0)) :: (Value.int 0 (nat_lit 0)) :: (Value.ref 285) :: (Value.int 166 (nat_lit 0)) :: (Value.int 0 (nat_lit 0)) :: (Value.ref 293) :: (Value.int 168 (nat_lit 0)) :: (Value.int 0 (nat_lit 0)) :: (Value.ref 300) :: (Value.int 170 (nat_lit 0)) :: (Value.int 0 (nat_lit 0)) :: (Value.ref 308) :: (Value.int 172 (nat_lit 0)) :: (Value.int 0 (nat_lit 0)) :: (Value.ref 316) :: (Value.int 174 (nat_lit 0)) :: (Value.int 0 (nat_lit 0)) :: (Value.ref 324) :: (Value.int 176 (nat_lit 0)) :: (Value.int 0 (nat_lit 0)) :: (Value.ref 331) :: (Value.int 178 (nat_lit 0)) :: (Value.int 0 (nat_lit 0)) :: (Value.ref 338) :: (Value.int 182 (nat_lit 0)) :: (Value.int 0 (nat_lit 0)) :: (Value.ref 345) :: (Value.int 185 (nat_lit 0)) :: (Value.int 0 (nat_lit 0)) :: (Value.ref 352) :: (Value.int 206 (nat_lit 0)) :: (Value.int 0 (nat_lit 0)) :: (Value.ref 359) :: (Value.int 224 (nat_lit 0)) :: (Value.int 0 (nat_lit 0)) :: (Value.ref 403) :: (Value.int 226 (nat_lit 0)) :: (Value.int 0 (nat_lit 0)) :: (Value.ref 410) :: (Value.int 230 (nat_lit 0)) :: (Value.int 0 (nat_lit 0)) :: (Value.ref 417) :: (Value.int 236 (nat_lit 0)) :: (Value.int 0 (nat_lit 0)) :: (Value.ref 424) :: (Value.int 245 (nat_lit 0)) :: (Value.int 0 (nat_lit 0)) :: (Value.ref 431) :: (Value.int 258 (nat_lit 0)) :: (Value.int 0 (nat_lit 0)) :: (Value.ref 438) :: (Value.int 263 (nat_lit 0)) :: (Value.int 0 (nat_lit 0)) :: (Value.ref 445) :: (Value.int 274 (nat_lit 0)) :: (Value.int 0 (nat_lit 0)) :: (Value.ref 452) :: (Value.int 283 (nat_lit 0)) :: (Value.int 0 (nat_lit 0)) :: (Value.ref 459) :: (Value.int 300 (nat_lit 0)) :: (Value.int 0 (nat_lit 0)) :: (Value.ref 466) :: (Value.int 316 (nat_lit 0)) :: (Value.int 0 (nat_lit 0)) :: (Value.ref 473) :: (Value.int 323 (nat_lit 0)) :: (Value.int 0 (nat_lit 0)) :: (Value.ref 480) :: (Value.int 342 (nat_lit 0)) :: (Value.int 0 (nat_lit 0)) :: (Value.ref 487) :: (Value.int 346 (nat_lit 0)) :: (Value.int 0 (nat_lit 0)) :: (Value.ref 494) :: (Value.int 351 (nat_lit 0)) :: (Value.int 0 (nat_lit 0)) :: (Value.ref 501) :: (Value.int 356 (nat_lit 0)) :: (Value.int 0 (nat_lit 0)) :: (Value.ref 508) :: (Value.int 444 (nat_lit 0)) :: (Value.int 0 (nat_lit 0)) :: (Value.ref 595) :: (Value.int 461 (nat_lit 0)) :: (Value.int 0 (nat_lit 0)) :: (Value.ref 617) :: (Value.int 468 (nat_lit 0)) :: (Value.int 0 (nat_lit 0)) :: (Value.ref 638) :: []))) #[]))
@[reducible] noncomputable def o_701 : Params → Obj := (fun P => (Obj.mk (Value.type "dict") none (Data.dict #[(de P "__module__" (nat_lit 1139) (Value.str "postcore.memory" (nat_lit 1019))), (de P "__qualname__" (nat_lit 1141) (Value.str "BodyMaker" (nat_lit 1140))), (de P "__firstlineno__" (nat_lit 1143) (Value.int 468 (nat_lit 1142))), (de P "__init__" (nat_lit 1151) (Value.ref 646)), (de P "level" (nat_lit 1159) (Value.ref 654)), (de P "body_level" (nat_lit 1166) (Value.ref 661)), (de P "take_room" (nat_lit 1174) (Value.ref 668)), (de P "check_room" (nat_lit 1182) (Value.ref 675)), (de P "make_text" (nat_lit 1190) (Value.ref 682)), (de P "text_of_octets" (nat_lit 1198) (Value.ref 689)), (de P "make_row" (nat_lit 1207) (Value.ref 696)), (de P "make_dict" (nat_lit 1215) (Value.ref 703)), (de P "__static_attributes__" (nat_lit 1226) (Value.ref 704))] 13) #[]))
@[reducible] noncomputable def o_703 : Params → Obj := (fun _ => (Obj.mk Value.none none (Data.fields #[(Value.int 470 (nat_lit 0)), (Value.int 4 (nat_lit 0)), (Value.ref 645), (Value.int 483 (nat_lit 0)), (Value.int 4 (nat_lit 0)), (Value.ref 652), (Value.int 486 (nat_lit 0)), (Value.int 4 (nat_lit 0)), (Value.ref 660), (Value.int 489 (nat_lit 0)), (Value.int 4 (nat_lit 0)), (Value.ref 667), (Value.int 499 (nat_lit 0)), (Value.int 4 (nat_lit 0)), (Value.ref 674), (Value.int 503 (nat_lit 0)), (Value.int 4 (nat_lit 0)), (Value.ref 681), (Value.int 506 (nat_lit 0)), (Value.int 4 (nat_lit 0)), (Value.ref 688), (Value.int 510 (nat_lit 0)), (Value.int 4 (nat_lit 0)), (Value.ref 695), (Value.int 521 (nat_lit 0)), (Value.int 4 (nat_lit 0)), (Value.ref 702)]) #[]))
@[reducible] noncomputable def o_704 : Params → Obj := (fun _ => (Obj.mk (Value.type "code") none (Data.fields #[(Value.str "BodyMaker" (nat_lit 1134)), (Value.str "BodyMaker" (nat_lit 1135)), (Value.str "/claim/cut.py" (nat_lit 1136)), (Value.int 468 (nat_lit 0)), (Value.int 0 (nat_lit 0)), (Value.int 0 (nat_lit 0)), (Value.int 0 (nat_lit 0)), (Value.int 0 (nat_lit 0)), (Value.ref 636), (Value.bool false), (Value.int 181 (nat_lit 0)), (Value.ref 637), Value.none, Value.none, Value.none, Value.none, (Value.int 1137 (nat_lit 0)), (Value.int 468 (nat_lit 0)), (Value.str "/claim/cut.py" (nat_lit 1138))]) #[]))
@[reducible] noncomputable def o_705 : Params → Obj := (fun _ => (Obj.mk (Value.type "frame") none Data.plain #[(Option.some (Value.ref 638)), (Option.some (Value.ref 3)), (Option.some (Value.ref 635)), none, (Option.some (Value.str "postcore.memory" (nat_lit 1019))), none, (Option.some (Value.ref 0))]))
@[reducible] noncomputable def o_708 : Params → Obj := (fun _ => (Obj.mk (Value.type "tuple") none (Data.seq #[(Value.str "self" (nat_lit 1147)), (Value.str "limits" (nat_lit 1148))] 0) #[]))
@[reducible] noncomputable def o_710 : Params → Obj := (fun _ => (Obj.mk Value.none none (Data.func (fd (st := at_ [97, 0]) rfl "BodyMaker.__init__" 0 [] Value.none Value.none Value.none Value.none none Value.none Value.none 0)) #[]))
@[reducible] noncomputable def o_711 : Params → Obj := (fun _ => (Obj.mk (Value.type "code") none (Data.fields #[(Value.str "__init__" (nat_lit 1144)), (Value.str "BodyMaker.__init__" (nat_lit 1145)), (Value.str "/claim/cut.py" (nat_lit 1146)), (Value.int 470 (nat_lit 0)), (Value.int 2 (nat_lit 0)), (Value.int 0 (nat_lit 0)), (Value.int 0 (nat_lit 0)), (Value.int 3 (nat_lit 0)), (Value.ref 640), (Value.bool true), (Value.int 181 (nat_lit 0)), (Value.ref 641), Value.none, (Value.ref 642), (Value.ref 643), (Value.ref 644), (Value.int 1149 (nat_lit 0)), (Value.int 470 (nat_lit 0)), (Value.str "/claim/cut.py" (nat_lit 1150))]) #[]))
@[reducible] noncomputable def o_712 : Params → Obj := (fun _ => (Obj.mk (Value.type "function") none (Data.func (fd (st := at_ [97, 0]) rfl "BodyMaker.__init__" 3 [] Value.none Value.none Value.none (Value.str "postcore.memory" (nat_lit 1019)) none (Value.ref 645) Value.none 0)) #[]))
@[reducible] noncomputable def o_715 : Params → Obj := (fun _ => (Obj.mk (Value.type "tuple") none (Data.seq #[(Value.str "self" (nat_lit 1155))] 0) #[]))
@[reducible] noncomputable def o_717 : Params → Obj := (fun _ => (Obj.mk Value.none none (Data.func (fd (st := at_ [97, 1]) rfl "BodyMaker.level" 0 [] Value.none Value.none Value.none Value.none none Value.none Value.none 0)) #[]))
@[reducible] noncomputable def o_718 : Params → Obj := (fun _ => (Obj.mk (Value.type "code") none (Data.fields #[(Value.str "level" (nat_lit 1152)), (Value.str "BodyMaker.level" (nat_lit 1153)), (Value.str "/claim/cut.py" (nat_lit 1154)), (Value.int 482 (nat_lit 0)), (Value.int 1 (nat_lit 0)), (Value.int 0 (nat_lit 0)), (Value.int 0 (nat_lit 0)), (Value.int 3 (nat_lit 0)), (Value.ref 647), (Value.bool true), (Value.int 181 (nat_lit 0)), (Value.ref 648), Value.none, (Value.ref 649), (Value.ref 650), (Value.ref 651), (Value.int 1156 (nat_lit 0)), (Value.int 482 (nat_lit 0)), (Value.str "/claim/cut.py" (nat_lit 1157))]) #[]))
@[reducible] noncomputable def o_719 : Params → Obj := (fun _ => (Obj.mk (Value.type "function") none (Data.func (fd (st := at_ [97, 1]) rfl "BodyMaker.level" 3 [] Value.none Value.none Value.none (Value.str "postcore.memory" (nat_lit 1019)) none (Value.ref 652) Value.none 0)) #[]))
@[reducible] noncomputable def o_720 : Params → Obj := (fun _ => (Obj.mk (Value.type "property") none (Data.fields #[(Value.ref 653), Value.none, Value.none, Value.none, (Value.str "level" (nat_lit 1159)), (Value.bool false)]) #[]))
@[reducible] noncomputable def o_723 : Params → Obj := (fun _ => (Obj.mk (Value.type "tuple") none (Data.seq #[(Value.str "self" (nat_lit 1163))] 0) #[]))
@[reducible] noncomputable def o_725 : Params → Obj := (fun _ => (Obj.mk Value.none none (Data.func (fd (st := at_ [97, 2]) rfl "BodyMaker.body_level" 0 [] Value.none Value.none Value.none Value.none none Value.none Value.none 0)) #[]))
@[reducible] noncomputable def o_726 : Params → Obj := (fun _ => (Obj.mk (Value.type "code") none (Data.fields #[(Value.str "body_level" (nat_lit 1160)), (Value.str "BodyMaker.body_level" (nat_lit 1161)), (Value.str "/claim/cut.py" (nat_lit 1162)), (Value.int 486 (nat_lit 0)), (Value.int 1 (nat_lit 0)), (Value.int 0 (nat_lit 0)), (Value.int 0 (nat_lit 0)), (Value.int 3 (nat_lit 0)), (Value.ref 655), (Value.bool true), (Value.int 181 (nat_lit 0)), (Value.ref 656), Value.none, (Value.ref 657), (Value.ref 658), (Value.ref 659), (Value.int 1164 (nat_lit 0)), (Value.int 486 (nat_lit 0)), (Value.str "/claim/cut.py" (nat_lit 1165))]) #[]))
@[reducible] noncomputable def o_727 : Params → Obj := (fun _ => (Obj.mk (Value.type "function") none (Data.func (fd (st := at_ [97, 2]) rfl "BodyMaker.body_level" 3 [] Value.none Value.none Value.none (Value.str "postcore.memory" (nat_lit 1019)) none (Value.ref 660) Value.none 0)) #[]))
@[reducible] noncomputable def o_730 : Params → Obj := (fun _ => (Obj.mk (Value.type "tuple") none (Data.seq #[(Value.str "self" (nat_lit 1170)), (Value.str "cost" (nat_lit 1171))] 0) #[]))
@[reducible] noncomputable def o_732 : Params → Obj := (fun _ => (Obj.mk Value.none none (Data.func (fd (st := at_ [97, 3]) rfl "BodyMaker.take_room" 0 [] Value.none Value.none Value.none Value.none none Value.none Value.none 0)) #[]))
@[reducible] noncomputable def o_733 : Params → Obj := (fun _ => (Obj.mk (Value.type "code") none (Data.fields #[(Value.str "take_room" (nat_lit 1167)), (Value.str "BodyMaker.take_room" (nat_lit 1168)), (Value.str "/claim/cut.py" (nat_lit 1169)), (Value.int 489 (nat_lit 0)), (Value.int 2 (nat_lit 0)), (Value.int 0 (nat_lit 0)), (Value.int 0 (nat_lit 0)), (Value.int 3 (nat_lit 0)), (Value.ref 662), (Value.bool true), (Value.int 181 (nat_lit 0)), (Value.ref 663), Value.none, (Value.ref 664), (Value.ref 665), (Value.ref 666), (Value.int 1172 (nat_lit 0)), (Value.int 489 (nat_lit 0)), (Value.str "/claim/cut.py" (nat_lit 1173))]) #[]))
@[reducible] noncomputable def o_734 : Params → Obj := (fun _ => (Obj.mk (Value.type "function") none (Data.func (fd (st := at_ [97, 3]) rfl "BodyMaker.take_room" 3 [] Value.none Value.none Value.none (Value.str "postcore.memory" (nat_lit 1019)) none (Value.ref 667) Value.none 0)) #[]))
@[reducible] noncomputable def o_737 : Params → Obj := (fun _ => (Obj.mk (Value.type "tuple") none (Data.seq #[(Value.str "self" (nat_lit 1178)), (Value.str "cost" (nat_lit 1179))] 0) #[]))
@[reducible] noncomputable def o_739 : Params → Obj := (fun _ => (Obj.mk Value.none none (Data.func (fd (st := at_ [97, 4]) rfl "BodyMaker.check_room" 0 [] Value.none Value.none Value.none Value.none none Value.none Value.none 0)) #[]))
@[reducible] noncomputable def o_740 : Params → Obj := (fun _ => (Obj.mk (Value.type "code") none (Data.fields #[(Value.str "check_room" (nat_lit 1175)), (Value.str "BodyMaker.check_room" (nat_lit 1176)), (Value.str "/claim/cut.py" (nat_lit 1177)), (Value.int 499 (nat_lit 0)), (Value.int 2 (nat_lit 0)), (Value.int 0 (nat_lit 0)), (Value.int 0 (nat_lit 0)), (Value.int 3 (nat_lit 0)), (Value.ref 669), (Value.bool true), (Value.int 181 (nat_lit 0)), (Value.ref 670), Value.none, (Value.ref 671), (Value.ref 672), (Value.ref 673), (Value.int 1180 (nat_lit 0)), (Value.int 499 (nat_lit 0)), (Value.str "/claim/cut.py" (nat_lit 1181))]) #[]))
@[reducible] noncomputable def o_741 : Params → Obj := (fun _ => (Obj.mk (Value.type "function") none (Data.func (fd (st := at_ [97, 4]) rfl "BodyMaker.check_room" 3 [] Value.none Value.none Value.none (Value.str "postcore.memory" (nat_lit 1019)) none (Value.ref 674) Value.none 0)) #[]))
@[reducible] noncomputable def o_744 : Params → Obj := (fun _ => (Obj.mk (Value.type "tuple") none (Data.seq #[(Value.str "self" (nat_lit 1186)), (Value.str "many" (nat_lit 1187))] 0) #[]))
@[reducible] noncomputable def o_746 : Params → Obj := (fun _ => (Obj.mk Value.none none (Data.func (fd (st := at_ [97, 5]) rfl "BodyMaker.make_text" 0 [] Value.none Value.none Value.none Value.none none Value.none Value.none 0)) #[]))
@[reducible] noncomputable def o_747 : Params → Obj := (fun _ => (Obj.mk (Value.type "code") none (Data.fields #[(Value.str "make_text" (nat_lit 1183)), (Value.str "BodyMaker.make_text" (nat_lit 1184)), (Value.str "/claim/cut.py" (nat_lit 1185)), (Value.int 503 (nat_lit 0)), (Value.int 2 (nat_lit 0)), (Value.int 0 (nat_lit 0)), (Value.int 0 (nat_lit 0)), (Value.int 3 (nat_lit 0)), (Value.ref 676), (Value.bool true), (Value.int 181 (nat_lit 0)), (Value.ref 677), Value.none, (Value.ref 678), (Value.ref 679), (Value.ref 680), (Value.int 1188 (nat_lit 0)), (Value.int 503 (nat_lit 0)), (Value.str "/claim/cut.py" (nat_lit 1189))]) #[]))
@[reducible] noncomputable def o_748 : Params → Obj := (fun _ => (Obj.mk (Value.type "function") none (Data.func (fd (st := at_ [97, 5]) rfl "BodyMaker.make_text" 3 [] Value.none Value.none Value.none (Value.str "postcore.memory" (nat_lit 1019)) none (Value.ref 681) Value.none 0)) #[]))
@[reducible] noncomputable def o_751 : Params → Obj := (fun _ => (Obj.mk (Value.type "tuple") none (Data.seq #[(Value.str "self" (nat_lit 1194)), (Value.str "octets" (nat_lit 1195))] 0) #[]))
@[reducible] noncomputable def o_753 : Params → Obj := (fun _ => (Obj.mk Value.none none (Data.func (fd (st := at_ [97, 6]) rfl "BodyMaker.text_of_octets" 0 [] Value.none Value.none Value.none Value.none none Value.none Value.none 0)) #[]))
@[reducible] noncomputable def o_754 : Params → Obj := (fun _ => (Obj.mk (Value.type "code") none (Data.fields #[(Value.str "text_of_octets" (nat_lit 1191)), (Value.str "BodyMaker.text_of_octets" (nat_lit 1192)), (Value.str "/claim/cut.py" (nat_lit 1193)), (Value.int 506 (nat_lit 0)), (Value.int 2 (nat_lit 0)), (Value.int 0 (nat_lit 0)), (Value.int 0 (nat_lit 0)), (Value.int 3 (nat_lit 0)), (Value.ref 683), (Value.bool true), (Value.int 181 (nat_lit 0)), (Value.ref 684), Value.none, (Value.ref 685), (Value.ref 686), (Value.ref 687), (Value.int 1196 (nat_lit 0)), (Value.int 506 (nat_lit 0)), (Value.str "/claim/cut.py" (nat_lit 1197))]) #[]))
@[reducible] noncomputable def o_755 : Params → Obj := (fun _ => (Obj.mk (Value.type "function") none (Data.func (fd (st := at_ [97, 6]) rfl "BodyMaker.text_of_octets" 3 [] Value.none Value.none Value.none (Value.str "postcore.memory" (nat_lit 1019)) none (Value.ref 688) Value.none 0)) #[]))
@[reducible] noncomputable def o_758 : Params → Obj := (fun _ => (Obj.mk (Value.type "tuple") none (Data.seq #[(Value.str "self" (nat_lit 1202)), (Value.str "things" (nat_lit 1203)), (Value.str "thing" (nat_lit 1204))] 0) #[]))
@[reducible] noncomputable def o_760 : Params → Obj := (fun _ => (Obj.mk Value.none none (Data.func (fd (st := at_ [97, 7]) rfl "BodyMaker.make_row" 0 [] Value.none Value.none Value.none Value.none none Value.none Value.none 0)) #[]))
@[reducible] noncomputable def o_761 : Params → Obj := (fun _ => (Obj.mk (Value.type "code") none (Data.fields #[(Value.str "make_row" (nat_lit 1199)), (Value.str "BodyMaker.make_row" (nat_lit 1200)), (Value.str "/claim/cut.py" (nat_lit 1201)), (Value.int 510 (nat_lit 0)), (Value.int 2 (nat_lit 0)), (Value.int 0 (nat_lit 0)), (Value.int 0 (nat_lit 0)), (Value.int 3 (nat_lit 0)), (Value.ref 690), (Value.bool true), (Value.int 181 (nat_lit 0)), (Value.ref 691), Value.none, (Value.ref 692), (Value.ref 693), (Value.ref 694), (Value.int 1205 (nat_lit 0)), (Value.int 510 (nat_lit 0)), (Value.str "/claim/cut.py" (nat_lit 1206))]) #[]))
@[reducible] noncomputable def o_762 : Params → Obj := (fun _ => (Obj.mk (Value.type "function") none (Data.func (fd (st := at_ [97, 7]) rfl "BodyMaker.make_row" 3 [] Value.none Value.none Value.none (Value.str "postcore.memory" (nat_lit 1019)) none (Value.ref 695) Value.none 0)) #[]))
@[reducible] noncomputable def o_765 : Params → Obj := (fun _ => (Obj.mk (Value.type "tuple") none (Data.seq #[(Value.str "self" (nat_lit 1211)), (Value.str "most" (nat_lit 1212))] 0) #[]))
@[reducible] noncomputable def o_767 : Params → Obj := (fun _ => (Obj.mk Value.none none (Data.func (fd (st := at_ [97, 8]) rfl "BodyMaker.make_dict" 0 [] Value.none Value.none Value.none Value.none none Value.none Value.none 0)) #[]))
@[reducible] noncomputable def o_768 : Params → Obj := (fun _ => (Obj.mk (Value.type "code") none (Data.fields #[(Value.str "make_dict" (nat_lit 1208)), (Value.str "BodyMaker.make_dict" (nat_lit 1209)), (Value.str "/claim/cut.py" (nat_lit 1210)), (Value.int 521 (nat_lit 0)), (Value.int 2 (nat_lit 0)), (Value.int 0 (nat_lit 0)), (Value.int 0 (nat_lit 0)), (Value.int 3 (nat_lit 0)), (Value.ref 697), (Value.bool true), (Value.int 181 (nat_lit 0)), (Value.ref 698), Value.none, (Value.ref 699), (Value.ref 700), (Value.ref 701), (Value.int 1213 (nat_lit 0)), (Value.int 521 (nat_lit 0)), (Value.str "/claim/cut.py" (nat_lit 1214))]) #[]))
@[reducible] noncomputable def o_769 : Params → Obj := (fun _ => (Obj.mk (Value.type "function") none (Data.func (fd (st := at_ [97, 8]) rfl "BodyMaker.make_dict" 3 [] Value.none Value.none Value.none (Value.str "postcore.memory" (nat_lit 1019)) none (Value.ref 702) Value.none 0)) #[]))
@[reducible] noncomputable def o_770 : Params → Obj := (fun _ => (Obj.mk (Value.type "tuple") none (Data.seq #[(Value.str "freed" (nat_lit 1216)), (Value.str "is_global" (nat_lit 1217)), (Value.str "journal" (nat_lit 1218)), (Value.str "last_body" (nat_lit 1219)), (Value.str "last_save" (nat_lit 1220)), (Value.str "limits" (nat_lit 1221)), (Value.str "made" (nat_lit 1222)), (Value.str "saves" (nat_lit 1223)), (Value.str "used" (nat_lit 1224)), (Value.str "used_global" (nat_lit 1225))] 0) #[]))
@[reducible] noncomputable def o_771 : Params → Obj := (fun P => (Obj.mk (Value.type "dict") none (Data.dict #[(de P "__module__" (nat_lit 1139) (Value.str "postcore.memory" (nat_lit 1019))), (de P "__firstlineno__" (nat_lit 1143) (Value.int 468 (nat_lit 1142))), (de P "__init__" (nat_lit 1151) (Value.ref 646)), (de P "level" (nat_lit 1159) (Value.ref 654)), (de P "body_level" (nat_lit 1166) (Value.ref 661)), (de P "take_room" (nat_lit 1174) (Value.ref 668)), (de P "check_room" (nat_lit 1182) (Value.ref 675)), (de P "make_text" (nat_lit 1190) (Value.ref 682)), (de P "text_of_octets" (nat_lit 1198) (Value.ref 689)), (de P "make_row" (nat_lit 1207) (Value.ref 696)), (de P "make_dict" (nat_lit 1215) (Value.ref 703)), (de P "__static_attributes__" (nat_lit 1226) (Value.ref 704)), (de P "__dict__" (nat_lit 1228) (Value.ref 707)), (de P "__weakref__" (nat_lit 1230) (Value.ref 708)), (de P "__doc__" (nat_lit 1231) Value.none)] 4) #[]))
@[reducible] noncomputable def o_772 : Params → Obj := (fun _ => (Obj.mk (Value.type "type") none (Data.cls (ClassData.mk "BodyMaker" [(Value.type "object")] [(Value.ref 706), (Value.type "object")] 705 "BodyMaker" true [] [] false none false)) #[none, none, (Option.some (Value.str "BodyMaker" (nat_lit 1132))), (Option.some (Value.str "BodyMaker" (nat_lit 1140))), (Option.some (Value.builtin "object.__new__")), (Option.some (Value.bool true))]))
@[reducible] noncomputable def o_773 : Params → Obj := (fun _ => (Obj.mk (Value.type "getset_descriptor") none (Data.fields #[(Value.str "__dict__" (nat_lit 1227)), (Value.ref 706), (Value.builtin "function.__dict__"), (Value.builtin "function.__dict__#set")]) #[]))
@[reducible] noncomputable def o_774 : Params → Obj := (fun _ => (Obj.mk (Value.type "getset_descriptor") none (Data.fields #[(Value.str "__weakref__" (nat_lit 1229)), (Value.ref 706), (Value.builtin "ExceptionGroup.__weakref__"), Value.none]) #[]))
@[reducible] noncomputable def o_775 : Params → Obj := (fun _ => (Obj.mk (Value.type "super") none (Data.fields #[(Value.ref 706), (Value.ref 706), (Value.ref 706)]) #[]))
@[reducible] noncomputable def o_776 : Params → Obj := (fun _ => (Obj.mk (Value.type "builtin_function_or_method") none (Data.fields #[(Value.builtin "object.__init_subclass__"), (Value.ref 706)]) #[]))
@[reducible] noncomputable def o_777 : Params → Obj := (fun P => (Obj.mk (Value.type "dict") none (Data.dict (List.toArray ((de P "__name__" (nat_lit 165) (Value.str "postcore.memory" (nat_lit 1019))) :: (de P "__doc__" (nat_lit 166) Value.none) :: (de P "__package__" (nat_lit 167) Value.none) :: (de P "__loader__" (nat_lit 168) (Value.builtin "__main__.__loader__#opaque")) :: (de P "__spec__" (nat_lit 169) Value.none) :: (de P "__annotations__" (nat_lit 170) (Value.ref 6)) :: (de P "__builtins__" (nat_lit 171) (Value.ref 4)) :: (de P "__file__" (nat_lit 173) (Value.str "/claim/cut.py" (nat_lit 172))) :: (de P "__cached__" (nat_lit 174) Value.none) :: (de P "_wall" (nat_lit 193) (Value.ref 21)) :: (de P "GRAIN" (nat_lit 197) (Value.int 1000000 (nat_lit 196))) :: (de P "LEAST_INT" (nat_lit 202) (Value.int (-2147483648) (nat_lit 201))) :: (de P "MOST_INT" (nat_lit 208) (Value.int 2147483647 (nat_lit 207))) :: (de P "WHITE" (nat_lit 210) (Value.bytes #[0, 9, 10, 12, 13, 32] (nat_lit 209))) :: (de P "DELIMITERS" (nat_lit 212) (Value.bytes #[40, 41, 60, 62, 91, 93, 123, 125, 47, 37] (nat_lit 211))) :: (de P "LINE_FEED" (nat_lit 214) (Value.int 10 (nat_lit 213))) :: (de P "CARRIAGE_RETURN" (nat_lit 216) (Value.int 13 (nat_lit 215))) :: (de P "PostError" (nat_lit 245) (Value.ref 39)) :: (de P "PsError" (nat_lit 261) (Value.ref 52)) :: (de P "is_white" (nat_lit 268) (Value.ref 61)) :: (de P "is_delimiter" (nat_lit 275) (Value.ref 68)) :: (de P "is_line_end" (nat_lit 282) (Value.ref 75)) :: (de P "is_octal" (nat_lit 289) (Value.ref 82)) :: (de P "hex_value" (nat_lit 296) (Value.ref 89)) :: (de P "digit_value" (nat_lit 303) (Value.ref 96)) :: (de P "INTEGER" (nat_lit 307) (Value.str "integer" (nat_lit 306))) :: (de P "REAL" (nat_lit 309) (Value.str "real" (nat_lit 308))) :: (de P "MOST_REAL" (nat_lit 314) (Value.int 1000000000000000000000 (nat_lit 313))) :: (de P "PLACES" (nat_lit 316) (Value.int 6 (nat_lit 315))) :: (de P "WORD_SIZE" (nat_lit 320) (Value.int 4294967296 (nat_lit 319))) :: (de P "MOST_FIGURES" (nat_lit 322) (Value.int 6 (nat_lit 321))) :: (de P "divided" (nat_lit 333) (Value.ref 103)) :: (de P "is_integer_size" (nat_lit 340) (Value.ref 110)) :: (de P "checked_real" (nat_lit 347) (Value.ref 117)) :: (de P "real_of" (nat_lit 354) (Value.ref 124)) :: (de P "whole_number" (nat_lit 361) (Value.ref 131)) :: (de P "figures_value" (nat_lit 372) (Value.ref 138)) :: (de P "read_radix" (nat_lit 382) (Value.ref 145)) :: (de P "signed_word" (nat_lit 390) (Value.ref 152)) :: (de P "read_exponent" (nat_lit 400) (Value.ref 159)) :: (de P "number_scaled" (nat_lit 408) (Value.ref 166)) :: (de P "split_at" (nat_lit 418) (Value.ref 173)) :: (de P "read_real" (nat_lit 433) (Value.ref 180)) :: (de P "read_number" (nat_lit 445) (Value.ref 187)) :: (de P "READ_ONLY" (nat_lit 449) (Value.int 2 (nat_lit 448))) :: (de P "UNLIMITED" (nat_lit 451) (Value.int 3 (nat_lit 450))) :: (de P "Thing" (nat_lit 486) (Value.ref 205)) :: (de P "Text" (nat_lit 521) (Value.ref 226)) :: (de P "Row" (nat_lit 556) (Value.ref 247)) :: (de P "Span" (nat_lit 589) (Value.ref 268)) :: (de P "integer" (nat_lit 596) (Value.ref 279)) :: (de P "real" (nat_lit 603) (Value.ref 286)) :: (de P "name" (nat_lit 611) (Value.ref 294)) :: (de P "null" (nat_lit 617) (Value.ref 301)) :: (de P "of_string" (nat_lit 626) (Value.ref 309)) :: (de P "of_row" (nat_lit 635) (Value.ref 317)) :: (de P "of_packed" (nat_lit 643) (Value.ref 325)) :: (de P "is_in_array" (nat_lit 650) (Value.ref 332)) :: (de P "body_of" (nat_lit 657) (Value.ref 339)) :: (de P "is_local" (nat_lit 665) (Value.ref 346)) :: (de P "octets_of_span" (nat_lit 672) (Value.ref 353)) :: (de P "SCAN_END" (nat_lit 676) (Value.int 4 (nat_lit 675))) :: (de P "SCAN_FORM_FEED" (nat_lit 678) (Value.int 12 (nat_lit 677))) :: (de P "SCAN_MOST_NAME" (nat_lit 680) (Value.int 127 (nat_lit 679))) :: (de P "SCAN_BASE" (nat_lit 682) (Value.int 85 (nat_lit 681))) :: (de P "SCAN_FIRST" (nat_lit 684) (Value.int 33 (nat_lit 683))) :: (de P "SCAN_OPEN" (nat_lit 686) (Value.int 40 (nat_lit 685))) :: (de P "SCAN_CLOSE" (nat_lit 688) (Value.int 41 (nat_lit 687))) :: (de P "SCAN_SLASH" (nat_lit 690) (Value.int 47 (nat_lit 689))) :: (de P "SCAN_LESS" (nat_lit 692) (Value.int 60 (nat_lit 691))) :: (de P "SCAN_MORE" (nat_lit 694) (Value.int 62 (nat_lit 693))) :: (de P "SCAN_BACKSLASH" (nat_lit 696) (Value.int 92 (nat_lit 695))) :: (de P "SCAN_ROW_OPEN" (nat_lit 698) (Value.int 91 (nat_lit 697))) :: (de P "SCAN_ROW_CLOSE" (nat_lit 700) (Value.int 93 (nat_lit 699))) :: (de P "SCAN_PROC_OPEN" (nat_lit 702) (Value.int 123 (nat_lit 701))) :: (de P "SCAN_PROC_CLOSE" (nat_lit 704) (Value.int 125 (nat_lit 703))) :: (de P "SCAN_TILDE" (nat_lit 706) (Value.int 126 (nat_lit 705))) :: (de P "SCAN_NOUGHTS" (nat_lit 708) (Value.int 122 (nat_lit 707))) :: (de P "SCAN_PERCENT" (nat_lit 710) (Value.int 37 (nat_lit 709))) :: (de P "OctetSource" (nat_lit 764) (Value.ref 393)) :: (de P "is_blank" (nat_lit 771) (Value.ref 404)) :: (de P "scan_skip_feed" (nat_lit 779) (Value.ref 411)) :: (de P "scan_line" (nat_lit 787) (Value.ref 418)) :: (de P "scan_first" (nat_lit 795) (Value.ref 425)) :: (de P "scan_word" (nat_lit 804) (Value.ref 432)) :: (de P "scan_sure" (nat_lit 812) (Value.ref 439)) :: (de P "scan_octal" (nat_lit 822) (Value.ref 446)) :: (de P "scan_escape" (nat_lit 832) (Value.ref 453)) :: (de P "scan_string" (nat_lit 842) (Value.ref 460)) :: (de P "scan_hex" (nat_lit 853) (Value.ref 467)) :: (de P "scan_group" (nat_lit 862) (Value.ref 474)) :: (de P "scan_base85" (nat_lit 872) (Value.ref 481)) :: (de P "scan_name" (nat_lit 880) (Value.ref 488)) :: (de P "scan_regular" (nat_lit 888) (Value.ref 495)) :: (de P "scan_at_once" (nat_lit 897) (Value.ref 502)) :: (de P "Scanner" (nat_lit 1018) (Value.ref 585)) :: (de P "ITEM_COST" (nat_lit 1022) (Value.int 8 (nat_lit 1021))) :: (de P "ENTRY_COST" (nat_lit 1024) (Value.int 16 (nat_lit 1023))) :: (de P "MOST_COST" (nat_lit 1028) (Value.int 16777216 (nat_lit 1027))) :: (de P "Limits" (nat_lit 1096) (Value.ref 607)) :: (de P "VmSave" (nat_lit 1131) (Value.ref 628)) :: (de P "BodyMaker" (nat_lit 1233) (Value.ref 706)) :: (de P "BodyChanger" (nat_lit 1342) (Value.ref 790)) :: [])) 103) #[]))
@[reducible] noncomputable def o_778 : Params → Obj := (fun _ => (Obj.mk Value.none none (Data.fields (List.toArray ((Value.int 1 (nat_lit 0)) :: (Value.int 0 (nat_lit 0)) :: (Value.ref 20) :: (Value.int 12 (nat_lit 0)) :: (Value.int 0 (nat_lit 0)) :: (Value.ref 27) :: (Value.int 16 (nat_lit 0)) :: (Value.int 0 (nat_lit 0)) :: (Value.ref 48) :: (Value.int 18 (nat_lit 0)) :: (Value.int 0 (nat_lit 0)) :: (Value.ref 60) :: (Value.int 20 (nat_lit 0)) :: (Value.int 0 (nat_lit 0)) :: (Value.ref 67) :: (Value.int 22 (nat_lit 0)) :: (Value.int 0 (nat_lit 0)) :: (Value.ref 74) :: (Value.int 24 (nat_lit 0)) :: (Value.int 0 (nat_lit 0)) :: (Value.ref 81) :: (Value.int 26 (nat_lit 0)) :: (Value.int 0 (nat_lit 0)) :: (Value.ref 88) :: (Value.int 34 (nat_lit 0)) :: (Value.int 0 (nat_lit 0)) :: (Value.ref 95) :: (Value.int 49 (nat_lit 0)) :: (Value.int 0 (nat_lit 0)) :: (Value.ref 102) :: (Value.int 53 (nat_lit 0)) :: (Value.int 0 (nat_lit 0)) :: (Value.ref 109) :: (Value.int 55 (nat_lit 0)) :: (Value.int 0 (nat_lit 0)) :: (Value.ref 116) :: (Value.int 59 (nat_lit 0)) :: (Value.int 0 (nat_lit 0)) :: (Value.ref 123) :: (Value.int 61 (nat_lit 0)) :: (Value.int 0 (nat_lit 0)) :: (Value.ref 130) :: (Value.int 65 (nat_lit 0)) :: (Value.int 0 (nat_lit 0)) :: (Value.ref 137) :: (Value.int 75 (nat_lit 0)) :: (Value.int 0 (nat_lit 0)) :: (Value.ref 144) :: (Value.int 85 (nat_lit 0)) :: (Value.int 0 (nat_lit 0)) :: (Value.ref 151) :: (Value.int 88 (nat_lit 0)) :: (Value.int 0 (nat_lit 0)) :: (Value.ref 158) :: (Value.int 96 (nat_lit 0)) :: (Value.int 0 (nat_lit 0)) :: (Value.ref 165) :: (Value.int 106 (nat_lit 0)) :: (Value.int 0 (nat_lit 0)) :: (Value.ref 172) :: (Value.int 111 (nat_lit 0)) :: (Value.int 0 (nat_lit 0)) :: (Value.ref 179) :: (Value.int 122 (nat_lit 0)) :: (Value.int 0 (nat_lit 0)) :: (Value.ref 186) :: (Value.int 135 (nat_lit 0)) :: (Value.int 0 (nat_lit 0)) :: (Value.ref 193) :: (Value.int 142 (nat_lit 0)) :: (Value.int 0 (nat_lit 0)) :: (Value.ref 215) :: (Value.int 149 (nat_lit 0)) :: (Value.int 0 (nat_lit 0)) :: (Value.ref 236) :: (Value.int 156 (nat_lit 0)) :: (Value.int 0 (nat_lit 0)) :: (Value.ref 257) :: (Value.int 162 (nat_lit 0)) :: (Value.int 0 (nat_lit 0)) :: (Value.ref 278) :: (Value.int 164 (nat_lit 0)) :: (Value.int 0 (nat_lit 0)) :: (Value.ref 285) :: (Value.int 166 (nat_lit 0)) :: (Value.int 0 (nat_lit 0)) :: (Value.ref 293) :: (Value.int 168 (nat_lit 0)) :: (Value.int 0 (nat_lit 0)) :: (Value.ref 300) :: (Value.int 170 (nat_lit 0)) :: (Value.int 0 (nat_lit 0)) :: (Value.ref 308) :: (Value.int 172 (nat_lit 0)) :: (Value.int 0 (nat_lit 0)) :: (Value.ref 316) :: (Value.int 174 (nat_lit 0)) :: (Value.int 0 (nat_lit 0)) :: (Value.ref 324) :: (Value.int 176 (nat_lit 0)) :: (Value.int 0 (nat_lit 0)) :: (Value.ref 331) :: (Value.int 178 (nat_lit 0)) :: (Value.int 0 (nat_lit 0)) :: (Value.ref 338) :: (Value.int 182 (nat_lit 0)) :: (Value.int 0 (nat_lit 0)) :: (Value.ref 345) :: (Value.int 185 (nat_lit 0)) :: (Value.int 0 (nat_lit 0)) :: (Value.ref 352) :: (Value.int 206 (nat_lit 0)) :: (Value.int 0 (nat_lit 0)) :: (Value.ref 359) :: (Value.int 224 (nat_lit 0)) :: (Value.int 0 (nat_lit 0)) :: (Value.ref 403) :: (Value.int 226 (nat_lit 0)) :: (Value.int 0 (nat_lit 0)) :: (Value.ref 410) :: (Value.int 230 (nat_lit 0)) :: (Value.int 0 (nat_lit 0)) :: (Value.ref 417) :: (Value.int 236 (nat_lit 0)) :: (Value.int 0 (nat_lit 0)) :: (Value.ref 424) :: (Value.int 245 (nat_lit 0)) :: (Value.int 0 (nat_lit 0)) :: (Value.ref 431) :: (Value.int 258 (nat_lit 0)) :: (Value.int 0 (nat_lit 0)) :: (Value.ref 438) :: (Value.int 263 (nat_lit 0)) :: (Value.int 0 (nat_lit 0)) :: (Value.ref 445) :: (Value.int 274 (nat_lit 0)) :: (Value.int 0 (nat_lit 0)) :: (Value.ref 452) :: (Value.int 283 (nat_lit 0)) :: (Value.int 0 (nat_lit 0)) :: (Value.ref 459) :: (Value.int 300 (nat_lit 0)) :: (Value.int 0 (nat_lit 0)) :: (Value.ref 466) :: (Value.int 316 (nat_lit 0)) :: (Value.int 0 (nat_lit 0)) :: (Value.ref 473) :: (Value.int 323 (nat_lit 0)) :: (Value.int 0 (nat_lit 0)) :: (Value.ref 480) :: (Value.int 342 (nat_lit 0)) :: (Value.int 0 (nat_lit 0)) :: (Value.ref 487) :: (Value.int 346 (nat_lit 0)) :: (Value.int 0 (nat_lit 0)) :: (Value.ref 494) :: (Value.int 351 (nat_lit 0)) :: (Value.int 0 (nat_lit 0)) :: (Value.ref 501) :: (Value.int 356 (nat_lit 0)) :: (Value.int 0 (nat_lit 0)) :: (Value.ref 508) :: (Value.int 444 (nat_lit 0)) :: (Value.int 0 (nat_lit 0)) :: (Value.ref 595) :: (Value.int 461 (nat_lit 0)) :: (Value.int 0 (nat_lit 0)) :: (Value.ref 617) :: (Value.int 468 (nat_lit 0)) :: (Value.int 0 (nat_lit 0)) :: (Value.ref 638) :: (Value.int 523 (nat_lit 0)) :: (Value.int 0 (nat_lit 0)) :: (Value.ref 716) :: []))) #[]))
@[reducible] noncomputable def o_779 : Params → Obj := (fun _ => (Obj.mk (Value.type "type") none (Data.cls (ClassData.mk "BodyMaker" [(Value.type "object")] [(Value.ref 706), (Value.type "object")] 705 "BodyMaker" true [] [(Value.ref 790)] false none false)) #[none, none, (Option.some (Value.str "BodyMaker" (nat_lit 1132))), (Option.some (Value.str "BodyMaker" (nat_lit 1140))), (Option.some (Value.builtin "object.__new__")), (Option.some (Value.bool true))]))
@[reducible] noncomputable def o_780 : Params → Obj := (fun _ => (Obj.mk (Value.type "tuple") none (Data.seq #[(Value.ref 706)] 0) #[]))
@[reducible] noncomputable def o_782 : Params → Obj := (fun P => (Obj.mk (Value.type "dict") none (Data.dict #[(de P "__module__" (nat_lit 1241) (Value.str "postcore.memory" (nat_lit 1019))), (de P "__qualname__" (nat_lit 1243) (Value.str "BodyChanger" (nat_lit 1242))), (de P "__firstlineno__" (nat_lit 1245) (Value.int 523 (nat_lit 1244))), (de P "is_elder" (nat_lit 1253) (Value.ref 724)), (de P "check_holds" (nat_lit 1262) (Value.ref 731)), (de P "put_item" (nat_lit 1272) (Value.ref 738)), (de P "put_items" (nat_lit 1282) (Value.ref 745)), (de P "put_octet" (nat_lit 1292) (Value.ref 752)), (de P "put_octets" (nat_lit 1302) (Value.ref 759)), (de P "grow" (nat_lit 1310) (Value.ref 766)), (de P "put_entry" (nat_lit 1320) (Value.ref 773)), (de P "drop_entry" (nat_lit 1329) (Value.ref 780)), (de P "set_access" (nat_lit 1338) (Value.ref 787)), (de P "__static_attributes__" (nat_lit 1339) (Value.ref 788))] 14) #[]))
@[reducible] noncomputable def o_784 : Params → Obj := (fun _ => (Obj.mk Value.none none (Data.fields #[(Value.int 525 (nat_lit 0)), (Value.int 4 (nat_lit 0)), (Value.ref 723), (Value.int 528 (nat_lit 0)), (Value.int 4 (nat_lit 0)), (Value.ref 730), (Value.int 531 (nat_lit 0)), (Value.int 4 (nat_lit 0)), (Value.ref 737), (Value.int 534 (nat_lit 0)), (Value.int 4 (nat_lit 0)), (Value.ref 744), (Value.int 537 (nat_lit 0)), (Value.int 4 (nat_lit 0)), (Value.ref 751), (Value.int 540 (nat_lit 0)), (Value.int 4 (nat_lit 0)), (Value.ref 758), (Value.int 543 (nat_lit 0)), (Value.int 4 (nat_lit 0)), (Value.ref 765), (Value.int 546 (nat_lit 0)), (Value.int 4 (nat_lit 0)), (Value.ref 772), (Value.int 549 (nat_lit 0)), (Value.int 4 (nat_lit 0)), (Value.ref 779), (Value.int 552 (nat_lit 0)), (Value.int 4 (nat_lit 0)), (Value.ref 786)]) #[]))
@[reducible] noncomputable def o_785 : Params → Obj := (fun _ => (Obj.mk (Value.type "code") none (Data.fields #[(Value.str "BodyChanger" (nat_lit 1236)), (Value.str "BodyChanger" (nat_lit 1237)), (Value.str "/claim/cut.py" (nat_lit 1238)), (Value.int 523 (nat_lit 0)), (Value.int 0 (nat_lit 0)), (Value.int 0 (nat_lit 0)), (Value.int 0 (nat_lit 0)), (Value.int 0 (nat_lit 0)), (Value.ref 714), (Value.bool false), (Value.int 181 (nat_lit 0)), (Value.ref 715), Value.none, Value.none, Value.none, Value.none, (Value.int 1239 (nat_lit 0)), (Value.int 523 (nat_lit 0)), (Value.str "/claim/cut.py" (nat_lit 1240))]) #[]))
@[reducible] noncomputable def o_786 : Params → Obj := (fun _ => (Obj.mk (Value.type "frame") none Data.plain #[(Option.some (Value.ref 716)), (Option.some (Value.ref 3)), (Option.some (Value.ref 713)), none, (Option.some (Value.str "postcore.memory" (nat_lit 1019))), none, (Option.some (Value.ref 0))]))
@[reducible] noncomputable def o_789 : Params → Obj := (fun _ => (Obj.mk (Value.type "tuple") none (Data.seq #[(Value.str "self" (nat_lit 1249)), (Value.str "body" (nat_lit 1250))] 0) #[]))
@[reducible] noncomputable def o_791 : Params → Obj := (fun _ => (Obj.mk Value.none none (Data.func (fd (st := at_ [98, 0]) rfl "BodyChanger.is_elder" 0 [] Value.none Value.none Value.none Value.none none Value.none Value.none 0)) #[]))
@[reducible] noncomputable def o_792 : Params → Obj := (fun _ => (Obj.mk (Value.type "code") none (Data.fields #[(Value.str "is_elder" (nat_lit 1246)), (Value.str "BodyChanger.is_elder" (nat_lit 1247)), (Value.str "/claim/cut.py" (nat_lit 1248)), (Value.int 525 (nat_lit 0)), (Value.int 2 (nat_lit 0)), (Value.int 0 (nat_lit 0)), (Value.int 0 (nat_lit 0)), (Value.int 3 (nat_lit 0)), (Value.ref 718), (Value.bool true), (Value.int 181 (nat_lit 0)), (Value.ref 719), Value.none, (Value.ref 720), (Value.ref 721), (Value.ref 722), (Value.int 1251 (nat_lit 0)), (Value.int 525 (nat_lit 0)), (Value.str "/claim/cut.py" (nat_lit 1252))]) #[]))
@[reducible] noncomputable def o_793 : Params → Obj := (fun _ => (Obj.mk (Value.type "function") none (Data.func (fd (st := at_ [98, 0]) rfl "BodyChanger.is_elder" 3 [] Value.none Value.none Value.none (Value.str "postcore.memory" (nat_lit 1019)) none (Value.ref 723) Value.none 0)) #[]))
@[reducible] noncomputable def o_796 : Params → Obj := (fun _ => (Obj.mk (Value.type "tuple") none (Data.seq #[(Value.str "self" (nat_lit 1257)), (Value.str "body" (nat_lit 1258)), (Value.str "thing" (nat_lit 1259))] 0) #[]))
@[reducible] noncomputable def o_798 : Params → Obj := (fun _ => (Obj.mk Value.none none (Data.func (fd (st := at_ [98, 1]) rfl "BodyChanger.check_holds" 0 [] Value.none Value.none Value.none Value.none none Value.none Value.none 0)) #[]))
@[reducible] noncomputable def o_799 : Params → Obj := (fun _ => (Obj.mk (Value.type "code") none (Data.fields #[(Value.str "check_holds" (nat_lit 1254)), (Value.str "BodyChanger.check_holds" (nat_lit 1255)), (Value.str "/claim/cut.py" (nat_lit 1256)), (Value.int 528 (nat_lit 0)), (Value.int 3 (nat_lit 0)), (Value.int 0 (nat_lit 0)), (Value.int 0 (nat_lit 0)), (Value.int 3 (nat_lit 0)), (Value.ref 725), (Value.bool true), (Value.int 181 (nat_lit 0)), (Value.ref 726), Value.none, (Value.ref 727), (Value.ref 728), (Value.ref 729), (Value.int 1260 (nat_lit 0)), (Value.int 528 (nat_lit 0)), (Value.str "/claim/cut.py" (nat_lit 1261))]) #[]))
@[reducible] noncomputable def o_800 : Params → Obj := (fun _ => (Obj.mk (Value.type "function") none (Data.func (fd (st := at_ [98, 1]) rfl "BodyChanger.check_holds" 3 [] Value.none Value.none Value.none (Value.str "postcore.memory" (nat_lit 1019)) none (Value.ref 730) Value.none 0)) #[]))
@[reducible] noncomputable def o_803 : Params → Obj := (fun _ => (Obj.mk (Value.type "tuple") none (Data.seq #[(Value.str "self" (nat_lit 1266)), (Value.str "row" (nat_lit 1267)), (Value.str "at" (nat_lit 1268)), (Value.str "thing" (nat_lit 1269))] 0) #[]))
@[reducible] noncomputable def o_805 : Params → Obj := (fun _ => (Obj.mk Value.none none (Data.func (fd (st := at_ [98, 2]) rfl "BodyChanger.put_item" 0 [] Value.none Value.none Value.none Value.none none Value.none Value.none 0)) #[]))
@[reducible] noncomputable def o_806 : Params → Obj := (fun _ => (Obj.mk (Value.type "code") none (Data.fields #[(Value.str "put_item" (nat_lit 1263)), (Value.str "BodyChanger.put_item" (nat_lit 1264)), (Value.str "/claim/cut.py" (nat_lit 1265)), (Value.int 531 (nat_lit 0)), (Value.int 4 (nat_lit 0)), (Value.int 0 (nat_lit 0)), (Value.int 0 (nat_lit 0)), (Value.int 3 (nat_lit 0)), (Value.ref 732), (Value.bool true), (Value.int 181 (nat_lit 0)), (Value.ref 733), Value.none, (Value.ref 734), (Value.ref 735), (Value.ref 736), (Value.int 1270 (nat_lit 0)), (Value.int 531 (nat_lit 0)), (Value.str "/claim/cut.py" (nat_lit 1271))]) #[]))
@[reducible] noncomputable def o_807 : Params → Obj := (fun _ => (Obj.mk (Value.type "function") none (Data.func (fd (st := at_ [98, 2]) rfl "BodyChanger.put_item" 3 [] Value.none Value.none Value.none (Value.str "postcore.memory" (nat_lit 1019)) none (Value.ref 737) Value.none 0)) #[]))
@[reducible] noncomputable def o_810 : Params → Obj := (fun _ => (Obj.mk (Value.type "tuple") none (Data.seq #[(Value.str "self" (nat_lit 1276)), (Value.str "row" (nat_lit 1277)), (Value.str "at" (nat_lit 1278)), (Value.str "things" (nat_lit 1279))] 0) #[]))
@[reducible] noncomputable def o_812 : Params → Obj := (fun _ => (Obj.mk Value.none none (Data.func (fd (st := at_ [98, 3]) rfl "BodyChanger.put_items" 0 [] Value.none Value.none Value.none Value.none none Value.none Value.none 0)) #[]))
@[reducible] noncomputable def o_813 : Params → Obj := (fun _ => (Obj.mk (Value.type "code") none (Data.fields #[(Value.str "put_items" (nat_lit 1273)), (Value.str "BodyChanger.put_items" (nat_lit 1274)), (Value.str "/claim/cut.py" (nat_lit 1275)), (Value.int 534 (nat_lit 0)), (Value.int 4 (nat_lit 0)), (Value.int 0 (nat_lit 0)), (Value.int 0 (nat_lit 0)), (Value.int 3 (nat_lit 0)), (Value.ref 739), (Value.bool true), (Value.int 181 (nat_lit 0)), (Value.ref 740), Value.none, (Value.ref 741), (Value.ref 742), (Value.ref 743), (Value.int 1280 (nat_lit 0)), (Value.int 534 (nat_lit 0)), (Value.str "/claim/cut.py" (nat_lit 1281))]) #[]))
@[reducible] noncomputable def o_814 : Params → Obj := (fun _ => (Obj.mk (Value.type "function") none (Data.func (fd (st := at_ [98, 3]) rfl "BodyChanger.put_items" 3 [] Value.none Value.none Value.none (Value.str "postcore.memory" (nat_lit 1019)) none (Value.ref 744) Value.none 0)) #[]))
@[reducible] noncomputable def o_817 : Params → Obj := (fun _ => (Obj.mk (Value.type "tuple") none (Data.seq #[(Value.str "self" (nat_lit 1286)), (Value.str "text" (nat_lit 1287)), (Value.str "at" (nat_lit 1288)), (Value.str "octet" (nat_lit 1289))] 0) #[]))
@[reducible] noncomputable def o_819 : Params → Obj := (fun _ => (Obj.mk Value.none none (Data.func (fd (st := at_ [98, 4]) rfl "BodyChanger.put_octet" 0 [] Value.none Value.none Value.none Value.none none Value.none Value.none 0)) #[]))
@[reducible] noncomputable def o_820 : Params → Obj := (fun _ => (Obj.mk (Value.type "code") none (Data.fields #[(Value.str "put_octet" (nat_lit 1283)), (Value.str "BodyChanger.put_octet" (nat_lit 1284)), (Value.str "/claim/cut.py" (nat_lit 1285)), (Value.int 537 (nat_lit 0)), (Value.int 4 (nat_lit 0)), (Value.int 0 (nat_lit 0)), (Value.int 0 (nat_lit 0)), (Value.int 3 (nat_lit 0)), (Value.ref 746), (Value.bool true), (Value.int 181 (nat_lit 0)), (Value.ref 747), Value.none, (Value.ref 748), (Value.ref 749), (Value.ref 750), (Value.int 1290 (nat_lit 0)), (Value.int 537 (nat_lit 0)), (Value.str "/claim/cut.py" (nat_lit 1291))]) #[]))
@[reducible] noncomputable def o_821 : Params → Obj := (fun _ => (Obj.mk (Value.type "function") none (Data.func (fd (st := at_ [98, 4]) rfl "BodyChanger.put_octet" 3 [] Value.none Value.none Value.none (Value.str "postcore.memory" (nat_lit 1019)) none (Value.ref 751) Value.none 0)) #[]))
@[reducible] noncomputable def o_824 : Params → Obj := (fun _ => (Obj.mk (Value.type "tuple") none (Data.seq #[(Value.str "self" (nat_lit 1296)), (Value.str "text" (nat_lit 1297)), (Value.str "at" (nat_lit 1298)), (Value.str "octets" (nat_lit 1299))] 0) #[]))
@[reducible] noncomputable def o_826 : Params → Obj := (fun _ => (Obj.mk Value.none none (Data.func (fd (st := at_ [98, 5]) rfl "BodyChanger.put_octets" 0 [] Value.none Value.none Value.none Value.none none Value.none Value.none 0)) #[]))
@[reducible] noncomputable def o_827 : Params → Obj := (fun _ => (Obj.mk (Value.type "code") none (Data.fields #[(Value.str "put_octets" (nat_lit 1293)), (Value.str "BodyChanger.put_octets" (nat_lit 1294)), (Value.str "/claim/cut.py" (nat_lit 1295)), (Value.int 540 (nat_lit 0)), (Value.int 4 (nat_lit 0)), (Value.int 0 (nat_lit 0)), (Value.int 0 (nat_lit 0)), (Value.int 3 (nat_lit 0)), (Value.ref 753), (Value.bool true), (Value.int 181 (nat_lit 0)), (Value.ref 754), Value.none, (Value.ref 755), (Value.ref 756), (Value.ref 757), (Value.int 1300 (nat_lit 0)), (Value.int 540 (nat_lit 0)), (Value.str "/claim/cut.py" (nat_lit 1301))]) #[]))
@[reducible] noncomputable def o_828 : Params → Obj := (fun _ => (Obj.mk (Value.type "function") none (Data.func (fd (st := at_ [98, 5]) rfl "BodyChanger.put_octets" 3 [] Value.none Value.none Value.none (Value.str "postcore.memory" (nat_lit 1019)) none (Value.ref 758) Value.none 0)) #[]))
@[reducible] noncomputable def o_831 : Params → Obj := (fun _ => (Obj.mk (Value.type "tuple") none (Data.seq #[(Value.str "self" (nat_lit 1306)), (Value.str "body" (nat_lit 1307))] 0) #[]))
@[reducible] noncomputable def o_833 : Params → Obj := (fun _ => (Obj.mk Value.none none (Data.func (fd (st := at_ [98, 6]) rfl "BodyChanger.grow" 0 [] Value.none Value.none Value.none Value.none none Value.none Value.none 0)) #[]))
@[reducible] noncomputable def o_834 : Params → Obj := (fun _ => (Obj.mk (Value.type "code") none (Data.fields #[(Value.str "grow" (nat_lit 1303)), (Value.str "BodyChanger.grow" (nat_lit 1304)), (Value.str "/claim/cut.py" (nat_lit 1305)), (Value.int 543 (nat_lit 0)), (Value.int 2 (nat_lit 0)), (Value.int 0 (nat_lit 0)), (Value.int 0 (nat_lit 0)), (Value.int 3 (nat_lit 0)), (Value.ref 760), (Value.bool true), (Value.int 181 (nat_lit 0)), (Value.ref 761), Value.none, (Value.ref 762), (Value.ref 763), (Value.ref 764), (Value.int 1308 (nat_lit 0)), (Value.int 543 (nat_lit 0)), (Value.str "/claim/cut.py" (nat_lit 1309))]) #[]))
@[reducible] noncomputable def o_835 : Params → Obj := (fun _ => (Obj.mk (Value.type "function") none (Data.func (fd (st := at_ [98, 6]) rfl "BodyChanger.grow" 3 [] Value.none Value.none Value.none (Value.str "postcore.memory" (nat_lit 1019)) none (Value.ref 765) Value.none 0)) #[]))
@[reducible] noncomputable def o_838 : Params → Obj := (fun _ => (Obj.mk (Value.type "tuple") none (Data.seq #[(Value.str "self" (nat_lit 1314)), (Value.str "body" (nat_lit 1315)), (Value.str "key" (nat_lit 1316)), (Value.str "thing" (nat_lit 1317))] 0) #[]))
@[reducible] noncomputable def o_840 : Params → Obj := (fun _ => (Obj.mk Value.none none (Data.func (fd (st := at_ [98, 7]) rfl "BodyChanger.put_entry" 0 [] Value.none Value.none Value.none Value.none none Value.none Value.none 0)) #[]))
@[reducible] noncomputable def o_841 : Params → Obj := (fun _ => (Obj.mk (Value.type "code") none (Data.fields #[(Value.str "put_entry" (nat_lit 1311)), (Value.str "BodyChanger.put_entry" (nat_lit 1312)), (Value.str "/claim/cut.py" (nat_lit 1313)), (Value.int 546 (nat_lit 0)), (Value.int 4 (nat_lit 0)), (Value.int 0 (nat_lit 0)), (Value.int 0 (nat_lit 0)), (Value.int 3 (nat_lit 0)), (Value.ref 767), (Value.bool true), (Value.int 181 (nat_lit 0)), (Value.ref 768), Value.none, (Value.ref 769), (Value.ref 770), (Value.ref 771), (Value.int 1318 (nat_lit 0)), (Value.int 546 (nat_lit 0)), (Value.str "/claim/cut.py" (nat_lit 1319))]) #[]))
@[reducible] noncomputable def o_842 : Params → Obj := (fun _ => (Obj.mk (Value.type "function") none (Data.func (fd (st := at_ [98, 7]) rfl "BodyChanger.put_entry" 3 [] Value.none Value.none Value.none (Value.str "postcore.memory" (nat_lit 1019)) none (Value.ref 772) Value.none 0)) #[]))
@[reducible] noncomputable def o_845 : Params → Obj := (fun _ => (Obj.mk (Value.type "tuple") none (Data.seq #[(Value.str "self" (nat_lit 1324)), (Value.str "body" (nat_lit 1325)), (Value.str "key" (nat_lit 1326))] 0) #[]))
@[reducible] noncomputable def o_847 : Params → Obj := (fun _ => (Obj.mk Value.none none (Data.func (fd (st := at_ [98, 8]) rfl "BodyChanger.drop_entry" 0 [] Value.none Value.none Value.none Value.none none Value.none Value.none 0)) #[]))
@[reducible] noncomputable def o_848 : Params → Obj := (fun _ => (Obj.mk (Value.type "code") none (Data.fields #[(Value.str "drop_entry" (nat_lit 1321)), (Value.str "BodyChanger.drop_entry" (nat_lit 1322)), (Value.str "/claim/cut.py" (nat_lit 1323)), (Value.int 549 (nat_lit 0)), (Value.int 3 (nat_lit 0)), (Value.int 0 (nat_lit 0)), (Value.int 0 (nat_lit 0)), (Value.int 3 (nat_lit 0)), (Value.ref 774), (Value.bool true), (Value.int 181 (nat_lit 0)), (Value.ref 775), Value.none, (Value.ref 776), (Value.ref 777), (Value.ref 778), (Value.int 1327 (nat_lit 0)), (Value.int 549 (nat_lit 0)), (Value.str "/claim/cut.py" (nat_lit 1328))]) #[]))
@[reducible] noncomputable def o_849 : Params → Obj := (fun _ => (Obj.mk (Value.type "function") none (Data.func (fd (st := at_ [98, 8]) rfl "BodyChanger.drop_entry" 3 [] Value.none Value.none Value.none (Value.str "postcore.memory" (nat_lit 1019)) none (Value.ref 779) Value.none 0)) #[]))
@[reducible] noncomputable def o_852 : Params → Obj := (fun _ => (Obj.mk (Value.type "tuple") none (Data.seq #[(Value.str "self" (nat_lit 1333)), (Value.str "body" (nat_lit 1334)), (Value.str "access" (nat_lit 1335))] 0) #[]))
@[reducible] noncomputable def o_854 : Params → Obj := (fun _ => (Obj.mk Value.none none (Data.func (fd (st := at_ [98, 9]) rfl "BodyChanger.set_access" 0 [] Value.none Value.none Value.none Value.none none Value.none Value.none 0)) #[]))
@[reducible] noncomputable def o_855 : Params → Obj := (fun _ => (Obj.mk (Value.type "code") none (Data.fields #[(Value.str "set_access" (nat_lit 1330)), (Value.str "BodyChanger.set_access" (nat_lit 1331)), (Value.str "/claim/cut.py" (nat_lit 1332)), (Value.int 552 (nat_lit 0)), (Value.int 3 (nat_lit 0)), (Value.int 0 (nat_lit 0)), (Value.int 0 (nat_lit 0)), (Value.int 3 (nat_lit 0)), (Value.ref 781), (Value.bool true), (Value.int 181 (nat_lit 0)), (Value.ref 782), Value.none, (Value.ref 783), (Value.ref 784), (Value.ref 785), (Value.int 1336 (nat_lit 0)), (Value.int 552 (nat_lit 0)), (Value.str "/claim/cut.py" (nat_lit 1337))]) #[]))
@[reducible] noncomputable def o_856 : Params → Obj := (fun _ => (Obj.mk (Value.type "function") none (Data.func (fd (st := at_ [98, 9]) rfl "BodyChanger.set_access" 3 [] Value.none Value.none Value.none (Value.str "postcore.memory" (nat_lit 1019)) none (Value.ref 786) Value.none 0)) #[]))
@[reducible] noncomputable def o_858 : Params → Obj := (fun P => (Obj.mk (Value.type "dict") none (Data.dict #[(de P "__module__" (nat_lit 1241) (Value.str "postcore.memory" (nat_lit 1019))), (de P "__firstlineno__" (nat_lit 1245) (Value.int 523 (nat_lit 1244))), (de P "is_elder" (nat_lit 1253) (Value.ref 724)), (de P "check_holds" (nat_lit 1262) (Value.ref 731)), (de P "put_item" (nat_lit 1272) (Value.ref 738)), (de P "put_items" (nat_lit 1282) (Value.ref 745)), (de P "put_octet" (nat_lit 1292) (Value.ref 752)), (de P "put_octets" (nat_lit 1302) (Value.ref 759)), (de P "grow" (nat_lit 1310) (Value.ref 766)), (de P "put_entry" (nat_lit 1320) (Value.ref 773)), (de P "drop_entry" (nat_lit 1329) (Value.ref 780)), (de P "set_access" (nat_lit 1338) (Value.ref 787)), (de P "__static_attributes__" (nat_lit 1339) (Value.ref 788)), (de P "__doc__" (nat_lit 1340) Value.none)] 2) #[]))
@[reducible] noncomputable def o_859 : Params → Obj := (fun _ => (Obj.mk (Value.type "type") none (Data.cls (ClassData.mk "BodyChanger" [(Value.ref 706)] [(Value.ref 790), (Value.ref 706), (Value.type "object")] 789 "BodyChanger" true [] [] false none false)) #[(Option.some (Value.ref 711)), none, (Option.some (Value.str "BodyChanger" (nat_lit 1234))), (Option.some (Value.str "BodyChanger" (nat_lit 1242))), (Option.some (Value.builtin "object.__new__")), (Option.some (Value.bool true))]))
@[reducible] noncomputable def o_860 : Params → Obj := (fun _ => (Obj.mk (Value.type "super") none (Data.fields #[(Value.ref 790), (Value.ref 790), (Value.ref 790)]) #[]))
@[reducible] noncomputable def o_861 : Params → Obj := (fun _ => (Obj.mk (Value.type "builtin_function_or_method") none (Data.fields #[(Value.builtin "object.__init_subclass__"), (Value.ref 790)]) #[]))
@[reducible] noncomputable def o_862 : Params → Obj := (fun P => (Obj.mk (Value.type "dict") none (Data.dict (List.toArray ((de P "__name__" (nat_lit 165) (Value.str "postcore.memory" (nat_lit 1019))) :: (de P "__doc__" (nat_lit 166) Value.none) :: (de P "__package__" (nat_lit 167) Value.none) :: (de P "__loader__" (nat_lit 168) (Value.builtin "__main__.__loader__#opaque")) :: (de P "__spec__" (nat_lit 169) Value.none) :: (de P "__annotations__" (nat_lit 170) (Value.ref 6)) :: (de P "__builtins__" (nat_lit 171) (Value.ref 4)) :: (de P "__file__" (nat_lit 173) (Value.str "/claim/cut.py" (nat_lit 172))) :: (de P "__cached__" (nat_lit 174) Value.none) :: (de P "_wall" (nat_lit 193) (Value.ref 21)) :: (de P "GRAIN" (nat_lit 197) (Value.int 1000000 (nat_lit 196))) :: (de P "LEAST_INT" (nat_lit 202) (Value.int (-2147483648) (nat_lit 201))) :: (de P "MOST_INT" (nat_lit 208) (Value.int 2147483647 (nat_lit 207))) :: (de P "WHITE" (nat_lit 210) (Value.bytes #[0, 9, 10, 12, 13, 32] (nat_lit 209))) :: (de P "DELIMITERS" (nat_lit 212) (Value.bytes #[40, 41, 60, 62, 91, 93, 123, 125, 47, 37] (nat_lit 211))) :: (de P "LINE_FEED" (nat_lit 214) (Value.int 10 (nat_lit 213))) :: (de P "CARRIAGE_RETURN" (nat_lit 216) (Value.int 13 (nat_lit 215))) :: (de P "PostError" (nat_lit 245) (Value.ref 39)) :: (de P "PsError" (nat_lit 261) (Value.ref 52)) :: (de P "is_white" (nat_lit 268) (Value.ref 61)) :: (de P "is_delimiter" (nat_lit 275) (Value.ref 68)) :: (de P "is_line_end" (nat_lit 282) (Value.ref 75)) :: (de P "is_octal" (nat_lit 289) (Value.ref 82)) :: (de P "hex_value" (nat_lit 296) (Value.ref 89)) :: (de P "digit_value" (nat_lit 303) (Value.ref 96)) :: (de P "INTEGER" (nat_lit 307) (Value.str "integer" (nat_lit 306))) :: (de P "REAL" (nat_lit 309) (Value.str "real" (nat_lit 308))) :: (de P "MOST_REAL" (nat_lit 314) (Value.int 1000000000000000000000 (nat_lit 313))) :: (de P "PLACES" (nat_lit 316) (Value.int 6 (nat_lit 315))) :: (de P "WORD_SIZE" (nat_lit 320) (Value.int 4294967296 (nat_lit 319))) :: (de P "MOST_FIGURES" (nat_lit 322) (Value.int 6 (nat_lit 321))) :: (de P "divided" (nat_lit 333) (Value.ref 103)) :: (de P "is_integer_size" (nat_lit 340) (Value.ref 110)) :: (de P "checked_real" (nat_lit 347) (Value.ref 117)) :: (de P "real_of" (nat_lit 354) (Value.ref 124)) :: (de P "whole_number" (nat_lit 361) (Value.ref 131)) :: (de P "figures_value" (nat_lit 372) (Value.ref 138)) :: (de P "read_radix" (nat_lit 382) (Value.ref 145)) :: (de P "signed_word" (nat_lit 390) (Value.ref 152)) :: (de P "read_exponent" (nat_lit 400) (Value.ref 159)) :: (de P "number_scaled" (nat_lit 408) (Value.ref 166)) :: (de P "split_at" (nat_lit 418) (Value.ref 173)) :: (de P "read_real" (nat_lit 433) (Value.ref 180)) :: (de P "read_number" (nat_lit 445) (Value.ref 187)) :: (de P "READ_ONLY" (nat_lit 449) (Value.int 2 (nat_lit 448))) :: (de P "UNLIMITED" (nat_lit 451) (Value.int 3 (nat_lit 450))) :: (de P "Thing" (nat_lit 486) (Value.ref 205)) :: (de P "Text" (nat_lit 521) (Value.ref 226)) :: (de P "Row" (nat_lit 556) (Value.ref 247)) :: (de P "Span" (nat_lit 589) (Value.ref 268)) :: (de P "integer" (nat_lit 596) (Value.ref 279)) :: (de P "real" (nat_lit 603) (Value.ref 286)) :: (de P "name" (nat_lit 611) (Value.ref 294)) :: (de P "null" (nat_lit 617) (Value.ref 301)) :: (de P "of_string" (nat_lit 626) (Value.ref 309)) :: (de P "of_row" (nat_lit 635) (Value.ref 317)) :: (de P "of_packed" (nat_lit 643) (Value.ref 325)) :: (de P "is_in_array" (nat_lit 650) (Value.ref 332)) :: (de P "body_of" (nat_lit 657) (Value.ref 339)) :: (de P "is_local" (nat_lit 665) (Value.ref 346)) :: (de P "octets_of_span" (nat_lit 672) (Value.ref 353)) :: (de P "SCAN_END" (nat_lit 676) (Value.int 4 (nat_lit 675))) :: (de P "SCAN_FORM_FEED" (nat_lit 678) (Value.int 12 (nat_lit 677))) :: (de P "SCAN_MOST_NAME" (nat_lit 680) (Value.int 127 (nat_lit 679))) :: (de P "SCAN_BASE" (nat_lit 682) (Value.int 85 (nat_lit 681))) :: (de P "SCAN_FIRST" (nat_lit 684) (Value.int 33 (nat_lit 683))) :: (de P "SCAN_OPEN" (nat_lit 686) (Value.int 40 (nat_lit 685))) :: (de P "SCAN_CLOSE" (nat_lit 688) (Value.int 41 (nat_lit 687))) :: (de P "SCAN_SLASH" (nat_lit 690) (Value.int 47 (nat_lit 689))) :: (de P "SCAN_LESS" (nat_lit 692) (Value.int 60 (nat_lit 691))) :: (de P "SCAN_MORE" (nat_lit 694) (Value.int 62 (nat_lit 693))) :: (de P "SCAN_BACKSLASH" (nat_lit 696) (Value.int 92 (nat_lit 695))) :: (de P "SCAN_ROW_OPEN" (nat_lit 698) (Value.int 91 (nat_lit 697))) :: (de P "SCAN_ROW_CLOSE" (nat_lit 700) (Value.int 93 (nat_lit 699))) :: (de P "SCAN_PROC_OPEN" (nat_lit 702) (Value.int 123 (nat_lit 701))) :: (de P "SCAN_PROC_CLOSE" (nat_lit 704) (Value.int 125 (nat_lit 703))) :: (de P "SCAN_TILDE" (nat_lit 706) (Value.int 126 (nat_lit 705))) :: (de P "SCAN_NOUGHTS" (nat_lit 708) (Value.int 122 (nat_lit 707))) :: (de P "SCAN_PERCENT" (nat_lit 710) (Value.int 37 (nat_lit 709))) :: (de P "OctetSource" (nat_lit 764) (Value.ref 393)) :: (de P "is_blank" (nat_lit 771) (Value.ref 404)) :: (de P "scan_skip_feed" (nat_lit 779) (Value.ref 411)) :: (de P "scan_line" (nat_lit 787) (Value.ref 418)) :: (de P "scan_first" (nat_lit 795) (Value.ref 425)) :: (de P "scan_word" (nat_lit 804) (Value.ref 432)) :: (de P "scan_sure" (nat_lit 812) (Value.ref 439)) :: (de P "scan_octal" (nat_lit 822) (Value.ref 446)) :: (de P "scan_escape" (nat_lit 832) (Value.ref 453)) :: (de P "scan_string" (nat_lit 842) (Value.ref 460)) :: (de P "scan_hex" (nat_lit 853) (Value.ref 467)) :: (de P "scan_group" (nat_lit 862) (Value.ref 474)) :: (de P "scan_base85" (nat_lit 872) (Value.ref 481)) :: (de P "scan_name" (nat_lit 880) (Value.ref 488)) :: (de P "scan_regular" (nat_lit 888) (Value.ref 495)) :: (de P "scan_at_once" (nat_lit 897) (Value.ref 502)) :: (de P "Scanner" (nat_lit 1018) (Value.ref 585)) :: (de P "ITEM_COST" (nat_lit 1022) (Value.int 8 (nat_lit 1021))) :: (de P "ENTRY_COST" (nat_lit 1024) (Value.int 16 (nat_lit 1023))) :: (de P "MOST_COST" (nat_lit 1028) (Value.int 16777216 (nat_lit 1027))) :: (de P "Limits" (nat_lit 1096) (Value.ref 607)) :: (de P "VmSave" (nat_lit 1131) (Value.ref 628)) :: (de P "BodyMaker" (nat_lit 1233) (Value.ref 706)) :: (de P "BodyChanger" (nat_lit 1342) (Value.ref 790)) :: (de P "Memory" (nat_lit 1472) (Value.ref 888)) :: [])) 104) #[]))
@[reducible] noncomputable def o_863 : Params → Obj := (fun _ => (Obj.mk Value.none none (Data.fields (List.toArray ((Value.int 1 (nat_lit 0)) :: (Value.int 0 (nat_lit 0)) :: (Value.ref 20) :: (Value.int 12 (nat_lit 0)) :: (Value.int 0 (nat_lit 0)) :: (Value.ref 27) :: (Value.int 16 (nat_lit 0)) :: (Value.int 0 (nat_lit 0)) :: (Value.ref 48) :: (Value.int 18 (nat_lit 0)) :: (Value.int 0 (nat_lit 0)) :: (Value.ref 60) :: (Value.int 20 (nat_lit 0)) :: (Value.int 0 (nat_lit 0)) :: (Value.ref 67) :: (Value.int 22 (nat_lit 0)) :: (Value.int 0 (nat_lit 0)) :: (Value.ref 74) :: (Value.int 24 (nat_lit 0)) :: (Value.int 0 (nat_lit 0)) :: (Value.ref 81) :: (Value.int 26 (nat_lit 0)) :: (Value.int 0 (nat_lit 0)) :: (Value.ref 88) :: (Value.int 34 (nat_lit 0)) :: (Value.int 0 (nat_lit 0)) :: (Value.ref 95) :: (Value.int 49 (nat_lit 0)) :: (Value.int 0 (nat_lit 0)) :: (Value.ref 102) :: (Value.int 53 (nat_lit 0)) :: (Value.int 0 (nat_lit 0)) :: (Value.ref 109) :: (Value.int 55 (nat_lit 0)) :: (Value.int 0 (nat_lit 0)) :: (Value.ref 116) :: (Value.int 59 (nat_lit 0)) :: (Value.int 0 (nat_lit 0)) :: (Value.ref 123) :: (Value.int 61 (nat_lit 0)) :: (Value.int 0 (nat_lit 0)) :: (Value.ref 130) :: (Value.int 65 (nat_lit 0)) :: (Value.int 0 (nat_lit 0)) :: (Value.ref 137) :: (Value.int 75 (nat_lit 0)) :: (Value.int 0 (nat_lit 0)) :: (Value.ref 144) :: (Value.int 85 (nat_lit 0)) :: (Value.int 0 (nat_lit 0)) :: (Value.ref 151) :: (Value.int 88 (nat_lit 0)) :: (Value.int 0 (nat_lit 0)) :: (Value.ref 158) :: (Value.int 96 (nat_lit 0)) :: (Value.int 0 (nat_lit 0)) :: (Value.ref 165) :: (Value.int 106 (nat_lit 0)) :: (Value.int 0 (nat_lit 0)) :: (Value.ref 172) :: (Value.int 111 (nat_lit 0)) :: (Value.int 0 (nat_lit 0)) :: (Value.ref 179) :: (Value.int 122 (nat_lit 0)) :: (Value.int 0 (nat_lit 0)) :: (Value.ref 186) :: (Value.int 135 (nat_lit 0)) :: (Value.int 0 (nat_lit 0)) :: (Value.ref 193) :: (Value.int 142 (nat_lit 0)) :: (Value.int 0 (nat_lit 0)) :: (Value.ref 215) :: (Value.int 149 (nat_lit 0)) :: (Value.int 0 (nat_lit 0)) :: (Value.ref 236) :: (Value.int 156 (nat_lit 0)) :: (Value.int 0 (nat_lit 0)) :: (Value.ref 257) :: (Value.int 162 (nat_lit 0)) :: (Value.int 0 (nat_lit 0)) :: (Value.ref 278) :: (Value.int 164 (nat_lit 0)) :: (Value.int 0 (nat_lit 0)) :: (Value.ref 285) :: (Value.int 166 (nat_lit 0)) :: (Value.int 0 (nat_lit 0)) :: (Value.ref 293) :: (Value.int 168 (nat_lit 0)) :: (Value.int 0 (nat_lit 0)) :: (Value.ref 300) :: (Value.int 170 (nat_lit 0)) :: (Value.int 0 (nat_lit 0)) :: (Value.ref 308) :: (Value.int 172 (nat_lit 0)) :: (Value.int 0 (nat_lit 0)) :: (Value.ref 316) :: (Value.int 174 (nat_lit 0)) :: (Value.int 0 (nat_lit 0)) :: (Value.ref 324) :: (Value.int 176 (nat_lit 0)) :: (Value.int 0 (nat_lit 0)) :: (Value.ref 331) :: (Value.int 178 (nat_lit 0)) :: (Value.int 0 (nat_lit 0)) :: (Value.ref 338) :: (Value.int 182 (nat_lit 0)) :: (Value.int 0 (nat_lit 0)) :: (Value.ref 345) :: (Value.int 185 (nat_lit 0)) :: (Value.int 0 (nat_lit 0)) :: (Value.ref 352) :: (Value.int 206 (nat_lit 0)) :: (Value.int 0 (nat_lit 0)) :: (Value.ref 359) :: (Value.int 224 (nat_lit 0)) :: (Value.int 0 (nat_lit 0)) :: (Value.ref 403) :: (Value.int 226 (nat_lit 0)) :: (Value.int 0 (nat_lit 0)) :: (Value.ref 410) :: (Value.int 230 (nat_lit 0)) :: (Value.int 0 (nat_lit 0)) :: (Value.ref 417) :: (Value.int 236 (nat_lit 0)) :: (Value.int 0 (nat_lit 0)) :: (Value.ref 424) :: (Value.int 245 (nat_lit 0)) :: (Value.int 0 (nat_lit 0)) :: (Value.ref 431) :: (Value.int 258 (nat_lit 0)) :: (Value.int 0 (nat_lit 0)) :: (Value.ref 438) :: (Value.int 263 (nat_lit 0)) :: (Value.int 0 (nat_lit 0)) :: (Value.ref 445) :: (Value.int 274 (nat_lit 0)) :: (Value.int 0 (nat_lit 0)) :: (Value.ref 452) :: (Value.int 283 (nat_lit 0)) :: (Value.int 0 (nat_lit 0)) :: (Value.ref 459) :: (Value.int 300 (nat_lit 0)) :: (Value.int 0 (nat_lit 0)) :: (Value.ref 466) :: (Value.int 316 (nat_lit 0)) :: (Value.int 0 (nat_lit 0)) :: (Value.ref 473) :: (Value.int 323 (nat_lit 0)) :: (Value.int 0 (nat_lit 0)) :: (Value.ref 480) :: (Value.int 342 (nat_lit 0)) :: (Value.int 0 (nat_lit 0)) :: (Value.ref 487) :: (Value.int 346 (nat_lit 0)) :: (Value.int 0 (nat_lit 0)) :: (Value.ref 494) :: (Value.int 351 (nat_lit 0)) :: (Value.int 0 (nat_lit 0)) :: (Value.ref 501) :: (Value.int 356 (nat_lit 0)) :: (Value.int 0 (nat_lit 0)) :: (Value.ref 508) :: (Value.int 444 (nat_lit 0)) :: (Value.int 0 (nat_lit 0)) :: (Value.ref 595) :: (Value.int 461 (nat_lit 0)) :: (Value.int 0 (nat_lit 0)) :: (Value.ref 617) :: (Value.int 468 (nat_lit 0)) :: (Value.int 0 (nat_lit 0)) :: (Value.ref 638) :: (Value.int 523 (nat_lit 0)) :: (Value.int 0 (nat_lit 0)) :: (Value.ref 716) :: (Value.int 554 (nat_lit 0)) :: (Value.int 0 (nat_lit 0)) :: (Value.ref 798) :: []))) #[]))
@[reducible] noncomputable def o_864 : Params → Obj := (fun _ => (Obj.mk (Value.type "type") none (Data.cls (ClassData.mk "BodyChanger" [(Value.ref 706)] [(Value.ref 790), (Value.ref 706), (Value.type "object")] 789 "BodyChanger" true [] [(Value.ref 888)] false none false)) #[(Option.some (Value.ref 711)), none, (Option.some (Value.str "BodyChanger" (nat_lit 1234))), (Option.some (Value.str "BodyChanger" (nat_lit 1242))), (Option.some (Value.builtin "object.__new__")), (Option.some (Value.bool true))]))
@[reducible] noncomputable def o_865 : Params → Obj := (fun _ => (Obj.mk (Value.type "tuple") none (Data.seq #[(Value.ref 790)] 0) #[]))
@[reducible] noncomputable def o_867 : Params → Obj := (fun P => (Obj.mk (Value.type "dict") none (Data.dict #[(de P "__module__" (nat_lit 1350) (Value.str "postcore.memory" (nat_lit 1019))), (de P "__qualname__" (nat_lit 1352) (Value.str "Memory" (nat_lit 1351))), (de P "__firstlineno__" (nat_lit 1354) (Value.int 554 (nat_lit 1353))), (de P "save" (nat_lit 1362) (Value.ref 807)), (de P "place_of_save" (nat_lit 1372) (Value.ref 814)), (de P "is_saved" (nat_lit 1380) (Value.ref 821)), (de P "note_of" (nat_lit 1388) (Value.ref 828)), (de P "sure_place" (nat_lit 1397) (Value.ref 835)), (de P "newer_than" (nat_lit 1406) (Value.ref 842)), (de P "restore" (nat_lit 1421) (Value.ref 849)), (de P "settle_costs" (nat_lit 1433) (Value.ref 856)), (de P "status" (nat_lit 1440) (Value.ref 863)), (de P "collect" (nat_lit 1448) (Value.ref 870)), (de P "reclaim" (nat_lit 1457) (Value.ref 878)), (de P "journal_things" (nat_lit 1464) (Value.ref 885)), (de P "__static_attributes__" (nat_lit 1469) (Value.ref 886))] 16) #[]))
@[reducible] noncomputable def o_869 : Params → Obj := (fun _ => (Obj.mk Value.none none (Data.fields #[(Value.int 556 (nat_lit 0)), (Value.int 4 (nat_lit 0)), (Value.ref 806), (Value.int 563 (nat_lit 0)), (Value.int 4 (nat_lit 0)), (Value.ref 813), (Value.int 569 (nat_lit 0)), (Value.int 4 (nat_lit 0)), (Value.ref 820), (Value.int 572 (nat_lit 0)), (Value.int 4 (nat_lit 0)), (Value.ref 827), (Value.int 575 (nat_lit 0)), (Value.int 4 (nat_lit 0)), (Value.ref 834), (Value.int 581 (nat_lit 0)), (Value.int 4 (nat_lit 0)), (Value.ref 841), (Value.int 584 (nat_lit 0)), (Value.int 4 (nat_lit 0)), (Value.ref 848), (Value.int 602 (nat_lit 0)), (Value.int 4 (nat_lit 0)), (Value.ref 855), (Value.int 608 (nat_lit 0)), (Value.int 4 (nat_lit 0)), (Value.ref 862), (Value.int 611 (nat_lit 0)), (Value.int 4 (nat_lit 0)), (Value.ref 869), (Value.int 614 (nat_lit 0)), (Value.int 4 (nat_lit 0)), (Value.ref 877), (Value.int 617 (nat_lit 0)), (Value.int 4 (nat_lit 0)), (Value.ref 884)]) #[]))
@[reducible] noncomputable def o_870 : Params → Obj := (fun _ => (Obj.mk (Value.type "code") none (Data.fields #[(Value.str "Memory" (nat_lit 1345)), (Value.str "Memory" (nat_lit 1346)), (Value.str "/claim/cut.py" (nat_lit 1347)), (Value.int 554 (nat_lit 0)), (Value.int 0 (nat_lit 0)), (Value.int 0 (nat_lit 0)), (Value.int 0 (nat_lit 0)), (Value.int 0 (nat_lit 0)), (Value.ref 796), (Value.bool false), (Value.int 181 (nat_lit 0)), (Value.ref 797), Value.none, Value.none, Value.none, Value.none, (Value.int 1348 (nat_lit 0)), (Value.int 554 (nat_lit 0)), (Value.str "/claim/cut.py" (nat_lit 1349))]) #[]))
@[reducible] noncomputable def o_871 : Params → Obj := (fun _ => (Obj.mk (Value.type "frame") none Data.plain #[(Option.some (Value.ref 798)), (Option.some (Value.ref 3)), (Option.some (Value.ref 795)), none, (Option.some (Value.str "postcore.memory" (nat_lit 1019))), none, (Option.some (Value.ref 0))]))
@[reducible] noncomputable def o_875 : Params → Obj := (fun _ => (Obj.mk (Value.type "tuple") none (Data.seq #[(Value.str "self" (nat_lit 1358)), (Value.str "note" (nat_lit 1359))] 0) #[]))
@[reducible] noncomputable def o_877 : Params → Obj := (fun _ => (Obj.mk Value.none none (Data.func (fd (st := at_ [99, 0]) rfl "Memory.save" 0 [] Value.none Value.none Value.none Value.none none Value.none Value.none 0)) #[]))
@[reducible] noncomputable def o_878 : Params → Obj := (fun _ => (Obj.mk (Value.type "code") none (Data.fields #[(Value.str "save" (nat_lit 1355)), (Value.str "Memory.save" (nat_lit 1356)), (Value.str "/claim/cut.py" (nat_lit 1357)), (Value.int 556 (nat_lit 0)), (Value.int 2 (nat_lit 0)), (Value.int 0 (nat_lit 0)), (Value.int 0 (nat_lit 0)), (Value.int 3 (nat_lit 0)), (Value.ref 801), (Value.bool true), (Value.int 181 (nat_lit 0)), (Value.ref 802), Value.none, (Value.ref 803), (Value.ref 804), (Value.ref 805), (Value.int 1360 (nat_lit 0)), (Value.int 556 (nat_lit 0)), (Value.str "/claim/cut.py" (nat_lit 1361))]) #[]))
@[reducible] noncomputable def o_879 : Params → Obj := (fun _ => (Obj.mk (Value.type "function") none (Data.func (fd (st := at_ [99, 0]) rfl "Memory.save" 3 [] (Value.ref 800) Value.none Value.none (Value.str "postcore.memory" (nat_lit 1019)) none (Value.ref 806) Value.none 0)) #[]))
@[reducible] noncomputable def o_882 : Params → Obj := (fun _ => (Obj.mk (Value.type "tuple") none (Data.seq #[(Value.str "self" (nat_lit 1366)), (Value.str "number" (nat_lit 1367)), (Value.str "place" (nat_lit 1368)), (Value.str "saved" (nat_lit 1369))] 0) #[]))
@[reducible] noncomputable def o_884 : Params → Obj := (fun _ => (Obj.mk Value.none none (Data.func (fd (st := at_ [99, 1]) rfl "Memory.place_of_save" 0 [] Value.none Value.none Value.none Value.none none Value.none Value.none 0)) #[]))
@[reducible] noncomputable def o_885 : Params → Obj := (fun _ => (Obj.mk (Value.type "code") none (Data.fields #[(Value.str "place_of_save" (nat_lit 1363)), (Value.str "Memory.place_of_save" (nat_lit 1364)), (Value.str "/claim/cut.py" (nat_lit 1365)), (Value.int 563 (nat_lit 0)), (Value.int 2 (nat_lit 0)), (Value.int 0 (nat_lit 0)), (Value.int 0 (nat_lit 0)), (Value.int 3 (nat_lit 0)), (Value.ref 808), (Value.bool true), (Value.int 181 (nat_lit 0)), (Value.ref 809), Value.none, (Value.ref 810), (Value.ref 811), (Value.ref 812), (Value.int 1370 (nat_lit 0)), (Value.int 563 (nat_lit 0)), (Value.str "/claim/cut.py" (nat_lit 1371))]) #[]))
@[reducible] noncomputable def o_886 : Params → Obj := (fun _ => (Obj.mk (Value.type "function") none (Data.func (fd (st := at_ [99, 1]) rfl "Memory.place_of_save" 3 [] Value.none Value.none Value.none (Value.str "postcore.memory" (nat_lit 1019)) none (Value.ref 813) Value.none 0)) #[]))
@[reducible] noncomputable def o_889 : Params → Obj := (fun _ => (Obj.mk (Value.type "tuple") none (Data.seq #[(Value.str "self" (nat_lit 1376)), (Value.str "number" (nat_lit 1377))] 0) #[]))
@[reducible] noncomputable def o_891 : Params → Obj := (fun _ => (Obj.mk Value.none none (Data.func (fd (st := at_ [99, 2]) rfl "Memory.is_saved" 0 [] Value.none Value.none Value.none Value.none none Value.none Value.none 0)) #[]))
@[reducible] noncomputable def o_892 : Params → Obj := (fun _ => (Obj.mk (Value.type "code") none (Data.fields #[(Value.str "is_saved" (nat_lit 1373)), (Value.str "Memory.is_saved" (nat_lit 1374)), (Value.str "/claim/cut.py" (nat_lit 1375)), (Value.int 569 (nat_lit 0)), (Value.int 2 (nat_lit 0)), (Value.int 0 (nat_lit 0)), (Value.int 0 (nat_lit 0)), (Value.int 3 (nat_lit 0)), (Value.ref 815), (Value.bool true), (Value.int 181 (nat_lit 0)), (Value.ref 816), Value.none, (Value.ref 817), (Value.ref 818), (Value.ref 819), (Value.int 1378 (nat_lit 0)), (Value.int 569 (nat_lit 0)), (Value.str "/claim/cut.py" (nat_lit 1379))]) #[]))
@[reducible] noncomputable def o_893 : Params → Obj := (fun _ => (Obj.mk (Value.type "function") none (Data.func (fd (st := at_ [99, 2]) rfl "Memory.is_saved" 3 [] Value.none Value.none Value.none (Value.str "postcore.memory" (nat_lit 1019)) none (Value.ref 820) Value.none 0)) #[]))
@[reducible] noncomputable def o_896 : Params → Obj := (fun _ => (Obj.mk (Value.type "tuple") none (Data.seq #[(Value.str "self" (nat_lit 1384)), (Value.str "number" (nat_lit 1385))] 0) #[]))
@[reducible] noncomputable def o_898 : Params → Obj := (fun _ => (Obj.mk Value.none none (Data.func (fd (st := at_ [99, 3]) rfl "Memory.note_of" 0 [] Value.none Value.none Value.none Value.none none Value.none Value.none 0)) #[]))
@[reducible] noncomputable def o_899 : Params → Obj := (fun _ => (Obj.mk (Value.type "code") none (Data.fields #[(Value.str "note_of" (nat_lit 1381)), (Value.str "Memory.note_of" (nat_lit 1382)), (Value.str "/claim/cut.py" (nat_lit 1383)), (Value.int 572 (nat_lit 0)), (Value.int 2 (nat_lit 0)), (Value.int 0 (nat_lit 0)), (Value.int 0 (nat_lit 0)), (Value.int 3 (nat_lit 0)), (Value.ref 822), (Value.bool true), (Value.int 181 (nat_lit 0)), (Value.ref 823), Value.none, (Value.ref 824), (Value.ref 825), (Value.ref 826), (Value.int 1386 (nat_lit 0)), (Value.int 572 (nat_lit 0)), (Value.str "/claim/cut.py" (nat_lit 1387))]) #[]))
@[reducible] noncomputable def o_900 : Params → Obj := (fun _ => (Obj.mk (Value.type "function") none (Data.func (fd (st := at_ [99, 3]) rfl "Memory.note_of" 3 [] Value.none Value.none Value.none (Value.str "postcore.memory" (nat_lit 1019)) none (Value.ref 827) Value.none 0)) #[]))
@[reducible] noncomputable def o_903 : Params → Obj := (fun _ => (Obj.mk (Value.type "tuple") none (Data.seq #[(Value.str "self" (nat_lit 1392)), (Value.str "number" (nat_lit 1393)), (Value.str "place" (nat_lit 1394))] 0) #[]))
@[reducible] noncomputable def o_905 : Params → Obj := (fun _ => (Obj.mk Value.none none (Data.func (fd (st := at_ [99, 4]) rfl "Memory.sure_place" 0 [] Value.none Value.none Value.none Value.none none Value.none Value.none 0)) #[]))
@[reducible] noncomputable def o_906 : Params → Obj := (fun _ => (Obj.mk (Value.type "code") none (Data.fields #[(Value.str "sure_place" (nat_lit 1389)), (Value.str "Memory.sure_place" (nat_lit 1390)), (Value.str "/claim/cut.py" (nat_lit 1391)), (Value.int 575 (nat_lit 0)), (Value.int 2 (nat_lit 0)), (Value.int 0 (nat_lit 0)), (Value.int 0 (nat_lit 0)), (Value.int 3 (nat_lit 0)), (Value.ref 829), (Value.bool true), (Value.int 181 (nat_lit 0)), (Value.ref 830), Value.none, (Value.ref 831), (Value.ref 832), (Value.ref 833), (Value.int 1395 (nat_lit 0)), (Value.int 575 (nat_lit 0)), (Value.str "/claim/cut.py" (nat_lit 1396))]) #[]))
@[reducible] noncomputable def o_907 : Params → Obj := (fun _ => (Obj.mk (Value.type "function") none (Data.func (fd (st := at_ [99, 4]) rfl "Memory.sure_place" 3 [] Value.none Value.none Value.none (Value.str "postcore.memory" (nat_lit 1019)) none (Value.ref 834) Value.none 0)) #[]))
@[reducible] noncomputable def o_910 : Params → Obj := (fun _ => (Obj.mk (Value.type "tuple") none (Data.seq #[(Value.str "self" (nat_lit 1401)), (Value.str "number" (nat_lit 1402)), (Value.str "thing" (nat_lit 1403))] 0) #[]))
@[reducible] noncomputable def o_912 : Params → Obj := (fun _ => (Obj.mk Value.none none (Data.func (fd (st := at_ [99, 5]) rfl "Memory.newer_than" 0 [] Value.none Value.none Value.none Value.none none Value.none Value.none 0)) #[]))
@[reducible] noncomputable def o_913 : Params → Obj := (fun _ => (Obj.mk (Value.type "code") none (Data.fields #[(Value.str "newer_than" (nat_lit 1398)), (Value.str "Memory.newer_than" (nat_lit 1399)), (Value.str "/claim/cut.py" (nat_lit 1400)), (Value.int 581 (nat_lit 0)), (Value.int 3 (nat_lit 0)), (Value.int 0 (nat_lit 0)), (Value.int 0 (nat_lit 0)), (Value.int 3 (nat_lit 0)), (Value.ref 836), (Value.bool true), (Value.int 181 (nat_lit 0)), (Value.ref 837), Value.none, (Value.ref 838), (Value.ref 839), (Value.ref 840), (Value.int 1404 (nat_lit 0)), (Value.int 581 (nat_lit 0)), (Value.str "/claim/cut.py" (nat_lit 1405))]) #[]))
@[reducible] noncomputable def o_914 : Params → Obj := (fun _ => (Obj.mk (Value.type "function") none (Data.func (fd (st := at_ [99, 5]) rfl "Memory.newer_than" 3 [] Value.none Value.none Value.none (Value.str "postcore.memory" (nat_lit 1019)) none (Value.ref 841) Value.none 0)) #[]))
@[reducible] noncomputable def o_917 : Params → Obj := (fun _ => (Obj.mk (Value.type "tuple") none (Data.seq #[(Value.str "self" (nat_lit 1410)), (Value.str "number" (nat_lit 1411)), (Value.str "place" (nat_lit 1412)), (Value.str "saved" (nat_lit 1413)), (Value.str "undone" (nat_lit 1414)), (Value.str "body" (nat_lit 1415)), (Value.str "cost" (nat_lit 1416)), (Value.str "is_global" (nat_lit 1417)), (Value.str "level" (nat_lit 1418))] 0) #[]))
@[reducible] noncomputable def o_919 : Params → Obj := (fun _ => (Obj.mk Value.none none (Data.func (fd (st := at_ [99, 6]) rfl "Memory.restore" 0 [] Value.none Value.none Value.none Value.none none Value.none Value.none 0)) #[]))
@[reducible] noncomputable def o_920 : Params → Obj := (fun _ => (Obj.mk (Value.type "code") none (Data.fields #[(Value.str "restore" (nat_lit 1407)), (Value.str "Memory.restore" (nat_lit 1408)), (Value.str "/claim/cut.py" (nat_lit 1409)), (Value.int 584 (nat_lit 0)), (Value.int 2 (nat_lit 0)), (Value.int 0 (nat_lit 0)), (Value.int 0 (nat_lit 0)), (Value.int 3 (nat_lit 0)), (Value.ref 843), (Value.bool true), (Value.int 181 (nat_lit 0)), (Value.ref 844), Value.none, (Value.ref 845), (Value.ref 846), (Value.ref 847), (Value.int 1419 (nat_lit 0)), (Value.int 584 (nat_lit 0)), (Value.str "/claim/cut.py" (nat_lit 1420))]) #[]))
@[reducible] noncomputable def o_921 : Params → Obj := (fun _ => (Obj.mk (Value.type "function") none (Data.func (fd (st := at_ [99, 6]) rfl "Memory.restore" 3 [] Value.none Value.none Value.none (Value.str "postcore.memory" (nat_lit 1019)) none (Value.ref 848) Value.none 0)) #[]))
@[reducible] noncomputable def o_924 : Params → Obj := (fun _ => (Obj.mk (Value.type "tuple") none (Data.seq #[(Value.str "self" (nat_lit 1425)), (Value.str "undone" (nat_lit 1426)), (Value.str "change" (nat_lit 1427)), (Value.str "cost" (nat_lit 1428)), (Value.str "is_global" (nat_lit 1429)), (Value.str "level" (nat_lit 1430))] 0) #[]))
@[reducible] noncomputable def o_926 : Params → Obj := (fun _ => (Obj.mk Value.none none (Data.func (fd (st := at_ [99, 7]) rfl "Memory.settle_costs" 0 [] Value.none Value.none Value.none Value.none none Value.none Value.none 0)) #[]))
@[reducible] noncomputable def o_927 : Params → Obj := (fun _ => (Obj.mk (Value.type "code") none (Data.fields #[(Value.str "settle_costs" (nat_lit 1422)), (Value.str "Memory.settle_costs" (nat_lit 1423)), (Value.str "/claim/cut.py" (nat_lit 1424)), (Value.int 602 (nat_lit 0)), (Value.int 2 (nat_lit 0)), (Value.int 0 (nat_lit 0)), (Value.int 0 (nat_lit 0)), (Value.int 3 (nat_lit 0)), (Value.ref 850), (Value.bool true), (Value.int 181 (nat_lit 0)), (Value.ref 851), Value.none, (Value.ref 852), (Value.ref 853), (Value.ref 854), (Value.int 1431 (nat_lit 0)), (Value.int 602 (nat_lit 0)), (Value.str "/claim/cut.py" (nat_lit 1432))]) #[]))
@[reducible] noncomputable def o_928 : Params → Obj := (fun _ => (Obj.mk (Value.type "function") none (Data.func (fd (st := at_ [99, 7]) rfl "Memory.settle_costs" 3 [] Value.none Value.none Value.none (Value.str "postcore.memory" (nat_lit 1019)) none (Value.ref 855) Value.none 0)) #[]))
@[reducible] noncomputable def o_931 : Params → Obj := (fun _ => (Obj.mk (Value.type "tuple") none (Data.seq #[(Value.str "self" (nat_lit 1437))] 0) #[]))
@[reducible] noncomputable def o_933 : Params → Obj := (fun _ => (Obj.mk Value.none none (Data.func (fd (st := at_ [99, 8]) rfl "Memory.status" 0 [] Value.none Value.none Value.none Value.none none Value.none Value.none 0)) #[]))
@[reducible] noncomputable def o_934 : Params → Obj := (fun _ => (Obj.mk (Value.type "code") none (Data.fields #[(Value.str "status" (nat_lit 1434)), (Value.str "Memory.status" (nat_lit 1435)), (Value.str "/claim/cut.py" (nat_lit 1436)), (Value.int 608 (nat_lit 0)), (Value.int 1 (nat_lit 0)), (Value.int 0 (nat_lit 0)), (Value.int 0 (nat_lit 0)), (Value.int 3 (nat_lit 0)), (Value.ref 857), (Value.bool true), (Value.int 181 (nat_lit 0)), (Value.ref 858), Value.none, (Value.ref 859), (Value.ref 860), (Value.ref 861), (Value.int 1438 (nat_lit 0)), (Value.int 608 (nat_lit 0)), (Value.str "/claim/cut.py" (nat_lit 1439))]) #[]))
@[reducible] noncomputable def o_935 : Params → Obj := (fun _ => (Obj.mk (Value.type "function") none (Data.func (fd (st := at_ [99, 8]) rfl "Memory.status" 3 [] Value.none Value.none Value.none (Value.str "postcore.memory" (nat_lit 1019)) none (Value.ref 862) Value.none 0)) #[]))
@[reducible] noncomputable def o_938 : Params → Obj := (fun _ => (Obj.mk (Value.type "tuple") none (Data.seq #[(Value.str "self" (nat_lit 1444)), (Value.str "roots" (nat_lit 1445))] 0) #[]))
@[reducible] noncomputable def o_940 : Params → Obj := (fun _ => (Obj.mk Value.none none (Data.func (fd (st := at_ [99, 9]) rfl "Memory.collect" 0 [] Value.none Value.none Value.none Value.none none Value.none Value.none 0)) #[]))
@[reducible] noncomputable def o_941 : Params → Obj := (fun _ => (Obj.mk (Value.type "code") none (Data.fields #[(Value.str "collect" (nat_lit 1441)), (Value.str "Memory.collect" (nat_lit 1442)), (Value.str "/claim/cut.py" (nat_lit 1443)), (Value.int 611 (nat_lit 0)), (Value.int 2 (nat_lit 0)), (Value.int 0 (nat_lit 0)), (Value.int 0 (nat_lit 0)), (Value.int 3 (nat_lit 0)), (Value.ref 864), (Value.bool true), (Value.int 181 (nat_lit 0)), (Value.ref 865), Value.none, (Value.ref 866), (Value.ref 867), (Value.ref 868), (Value.int 1446 (nat_lit 0)), (Value.int 611 (nat_lit 0)), (Value.str "/claim/cut.py" (nat_lit 1447))]) #[]))
@[reducible] noncomputable def o_942 : Params → Obj := (fun _ => (Obj.mk (Value.type "function") none (Data.func (fd (st := at_ [99, 9]) rfl "Memory.collect" 3 [] Value.none Value.none Value.none (Value.str "postcore.memory" (nat_lit 1019)) none (Value.ref 869) Value.none 0)) #[]))
@[reducible] noncomputable def o_946 : Params → Obj := (fun _ => (Obj.mk (Value.type "tuple") none (Data.seq #[(Value.str "self" (nat_lit 1452)), (Value.str "roots" (nat_lit 1453)), (Value.str "is_all" (nat_lit 1454))] 0) #[]))
@[reducible] noncomputable def o_948 : Params → Obj := (fun _ => (Obj.mk Value.none none (Data.func (fd (st := at_ [99, 10]) rfl "Memory.reclaim" 0 [] Value.none Value.none Value.none Value.none none Value.none Value.none 0)) #[]))
@[reducible] noncomputable def o_949 : Params → Obj := (fun _ => (Obj.mk (Value.type "code") none (Data.fields #[(Value.str "reclaim" (nat_lit 1449)), (Value.str "Memory.reclaim" (nat_lit 1450)), (Value.str "/claim/cut.py" (nat_lit 1451)), (Value.int 614 (nat_lit 0)), (Value.int 3 (nat_lit 0)), (Value.int 0 (nat_lit 0)), (Value.int 0 (nat_lit 0)), (Value.int 3 (nat_lit 0)), (Value.ref 872), (Value.bool true), (Value.int 181 (nat_lit 0)), (Value.ref 873), Value.none, (Value.ref 874), (Value.ref 875), (Value.ref 876), (Value.int 1455 (nat_lit 0)), (Value.int 614 (nat_lit 0)), (Value.str "/claim/cut.py" (nat_lit 1456))]) #[]))
@[reducible] noncomputable def o_950 : Params → Obj := (fun _ => (Obj.mk (Value.type "function") none (Data.func (fd (st := at_ [99, 10]) rfl "Memory.reclaim" 3 [] (Value.ref 871) Value.none Value.none (Value.str "postcore.memory" (nat_lit 1019)) none (Value.ref 877) Value.none 0)) #[]))
@[reducible] noncomputable def o_953 : Params → Obj := (fun _ => (Obj.mk (Value.type "tuple") none (Data.seq #[(Value.str "self" (nat_lit 1461))] 0) #[]))
@[reducible] noncomputable def o_955 : Params → Obj := (fun _ => (Obj.mk Value.none none (Data.func (fd (st := at_ [99, 11]) rfl "Memory.journal_things" 0 [] Value.none Value.none Value.none Value.none none Value.none Value.none 0)) #[]))
@[reducible] noncomputable def o_956 : Params → Obj := (fun _ => (Obj.mk (Value.type "code") none (Data.fields #[(Value.str "journal_things" (nat_lit 1458)), (Value.str "Memory.journal_things" (nat_lit 1459)), (Value.str "/claim/cut.py" (nat_lit 1460)), (Value.int 617 (nat_lit 0)), (Value.int 1 (nat_lit 0)), (Value.int 0 (nat_lit 0)), (Value.int 0 (nat_lit 0)), (Value.int 3 (nat_lit 0)), (Value.ref 879), (Value.bool true), (Value.int 181 (nat_lit 0)), (Value.ref 880), Value.none, (Value.ref 881), (Value.ref 882), (Value.ref 883), (Value.int 1462 (nat_lit 0)), (Value.int 617 (nat_lit 0)), (Value.str "/claim/cut.py" (nat_lit 1463))]) #[]))
@[reducible] noncomputable def o_957 : Params → Obj := (fun _ => (Obj.mk (Value.type "function") none (Data.func (fd (st := at_ [99, 11]) rfl "Memory.journal_things" 3 [] Value.none Value.none Value.none (Value.str "postcore.memory" (nat_lit 1019)) none (Value.ref 884) Value.none 0)) #[]))
@[reducible] noncomputable def o_958 : Params → Obj := (fun _ => (Obj.mk (Value.type "tuple") none (Data.seq #[(Value.str "freed" (nat_lit 1465)), (Value.str "last_save" (nat_lit 1466)), (Value.str "saves" (nat_lit 1467)), (Value.str "used" (nat_lit 1468))] 0) #[]))
@[reducible] noncomputable def o_959 : Params → Obj := (fun P => (Obj.mk (Value.type "dict") none (Data.dict #[(de P "__module__" (nat_lit 1350) (Value.str "postcore.memory" (nat_lit 1019))), (de P "__firstlineno__" (nat_lit 1354) (Value.int 554 (nat_lit 1353))), (de P "save" (nat_lit 1362) (Value.ref 807)), (de P "place_of_save" (nat_lit 1372) (Value.ref 814)), (de P "is_saved" (nat_lit 1380) (Value.ref 821)), (de P "note_of" (nat_lit 1388) (Value.ref 828)), (de P "sure_place" (nat_lit 1397) (Value.ref 835)), (de P "newer_than" (nat_lit 1406) (Value.ref 842)), (de P "restore" (nat_lit 1421) (Value.ref 849)), (de P "settle_costs" (nat_lit 1433) (Value.ref 856)), (de P "status" (nat_lit 1440) (Value.ref 863)), (de P "collect" (nat_lit 1448) (Value.ref 870)), (de P "reclaim" (nat_lit 1457) (Value.ref 878)), (de P "journal_things" (nat_lit 1464) (Value.ref 885)), (de P "__static_attributes__" (nat_lit 1469) (Value.ref 886)), (de P "__doc__" (nat_lit 1470) Value.none)] 2) #[]))
@[reducible] noncomputable def o_960 : Params → Obj := (fun _ => (Obj.mk (Value.type "type") none (Data.cls (ClassData.mk "Memory" [(Value.ref 790)] [(Value.ref 888), (Value.ref 790), (Value.ref 706), (Value.type "object")] 887 "Memory" true [] [] false none false)) #[(Option.some (Value.ref 793)), none, (Option.some (Value.str "Memory" (nat_lit 1343))), (Option.some (Value.str "Memory" (nat_lit 1351))), (Option.some (Value.builtin "object.__new__")), (Option.some (Value.bool true))]))
@[reducible] noncomputable def o_961 : Params → Obj := (fun _ => (Obj.mk (Value.type "super") none (Data.fields #[(Value.ref 888), (Value.ref 888), (Value.ref 888)]) #[]))
@[reducible] noncomputable def o_962 : Params → Obj := (fun _ => (Obj.mk (Value.type "builtin_function_or_method") none (Data.fields #[(Value.builtin "object.__init_subclass__"), (Value.ref 888)]) #[]))
@[reducible] noncomputable def o_966 : Params → Obj := (fun P => (Obj.mk (Value.type "dict") none (Data.dict #[(de P "__module__" (nat_lit 1350) (Value.str "postcore.memory" (nat_lit 1019))), (de P "__qualname__" (nat_lit 1352) (Value.str "Memory" (nat_lit 1351))), (de P "__firstlineno__" (nat_lit 1354) (Value.int 554 (nat_lit 1353))), (de P "save" (nat_lit 1362) (Value.ref 807)), (de P "place_of_save" (nat_lit 1372) (Value.ref 814)), (de P "is_saved" (nat_lit 1380) (Value.ref 821)), (de P "note_of" (nat_lit 1388) (Value.ref 828)), (de P "sure_place" (nat_lit 1397) (Value.ref 835)), (de P "newer_than" (nat_lit 1406) (Value.ref 842)), (de P "restore" (nat_lit 1421) (Value.ref 849)), (de P "settle_costs" (nat_lit 1433) (Value.ref 856)), (de P "status" (nat_lit 1440) (Value.ref 863)), (de P "collect" (nat_lit 1448) (Value.ref 870))] 13) #[]))
@[reducible] noncomputable def o_968 : Params → Obj := (fun _ => (Obj.mk Value.none none (Data.fields #[(Value.int 556 (nat_lit 0)), (Value.int 4 (nat_lit 0)), (Value.ref 806), (Value.int 563 (nat_lit 0)), (Value.int 4 (nat_lit 0)), (Value.ref 813), (Value.int 569 (nat_lit 0)), (Value.int 4 (nat_lit 0)), (Value.ref 820), (Value.int 572 (nat_lit 0)), (Value.int 4 (nat_lit 0)), (Value.ref 827), (Value.int 575 (nat_lit 0)), (Value.int 4 (nat_lit 0)), (Value.ref 834), (Value.int 581 (nat_lit 0)), (Value.int 4 (nat_lit 0)), (Value.ref 841), (Value.int 584 (nat_lit 0)), (Value.int 4 (nat_lit 0)), (Value.ref 848), (Value.int 602 (nat_lit 0)), (Value.int 4 (nat_lit 0)), (Value.ref 855), (Value.int 608 (nat_lit 0)), (Value.int 4 (nat_lit 0)), (Value.ref 862), (Value.int 611 (nat_lit 0)), (Value.int 4 (nat_lit 0)), (Value.ref 869)]) #[]))
@[reducible] noncomputable def o_1048 : Params → Obj := (fun P => (Obj.mk (Value.type "dict") none (Data.dict (List.toArray ((de P "__name__" (nat_lit 165) (Value.str "law_nt0532_01" (nat_lit 1492))) :: (de P "__doc__" (nat_lit 166) Value.none) :: (de P "__package__" (nat_lit 167) Value.none) :: (de P "__loader__" (nat_lit 168) (Value.builtin "__main__.__loader__#opaque")) :: (de P "__spec__" (nat_lit 169) Value.none) :: (de P "__annotations__" (nat_lit 170) (Value.ref 6)) :: (de P "__builtins__" (nat_lit 171) (Value.ref 4)) :: (de P "__file__" (nat_lit 173) (Value.str "/claim/cut.py" (nat_lit 172))) :: (de P "__cached__" (nat_lit 174) Value.none) :: (de P "_wall" (nat_lit 193) (Value.ref 21)) :: (de P "GRAIN" (nat_lit 197) (Value.int 1000000 (nat_lit 196))) :: (de P "LEAST_INT" (nat_lit 202) (Value.int (-2147483648) (nat_lit 201))) :: (de P "MOST_INT" (nat_lit 208) (Value.int 2147483647 (nat_lit 207))) :: (de P "WHITE" (nat_lit 210) (Value.bytes #[0, 9, 10, 12, 13, 32] (nat_lit 209))) :: (de P "DELIMITERS" (nat_lit 212) (Value.bytes #[40, 41, 60, 62, 91, 93, 123, 125, 47, 37] (nat_lit 211))) :: (de P "LINE_FEED" (nat_lit 214) (Value.int 10 (nat_lit 213))) :: (de P "CARRIAGE_RETURN" (nat_lit 216) (Value.int 13 (nat_lit 215))) :: (de P "PostError" (nat_lit 245) (Value.ref 39)) :: (de P "PsError" (nat_lit 261) (Value.ref 52)) :: (de P "is_white" (nat_lit 268) (Value.ref 61)) :: (de P "is_delimiter" (nat_lit 275) (Value.ref 68)) :: (de P "is_line_end" (nat_lit 282) (Value.ref 75)) :: (de P "is_octal" (nat_lit 289) (Value.ref 82)) :: (de P "hex_value" (nat_lit 296) (Value.ref 89)) :: (de P "digit_value" (nat_lit 303) (Value.ref 96)) :: (de P "INTEGER" (nat_lit 307) (Value.str "integer" (nat_lit 306))) :: (de P "REAL" (nat_lit 309) (Value.str "real" (nat_lit 308))) :: (de P "MOST_REAL" (nat_lit 314) (Value.int 1000000000000000000000 (nat_lit 313))) :: (de P "PLACES" (nat_lit 316) (Value.int 6 (nat_lit 315))) :: (de P "WORD_SIZE" (nat_lit 320) (Value.int 4294967296 (nat_lit 319))) :: (de P "MOST_FIGURES" (nat_lit 322) (Value.int 6 (nat_lit 321))) :: (de P "divided" (nat_lit 333) (Value.ref 103)) :: (de P "is_integer_size" (nat_lit 340) (Value.ref 110)) :: (de P "checked_real" (nat_lit 347) (Value.ref 117)) :: (de P "real_of" (nat_lit 354) (Value.ref 124)) :: (de P "whole_number" (nat_lit 361) (Value.ref 131)) :: (de P "figures_value" (nat_lit 372) (Value.ref 138)) :: (de P "read_radix" (nat_lit 382) (Value.ref 145)) :: (de P "signed_word" (nat_lit 390) (Value.ref 152)) :: (de P "read_exponent" (nat_lit 400) (Value.ref 159)) :: (de P "number_scaled" (nat_lit 408) (Value.ref 166)) :: (de P "split_at" (nat_lit 418) (Value.ref 173)) :: (de P "read_real" (nat_lit 433) (Value.ref 180)) :: (de P "read_number" (nat_lit 445) (Value.ref 187)) :: (de P "READ_ONLY" (nat_lit 449) (Value.int 2 (nat_lit 448))) :: (de P "UNLIMITED" (nat_lit 451) (Value.int 3 (nat_lit 450))) :: (de P "Thing" (nat_lit 486) (Value.ref 205)) :: (de P "Text" (nat_lit 521) (Value.ref 226)) :: (de P "Row" (nat_lit 556) (Value.ref 247)) :: (de P "Span" (nat_lit 589) (Value.ref 268)) :: (de P "integer" (nat_lit 596) (Value.ref 279)) :: (de P "real" (nat_lit 603) (Value.ref 286)) :: (de P "name" (nat_lit 611) (Value.ref 294)) :: (de P "null" (nat_lit 617) (Value.ref 301)) :: (de P "of_string" (nat_lit 626) (Value.ref 309)) :: (de P "of_row" (nat_lit 635) (Value.ref 317)) :: (de P "of_packed" (nat_lit 643) (Value.ref 325)) :: (de P "is_in_array" (nat_lit 650) (Value.ref 332)) :: (de P "body_of" (nat_lit 657) (Value.ref 339)) :: (de P "is_local" (nat_lit 665) (Value.ref 346)) :: (de P "octets_of_span" (nat_lit 672) (Value.ref 353)) :: (de P "SCAN_END" (nat_lit 676) (Value.int 4 (nat_lit 675))) :: (de P "SCAN_FORM_FEED" (nat_lit 678) (Value.int 12 (nat_lit 677))) :: (de P "SCAN_MOST_NAME" (nat_lit 680) (Value.int 127 (nat_lit 679))) :: (de P "SCAN_BASE" (nat_lit 682) (Value.int 85 (nat_lit 681))) :: (de P "SCAN_FIRST" (nat_lit 684) (Value.int 33 (nat_lit 683))) :: (de P "SCAN_OPEN" (nat_lit 686) (Value.int 40 (nat_lit 685))) :: (de P "SCAN_CLOSE" (nat_lit 688) (Value.int 41 (nat_lit 687))) :: (de P "SCAN_SLASH" (nat_lit 690) (Value.int 47 (nat_lit 689))) :: (de P "SCAN_LESS" (nat_lit 692) (Value.int 60 (nat_lit 691))) :: (de P "SCAN_MORE" (nat_lit 694) (Value.int 62 (nat_lit 693))) :: (de P "SCAN_BACKSLASH" (nat_lit 696) (Value.int 92 (nat_lit 695))) :: (de P "SCAN_ROW_OPEN" (nat_lit 698) (Value.int 91 (nat_lit 697))) :: (de P "SCAN_ROW_CLOSE" (nat_lit 700) (Value.int 93 (nat_lit 699))) :: (de P "SCAN_PROC_OPEN" (nat_lit 702) (Value.int 123 (nat_lit 701))) :: (de P "SCAN_PROC_CLOSE" (nat_lit 704) (Value.int 125 (nat_lit 703))) :: (de P "SCAN_TILDE" (nat_lit 706) (Value.int 126 (nat_lit 705))) :: (de P "SCAN_NOUGHTS" (nat_lit 708) (Value.int 122 (nat_lit 707))) :: (de P "SCAN_PERCENT" (nat_lit 710) (Value.int 37 (nat_lit 709))) :: (de P "OctetSource" (nat_lit 764) (Value.ref 393)) :: (de P "is_blank" (nat_lit 771) (Value.ref 404)) :: (de P "scan_skip_feed" (nat_lit 779) (Value.ref 411)) :: (de P "scan_line" (nat_lit 787) (Value.ref 418)) :: (de P "scan_first" (nat_lit 795) (Value.ref 425)) :: (de P "scan_word" (nat_lit 804) (Value.ref 432)) :: (de P "scan_sure" (nat_lit 812) (Value.ref 439)) :: (de P "scan_octal" (nat_lit 822) (Value.ref 446)) :: (de P "scan_escape" (nat_lit 832) (Value.ref 453)) :: (de P "scan_string" (nat_lit 842) (Value.ref 460)) :: (de P "scan_hex" (nat_lit 853) (Value.ref 467)) :: (de P "scan_group" (nat_lit 862) (Value.ref 474)) :: (de P "scan_base85" (nat_lit 872) (Value.ref 481)) :: (de P "scan_name" (nat_lit 880) (Value.ref 488)) :: (de P "scan_regular" (nat_lit 888) (Value.ref 495)) :: (de P "scan_at_once" (nat_lit 897) (Value.ref 502)) :: (de P "Scanner" (nat_lit 1018) (Value.ref 585)) :: (de P "ITEM_COST" (nat_lit 1022) (Value.int 8 (nat_lit 1021))) :: (de P "ENTRY_COST" (nat_lit 1024) (Value.int 16 (nat_lit 1023))) :: (de P "MOST_COST" (nat_lit 1028) (Value.int 16777216 (nat_lit 1027))) :: (de P "Limits" (nat_lit 1096) (Value.ref 607)) :: (de P "VmSave" (nat_lit 1131) (Value.ref 628)) :: (de P "BodyMaker" (nat_lit 1233) (Value.ref 706)) :: (de P "BodyChanger" (nat_lit 1342) (Value.ref 790)) :: (de P "Memory" (nat_lit 1472) (Value.ref 888)) :: (de P "memory_check_many" (nat_lit 1480) (Value.ref 897)) :: (de P "memory_put_back" (nat_lit 1491) (Value.ref 904)) :: (de P "_law_pieces" (nat_lit 1519) (Value.ref 905)) :: (de P "_law_signs" (nat_lit 1525) (Value.ref 912)) :: (de P "_law_deck" (nat_lit 1531) (Value.ref 917)) :: (de P "_law_draw" (nat_lit 1541) (Value.ref 924)) :: (de P "_law_escape" (nat_lit 1552) (Value.ref 931)) :: (de P "_law_read" (nat_lit 1564) (Value.ref 938)) :: (de P "_law_told" (nat_lit 1579) (Value.ref 945)) :: (de P "law" (nat_lit 1585) (Value.ref 950)) :: [])) 114) #[]))
@[reducible] noncomputable def o_1049 : Params → Obj := (fun _ => (Obj.mk Value.none none (Data.fields (List.toArray ((Value.int 1 (nat_lit 0)) :: (Value.int 0 (nat_lit 0)) :: (Value.ref 20) :: (Value.int 12 (nat_lit 0)) :: (Value.int 0 (nat_lit 0)) :: (Value.ref 27) :: (Value.int 16 (nat_lit 0)) :: (Value.int 0 (nat_lit 0)) :: (Value.ref 48) :: (Value.int 18 (nat_lit 0)) :: (Value.int 0 (nat_lit 0)) :: (Value.ref 60) :: (Value.int 20 (nat_lit 0)) :: (Value.int 0 (nat_lit 0)) :: (Value.ref 67) :: (Value.int 22 (nat_lit 0)) :: (Value.int 0 (nat_lit 0)) :: (Value.ref 74) :: (Value.int 24 (nat_lit 0)) :: (Value.int 0 (nat_lit 0)) :: (Value.ref 81) :: (Value.int 26 (nat_lit 0)) :: (Value.int 0 (nat_lit 0)) :: (Value.ref 88) :: (Value.int 34 (nat_lit 0)) :: (Value.int 0 (nat_lit 0)) :: (Value.ref 95) :: (Value.int 49 (nat_lit 0)) :: (Value.int 0 (nat_lit 0)) :: (Value.ref 102) :: (Value.int 53 (nat_lit 0)) :: (Value.int 0 (nat_lit 0)) :: (Value.ref 109) :: (Value.int 55 (nat_lit 0)) :: (Value.int 0 (nat_lit 0)) :: (Value.ref 116) :: (Value.int 59 (nat_lit 0)) :: (Value.int 0 (nat_lit 0)) :: (Value.ref 123) :: (Value.int 61 (nat_lit 0)) :: (Value.int 0 (nat_lit 0)) :: (Value.ref 130) :: (Value.int 65 (nat_lit 0)) :: (Value.int 0 (nat_lit 0)) :: (Value.ref 137) :: (Value.int 75 (nat_lit 0)) :: (Value.int 0 (nat_lit 0)) :: (Value.ref 144) :: (Value.int 85 (nat_lit 0)) :: (Value.int 0 (nat_lit 0)) :: (Value.ref 151) :: (Value.int 88 (nat_lit 0)) :: (Value.int 0 (nat_lit 0)) :: (Value.ref 158) :: (Value.int 96 (nat_lit 0)) :: (Value.int 0 (nat_lit 0)) :: (Value.ref 165) :: (Value.int 106 (nat_lit 0)) :: (Value.int 0 (nat_lit 0)) :: (Value.ref 172) :: (Value.int 111 (nat_lit 0)) :: (Value.int 0 (nat_lit 0)) :: (Value.ref 179) :: (Value.int 122 (nat_lit 0)) :: (Value.int 0 (nat_lit 0)) :: (Value.ref 186) :: (Value.int 135 (nat_lit 0)) :: (Value.int 0 (nat_lit 0)) :: (Value.ref 193) :: (Value.int 142 (nat_lit 0)) :: (Value.int 0 (nat_lit 0)) :: (Value.ref 215) :: (Value.int 149 (nat_lit 0)) :: (Value.int 0 (nat_lit 0)) :: (Value.ref 236) :: (Value.int 156 (nat_lit 0)) :: (Value.int 0 (nat_lit 0)) :: (Value.ref 257) :: (Value.int 162 (nat_lit 0)) :: (Value.int 0 (nat_lit 0)) :: (Value.ref 278) :: (Value.int 164 (nat_lit 0)) :: (Value.int 0 (nat_lit 0)) :: (Value.ref 285) :: (Value.int 166 (nat_lit 0)) :: (Value.int 0 (nat_lit 0)) :: (Value.ref 293) :: (Value.int 168 (nat_lit 0)) :: (Value.int 0 (nat_lit 0)) :: (Value.ref 300) :: (Value.int 170 (nat_lit 0)) :: (Value.int 0 (nat_lit 0)) :: (Value.ref 308) :: (Value.int 172 (nat_lit 0)) :: (Value.int 0 (nat_lit 0)) :: (Value.ref 316) :: (Value.int 174 (nat_lit 0)) :: (Value.int 0 (nat_lit 0)) :: (Value.ref 324) :: (Value.int 176 (nat_lit 0)) :: (Value.int 0 (nat_lit 0)) :: (Value.ref 331) :: (Value.int 178 (nat_lit 0)) :: (Value.int 0 (nat_lit 0)) :: (Value.ref 338) :: (Value.int 182 (nat_lit 0)) :: (Value.int 0 (nat_lit 0)) :: (Value.ref 345) :: (Value.int 185 (nat_lit 0)) :: (Value.int 0 (nat_lit 0)) :: (Value.ref 352) :: (Value.int 206 (nat_lit 0)) :: (Value.int 0 (nat_lit 0)) :: (Value.ref 359) :: (Value.int 224 (nat_lit 0)) :: (Value.int 0 (nat_lit 0)) :: (Value.ref 403) :: (Value.int 226 (nat_lit 0)) :: (Value.int 0 (nat_lit 0)) :: (Value.ref 410) :: (Value.int 230 (nat_lit 0)) :: (Value.int 0 (nat_lit 0)) :: (Value.ref 417) :: (Value.int 236 (nat_lit 0)) :: (Value.int 0 (nat_lit 0)) :: (Value.ref 424) :: (Value.int 245 (nat_lit 0)) :: (Value.int 0 (nat_lit 0)) :: (Value.ref 431) :: (Value.int 258 (nat_lit 0)) :: (Value.int 0 (nat_lit 0)) :: (Value.ref 438) :: (Value.int 263 (nat_lit 0)) :: (Value.int 0 (nat_lit 0)) :: (Value.ref 445) :: (Value.int 274 (nat_lit 0)) :: (Value.int 0 (nat_lit 0)) :: (Value.ref 452) :: (Value.int 283 (nat_lit 0)) :: (Value.int 0 (nat_lit 0)) :: (Value.ref 459) :: (Value.int 300 (nat_lit 0)) :: (Value.int 0 (nat_lit 0)) :: (Value.ref 466) :: (Value.int 316 (nat_lit 0)) :: (Value.int 0 (nat_lit 0)) :: (Value.ref 473) :: (Value.int 323 (nat_lit 0)) :: (Value.int 0 (nat_lit 0)) :: (Value.ref 480) :: (Value.int 342 (nat_lit 0)) :: (Value.int 0 (nat_lit 0)) :: (Value.ref 487) :: (Value.int 346 (nat_lit 0)) :: (Value.int 0 (nat_lit 0)) :: (Value.ref 494) :: (Value.int 351 (nat_lit 0)) :: (Value.int 0 (nat_lit 0)) :: (Value.ref 501) :: (Value.int 356 (nat_lit 0)) :: (Value.int 0 (nat_lit 0)) :: (Value.ref 508) :: (Value.int 444 (nat_lit 0)) :: (Value.int 0 (nat_lit 0)) :: (Value.ref 595) :: (Value.int 461 (nat_lit 0)) :: (Value.int 0 (nat_lit 0)) :: (Value.ref 617) :: (Value.int 468 (nat_lit 0)) :: (Value.int 0 (nat_lit 0)) :: (Value.ref 638) :: (Value.int 523 (nat_lit 0)) :: (Value.int 0 (nat_lit 0)) :: (Value.ref 716) :: (Value.int 554 (nat_lit 0)) :: (Value.int 0 (nat_lit 0)) :: (Value.ref 798) :: (Value.int 619 (nat_lit 0)) :: (Value.int 0 (nat_lit 0)) :: (Value.ref 896) :: (Value.int 624 (nat_lit 0)) :: (Value.int 0 (nat_lit 0)) :: (Value.ref 903) :: (Value.int 643 (nat_lit 0)) :: (Value.int 0 (nat_lit 0)) :: (Value.ref 911) :: (Value.int 645 (nat_lit 0)) :: (Value.int 0 (nat_lit 0)) :: (Value.ref 916) :: (Value.int 647 (nat_lit 0)) :: (Value.int 0 (nat_lit 0)) :: (Value.ref 923) :: (Value.int 655 (nat_lit 0)) :: (Value.int 0 (nat_lit 0)) :: (Value.ref 930) :: (Value.int 669 (nat_lit 0)) :: (Value.int 0 (nat_lit 0)) :: (Value.ref 937) :: (Value.int 689 (nat_lit 0)) :: (Value.int 0 (nat_lit 0)) :: (Value.ref 944) :: (Value.int 700 (nat_lit 0)) :: (Value.int 0 (nat_lit 0)) :: (Value.ref 949) :: []))) #[]))
@[reducible] noncomputable def o_1052 : Params → Obj := (fun _ => (Obj.mk (Value.type "tuple") none (Data.seq #[(Value.str "many" (nat_lit 1476)), (Value.str "most" (nat_lit 1477))] 0) #[]))
@[reducible] noncomputable def o_1054 : Params → Obj := (fun _ => (Obj.mk Value.none none (Data.func (fd (st := at_ [100]) rfl "memory_check_many" 0 [] Value.none Value.none Value.none Value.none none Value.none Value.none 0)) #[]))
@[reducible] noncomputable def o_1055 : Params → Obj := (fun _ => (Obj.mk (Value.type "code") none (Data.fields #[(Value.str "memory_check_many" (nat_lit 1473)), (Value.str "memory_check_many" (nat_lit 1474)), (Value.str "/claim/cut.py" (nat_lit 1475)), (Value.int 619 (nat_lit 0)), (Value.int 2 (nat_lit 0)), (Value.int 0 (nat_lit 0)), (Value.int 0 (nat_lit 0)), (Value.int 3 (nat_lit 0)), (Value.ref 891), (Value.bool true), (Value.int 181 (nat_lit 0)), (Value.ref 892), Value.none, (Value.ref 893), (Value.ref 894), (Value.ref 895), (Value.int 1478 (nat_lit 0)), (Value.int 619 (nat_lit 0)), (Value.str "/claim/cut.py" (nat_lit 1479))]) #[]))
@[reducible] noncomputable def o_1056 : Params → Obj := (fun _ => (Obj.mk (Value.type "function") none (Data.func (fd (st := at_ [100]) rfl "memory_check_many" 3 [] Value.none Value.none Value.none (Value.str "postcore.memory" (nat_lit 1019)) none (Value.ref 896) Value.none 0)) #[]))
@[reducible] noncomputable def o_1059 : Params → Obj := (fun _ => (Obj.mk (Value.type "tuple") none (Data.seq #[(Value.str "change" (nat_lit 1484)), (Value.str "word" (nat_lit 1485)), (Value.str "body" (nat_lit 1486)), (Value.str "entries" (nat_lit 1487)), (Value.str "key" (nat_lit 1488))] 0) #[]))
@[reducible] noncomputable def o_1061 : Params → Obj := (fun _ => (Obj.mk Value.none none (Data.func (fd (st := at_ [101]) rfl "memory_put_back" 0 [] Value.none Value.none Value.none Value.none none Value.none Value.none 0)) #[]))
@[reducible] noncomputable def o_1062 : Params → Obj := (fun _ => (Obj.mk (Value.type "code") none (Data.fields #[(Value.str "memory_put_back" (nat_lit 1481)), (Value.str "memory_put_back" (nat_lit 1482)), (Value.str "/claim/cut.py" (nat_lit 1483)), (Value.int 624 (nat_lit 0)), (Value.int 1 (nat_lit 0)), (Value.int 0 (nat_lit 0)), (Value.int 0 (nat_lit 0)), (Value.int 3 (nat_lit 0)), (Value.ref 898), (Value.bool true), (Value.int 181 (nat_lit 0)), (Value.ref 899), Value.none, (Value.ref 900), (Value.ref 901), (Value.ref 902), (Value.int 1489 (nat_lit 0)), (Value.int 624 (nat_lit 0)), (Value.str "/claim/cut.py" (nat_lit 1490))]) #[]))
@[reducible] noncomputable def o_1063 : Params → Obj := (fun _ => (Obj.mk (Value.type "function") none (Data.func (fd (st := at_ [101]) rfl "memory_put_back" 3 [] Value.none Value.none Value.none (Value.str "postcore.memory" (nat_lit 1019)) none (Value.ref 903) Value.none 0)) #[]))
@[reducible] noncomputable def o_1064 : Params → Obj := (fun _ => (Obj.mk (Value.type "list") none (Data.seq #[(Value.bytes #[97] (nat_lit 1494)), (Value.bytes #[92, 110] (nat_lit 1495)), (Value.bytes #[92, 114, 92, 116] (nat_lit 1496)), (Value.bytes #[92, 98, 92, 102] (nat_lit 1497)), (Value.bytes #[92, 92] (nat_lit 1498)), (Value.bytes #[92, 40] (nat_lit 1499)), (Value.bytes #[92, 41] (nat_lit 1500)), (Value.bytes #[92, 49, 48, 49] (nat_lit 1501)), (Value.bytes #[92, 55] (nat_lit 1502)), (Value.bytes #[92, 54, 48] (nat_lit 1503)), (Value.bytes #[92, 52, 48, 48] (nat_lit 1504)), (Value.bytes #[92, 13, 10] (nat_lit 1505)), (Value.bytes #[92, 10] (nat_lit 1506)), (Value.bytes #[92, 13] (nat_lit 1507)), (Value.bytes #[13, 10] (nat_lit 1508)), (Value.bytes #[13] (nat_lit 1509)), (Value.bytes #[10] (nat_lit 1510)), (Value.bytes #[92, 113] (nat_lit 1511)), (Value.bytes #[40, 120, 41] (nat_lit 1512)), (Value.bytes #[40, 40] (nat_lit 1513)), (Value.bytes #[41, 41] (nat_lit 1514)), (Value.bytes #[255, 0] (nat_lit 1515)), (Value.bytes #[56] (nat_lit 1516)), (Value.bytes #[92, 55, 55, 56] (nat_lit 1517)), (Value.bytes #[37, 121] (nat_lit 1518))] 0) #[]))
@[reducible] noncomputable def o_1069 : Params → Obj := (fun _ => (Obj.mk Value.none none (Data.func (fd (st := at_ [104]) rfl "_law_signs" 0 [] Value.none Value.none Value.none Value.none none Value.none Value.none 0)) #[]))
@[reducible] noncomputable def o_1070 : Params → Obj := (fun _ => (Obj.mk (Value.type "code") none (Data.fields #[(Value.str "_law_signs" (nat_lit 1520)), (Value.str "_law_signs" (nat_lit 1521)), (Value.str "/claim/cut.py" (nat_lit 1522)), (Value.int 643 (nat_lit 0)), (Value.int 0 (nat_lit 0)), (Value.int 0 (nat_lit 0)), (Value.int 0 (nat_lit 0)), (Value.int 3 (nat_lit 0)), (Value.ref 906), (Value.bool true), (Value.int 181 (nat_lit 0)), (Value.ref 907), Value.none, (Value.ref 908), (Value.ref 909), (Value.ref 910), (Value.int 1523 (nat_lit 0)), (Value.int 643 (nat_lit 0)), (Value.str "/claim/cut.py" (nat_lit 1524))]) #[]))
@[reducible] noncomputable def o_1071 : Params → Obj := (fun _ => (Obj.mk (Value.type "function") none (Data.func (fd (st := at_ [104]) rfl "_law_signs" 3 [] Value.none Value.none Value.none (Value.str "law_nt0532_01" (nat_lit 1492)) none (Value.ref 911) Value.none 0)) #[]))
@[reducible] noncomputable def o_1074 : Params → Obj := (fun _ => (Obj.mk Value.none none (Data.func (fd (st := at_ [105]) rfl "_law_deck" 0 [] Value.none Value.none Value.none Value.none none Value.none Value.none 0)) #[]))
@[reducible] noncomputable def o_1075 : Params → Obj := (fun _ => (Obj.mk (Value.type "code") none (Data.fields #[(Value.str "_law_deck" (nat_lit 1526)), (Value.str "_law_deck" (nat_lit 1527)), (Value.str "/claim/cut.py" (nat_lit 1528)), (Value.int 645 (nat_lit 0)), (Value.int 1 (nat_lit 0)), (Value.int 0 (nat_lit 0)), (Value.int 0 (nat_lit 0)), (Value.int 3 (nat_lit 0)), (Value.ref 913), (Value.bool true), (Value.int 181 (nat_lit 0)), (Value.ref 914), Value.none, Value.none, Value.none, (Value.ref 915), (Value.int 1529 (nat_lit 0)), (Value.int 645 (nat_lit 0)), (Value.str "/claim/cut.py" (nat_lit 1530))]) #[]))
@[reducible] noncomputable def o_1076 : Params → Obj := (fun _ => (Obj.mk (Value.type "function") none (Data.func (fd (st := at_ [105]) rfl "_law_deck" 3 [] Value.none Value.none Value.none (Value.str "law_nt0532_01" (nat_lit 1492)) none (Value.ref 916) Value.none 0)) #[]))
@[reducible] noncomputable def o_1079 : Params → Obj := (fun _ => (Obj.mk (Value.type "tuple") none (Data.seq #[(Value.str "deck" (nat_lit 1535)), (Value.str "below" (nat_lit 1536)), (Value.str "at" (nat_lit 1537)), (Value.str "cells" (nat_lit 1538))] 0) #[]))
@[reducible] noncomputable def o_1081 : Params → Obj := (fun _ => (Obj.mk Value.none none (Data.func (fd (st := at_ [106]) rfl "_law_draw" 0 [] Value.none Value.none Value.none Value.none none Value.none Value.none 0)) #[]))
@[reducible] noncomputable def o_1082 : Params → Obj := (fun _ => (Obj.mk (Value.type "code") none (Data.fields #[(Value.str "_law_draw" (nat_lit 1532)), (Value.str "_law_draw" (nat_lit 1533)), (Value.str "/claim/cut.py" (nat_lit 1534)), (Value.int 647 (nat_lit 0)), (Value.int 2 (nat_lit 0)), (Value.int 0 (nat_lit 0)), (Value.int 0 (nat_lit 0)), (Value.int 3 (nat_lit 0)), (Value.ref 918), (Value.bool true), (Value.int 181 (nat_lit 0)), (Value.ref 919), Value.none, (Value.ref 920), (Value.ref 921), (Value.ref 922), (Value.int 1539 (nat_lit 0)), (Value.int 647 (nat_lit 0)), (Value.str "/claim/cut.py" (nat_lit 1540))]) #[]))
@[reducible] noncomputable def o_1083 : Params → Obj := (fun _ => (Obj.mk (Value.type "function") none (Data.func (fd (st := at_ [106]) rfl "_law_draw" 3 [] Value.none Value.none Value.none (Value.str "law_nt0532_01" (nat_lit 1492)) none (Value.ref 923) Value.none 0)) #[]))
@[reducible] noncomputable def o_1086 : Params → Obj := (fun _ => (Obj.mk (Value.type "tuple") none (Data.seq #[(Value.str "octets" (nat_lit 1545)), (Value.str "at" (nat_lit 1546)), (Value.str "sign" (nat_lit 1547)), (Value.str "end" (nat_lit 1548)), (Value.str "number" (nat_lit 1549))] 0) #[]))
@[reducible] noncomputable def o_1088 : Params → Obj := (fun _ => (Obj.mk Value.none none (Data.func (fd (st := at_ [107]) rfl "_law_escape" 0 [] Value.none Value.none Value.none Value.none none Value.none Value.none 0)) #[]))
@[reducible] noncomputable def o_1089 : Params → Obj := (fun _ => (Obj.mk (Value.type "code") none (Data.fields #[(Value.str "_law_escape" (nat_lit 1542)), (Value.str "_law_escape" (nat_lit 1543)), (Value.str "/claim/cut.py" (nat_lit 1544)), (Value.int 655 (nat_lit 0)), (Value.int 2 (nat_lit 0)), (Value.int 0 (nat_lit 0)), (Value.int 0 (nat_lit 0)), (Value.int 3 (nat_lit 0)), (Value.ref 925), (Value.bool true), (Value.int 181 (nat_lit 0)), (Value.ref 926), Value.none, (Value.ref 927), (Value.ref 928), (Value.ref 929), (Value.int 1550 (nat_lit 0)), (Value.int 655 (nat_lit 0)), (Value.str "/claim/cut.py" (nat_lit 1551))]) #[]))
@[reducible] noncomputable def o_1090 : Params → Obj := (fun _ => (Obj.mk (Value.type "function") none (Data.func (fd (st := at_ [107]) rfl "_law_escape" 3 [] Value.none Value.none Value.none (Value.str "law_nt0532_01" (nat_lit 1492)) none (Value.ref 930) Value.none 0)) #[]))
@[reducible] noncomputable def o_1093 : Params → Obj := (fun _ => (Obj.mk (Value.type "tuple") none (Data.seq #[(Value.str "octets" (nat_lit 1556)), (Value.str "found" (nat_lit 1557)), (Value.str "at" (nat_lit 1558)), (Value.str "deep" (nat_lit 1559)), (Value.str "sign" (nat_lit 1560)), (Value.str "told" (nat_lit 1561))] 0) #[]))
@[reducible] noncomputable def o_1095 : Params → Obj := (fun _ => (Obj.mk Value.none none (Data.func (fd (st := at_ [108]) rfl "_law_read" 0 [] Value.none Value.none Value.none Value.none none Value.none Value.none 0)) #[]))
@[reducible] noncomputable def o_1096 : Params → Obj := (fun _ => (Obj.mk (Value.type "code") none (Data.fields #[(Value.str "_law_read" (nat_lit 1553)), (Value.str "_law_read" (nat_lit 1554)), (Value.str "/claim/cut.py" (nat_lit 1555)), (Value.int 669 (nat_lit 0)), (Value.int 1 (nat_lit 0)), (Value.int 0 (nat_lit 0)), (Value.int 0 (nat_lit 0)), (Value.int 3 (nat_lit 0)), (Value.ref 932), (Value.bool true), (Value.int 181 (nat_lit 0)), (Value.ref 933), Value.none, (Value.ref 934), (Value.ref 935), (Value.ref 936), (Value.int 1562 (nat_lit 0)), (Value.int 669 (nat_lit 0)), (Value.str "/claim/cut.py" (nat_lit 1563))]) #[]))
@[reducible] noncomputable def o_1097 : Params → Obj := (fun _ => (Obj.mk (Value.type "function") none (Data.func (fd (st := at_ [108]) rfl "_law_read" 3 [] Value.none Value.none Value.none (Value.str "law_nt0532_01" (nat_lit 1492)) none (Value.ref 937) Value.none 0)) #[]))
@[reducible] noncomputable def o_1100 : Params → Obj := (fun _ => (Obj.mk (Value.type "tuple") none (Data.seq #[(Value.str "octets" (nat_lit 1568)), (Value.str "behind" (nat_lit 1569)), (Value.str "scanner" (nat_lit 1570)), (Value.str "found" (nat_lit 1571)), (Value.str "thing" (nat_lit 1572)), (Value.str "place" (nat_lit 1573)), (Value.str "further" (nat_lit 1574)), (Value.str "end" (nat_lit 1575)), (Value.str "e" (nat_lit 1576))] 0) #[]))
@[reducible] noncomputable def o_1102 : Params → Obj := (fun _ => (Obj.mk Value.none none (Data.func (fd (st := at_ [109]) rfl "_law_told" 0 [] Value.none Value.none Value.none Value.none none Value.none Value.none 0)) #[]))
@[reducible] noncomputable def o_1103 : Params → Obj := (fun _ => (Obj.mk (Value.type "code") none (Data.fields #[(Value.str "_law_told" (nat_lit 1565)), (Value.str "_law_told" (nat_lit 1566)), (Value.str "/claim/cut.py" (nat_lit 1567)), (Value.int 689 (nat_lit 0)), (Value.int 2 (nat_lit 0)), (Value.int 0 (nat_lit 0)), (Value.int 0 (nat_lit 0)), (Value.int 3 (nat_lit 0)), (Value.ref 939), (Value.bool true), (Value.int 181 (nat_lit 0)), (Value.ref 940), Value.none, (Value.ref 941), (Value.ref 942), (Value.ref 943), (Value.int 1577 (nat_lit 0)), (Value.int 689 (nat_lit 0)), (Value.str "/claim/cut.py" (nat_lit 1578))]) #[]))
@[reducible] noncomputable def o_1104 : Params → Obj := (fun _ => (Obj.mk (Value.type "function") none (Data.func (fd (st := at_ [109]) rfl "_law_told" 3 [] Value.none Value.none Value.none (Value.str "law_nt0532_01" (nat_lit 1492)) none (Value.ref 944) Value.none 0)) #[]))
@[reducible] noncomputable def o_1107 : Params → Obj := (fun _ => (Obj.mk Value.none none (Data.func (fd (st := at_ [110]) rfl "law" 0 [] Value.none Value.none Value.none Value.none none Value.none Value.none 0)) #[]))
@[reducible] noncomputable def o_1108 : Params → Obj := (fun _ => (Obj.mk (Value.type "code") none (Data.fields #[(Value.str "law" (nat_lit 1580)), (Value.str "law" (nat_lit 1581)), (Value.str "/claim/cut.py" (nat_lit 1582)), (Value.int 700 (nat_lit 0)), (Value.int 1 (nat_lit 0)), (Value.int 0 (nat_lit 0)), (Value.int 0 (nat_lit 0)), (Value.int 3 (nat_lit 0)), (Value.ref 946), (Value.bool true), (Value.int 181 (nat_lit 0)), (Value.ref 947), Value.none, Value.none, Value.none, (Value.ref 948), (Value.int 1583 (nat_lit 0)), (Value.int 700 (nat_lit 0)), (Value.str "/claim/cut.py" (nat_lit 1584))]) #[]))
@[reducible] noncomputable def o_1109 : Params → Obj := (fun _ => (Obj.mk (Value.type "function") none (Data.func (fd (st := at_ [110]) rfl "law" 3 [] Value.none Value.none Value.none (Value.str "law_nt0532_01" (nat_lit 1492)) none (Value.ref 949) Value.none 0)) #[]))
@[reducible] noncomputable def mkView {s0 s1 s2 s3 s4 s5 s6 s7 s8 s9 s10 s11 s12 s13 s14 s15 s16 s17 s18 s19 s20 s21 s22 s23 s24 s25 s26 s27 s28 s29 s30 s31 s32 s33 s34 s35 s36 s37 s38 s39 s40 s41 s42 s43 s44 s45 s46 s47 s48 s49 s50 s51 s52 s53 s54 s55 s56 s57 s58 s59 s60 s61 s62 s63 s64 s65 s66 s67 s68 s69 s70 s71 s72 s73 s74 s75 s76 s77 s78 s79 s80 s81 s82 s83 s84 s85 s86 s87 s88 s89 s90 s91 s92 s93 s94 s95 s96 s97 s98 s99 s100 s101 s102 s103 s104 s105 s106 s107 s108 s109 s110 : Stmt} (_ : behindTheImports pr = s0 :: s1 :: s2 :: s3 :: s4 :: s5 :: s6 :: s7 :: s8 :: s9 :: s10 :: s11 :: s12 :: s13 :: s14 :: s15 :: s16 :: s17 :: s18 :: s19 :: s20 :: s21 :: s22 :: s23 :: s24 :: s25 :: s26 :: s27 :: s28 :: s29 :: s30 :: s31 :: s32 :: s33 :: s34 :: s35 :: s36 :: s37 :: s38 :: s39 :: s40 :: s41 :: s42 :: s43 :: s44 :: s45 :: s46 :: s47 :: s48 :: s49 :: s50 :: s51 :: s52 :: s53 :: s54 :: s55 :: s56 :: s57 :: s58 :: s59 :: s60 :: s61 :: s62 :: s63 :: s64 :: s65 :: s66 :: s67 :: s68 :: s69 :: s70 :: s71 :: s72 :: s73 :: s74 :: s75 :: s76 :: s77 :: s78 :: s79 :: s80 :: s81 :: s82 :: s83 :: s84 :: s85 :: s86 :: s87 :: s88 :: s89 :: s90 :: s91 :: s92 :: s93 :: s94 :: s95 :: s96 :: s97 :: s98 :: s99 :: s100 :: s101 :: s102 :: s103 :: s104 :: s105 :: s106 :: s107 :: s108 :: s109 :: s110 :: []) : Program := { pr with main := { pr.main with body := s0 :: s2 :: s3 :: s4 :: s5 :: s6 :: s7 :: s8 :: s9 :: s10 :: s11 :: s12 :: s13 :: s14 :: s15 :: s16 :: s18 :: s19 :: s20 :: s21 :: s22 :: s23 :: s24 :: s25 :: s26 :: s27 :: s28 :: s29 :: s30 :: s31 :: s32 :: s33 :: s34 :: s35 :: s36 :: s38 :: s39 :: s40 :: s41 :: s42 :: s43 :: s44 :: s45 :: s47 :: s51 :: s52 :: s53 :: s54 :: s56 :: s57 :: s58 :: s59 :: s60 :: s61 :: s62 :: s63 :: s64 :: s65 :: s66 :: s67 :: s68 :: s69 :: s70 :: s71 :: s72 :: s73 :: s74 :: s75 :: s76 :: s77 :: s78 :: s79 :: s80 :: s81 :: s82 :: s83 :: s84 :: s85 :: s86 :: s87 :: s88 :: s89 :: s90 :: s92 :: s93 :: s94 :: s95 :: s96 :: s97 :: s98 :: s99 :: s100 :: s101 :: s103 :: s104 :: s105 :: s106 :: s107 :: s108 :: s109 :: s110 :: [] } }
noncomputable def view_39 : Program := mkView rfl
noncomputable def heap_39 : Params → Frag := fun P => (nat_lit 2, o_49 P) :: (nat_lit 3, o_1048 P) :: (nat_lit 15, o_43 P) :: (nat_lit 17, o_54 P) :: (nat_lit 18, o_43 P) :: (nat_lit 20, o_57 P) :: (nat_lit 21, o_58 P) :: (nat_lit 22, o_59 P) :: (nat_lit 29, o_66 P) :: (nat_lit 30, o_43 P) :: (nat_lit 32, o_69 P) :: (nat_lit 33, o_43 P) :: (nat_lit 35, o_72 P) :: (nat_lit 36, o_73 P) :: (nat_lit 37, o_74 P) :: (nat_lit 38, o_75 P) :: (nat_lit 39, o_82 P) :: (nat_lit 40, o_77 P) :: (nat_lit 43, o_83 P) :: (nat_lit 50, o_43 P) :: (nat_lit 51, o_91 P) :: (nat_lit 52, o_92 P) :: (nat_lit 55, o_43 P) :: (nat_lit 57, o_97 P) :: (nat_lit 58, o_43 P) :: (nat_lit 60, o_100 P) :: (nat_lit 61, o_101 P) :: (nat_lit 62, o_43 P) :: (nat_lit 64, o_104 P) :: (nat_lit 65, o_43 P) :: (nat_lit 67, o_107 P) :: (nat_lit 68, o_108 P) :: (nat_lit 69, o_43 P) :: (nat_lit 71, o_111 P) :: (nat_lit 72, o_43 P) :: (nat_lit 74, o_114 P) :: (nat_lit 75, o_115 P) :: (nat_lit 76, o_43 P) :: (nat_lit 78, o_118 P) :: (nat_lit 79, o_43 P) :: (nat_lit 81, o_121 P) :: (nat_lit 82, o_122 P) :: (nat_lit 83, o_43 P) :: (nat_lit 85, o_125 P) :: (nat_lit 86, o_43 P) :: (nat_lit 88, o_128 P) :: (nat_lit 89, o_129 P) :: (nat_lit 90, o_43 P) :: (nat_lit 92, o_132 P) :: (nat_lit 93, o_43 P) :: (nat_lit 95, o_135 P) :: (nat_lit 96, o_136 P) :: (nat_lit 97, o_43 P) :: (nat_lit 99, o_141 P) :: (nat_lit 100, o_43 P) :: (nat_lit 102, o_144 P) :: (nat_lit 103, o_145 P) :: (nat_lit 104, o_43 P) :: (nat_lit 106, o_148 P) :: (nat_lit 107, o_43 P) :: (nat_lit 109, o_151 P) :: (nat_lit 110, o_152 P) :: (nat_lit 111, o_43 P) :: (nat_lit 113, o_155 P) :: (nat_lit 114, o_43 P) :: (nat_lit 116, o_158 P) :: (nat_lit 117, o_159 P) :: (nat_lit 118, o_43 P) :: (nat_lit 120, o_162 P) :: (nat_lit 121, o_43 P) :: (nat_lit 123, o_165 P) :: (nat_lit 124, o_166 P) :: (nat_lit 125, o_43 P) :: (nat_lit 127, o_169 P) :: (nat_lit 128, o_43 P) :: (nat_lit 130, o_172 P) :: (nat_lit 131, o_173 P) :: (nat_lit 132, o_43 P) :: (nat_lit 134, o_176 P) :: (nat_lit 135, o_43 P) :: (nat_lit 137, o_179 P) :: (nat_lit 138, o_180 P) :: (nat_lit 139, o_43 P) :: (nat_lit 141, o_183 P) :: (nat_lit 142, o_43 P) :: (nat_lit 144, o_186 P) :: (nat_lit 145, o_187 P) :: (nat_lit 146, o_43 P) :: (nat_lit 148, o_190 P) :: (nat_lit 149, o_43 P) :: (nat_lit 151, o_193 P) :: (nat_lit 152, o_194 P) :: (nat_lit 153, o_43 P) :: (nat_lit 155, o_197 P) :: (nat_lit 156, o_43 P) :: (nat_lit 158, o_200 P) :: (nat_lit 159, o_201 P) :: (nat_lit 160, o_43 P) :: (nat_lit 162, o_204 P) :: (nat_lit 163, o_43 P) :: (nat_lit 165, o_207 P) :: (nat_lit 166, o_208 P) :: (nat_lit 167, o_43 P) :: (nat_lit 169, o_213 P) :: (nat_lit 170, o_43 P) :: (nat_lit 172, o_216 P) :: (nat_lit 173, o_217 P) :: (nat_lit 174, o_43 P) :: (nat_lit 176, o_220 P) :: (nat_lit 177, o_43 P) :: (nat_lit 179, o_223 P) :: (nat_lit 180, o_224 P) :: (nat_lit 181, o_43 P) :: (nat_lit 183, o_227 P) :: (nat_lit 184, o_43 P) :: (nat_lit 186, o_230 P) :: (nat_lit 187, o_231 P) :: (nat_lit 195, o_239 P) :: (nat_lit 196, o_43 P) :: (nat_lit 198, o_242 P) :: (nat_lit 199, o_43 P) :: (nat_lit 201, o_245 P) :: (nat_lit 202, o_246 P) :: (nat_lit 203, o_247 P) :: (nat_lit 204, o_248 P) :: (nat_lit 205, o_249 P) :: (nat_lit 206, o_250 P) :: (nat_lit 207, o_251 P) :: (nat_lit 217, o_43 P) :: (nat_lit 219, o_265 P) :: (nat_lit 220, o_43 P) :: (nat_lit 222, o_268 P) :: (nat_lit 223, o_269 P) :: (nat_lit 224, o_270 P) :: (nat_lit 225, o_271 P) :: (nat_lit 226, o_272 P) :: (nat_lit 227, o_273 P) :: (nat_lit 228, o_274 P) :: (nat_lit 238, o_43 P) :: (nat_lit 240, o_288 P) :: (nat_lit 241, o_43 P) :: (nat_lit 243, o_291 P) :: (nat_lit 244, o_292 P) :: (nat_lit 245, o_293 P) :: (nat_lit 246, o_294 P) :: (nat_lit 247, o_295 P) :: (nat_lit 248, o_296 P) :: (nat_lit 249, o_297 P) :: (nat_lit 259, o_43 P) :: (nat_lit 261, o_311 P) :: (nat_lit 262, o_43 P) :: (nat_lit 264, o_314 P) :: (nat_lit 265, o_315 P) :: (nat_lit 266, o_316 P) :: (nat_lit 267, o_317 P) :: (nat_lit 268, o_318 P) :: (nat_lit 269, o_319 P) :: (nat_lit 270, o_320 P) :: (nat_lit 273, o_43 P) :: (nat_lit 275, o_325 P) :: (nat_lit 276, o_43 P) :: (nat_lit 278, o_328 P) :: (nat_lit 279, o_329 P) :: (nat_lit 280, o_43 P) :: (nat_lit 282, o_332 P) :: (nat_lit 283, o_43 P) :: (nat_lit 285, o_335 P) :: (nat_lit 286, o_336 P) :: (nat_lit 287, o_337 P) :: (nat_lit 288, o_43 P) :: (nat_lit 290, o_340 P) :: (nat_lit 291, o_43 P) :: (nat_lit 293, o_343 P) :: (nat_lit 294, o_344 P) :: (nat_lit 295, o_43 P) :: (nat_lit 297, o_43 P) :: (nat_lit 298, o_43 P) :: (nat_lit 300, o_350 P) :: (nat_lit 301, o_351 P) :: (nat_lit 302, o_239 P) :: (nat_lit 303, o_43 P) :: (nat_lit 305, o_355 P) :: (nat_lit 306, o_43 P) :: (nat_lit 308, o_358 P) :: (nat_lit 309, o_359 P) :: (nat_lit 310, o_239 P) :: (nat_lit 311, o_43 P) :: (nat_lit 313, o_365 P) :: (nat_lit 314, o_43 P) :: (nat_lit 316, o_368 P) :: (nat_lit 317, o_369 P) :: (nat_lit 318, o_337 P) :: (nat_lit 319, o_43 P) :: (nat_lit 321, o_373 P) :: (nat_lit 322, o_43 P) :: (nat_lit 324, o_376 P) :: (nat_lit 325, o_377 P) :: (nat_lit 326, o_43 P) :: (nat_lit 328, o_380 P) :: (nat_lit 329, o_43 P) :: (nat_lit 331, o_383 P) :: (nat_lit 332, o_384 P) :: (nat_lit 333, o_43 P) :: (nat_lit 335, o_387 P) :: (nat_lit 336, o_43 P) :: (nat_lit 338, o_390 P) :: (nat_lit 339, o_391 P) :: (nat_lit 340, o_43 P) :: (nat_lit 342, o_394 P) :: (nat_lit 343, o_43 P) :: (nat_lit 345, o_397 P) :: (nat_lit 346, o_398 P) :: (nat_lit 347, o_43 P) :: (nat_lit 349, o_401 P) :: (nat_lit 350, o_43 P) :: (nat_lit 352, o_404 P) :: (nat_lit 353, o_405 P) :: (nat_lit 361, o_415 P) :: (nat_lit 362, o_43 P) :: (nat_lit 364, o_418 P) :: (nat_lit 365, o_43 P) :: (nat_lit 367, o_421 P) :: (nat_lit 368, o_422 P) :: (nat_lit 369, o_43 P) :: (nat_lit 371, o_425 P) :: (nat_lit 372, o_43 P) :: (nat_lit 374, o_428 P) :: (nat_lit 375, o_429 P) :: (nat_lit 376, o_430 P) :: (nat_lit 377, o_43 P) :: (nat_lit 379, o_433 P) :: (nat_lit 380, o_43 P) :: (nat_lit 382, o_436 P) :: (nat_lit 383, o_437 P) :: (nat_lit 384, o_43 P) :: (nat_lit 386, o_440 P) :: (nat_lit 387, o_43 P) :: (nat_lit 389, o_443 P) :: (nat_lit 390, o_444 P) :: (nat_lit 391, o_445 P) :: (nat_lit 392, o_446 P) :: (nat_lit 393, o_447 P) :: (nat_lit 394, o_448 P) :: (nat_lit 395, o_449 P) :: (nat_lit 398, o_43 P) :: (nat_lit 400, o_456 P) :: (nat_lit 401, o_43 P) :: (nat_lit 403, o_459 P) :: (nat_lit 404, o_460 P) :: (nat_lit 405, o_43 P) :: (nat_lit 407, o_463 P) :: (nat_lit 408, o_43 P) :: (nat_lit 410, o_466 P) :: (nat_lit 411, o_467 P) :: (nat_lit 412, o_43 P) :: (nat_lit 414, o_470 P) :: (nat_lit 415, o_43 P) :: (nat_lit 417, o_473 P) :: (nat_lit 418, o_474 P) :: (nat_lit 419, o_43 P) :: (nat_lit 421, o_477 P) :: (nat_lit 422, o_43 P) :: (nat_lit 424, o_480 P) :: (nat_lit 425, o_481 P) :: (nat_lit 426, o_43 P) :: (nat_lit 428, o_484 P) :: (nat_lit 429, o_43 P) :: (nat_lit 431, o_487 P) :: (nat_lit 432, o_488 P) :: (nat_lit 433, o_43 P) :: (nat_lit 435, o_491 P) :: (nat_lit 436, o_43 P) :: (nat_lit 438, o_494 P) :: (nat_lit 439, o_495 P) :: (nat_lit 440, o_43 P) :: (nat_lit 442, o_498 P) :: (nat_lit 443, o_43 P) :: (nat_lit 445, o_501 P) :: (nat_lit 446, o_502 P) :: (nat_lit 447, o_43 P) :: (nat_lit 449, o_505 P) :: (nat_lit 450, o_43 P) :: (nat_lit 452, o_508 P) :: (nat_lit 453, o_509 P) :: (nat_lit 454, o_43 P) :: (nat_lit 456, o_512 P) :: (nat_lit 457, o_43 P) :: (nat_lit 459, o_515 P) :: (nat_lit 460, o_516 P) :: (nat_lit 461, o_43 P) :: (nat_lit 463, o_519 P) :: (nat_lit 464, o_43 P) :: (nat_lit 466, o_522 P) :: (nat_lit 467, o_523 P) :: (nat_lit 468, o_43 P) :: (nat_lit 470, o_526 P) :: (nat_lit 471, o_43 P) :: (nat_lit 473, o_529 P) :: (nat_lit 474, o_530 P) :: (nat_lit 475, o_43 P) :: (nat_lit 477, o_533 P) :: (nat_lit 478, o_43 P) :: (nat_lit 480, o_536 P) :: (nat_lit 481, o_537 P) :: (nat_lit 482, o_43 P) :: (nat_lit 484, o_542 P) :: (nat_lit 485, o_43 P) :: (nat_lit 487, o_545 P) :: (nat_lit 488, o_546 P) :: (nat_lit 489, o_43 P) :: (nat_lit 491, o_549 P) :: (nat_lit 492, o_43 P) :: (nat_lit 494, o_552 P) :: (nat_lit 495, o_553 P) :: (nat_lit 496, o_43 P) :: (nat_lit 498, o_556 P) :: (nat_lit 499, o_43 P) :: (nat_lit 501, o_559 P) :: (nat_lit 502, o_560 P) :: (nat_lit 510, o_43 P) :: (nat_lit 512, o_572 P) :: (nat_lit 513, o_43 P) :: (nat_lit 515, o_575 P) :: (nat_lit 516, o_576 P) :: (nat_lit 517, o_43 P) :: (nat_lit 519, o_579 P) :: (nat_lit 520, o_43 P) :: (nat_lit 522, o_582 P) :: (nat_lit 523, o_583 P) :: (nat_lit 524, o_43 P) :: (nat_lit 526, o_586 P) :: (nat_lit 527, o_43 P) :: (nat_lit 529, o_589 P) :: (nat_lit 530, o_590 P) :: (nat_lit 531, o_43 P) :: (nat_lit 533, o_593 P) :: (nat_lit 534, o_43 P) :: (nat_lit 536, o_596 P) :: (nat_lit 537, o_597 P) :: (nat_lit 538, o_43 P) :: (nat_lit 540, o_600 P) :: (nat_lit 541, o_43 P) :: (nat_lit 543, o_603 P) :: (nat_lit 544, o_604 P) :: (nat_lit 545, o_43 P) :: (nat_lit 547, o_607 P) :: (nat_lit 548, o_43 P) :: (nat_lit 550, o_610 P) :: (nat_lit 551, o_611 P) :: (nat_lit 552, o_43 P) :: (nat_lit 554, o_614 P) :: (nat_lit 555, o_43 P) :: (nat_lit 557, o_617 P) :: (nat_lit 558, o_618 P) :: (nat_lit 559, o_619 P) :: (nat_lit 560, o_43 P) :: (nat_lit 562, o_622 P) :: (nat_lit 563, o_43 P) :: (nat_lit 565, o_625 P) :: (nat_lit 566, o_626 P) :: (nat_lit 567, o_619 P) :: (nat_lit 568, o_43 P) :: (nat_lit 570, o_630 P) :: (nat_lit 571, o_43 P) :: (nat_lit 573, o_633 P) :: (nat_lit 574, o_634 P) :: (nat_lit 575, o_619 P) :: (nat_lit 576, o_43 P) :: (nat_lit 578, o_638 P) :: (nat_lit 579, o_43 P) :: (nat_lit 581, o_641 P) :: (nat_lit 582, o_642 P) :: (nat_lit 583, o_643 P) :: (nat_lit 584, o_644 P) :: (nat_lit 585, o_645 P) :: (nat_lit 586, o_646 P) :: (nat_lit 587, o_647 P) :: (nat_lit 597, o_659 P) :: (nat_lit 598, o_43 P) :: (nat_lit 600, o_662 P) :: (nat_lit 601, o_43 P) :: (nat_lit 603, o_665 P) :: (nat_lit 604, o_666 P) :: (nat_lit 605, o_667 P) :: (nat_lit 606, o_668 P) :: (nat_lit 607, o_669 P) :: (nat_lit 608, o_670 P) :: (nat_lit 609, o_671 P) :: (nat_lit 619, o_43 P) :: (nat_lit 621, o_685 P) :: (nat_lit 622, o_43 P) :: (nat_lit 624, o_688 P) :: (nat_lit 625, o_689 P) :: (nat_lit 626, o_690 P) :: (nat_lit 627, o_691 P) :: (nat_lit 628, o_692 P) :: (nat_lit 629, o_693 P) :: (nat_lit 630, o_694 P) :: (nat_lit 640, o_43 P) :: (nat_lit 642, o_708 P) :: (nat_lit 643, o_43 P) :: (nat_lit 645, o_711 P) :: (nat_lit 646, o_712 P) :: (nat_lit 647, o_43 P) :: (nat_lit 649, o_715 P) :: (nat_lit 650, o_43 P) :: (nat_lit 652, o_718 P) :: (nat_lit 653, o_719 P) :: (nat_lit 654, o_720 P) :: (nat_lit 655, o_43 P) :: (nat_lit 657, o_723 P) :: (nat_lit 658, o_43 P) :: (nat_lit 660, o_726 P) :: (nat_lit 661, o_727 P) :: (nat_lit 662, o_43 P) :: (nat_lit 664, o_730 P) :: (nat_lit 665, o_43 P) :: (nat_lit 667, o_733 P) :: (nat_lit 668, o_734 P) :: (nat_lit 669, o_43 P) :: (nat_lit 671, o_737 P) :: (nat_lit 672, o_43 P) :: (nat_lit 674, o_740 P) :: (nat_lit 675, o_741 P) :: (nat_lit 676, o_43 P) :: (nat_lit 678, o_744 P) :: (nat_lit 679, o_43 P) :: (nat_lit 681, o_747 P) :: (nat_lit 682, o_748 P) :: (nat_lit 683, o_43 P) :: (nat_lit 685, o_751 P) :: (nat_lit 686, o_43 P) :: (nat_lit 688, o_754 P) :: (nat_lit 689, o_755 P) :: (nat_lit 690, o_43 P) :: (nat_lit 692, o_758 P) :: (nat_lit 693, o_43 P) :: (nat_lit 695, o_761 P) :: (nat_lit 696, o_762 P) :: (nat_lit 697, o_43 P) :: (nat_lit 699, o_765 P) :: (nat_lit 700, o_43 P) :: (nat_lit 702, o_768 P) :: (nat_lit 703, o_769 P) :: (nat_lit 704, o_770 P) :: (nat_lit 705, o_771 P) :: (nat_lit 706, o_779 P) :: (nat_lit 707, o_773 P) :: (nat_lit 708, o_774 P) :: (nat_lit 711, o_780 P) :: (nat_lit 718, o_43 P) :: (nat_lit 720, o_789 P) :: (nat_lit 721, o_43 P) :: (nat_lit 723, o_792 P) :: (nat_lit 724, o_793 P) :: (nat_lit 725, o_43 P) :: (nat_lit 727, o_796 P) :: (nat_lit 728, o_43 P) :: (nat_lit 730, o_799 P) :: (nat_lit 731, o_800 P) :: (nat_lit 732, o_43 P) :: (nat_lit 734, o_803 P) :: (nat_lit 735, o_43 P) :: (nat_lit 737, o_806 P) :: (nat_lit 738, o_807 P) :: (nat_lit 739, o_43 P) :: (nat_lit 741, o_810 P) :: (nat_lit 742, o_43 P) :: (nat_lit 744, o_813 P) :: (nat_lit 745, o_814 P) :: (nat_lit 746, o_43 P) :: (nat_lit 748, o_817 P) :: (nat_lit 749, o_43 P) :: (nat_lit 751, o_820 P) :: (nat_lit 752, o_821 P) :: (nat_lit 753, o_43 P) :: (nat_lit 755, o_824 P) :: (nat_lit 756, o_43 P) :: (nat_lit 758, o_827 P) :: (nat_lit 759, o_828 P) :: (nat_lit 760, o_43 P) :: (nat_lit 762, o_831 P) :: (nat_lit 763, o_43 P) :: (nat_lit 765, o_834 P) :: (nat_lit 766, o_835 P) :: (nat_lit 767, o_43 P) :: (nat_lit 769, o_838 P) :: (nat_lit 770, o_43 P) :: (nat_lit 772, o_841 P) :: (nat_lit 773, o_842 P) :: (nat_lit 774, o_43 P) :: (nat_lit 776, o_845 P) :: (nat_lit 777, o_43 P) :: (nat_lit 779, o_848 P) :: (nat_lit 780, o_849 P) :: (nat_lit 781, o_43 P) :: (nat_lit 783, o_852 P) :: (nat_lit 784, o_43 P) :: (nat_lit 786, o_855 P) :: (nat_lit 787, o_856 P) :: (nat_lit 788, o_43 P) :: (nat_lit 789, o_858 P) :: (nat_lit 790, o_864 P) :: (nat_lit 793, o_865 P) :: (nat_lit 800, o_66 P) :: (nat_lit 801, o_43 P) :: (nat_lit 803, o_875 P) :: (nat_lit 804, o_43 P) :: (nat_lit 806, o_878 P) :: (nat_lit 807, o_879 P) :: (nat_lit 808, o_43 P) :: (nat_lit 810, o_882 P) :: (nat_lit 811, o_43 P) :: (nat_lit 813, o_885 P) :: (nat_lit 814, o_886 P) :: (nat_lit 815, o_43 P) :: (nat_lit 817, o_889 P) :: (nat_lit 818, o_43 P) :: (nat_lit 820, o_892 P) :: (nat_lit 821, o_893 P) :: (nat_lit 822, o_43 P) :: (nat_lit 824, o_896 P) :: (nat_lit 825, o_43 P) :: (nat_lit 827, o_899 P) :: (nat_lit 828, o_900 P) :: (nat_lit 829, o_43 P) :: (nat_lit 831, o_903 P) :: (nat_lit 832, o_43 P) :: (nat_lit 834, o_906 P) :: (nat_lit 835, o_907 P) :: (nat_lit 836, o_43 P) :: (nat_lit 838, o_910 P) :: (nat_lit 839, o_43 P) :: (nat_lit 841, o_913 P) :: (nat_lit 842, o_914 P) :: (nat_lit 843, o_43 P) :: (nat_lit 845, o_917 P) :: (nat_lit 846, o_43 P) :: (nat_lit 848, o_920 P) :: (nat_lit 849, o_921 P) :: (nat_lit 850, o_43 P) :: (nat_lit 852, o_924 P) :: (nat_lit 853, o_43 P) :: (nat_lit 855, o_927 P) :: (nat_lit 856, o_928 P) :: (nat_lit 857, o_43 P) :: (nat_lit 859, o_931 P) :: (nat_lit 860, o_43 P) :: (nat_lit 862, o_934 P) :: (nat_lit 863, o_935 P) :: (nat_lit 864, o_43 P) :: (nat_lit 866, o_938 P) :: (nat_lit 867, o_43 P) :: (nat_lit 869, o_941 P) :: (nat_lit 870, o_942 P) :: (nat_lit 871, o_337 P) :: (nat_lit 872, o_43 P) :: (nat_lit 874, o_946 P) :: (nat_lit 875, o_43 P) :: (nat_lit 877, o_949 P) :: (nat_lit 878, o_950 P) :: (nat_lit 879, o_43 P) :: (nat_lit 881, o_953 P) :: (nat_lit 882, o_43 P) :: (nat_lit 884, o_956 P) :: (nat_lit 885, o_957 P) :: (nat_lit 886, o_958 P) :: (nat_lit 887, o_959 P) :: (nat_lit 888, o_960 P) :: (nat_lit 891, o_43 P) :: (nat_lit 893, o_1052 P) :: (nat_lit 894, o_43 P) :: (nat_lit 896, o_1055 P) :: (nat_lit 897, o_1056 P) :: (nat_lit 898, o_43 P) :: (nat_lit 900, o_1059 P) :: (nat_lit 901, o_43 P) :: (nat_lit 903, o_1062 P) :: (nat_lit 904, o_1063 P) :: (nat_lit 905, o_1064 P) :: (nat_lit 906, o_43 P) :: (nat_lit 908, o_43 P) :: (nat_lit 909, o_43 P) :: (nat_lit 911, o_1070 P) :: (nat_lit 912, o_1071 P) :: (nat_lit 913, o_43 P) :: (nat_lit 916, o_1075 P) :: (nat_lit 917, o_1076 P) :: (nat_lit 918, o_43 P) :: (nat_lit 920, o_1079 P) :: (nat_lit 921, o_43 P) :: (nat_lit 923, o_1082 P) :: (nat_lit 924, o_1083 P) :: (nat_lit 925, o_43 P) :: (nat_lit 927, o_1086 P) :: (nat_lit 928, o_43 P) :: (nat_lit 930, o_1089 P) :: (nat_lit 931, o_1090 P) :: (nat_lit 932, o_43 P) :: (nat_lit 934, o_1093 P) :: (nat_lit 935, o_43 P) :: (nat_lit 937, o_1096 P) :: (nat_lit 938, o_1097 P) :: (nat_lit 939, o_43 P) :: (nat_lit 941, o_1100 P) :: (nat_lit 942, o_43 P) :: (nat_lit 944, o_1103 P) :: (nat_lit 945, o_1104 P) :: (nat_lit 946, o_43 P) :: (nat_lit 949, o_1108 P) :: (nat_lit 950, o_1109 P) :: []
noncomputable def env_41 : Env := { scope := pr.main.scope, locals := mainNs, globals := mainNs, cells := [], code := Value.ref 13, frame := some 14 }
noncomputable def tree_47 : Params → BT := fun P => (nd P W.boot_o_0 (nd P W.boot_o_1 (nd P W.boot_o_3 (lf P W.boot_o_7) (lf P o_43)) (nd P W.boot_o_5 (lf P W.boot_o_9) (lf P o_45))) (nd P W.boot_o_2 (nd P W.boot_o_4 (lf P W.boot_o_8) (lf P o_44)) (nd P W.boot_o_6 (lf P W.boot_o_10) (lf P o_46))))
noncomputable def tree_79 : Params → BT := fun P => (nd P W.boot_o_0 (nd P W.boot_o_1 (nd P o_50 (nd P W.boot_o_7 (nd P o_43 (lf P o_44) n0) (nd P o_60 (lf P o_76) n0)) (nd P o_43 (nd P o_56 (lf P o_72) n0) (lf P o_64))) (nd P W.boot_o_5 (nd P W.boot_o_9 (nd P o_54 (lf P o_43) n0) (nd P o_43 (lf P o_78) n0)) (nd P o_45 (nd P o_58 (lf P o_74) n0) (lf P o_66)))) (nd P o_49 (nd P W.boot_o_4 (nd P W.boot_o_8 (nd P o_44 (lf P o_69) n0) (nd P o_61 (lf P o_77) n0)) (nd P o_51 (nd P o_57 (lf P o_73) n0) (lf P o_65))) (nd P W.boot_o_6 (nd P W.boot_o_10 (nd P o_43 (lf P o_71) n0) (nd P o_63 (lf P o_79) n0)) (nd P o_46 (nd P o_59 (lf P o_75) n0) (lf P o_43)))))
noncomputable def tree_136 : Params → BT := fun P => (nd P W.boot_o_0 (nd P W.boot_o_1 (nd P o_80 (nd P W.boot_o_7 (nd P o_43 (nd P o_44 (lf P o_44) (lf P o_135)) (nd P o_44 (lf P o_43) n0)) (nd P o_60 (nd P o_82 (lf P o_111) n0) (nd P o_43 (lf P o_127) n0))) (nd P o_43 (nd P o_56 (nd P o_72 (lf P o_107) n0) (nd P o_91 (lf P o_43) n0)) (nd P o_64 (nd P o_83 (lf P o_115) n0) (nd P o_99 (lf P o_44) n0)))) (nd P W.boot_o_5 (nd P W.boot_o_9 (nd P o_54 (nd P o_43 (lf P o_43) n0) (nd P o_89 (lf P o_121) n0)) (nd P o_43 (nd P o_78 (lf P o_113) n0) (nd P o_97 (lf P o_129) n0))) (nd P o_45 (nd P o_58 (nd P o_74 (lf P o_43) n0) (nd P o_93 (lf P o_125) n0)) (nd P o_66 (nd P o_85 (lf P o_44) n0) (nd P o_101 (lf P o_43) n0))))) (nd P o_49 (nd P W.boot_o_4 (nd P W.boot_o_8 (nd P o_44 (nd P o_69 (lf P o_104) (lf P o_136)) (nd P o_88 (lf P o_120) n0)) (nd P o_61 (nd P o_77 (lf P o_43) n0) (nd P o_44 (lf P o_128) n0))) (nd P o_81 (nd P o_57 (nd P o_73 (lf P o_108) n0) (nd P o_92 (lf P o_44) n0)) (nd P o_65 (nd P o_60 (lf P o_43) n0) (nd P o_100 (lf P o_132) n0)))) (nd P W.boot_o_6 (nd P W.boot_o_10 (nd P o_43 (nd P o_71 (lf P o_106) n0) (nd P o_43 (lf P o_122) n0)) (nd P o_63 (nd P o_79 (lf P o_114) n0) (nd P o_43 (lf P o_43) n0))) (nd P o_46 (nd P o_59 (nd P o_75 (lf P o_44) n0) (nd P o_94 (lf P o_43) n0)) (nd P o_43 (nd P o_43 (lf P o_118) n0) (nd P o_43 (lf P o_134) n0))))))
noncomputable def tree_208 : Params → BT := fun P => (nd P W.boot_o_0 (nd P W.boot_o_1 (nd P o_137 (nd P W.boot_o_7 (nd P o_43 (nd P o_44 (nd P o_44 (lf P o_169) n0) (nd P o_135 (lf P o_201) n0)) (nd P o_44 (nd P o_43 (lf P o_185) n0) (lf P o_43))) (nd P o_60 (nd P o_82 (nd P o_111 (lf P o_43) n0) (lf P o_145)) (nd P o_43 (nd P o_127 (lf P o_193) n0) (lf P o_44)))) (nd P o_43 (nd P o_56 (nd P o_72 (nd P o_107 (lf P o_173) n0) (nd P o_141 (lf P o_43) n0)) (nd P o_91 (nd P o_43 (lf P o_44) n0) (lf P o_157))) (nd P o_64 (nd P o_83 (nd P o_115 (lf P o_43) n0) (lf P o_43)) (nd P o_99 (nd P o_44 (lf P o_197) n0) (lf P o_165))))) (nd P W.boot_o_5 (nd P W.boot_o_9 (nd P o_54 (nd P o_43 (nd P o_43 (lf P o_171) n0) (nd P o_43 (lf P o_44) n0)) (nd P o_89 (nd P o_121 (lf P o_187) n0) (lf P o_155))) (nd P o_43 (nd P o_78 (nd P o_113 (lf P o_179) n0) (lf P o_44)) (nd P o_97 (nd P o_129 (lf P o_43) n0) (lf P o_43)))) (nd P o_45 (nd P o_58 (nd P o_74 (nd P o_43 (lf P o_44) n0) (nd P o_143 (lf P o_207) n0)) (nd P o_93 (nd P o_125 (lf P o_43) n0) (lf P o_159))) (nd P o_66 (nd P o_85 (nd P o_44 (lf P o_183) n0) (lf P o_151)) (nd P o_101 (nd P o_43 (lf P o_199) n0) (lf P o_43)))))) (nd P o_49 (nd P W.boot_o_4 (nd P W.boot_o_8 (nd P o_44 (nd P o_69 (nd P o_104 (lf P o_43) n0) (nd P o_136 (lf P o_43) n0)) (nd P o_88 (nd P o_120 (lf P o_186) n0) (lf P o_44))) (nd P o_61 (nd P o_77 (nd P o_43 (lf P o_178) n0) (lf P o_43)) (nd P o_44 (nd P o_128 (lf P o_194) n0) (lf P o_162)))) (nd P o_138 (nd P o_57 (nd P o_73 (nd P o_108 (lf P o_43) n0) (nd P o_43 (lf P o_206) n0)) (nd P o_92 (nd P o_44 (lf P o_190) n0) (lf P o_158))) (nd P o_65 (nd P o_60 (nd P o_43 (lf P o_44) n0) (lf P o_150)) (nd P o_100 (nd P o_132 (lf P o_43) n0) (lf P o_166))))) (nd P W.boot_o_6 (nd P W.boot_o_10 (nd P o_43 (nd P o_71 (nd P o_106 (lf P o_172) n0) (nd P o_44 (lf P o_204) n0)) (nd P o_43 (nd P o_122 (lf P o_43) n0) (lf P o_43))) (nd P o_63 (nd P o_79 (nd P o_114 (lf P o_180) n0) (lf P o_148)) (nd P o_43 (nd P o_43 (lf P o_44) n0) (lf P o_164)))) (nd P o_46 (nd P o_59 (nd P o_75 (nd P o_44 (lf P o_176) n0) (nd P o_144 (lf P o_208) n0)) (nd P o_94 (nd P o_43 (lf P o_192) n0) (lf P o_43))) (nd P o_43 (nd P o_43 (nd P o_118 (lf P o_43) n0) (lf P o_152)) (nd P o_43 (nd P o_134 (lf P o_200) n0) (lf P o_44)))))))
noncomputable def tree_253 : Params → BT := fun P => (nd P W.boot_o_0 (nd P W.boot_o_1 (nd P o_209 (nd P W.boot_o_7 (nd P o_43 (nd P o_44 (nd P o_44 (lf P o_169) (lf P o_43)) (nd P o_135 (lf P o_201) n0)) (nd P o_44 (nd P o_43 (lf P o_185) (lf P o_251)) (nd P o_43 (lf P o_44) n0))) (nd P o_60 (nd P o_82 (nd P o_111 (lf P o_43) (lf P o_43)) (nd P o_145 (lf P o_43) n0)) (nd P o_43 (nd P o_127 (lf P o_193) n0) (nd P o_44 (lf P o_227) n0)))) (nd P o_43 (nd P o_56 (nd P o_72 (nd P o_107 (lf P o_173) (lf P o_239)) (nd P o_141 (lf P o_43) n0)) (nd P o_91 (nd P o_43 (lf P o_44) n0) (nd P o_157 (lf P o_223) n0))) (nd P o_64 (nd P o_83 (nd P o_115 (lf P o_43) (lf P o_247)) (nd P o_43 (lf P o_215) n0)) (nd P o_99 (nd P o_44 (lf P o_197) n0) (nd P o_165 (lf P o_231) n0))))) (nd P W.boot_o_5 (nd P W.boot_o_9 (nd P o_54 (nd P o_43 (nd P o_43 (lf P o_171) (lf P o_237)) (nd P o_43 (lf P o_44) n0)) (nd P o_89 (nd P o_121 (lf P o_187) (lf P o_253)) (nd P o_155 (lf P o_43) n0))) (nd P o_43 (nd P o_78 (nd P o_113 (lf P o_179) (lf P o_245)) (nd P o_44 (lf P o_213) n0)) (nd P o_97 (nd P o_129 (lf P o_43) n0) (nd P o_43 (lf P o_229) n0)))) (nd P o_45 (nd P o_58 (nd P o_74 (nd P o_43 (lf P o_44) (lf P o_44)) (nd P o_143 (lf P o_207) n0)) (nd P o_93 (nd P o_125 (lf P o_43) n0) (nd P o_159 (lf P o_43) n0))) (nd P o_66 (nd P o_85 (nd P o_44 (lf P o_183) (lf P o_249)) (nd P o_151 (lf P o_217) n0)) (nd P o_101 (nd P o_43 (lf P o_199) n0) (nd P o_43 (lf P o_60) n0)))))) (nd P o_49 (nd P W.boot_o_4 (nd P W.boot_o_8 (nd P o_44 (nd P o_69 (nd P o_104 (lf P o_43) (lf P o_236)) (nd P o_136 (lf P o_43) n0)) (nd P o_88 (nd P o_120 (lf P o_186) (lf P o_252)) (nd P o_44 (lf P o_220) n0))) (nd P o_61 (nd P o_77 (nd P o_43 (lf P o_178) (lf P o_244)) (nd P o_43 (lf P o_44) n0)) (nd P o_44 (nd P o_128 (lf P o_194) n0) (nd P o_162 (lf P o_43) n0)))) (nd P o_210 (nd P o_57 (nd P o_73 (nd P o_108 (lf P o_43) (lf P o_43)) (nd P o_43 (lf P o_206) n0)) (nd P o_92 (nd P o_44 (lf P o_190) n0) (nd P o_158 (lf P o_224) n0))) (nd P o_65 (nd P o_60 (nd P o_43 (lf P o_44) (lf P o_248)) (nd P o_150 (lf P o_216) n0)) (nd P o_100 (nd P o_132 (lf P o_43) n0) (nd P o_166 (lf P o_43) n0))))) (nd P W.boot_o_6 (nd P W.boot_o_10 (nd P o_43 (nd P o_71 (nd P o_106 (lf P o_172) (lf P o_238)) (nd P o_44 (lf P o_204) n0)) (nd P o_43 (nd P o_122 (lf P o_43) n0) (nd P o_43 (lf P o_222) n0))) (nd P o_63 (nd P o_79 (nd P o_114 (lf P o_180) (lf P o_246)) (nd P o_148 (lf P o_43) n0)) (nd P o_43 (nd P o_43 (lf P o_44) n0) (nd P o_164 (lf P o_230) n0)))) (nd P o_46 (nd P o_59 (nd P o_75 (nd P o_44 (lf P o_176) (lf P o_242)) (nd P o_144 (lf P o_208) n0)) (nd P o_94 (nd P o_43 (lf P o_192) n0) (nd P o_43 (lf P o_44) n0))) (nd P o_43 (nd P o_43 (nd P o_118 (lf P o_43) (lf P o_250)) (nd P o_152 (lf P o_43) n0)) (nd P o_43 (nd P o_134 (lf P o_200) n0) (nd P o_44 (lf P o_234) n0)))))))
noncomputable def tree_276 : Params → BT := fun P => (nd P W.boot_o_0 (nd P W.boot_o_1 (nd P o_254 (nd P W.boot_o_7 (nd P o_43 (nd P o_44 (nd P o_44 (lf P o_169) (lf P o_43)) (nd P o_135 (lf P o_201) (lf P o_269))) (nd P o_44 (nd P o_43 (lf P o_185) (lf P o_251)) (nd P o_43 (lf P o_44) n0))) (nd P o_60 (nd P o_82 (nd P o_111 (lf P o_43) (lf P o_43)) (nd P o_145 (lf P o_43) n0)) (nd P o_43 (nd P o_127 (lf P o_193) (lf P o_261)) (nd P o_44 (lf P o_227) n0)))) (nd P o_43 (nd P o_56 (nd P o_72 (nd P o_107 (lf P o_173) (lf P o_239)) (nd P o_141 (lf P o_43) (lf P o_273))) (nd P o_91 (nd P o_43 (lf P o_44) (lf P o_60)) (nd P o_157 (lf P o_223) n0))) (nd P o_64 (nd P o_83 (nd P o_115 (lf P o_43) (lf P o_247)) (nd P o_43 (lf P o_215) n0)) (nd P o_99 (nd P o_44 (lf P o_197) (lf P o_265)) (nd P o_165 (lf P o_231) n0))))) (nd P W.boot_o_5 (nd P W.boot_o_9 (nd P o_54 (nd P o_43 (nd P o_43 (lf P o_171) (lf P o_237)) (nd P o_43 (lf P o_44) (lf P o_271))) (nd P o_89 (nd P o_121 (lf P o_187) (lf P o_253)) (nd P o_155 (lf P o_43) n0))) (nd P o_43 (nd P o_78 (nd P o_113 (lf P o_179) (lf P o_245)) (nd P o_44 (lf P o_213) n0)) (nd P o_97 (nd P o_129 (lf P o_43) (lf P o_43)) (nd P o_43 (lf P o_229) n0)))) (nd P o_45 (nd P o_58 (nd P o_74 (nd P o_43 (lf P o_44) (lf P o_44)) (nd P o_143 (lf P o_207) (lf P o_275))) (nd P o_93 (nd P o_125 (lf P o_43) (lf P o_43)) (nd P o_159 (lf P o_43) n0))) (nd P o_66 (nd P o_85 (nd P o_44 (lf P o_183) (lf P o_249)) (nd P o_151 (lf P o_217) n0)) (nd P o_101 (nd P o_43 (lf P o_199) (lf P o_267)) (nd P o_43 (lf P o_60) n0)))))) (nd P o_49 (nd P W.boot_o_4 (nd P W.boot_o_8 (nd P o_44 (nd P o_69 (nd P o_104 (lf P o_43) (lf P o_236)) (nd P o_136 (lf P o_43) (lf P o_270))) (nd P o_88 (nd P o_120 (lf P o_186) (lf P o_252)) (nd P o_44 (lf P o_220) n0))) (nd P o_61 (nd P o_77 (nd P o_43 (lf P o_178) (lf P o_244)) (nd P o_43 (lf P o_44) n0)) (nd P o_44 (nd P o_128 (lf P o_194) (lf P o_262)) (nd P o_162 (lf P o_43) n0)))) (nd P o_255 (nd P o_57 (nd P o_73 (nd P o_108 (lf P o_43) (lf P o_43)) (nd P o_43 (lf P o_206) (lf P o_274))) (nd P o_92 (nd P o_44 (lf P o_190) (lf P o_258)) (nd P o_158 (lf P o_224) n0))) (nd P o_65 (nd P o_60 (nd P o_43 (lf P o_44) (lf P o_248)) (nd P o_150 (lf P o_216) n0)) (nd P o_100 (nd P o_132 (lf P o_43) (lf P o_43)) (nd P o_166 (lf P o_43) n0))))) (nd P W.boot_o_6 (nd P W.boot_o_10 (nd P o_43 (nd P o_71 (nd P o_106 (lf P o_172) (lf P o_238)) (nd P o_44 (lf P o_204) (lf P o_272))) (nd P o_43 (nd P o_122 (lf P o_43) (lf P o_43)) (nd P o_43 (lf P o_222) n0))) (nd P o_63 (nd P o_79 (nd P o_114 (lf P o_180) (lf P o_246)) (nd P o_148 (lf P o_43) n0)) (nd P o_43 (nd P o_43 (lf P o_44) (lf P o_44)) (nd P o_164 (lf P o_230) n0)))) (nd P o_46 (nd P o_59 (nd P o_75 (nd P o_44 (lf P o_176) (lf P o_242)) (nd P o_144 (lf P o_208) (lf P o_276))) (nd P o_94 (nd P o_43 (lf P o_192) (lf P o_260)) (nd P o_43 (lf P o_44) n0))) (nd P o_43 (nd P o_43 (nd P o_118 (lf P o_43) (lf P o_250)) (nd P o_152 (lf P o_43) n0)) (nd P o_43 (nd P o_134 (lf P o_200) (lf P o_268)) (nd P o_44 (lf P o_234) n0)))))))
noncomputable def tree_299 : Params → BT := fun P => (nd P W.boot_o_0 (nd P W.boot_o_1 (nd P o_277 (nd P W.boot_o_7 (nd P o_43 (nd P o_44 (nd P o_44 (lf P o_169) (lf P o_43)) (nd P o_135 (lf P o_201) (lf P o_269))) (nd P o_44 (nd P o_43 (lf P o_185) (lf P o_251)) (nd P o_43 (lf P o_44) (lf P o_44)))) (nd P o_60 (nd P o_82 (nd P o_111 (lf P o_43) (lf P o_43)) (nd P o_145 (lf P o_43) (lf P o_43))) (nd P o_43 (nd P o_127 (lf P o_193) (lf P o_261)) (nd P o_44 (lf P o_227) (lf P o_295))))) (nd P o_43 (nd P o_56 (nd P o_72 (nd P o_107 (lf P o_173) (lf P o_239)) (nd P o_141 (lf P o_43) (lf P o_273))) (nd P o_91 (nd P o_43 (lf P o_44) (lf P o_60)) (nd P o_157 (lf P o_223) (lf P o_291)))) (nd P o_64 (nd P o_83 (nd P o_115 (lf P o_43) (lf P o_247)) (nd P o_43 (lf P o_215) (lf P o_283))) (nd P o_99 (nd P o_44 (lf P o_197) (lf P o_265)) (nd P o_165 (lf P o_231) (lf P o_299)))))) (nd P W.boot_o_5 (nd P W.boot_o_9 (nd P o_54 (nd P o_43 (nd P o_43 (lf P o_171) (lf P o_237)) (nd P o_43 (lf P o_44) (lf P o_271))) (nd P o_89 (nd P o_121 (lf P o_187) (lf P o_253)) (nd P o_155 (lf P o_43) (lf P o_43)))) (nd P o_43 (nd P o_78 (nd P o_113 (lf P o_179) (lf P o_245)) (nd P o_44 (lf P o_213) (lf P o_281))) (nd P o_97 (nd P o_129 (lf P o_43) (lf P o_43)) (nd P o_43 (lf P o_229) (lf P o_297))))) (nd P o_45 (nd P o_58 (nd P o_74 (nd P o_43 (lf P o_44) (lf P o_44)) (nd P o_143 (lf P o_207) (lf P o_275))) (nd P o_93 (nd P o_125 (lf P o_43) (lf P o_43)) (nd P o_159 (lf P o_43) (lf P o_293)))) (nd P o_66 (nd P o_85 (nd P o_44 (lf P o_183) (lf P o_249)) (nd P o_151 (lf P o_217) (lf P o_285))) (nd P o_101 (nd P o_43 (lf P o_199) (lf P o_267)) (nd P o_43 (lf P o_60) n0)))))) (nd P o_49 (nd P W.boot_o_4 (nd P W.boot_o_8 (nd P o_44 (nd P o_69 (nd P o_104 (lf P o_43) (lf P o_236)) (nd P o_136 (lf P o_43) (lf P o_270))) (nd P o_88 (nd P o_120 (lf P o_186) (lf P o_252)) (nd P o_44 (lf P o_220) (lf P o_288)))) (nd P o_61 (nd P o_77 (nd P o_43 (lf P o_178) (lf P o_244)) (nd P o_43 (lf P o_44) (lf P o_60))) (nd P o_44 (nd P o_128 (lf P o_194) (lf P o_262)) (nd P o_162 (lf P o_43) (lf P o_296))))) (nd P o_278 (nd P o_57 (nd P o_73 (nd P o_108 (lf P o_43) (lf P o_43)) (nd P o_43 (lf P o_206) (lf P o_274))) (nd P o_92 (nd P o_44 (lf P o_190) (lf P o_258)) (nd P o_158 (lf P o_224) (lf P o_292)))) (nd P o_65 (nd P o_60 (nd P o_43 (lf P o_44) (lf P o_248)) (nd P o_150 (lf P o_216) (lf P o_284))) (nd P o_100 (nd P o_132 (lf P o_43) (lf P o_43)) (nd P o_166 (lf P o_43) n0))))) (nd P W.boot_o_6 (nd P W.boot_o_10 (nd P o_43 (nd P o_71 (nd P o_106 (lf P o_172) (lf P o_238)) (nd P o_44 (lf P o_204) (lf P o_272))) (nd P o_43 (nd P o_122 (lf P o_43) (lf P o_43)) (nd P o_43 (lf P o_222) (lf P o_290)))) (nd P o_63 (nd P o_79 (nd P o_114 (lf P o_180) (lf P o_246)) (nd P o_148 (lf P o_43) (lf P o_43))) (nd P o_43 (nd P o_43 (lf P o_44) (lf P o_44)) (nd P o_164 (lf P o_230) (lf P o_298))))) (nd P o_46 (nd P o_59 (nd P o_75 (nd P o_44 (lf P o_176) (lf P o_242)) (nd P o_144 (lf P o_208) (lf P o_276))) (nd P o_94 (nd P o_43 (lf P o_192) (lf P o_260)) (nd P o_43 (lf P o_44) (lf P o_294)))) (nd P o_43 (nd P o_43 (nd P o_118 (lf P o_43) (lf P o_250)) (nd P o_152 (lf P o_43) (lf P o_43))) (nd P o_43 (nd P o_134 (lf P o_200) (lf P o_268)) (nd P o_44 (lf P o_234) n0)))))))
noncomputable def tree_359 : Params → BT := fun P => (nd P W.boot_o_0 (nd P W.boot_o_1 (nd P o_300 (nd P W.boot_o_7 (nd P o_43 (nd P o_44 (nd P o_44 (nd P o_169 (lf P o_43) n0) (lf P o_43)) (nd P o_135 (nd P o_201 (lf P o_337) n0) (lf P o_269))) (nd P o_44 (nd P o_43 (nd P o_185 (lf P o_321) n0) (lf P o_251)) (nd P o_43 (nd P o_44 (lf P o_43) n0) (lf P o_44)))) (nd P o_60 (nd P o_82 (nd P o_111 (nd P o_43 (lf P o_313) n0) (lf P o_43)) (nd P o_145 (nd P o_43 (lf P o_43) n0) (lf P o_43))) (nd P o_43 (nd P o_127 (nd P o_193 (lf P o_329) n0) (lf P o_261)) (nd P o_44 (lf P o_227) (lf P o_295))))) (nd P o_43 (nd P o_56 (nd P o_72 (nd P o_107 (nd P o_173 (lf P o_43) n0) (lf P o_239)) (nd P o_141 (nd P o_43 (lf P o_43) n0) (lf P o_273))) (nd P o_91 (nd P o_43 (nd P o_44 (lf P o_325) n0) (lf P o_60)) (nd P o_157 (nd P o_223 (lf P o_357) n0) (lf P o_291)))) (nd P o_64 (nd P o_83 (nd P o_115 (nd P o_43 (lf P o_317) n0) (lf P o_247)) (nd P o_43 (nd P o_215 (lf P o_349) n0) (lf P o_283))) (nd P o_99 (nd P o_44 (nd P o_197 (lf P o_43) n0) (lf P o_265)) (nd P o_165 (lf P o_231) (lf P o_299)))))) (nd P W.boot_o_5 (nd P W.boot_o_9 (nd P o_54 (nd P o_43 (nd P o_43 (nd P o_171 (lf P o_307) n0) (lf P o_237)) (nd P o_43 (nd P o_44 (lf P o_44) n0) (lf P o_271))) (nd P o_89 (nd P o_121 (nd P o_187 (lf P o_43) n0) (lf P o_253)) (nd P o_155 (nd P o_43 (lf P o_355) n0) (lf P o_43)))) (nd P o_43 (nd P o_78 (nd P o_113 (nd P o_179 (lf P o_315) n0) (lf P o_245)) (nd P o_44 (nd P o_213 (lf P o_43) n0) (lf P o_281))) (nd P o_97 (nd P o_129 (nd P o_43 (lf P o_44) n0) (lf P o_43)) (nd P o_43 (lf P o_229) (lf P o_297))))) (nd P o_45 (nd P o_58 (nd P o_74 (nd P o_43 (nd P o_44 (lf P o_311) n0) (lf P o_44)) (nd P o_143 (nd P o_207 (lf P o_343) n0) (lf P o_275))) (nd P o_93 (nd P o_125 (nd P o_43 (lf P o_327) n0) (lf P o_43)) (nd P o_159 (nd P o_43 (lf P o_359) n0) (lf P o_293)))) (nd P o_66 (nd P o_85 (nd P o_44 (nd P o_183 (lf P o_319) n0) (lf P o_249)) (nd P o_151 (nd P o_217 (lf P o_351) n0) (lf P o_285))) (nd P o_101 (nd P o_43 (nd P o_199 (lf P o_335) n0) (lf P o_267)) (nd P o_43 (lf P o_60) (lf P o_60))))))) (nd P o_49 (nd P W.boot_o_4 (nd P W.boot_o_8 (nd P o_44 (nd P o_69 (nd P o_104 (nd P o_43 (lf P o_306) n0) (lf P o_236)) (nd P o_136 (nd P o_43 (lf P o_43) n0) (lf P o_270))) (nd P o_88 (nd P o_120 (nd P o_186 (lf P o_322) n0) (lf P o_252)) (nd P o_44 (nd P o_220 (lf P o_44) n0) (lf P o_288)))) (nd P o_61 (nd P o_77 (nd P o_43 (nd P o_178 (lf P o_314) n0) (lf P o_244)) (nd P o_43 (nd P o_44 (lf P o_44) n0) (lf P o_60))) (nd P o_44 (nd P o_128 (nd P o_194 (lf P o_43) n0) (lf P o_262)) (nd P o_162 (lf P o_43) (lf P o_296))))) (nd P o_301 (nd P o_57 (nd P o_73 (nd P o_108 (nd P o_43 (lf P o_44) n0) (lf P o_43)) (nd P o_43 (nd P o_206 (lf P o_342) n0) (lf P o_274))) (nd P o_92 (nd P o_44 (nd P o_190 (lf P o_43) n0) (lf P o_258)) (nd P o_158 (nd P o_224 (lf P o_358) n0) (lf P o_292)))) (nd P o_65 (nd P o_60 (nd P o_43 (nd P o_44 (lf P o_318) n0) (lf P o_248)) (nd P o_150 (nd P o_216 (lf P o_350) n0) (lf P o_284))) (nd P o_100 (nd P o_132 (nd P o_43 (lf P o_334) n0) (lf P o_43)) (nd P o_166 (lf P o_43) (lf P o_43)))))) (nd P W.boot_o_6 (nd P W.boot_o_10 (nd P o_43 (nd P o_71 (nd P o_106 (nd P o_172 (lf P o_308) n0) (lf P o_238)) (nd P o_44 (nd P o_204 (lf P o_340) n0) (lf P o_272))) (nd P o_43 (nd P o_122 (nd P o_43 (lf P o_44) n0) (lf P o_43)) (nd P o_43 (nd P o_222 (lf P o_43) n0) (lf P o_290)))) (nd P o_63 (nd P o_79 (nd P o_114 (nd P o_180 (lf P o_316) n0) (lf P o_246)) (nd P o_148 (nd P o_43 (lf P o_43) n0) (lf P o_43))) (nd P o_43 (nd P o_43 (nd P o_44 (lf P o_332) n0) (lf P o_44)) (nd P o_164 (lf P o_230) (lf P o_298))))) (nd P o_46 (nd P o_59 (nd P o_75 (nd P o_44 (nd P o_176 (lf P o_43) n0) (lf P o_242)) (nd P o_144 (nd P o_208 (lf P o_344) n0) (lf P o_276))) (nd P o_94 (nd P o_43 (nd P o_192 (lf P o_328) n0) (lf P o_260)) (nd P o_43 (lf P o_44) (lf P o_294)))) (nd P o_43 (nd P o_43 (nd P o_118 (nd P o_43 (lf P o_320) n0) (lf P o_250)) (nd P o_152 (nd P o_43 (lf P o_239) n0) (lf P o_43))) (nd P o_43 (nd P o_134 (nd P o_200 (lf P o_336) n0) (lf P o_268)) (nd P o_44 (lf P o_234) (lf P o_304))))))))
noncomputable def tree_405 : Params → BT := fun P => (nd P W.boot_o_0 (nd P W.boot_o_1 (nd P o_360 (nd P W.boot_o_7 (nd P o_43 (nd P o_44 (nd P o_44 (nd P o_169 (lf P o_43) n0) (nd P o_43 (lf P o_43) n0)) (nd P o_135 (nd P o_201 (lf P o_337) n0) (nd P o_269 (lf P o_403) n0))) (nd P o_44 (nd P o_43 (nd P o_185 (lf P o_321) n0) (nd P o_251 (lf P o_387) n0)) (nd P o_43 (nd P o_44 (lf P o_43) n0) (lf P o_44)))) (nd P o_60 (nd P o_82 (nd P o_111 (nd P o_43 (lf P o_313) n0) (nd P o_43 (lf P o_44) n0)) (nd P o_145 (nd P o_43 (lf P o_43) n0) (lf P o_43))) (nd P o_43 (nd P o_127 (nd P o_193 (lf P o_329) n0) (nd P o_261 (lf P o_43) n0)) (nd P o_44 (nd P o_227 (lf P o_43) n0) (lf P o_295))))) (nd P o_43 (nd P o_56 (nd P o_72 (nd P o_107 (nd P o_173 (lf P o_43) n0) (nd P o_239 (lf P o_375) n0)) (nd P o_141 (nd P o_43 (lf P o_43) n0) (lf P o_273))) (nd P o_91 (nd P o_43 (nd P o_44 (lf P o_325) n0) (nd P o_60 (lf P o_391) n0)) (nd P o_157 (nd P o_223 (lf P o_357) n0) (lf P o_291)))) (nd P o_64 (nd P o_83 (nd P o_115 (nd P o_43 (lf P o_317) n0) (nd P o_247 (lf P o_383) n0)) (nd P o_43 (nd P o_215 (lf P o_349) n0) (lf P o_283))) (nd P o_99 (nd P o_44 (nd P o_197 (lf P o_43) n0) (nd P o_265 (lf P o_43) n0)) (nd P o_165 (nd P o_231 (lf P o_367) n0) (lf P o_299)))))) (nd P W.boot_o_5 (nd P W.boot_o_9 (nd P o_54 (nd P o_43 (nd P o_43 (nd P o_171 (lf P o_307) n0) (nd P o_237 (lf P o_373) n0)) (nd P o_43 (nd P o_44 (lf P o_44) n0) (nd P o_271 (lf P o_405) n0))) (nd P o_89 (nd P o_121 (nd P o_187 (lf P o_43) n0) (nd P o_253 (lf P o_389) n0)) (nd P o_155 (nd P o_43 (lf P o_355) n0) (lf P o_43)))) (nd P o_43 (nd P o_78 (nd P o_113 (nd P o_179 (lf P o_315) n0) (nd P o_245 (lf P o_43) n0)) (nd P o_44 (nd P o_213 (lf P o_43) n0) (lf P o_281))) (nd P o_97 (nd P o_129 (nd P o_43 (lf P o_44) n0) (nd P o_43 (lf P o_397) n0)) (nd P o_43 (nd P o_229 (lf P o_365) n0) (lf P o_297))))) (nd P o_45 (nd P o_58 (nd P o_74 (nd P o_43 (nd P o_44 (lf P o_311) n0) (nd P o_44 (lf P o_377) n0)) (nd P o_143 (nd P o_207 (lf P o_343) n0) (lf P o_275))) (nd P o_93 (nd P o_125 (nd P o_43 (lf P o_327) n0) (nd P o_43 (lf P o_44) n0)) (nd P o_159 (nd P o_43 (lf P o_359) n0) (lf P o_293)))) (nd P o_66 (nd P o_85 (nd P o_44 (nd P o_183 (lf P o_319) n0) (nd P o_249 (lf P o_43) n0)) (nd P o_151 (nd P o_217 (lf P o_351) n0) (lf P o_285))) (nd P o_101 (nd P o_43 (nd P o_199 (lf P o_335) n0) (nd P o_267 (lf P o_401) n0)) (nd P o_43 (nd P o_60 (lf P o_369) n0) (lf P o_60))))))) (nd P o_49 (nd P W.boot_o_4 (nd P W.boot_o_8 (nd P o_44 (nd P o_69 (nd P o_104 (nd P o_43 (lf P o_306) n0) (nd P o_236 (lf P o_44) n0)) (nd P o_136 (nd P o_43 (lf P o_43) n0) (nd P o_270 (lf P o_404) n0))) (nd P o_88 (nd P o_120 (nd P o_186 (lf P o_322) n0) (nd P o_252 (lf P o_43) n0)) (nd P o_44 (nd P o_220 (lf P o_44) n0) (lf P o_288)))) (nd P o_61 (nd P o_77 (nd P o_43 (nd P o_178 (lf P o_314) n0) (nd P o_244 (lf P o_380) n0)) (nd P o_43 (nd P o_44 (lf P o_44) n0) (lf P o_60))) (nd P o_44 (nd P o_128 (nd P o_194 (lf P o_43) n0) (nd P o_262 (lf P o_396) n0)) (nd P o_162 (nd P o_43 (lf P o_44) n0) (lf P o_296))))) (nd P o_361 (nd P o_57 (nd P o_73 (nd P o_108 (nd P o_43 (lf P o_44) n0) (nd P o_43 (lf P o_376) n0)) (nd P o_43 (nd P o_206 (lf P o_342) n0) (lf P o_274))) (nd P o_92 (nd P o_44 (nd P o_190 (lf P o_43) n0) (nd P o_258 (lf P o_43) n0)) (nd P o_158 (nd P o_224 (lf P o_358) n0) (lf P o_292)))) (nd P o_65 (nd P o_60 (nd P o_43 (nd P o_44 (lf P o_318) n0) (nd P o_248 (lf P o_384) n0)) (nd P o_150 (nd P o_216 (lf P o_350) n0) (lf P o_284))) (nd P o_100 (nd P o_132 (nd P o_43 (lf P o_334) n0) (nd P o_43 (lf P o_44) n0)) (nd P o_166 (nd P o_43 (lf P o_368) n0) (lf P o_43)))))) (nd P W.boot_o_6 (nd P W.boot_o_10 (nd P o_43 (nd P o_71 (nd P o_106 (nd P o_172 (lf P o_308) n0) (nd P o_238 (lf P o_43) n0)) (nd P o_44 (nd P o_204 (lf P o_340) n0) (lf P o_272))) (nd P o_43 (nd P o_122 (nd P o_43 (lf P o_44) n0) (nd P o_43 (lf P o_390) n0)) (nd P o_43 (nd P o_222 (lf P o_43) n0) (lf P o_290)))) (nd P o_63 (nd P o_79 (nd P o_114 (nd P o_180 (lf P o_316) n0) (nd P o_246 (lf P o_382) n0)) (nd P o_148 (nd P o_43 (lf P o_43) n0) (lf P o_43))) (nd P o_43 (nd P o_43 (nd P o_44 (lf P o_332) n0) (nd P o_44 (lf P o_398) n0)) (nd P o_164 (nd P o_230 (lf P o_43) n0) (lf P o_298))))) (nd P o_46 (nd P o_59 (nd P o_75 (nd P o_44 (nd P o_176 (lf P o_43) n0) (nd P o_242 (lf P o_43) n0)) (nd P o_144 (nd P o_208 (lf P o_344) n0) (lf P o_276))) (nd P o_94 (nd P o_43 (nd P o_192 (lf P o_328) n0) (nd P o_260 (lf P o_394) n0)) (nd P o_43 (nd P o_44 (lf P o_239) n0) (lf P o_294)))) (nd P o_43 (nd P o_43 (nd P o_118 (nd P o_43 (lf P o_320) n0) (nd P o_250 (lf P o_44) n0)) (nd P o_152 (nd P o_43 (lf P o_239) n0) (lf P o_43))) (nd P o_43 (nd P o_134 (nd P o_200 (lf P o_336) n0) (nd P o_268 (lf P o_43) n0)) (nd P o_44 (nd P o_234 (lf P o_337) n0) (lf P o_304))))))))
noncomputable def tree_451 : Params → BT := fun P => (nd P W.boot_o_0 (nd P W.boot_o_1 (nd P o_406 (nd P W.boot_o_7 (nd P o_43 (nd P o_44 (nd P o_44 (nd P o_169 (lf P o_43) (lf P o_437)) (nd P o_43 (lf P o_43) n0)) (nd P o_135 (nd P o_201 (lf P o_337) n0) (nd P o_269 (lf P o_403) n0))) (nd P o_44 (nd P o_43 (nd P o_185 (lf P o_321) n0) (nd P o_251 (lf P o_387) n0)) (nd P o_43 (nd P o_44 (lf P o_43) n0) (nd P o_44 (lf P o_421) n0)))) (nd P o_60 (nd P o_82 (nd P o_111 (nd P o_43 (lf P o_313) (lf P o_445)) (nd P o_43 (lf P o_44) n0)) (nd P o_145 (nd P o_43 (lf P o_43) n0) (nd P o_43 (lf P o_413) n0))) (nd P o_43 (nd P o_127 (nd P o_193 (lf P o_329) n0) (nd P o_261 (lf P o_43) n0)) (nd P o_44 (nd P o_227 (lf P o_43) n0) (nd P o_295 (lf P o_429) n0))))) (nd P o_43 (nd P o_56 (nd P o_72 (nd P o_107 (nd P o_173 (lf P o_43) (lf P o_43)) (nd P o_239 (lf P o_375) n0)) (nd P o_141 (nd P o_43 (lf P o_43) n0) (nd P o_273 (lf P o_60) n0))) (nd P o_91 (nd P o_43 (nd P o_44 (lf P o_325) n0) (nd P o_60 (lf P o_391) n0)) (nd P o_157 (nd P o_223 (lf P o_357) n0) (nd P o_291 (lf P o_425) n0)))) (nd P o_64 (nd P o_83 (nd P o_115 (nd P o_43 (lf P o_317) (lf P o_449)) (nd P o_247 (lf P o_383) n0)) (nd P o_43 (nd P o_215 (lf P o_349) n0) (nd P o_283 (lf P o_44) n0))) (nd P o_99 (nd P o_44 (nd P o_197 (lf P o_43) n0) (nd P o_265 (lf P o_43) n0)) (nd P o_165 (nd P o_231 (lf P o_367) n0) (nd P o_299 (lf P o_433) n0)))))) (nd P W.boot_o_5 (nd P W.boot_o_9 (nd P o_54 (nd P o_43 (nd P o_43 (nd P o_171 (lf P o_307) (lf P o_44)) (nd P o_237 (lf P o_373) n0)) (nd P o_43 (nd P o_44 (lf P o_44) n0) (nd P o_271 (lf P o_405) n0))) (nd P o_89 (nd P o_121 (nd P o_187 (lf P o_43) n0) (nd P o_253 (lf P o_389) n0)) (nd P o_155 (nd P o_43 (lf P o_355) n0) (nd P o_43 (lf P o_43) n0)))) (nd P o_43 (nd P o_78 (nd P o_113 (nd P o_179 (lf P o_315) (lf P o_447)) (nd P o_245 (lf P o_43) n0)) (nd P o_44 (nd P o_213 (lf P o_43) n0) (nd P o_281 (lf P o_415) n0))) (nd P o_97 (nd P o_129 (nd P o_43 (lf P o_44) n0) (nd P o_43 (lf P o_397) n0)) (nd P o_43 (nd P o_229 (lf P o_365) n0) (nd P o_297 (lf P o_43) n0))))) (nd P o_45 (nd P o_58 (nd P o_74 (nd P o_43 (nd P o_44 (lf P o_311) (lf P o_443)) (nd P o_44 (lf P o_377) n0)) (nd P o_143 (nd P o_207 (lf P o_343) n0) (nd P o_275 (lf P o_43) n0))) (nd P o_93 (nd P o_125 (nd P o_43 (lf P o_327) n0) (nd P o_43 (lf P o_44) n0)) (nd P o_159 (nd P o_43 (lf P o_359) n0) (nd P o_293 (lf P o_427) n0)))) (nd P o_66 (nd P o_85 (nd P o_44 (nd P o_183 (lf P o_319) (lf P o_451)) (nd P o_249 (lf P o_43) n0)) (nd P o_151 (nd P o_217 (lf P o_351) n0) (nd P o_285 (lf P o_43) n0))) (nd P o_101 (nd P o_43 (nd P o_199 (lf P o_335) n0) (nd P o_267 (lf P o_401) n0)) (nd P o_43 (nd P o_60 (lf P o_369) n0) (nd P o_60 (lf P o_435) n0))))))) (nd P o_49 (nd P W.boot_o_4 (nd P W.boot_o_8 (nd P o_44 (nd P o_69 (nd P o_104 (nd P o_43 (lf P o_306) (lf P o_43)) (nd P o_236 (lf P o_44) n0)) (nd P o_136 (nd P o_43 (lf P o_43) n0) (nd P o_270 (lf P o_404) n0))) (nd P o_88 (nd P o_120 (nd P o_186 (lf P o_322) n0) (nd P o_252 (lf P o_43) n0)) (nd P o_44 (nd P o_220 (lf P o_44) n0) (nd P o_288 (lf P o_422) n0)))) (nd P o_61 (nd P o_77 (nd P o_43 (nd P o_178 (lf P o_314) (lf P o_446)) (nd P o_244 (lf P o_380) n0)) (nd P o_43 (nd P o_44 (lf P o_44) n0) (nd P o_60 (lf P o_414) n0))) (nd P o_44 (nd P o_128 (nd P o_194 (lf P o_43) n0) (nd P o_262 (lf P o_396) n0)) (nd P o_162 (nd P o_43 (lf P o_44) n0) (nd P o_296 (lf P o_430) n0))))) (nd P o_407 (nd P o_57 (nd P o_73 (nd P o_108 (nd P o_43 (lf P o_44) (lf P o_442)) (nd P o_43 (lf P o_376) n0)) (nd P o_43 (nd P o_206 (lf P o_342) n0) (nd P o_274 (lf P o_410) n0))) (nd P o_92 (nd P o_44 (nd P o_190 (lf P o_43) n0) (nd P o_258 (lf P o_43) n0)) (nd P o_158 (nd P o_224 (lf P o_358) n0) (nd P o_292 (lf P o_43) n0)))) (nd P o_65 (nd P o_60 (nd P o_43 (nd P o_44 (lf P o_318) (lf P o_450)) (nd P o_248 (lf P o_384) n0)) (nd P o_150 (nd P o_216 (lf P o_350) n0) (nd P o_284 (lf P o_418) n0))) (nd P o_100 (nd P o_132 (nd P o_43 (lf P o_334) n0) (nd P o_43 (lf P o_44) n0)) (nd P o_166 (nd P o_43 (lf P o_368) n0) (nd P o_43 (lf P o_43) n0)))))) (nd P W.boot_o_6 (nd P W.boot_o_10 (nd P o_43 (nd P o_71 (nd P o_106 (nd P o_172 (lf P o_308) (lf P o_440)) (nd P o_238 (lf P o_43) n0)) (nd P o_44 (nd P o_204 (lf P o_340) n0) (nd P o_272 (lf P o_43) n0))) (nd P o_43 (nd P o_122 (nd P o_43 (lf P o_44) n0) (nd P o_43 (lf P o_390) n0)) (nd P o_43 (nd P o_222 (lf P o_43) n0) (nd P o_290 (lf P o_44) n0)))) (nd P o_63 (nd P o_79 (nd P o_114 (nd P o_180 (lf P o_316) (lf P o_448)) (nd P o_246 (lf P o_382) n0)) (nd P o_148 (nd P o_43 (lf P o_43) n0) (nd P o_43 (lf P o_43) n0))) (nd P o_43 (nd P o_43 (nd P o_44 (lf P o_332) n0) (nd P o_44 (lf P o_398) n0)) (nd P o_164 (nd P o_230 (lf P o_43) n0) (nd P o_298 (lf P o_44) n0))))) (nd P o_46 (nd P o_59 (nd P o_75 (nd P o_44 (nd P o_176 (lf P o_43) (lf P o_444)) (nd P o_242 (lf P o_43) n0)) (nd P o_144 (nd P o_208 (lf P o_344) n0) (nd P o_276 (lf P o_412) n0))) (nd P o_94 (nd P o_43 (nd P o_192 (lf P o_328) n0) (nd P o_260 (lf P o_394) n0)) (nd P o_43 (nd P o_44 (lf P o_239) n0) (nd P o_294 (lf P o_428) n0)))) (nd P o_43 (nd P o_43 (nd P o_118 (nd P o_43 (lf P o_320) n0) (nd P o_250 (lf P o_44) n0)) (nd P o_152 (nd P o_43 (lf P o_239) n0) (nd P o_43 (lf P o_420) n0))) (nd P o_43 (nd P o_134 (nd P o_200 (lf P o_336) n0) (nd P o_268 (lf P o_43) n0)) (nd P o_44 (nd P o_234 (lf P o_337) n0) (nd P o_304 (lf P o_436) n0))))))))
noncomputable def tree_537 : Params → BT := fun P => (nd P W.boot_o_0 (nd P W.boot_o_1 (nd P o_452 (nd P W.boot_o_7 (nd P o_43 (nd P o_44 (nd P o_44 (nd P o_169 (lf P o_43) (lf P o_437)) (nd P o_43 (lf P o_43) (lf P o_43))) (nd P o_135 (nd P o_201 (lf P o_337) (lf P o_43)) (nd P o_269 (lf P o_403) (lf P o_535)))) (nd P o_44 (nd P o_43 (nd P o_185 (lf P o_321) (lf P o_44)) (nd P o_251 (lf P o_387) (lf P o_519))) (nd P o_43 (nd P o_44 (lf P o_43) (lf P o_487)) (nd P o_44 (lf P o_421) n0)))) (nd P o_60 (nd P o_82 (nd P o_111 (nd P o_43 (lf P o_313) (lf P o_445)) (nd P o_43 (lf P o_44) (lf P o_44))) (nd P o_145 (nd P o_43 (lf P o_43) (lf P o_479)) (nd P o_43 (lf P o_413) n0))) (nd P o_43 (nd P o_127 (nd P o_193 (lf P o_329) (lf P o_463)) (nd P o_261 (lf P o_43) (lf P o_43))) (nd P o_44 (nd P o_227 (lf P o_43) (lf P o_495)) (nd P o_295 (lf P o_429) n0))))) (nd P o_43 (nd P o_56 (nd P o_72 (nd P o_107 (nd P o_173 (lf P o_43) (lf P o_43)) (nd P o_239 (lf P o_375) (lf P o_507))) (nd P o_141 (nd P o_43 (lf P o_43) (lf P o_43)) (nd P o_273 (lf P o_60) n0))) (nd P o_91 (nd P o_43 (nd P o_44 (lf P o_325) (lf P o_459)) (nd P o_60 (lf P o_391) (lf P o_523))) (nd P o_157 (nd P o_223 (lf P o_357) (lf P o_491)) (nd P o_291 (lf P o_425) n0)))) (nd P o_64 (nd P o_83 (nd P o_115 (nd P o_43 (lf P o_317) (lf P o_449)) (nd P o_247 (lf P o_383) (lf P o_515))) (nd P o_43 (nd P o_215 (lf P o_349) (lf P o_44)) (nd P o_283 (lf P o_44) n0))) (nd P o_99 (nd P o_44 (nd P o_197 (lf P o_43) (lf P o_467)) (nd P o_265 (lf P o_43) (lf P o_43))) (nd P o_165 (nd P o_231 (lf P o_367) (lf P o_43)) (nd P o_299 (lf P o_433) n0)))))) (nd P W.boot_o_5 (nd P W.boot_o_9 (nd P o_54 (nd P o_43 (nd P o_43 (nd P o_171 (lf P o_307) (lf P o_44)) (nd P o_237 (lf P o_373) (lf P o_505))) (nd P o_43 (nd P o_44 (lf P o_44) (lf P o_473)) (nd P o_271 (lf P o_405) (lf P o_537)))) (nd P o_89 (nd P o_121 (nd P o_187 (lf P o_43) (lf P o_43)) (nd P o_253 (lf P o_389) (lf P o_521))) (nd P o_155 (nd P o_43 (lf P o_355) (lf P o_43)) (nd P o_43 (lf P o_43) n0)))) (nd P o_43 (nd P o_78 (nd P o_113 (nd P o_179 (lf P o_315) (lf P o_447)) (nd P o_245 (lf P o_43) (lf P o_43))) (nd P o_44 (nd P o_213 (lf P o_43) (lf P o_481)) (nd P o_281 (lf P o_415) n0))) (nd P o_97 (nd P o_129 (nd P o_43 (lf P o_44) (lf P o_465)) (nd P o_43 (lf P o_397) (lf P o_529))) (nd P o_43 (nd P o_229 (lf P o_365) (lf P o_44)) (nd P o_297 (lf P o_43) n0))))) (nd P o_45 (nd P o_58 (nd P o_74 (nd P o_43 (nd P o_44 (lf P o_311) (lf P o_443)) (nd P o_44 (lf P o_377) (lf P o_509))) (nd P o_143 (nd P o_207 (lf P o_343) (lf P o_477)) (nd P o_275 (lf P o_43) n0))) (nd P o_93 (nd P o_125 (nd P o_43 (lf P o_327) (lf P o_43)) (nd P o_43 (lf P o_44) (lf P o_44))) (nd P o_159 (nd P o_43 (lf P o_359) (lf P o_493)) (nd P o_293 (lf P o_427) n0)))) (nd P o_66 (nd P o_85 (nd P o_44 (nd P o_183 (lf P o_319) (lf P o_451)) (nd P o_249 (lf P o_43) (lf P o_43))) (nd P o_151 (nd P o_217 (lf P o_351) (lf P o_43)) (nd P o_285 (lf P o_43) n0))) (nd P o_101 (nd P o_43 (nd P o_199 (lf P o_335) (lf P o_44)) (nd P o_267 (lf P o_401) (lf P o_533))) (nd P o_43 (nd P o_60 (lf P o_369) (lf P o_501)) (nd P o_60 (lf P o_435) n0))))))) (nd P o_49 (nd P W.boot_o_4 (nd P W.boot_o_8 (nd P o_44 (nd P o_69 (nd P o_104 (nd P o_43 (lf P o_306) (lf P o_43)) (nd P o_236 (lf P o_44) (lf P o_44))) (nd P o_136 (nd P o_43 (lf P o_43) (lf P o_472)) (nd P o_270 (lf P o_404) (lf P o_536)))) (nd P o_88 (nd P o_120 (nd P o_186 (lf P o_322) (lf P o_456)) (nd P o_252 (lf P o_43) (lf P o_43))) (nd P o_44 (nd P o_220 (lf P o_44) (lf P o_488)) (nd P o_288 (lf P o_422) n0)))) (nd P o_61 (nd P o_77 (nd P o_43 (nd P o_178 (lf P o_314) (lf P o_446)) (nd P o_244 (lf P o_380) (lf P o_512))) (nd P o_43 (nd P o_44 (lf P o_44) (lf P o_480)) (nd P o_60 (lf P o_414) n0))) (nd P o_44 (nd P o_128 (nd P o_194 (lf P o_43) (lf P o_43)) (nd P o_262 (lf P o_396) (lf P o_528))) (nd P o_162 (nd P o_43 (lf P o_44) (lf P o_43)) (nd P o_296 (lf P o_430) n0))))) (nd P o_453 (nd P o_57 (nd P o_73 (nd P o_108 (nd P o_43 (lf P o_44) (lf P o_442)) (nd P o_43 (lf P o_376) (lf P o_508))) (nd P o_43 (nd P o_206 (lf P o_342) (lf P o_44)) (nd P o_274 (lf P o_410) n0))) (nd P o_92 (nd P o_44 (nd P o_190 (lf P o_43) (lf P o_460)) (nd P o_258 (lf P o_43) (lf P o_43))) (nd P o_158 (nd P o_224 (lf P o_358) (lf P o_43)) (nd P o_292 (lf P o_43) n0)))) (nd P o_65 (nd P o_60 (nd P o_43 (nd P o_44 (lf P o_318) (lf P o_450)) (nd P o_248 (lf P o_384) (lf P o_516))) (nd P o_150 (nd P o_216 (lf P o_350) (lf P o_484)) (nd P o_284 (lf P o_418) n0))) (nd P o_100 (nd P o_132 (nd P o_43 (lf P o_334) (lf P o_43)) (nd P o_43 (lf P o_44) (lf P o_44))) (nd P o_166 (nd P o_43 (lf P o_368) (lf P o_500)) (nd P o_43 (lf P o_43) n0)))))) (nd P W.boot_o_6 (nd P W.boot_o_10 (nd P o_43 (nd P o_71 (nd P o_106 (nd P o_172 (lf P o_308) (lf P o_440)) (nd P o_238 (lf P o_43) (lf P o_43))) (nd P o_44 (nd P o_204 (lf P o_340) (lf P o_474)) (nd P o_272 (lf P o_43) n0))) (nd P o_43 (nd P o_122 (nd P o_43 (lf P o_44) (lf P o_458)) (nd P o_43 (lf P o_390) (lf P o_522))) (nd P o_43 (nd P o_222 (lf P o_43) (lf P o_44)) (nd P o_290 (lf P o_44) n0)))) (nd P o_63 (nd P o_79 (nd P o_114 (nd P o_180 (lf P o_316) (lf P o_448)) (nd P o_246 (lf P o_382) (lf P o_514))) (nd P o_148 (nd P o_43 (lf P o_43) (lf P o_43)) (nd P o_43 (lf P o_43) n0))) (nd P o_43 (nd P o_43 (nd P o_44 (lf P o_332) (lf P o_466)) (nd P o_44 (lf P o_398) (lf P o_530))) (nd P o_164 (nd P o_230 (lf P o_43) (lf P o_498)) (nd P o_298 (lf P o_44) n0))))) (nd P o_46 (nd P o_59 (nd P o_75 (nd P o_44 (nd P o_176 (lf P o_43) (lf P o_444)) (nd P o_242 (lf P o_43) (lf P o_43))) (nd P o_144 (nd P o_208 (lf P o_344) (lf P o_43)) (nd P o_276 (lf P o_412) n0))) (nd P o_94 (nd P o_43 (nd P o_192 (lf P o_328) (lf P o_44)) (nd P o_260 (lf P o_394) (lf P o_526))) (nd P o_43 (nd P o_44 (lf P o_239) (lf P o_494)) (nd P o_294 (lf P o_428) n0)))) (nd P o_43 (nd P o_43 (nd P o_118 (nd P o_43 (lf P o_320) (lf P o_43)) (nd P o_250 (lf P o_44) (lf P o_44))) (nd P o_152 (nd P o_43 (lf P o_239) (lf P o_486)) (nd P o_43 (lf P o_420) n0))) (nd P o_43 (nd P o_134 (nd P o_200 (lf P o_336) (lf P o_470)) (nd P o_268 (lf P o_43) (lf P o_43))) (nd P o_44 (nd P o_234 (lf P o_337) (lf P o_502)) (nd P o_304 (lf P o_436) n0))))))))
noncomputable def tree_560 : Params → BT := fun P => (nd P W.boot_o_0 (nd P W.boot_o_1 (nd P o_538 (nd P W.boot_o_7 (nd P o_43 (nd P o_44 (nd P o_44 (nd P o_169 (lf P o_43) (lf P o_437)) (nd P o_43 (lf P o_43) (lf P o_43))) (nd P o_135 (nd P o_201 (lf P o_337) (lf P o_43)) (nd P o_269 (lf P o_403) (lf P o_535)))) (nd P o_44 (nd P o_43 (nd P o_185 (lf P o_321) (lf P o_44)) (nd P o_251 (lf P o_387) (lf P o_519))) (nd P o_43 (nd P o_44 (lf P o_43) (lf P o_487)) (nd P o_44 (lf P o_421) (lf P o_553))))) (nd P o_60 (nd P o_82 (nd P o_111 (nd P o_43 (lf P o_313) (lf P o_445)) (nd P o_43 (lf P o_44) (lf P o_44))) (nd P o_145 (nd P o_43 (lf P o_43) (lf P o_479)) (nd P o_43 (lf P o_413) (lf P o_545)))) (nd P o_43 (nd P o_127 (nd P o_193 (lf P o_329) (lf P o_463)) (nd P o_261 (lf P o_43) (lf P o_43))) (nd P o_44 (nd P o_227 (lf P o_43) (lf P o_495)) (nd P o_295 (lf P o_429) n0))))) (nd P o_43 (nd P o_56 (nd P o_72 (nd P o_107 (nd P o_173 (lf P o_43) (lf P o_43)) (nd P o_239 (lf P o_375) (lf P o_507))) (nd P o_141 (nd P o_43 (lf P o_43) (lf P o_43)) (nd P o_273 (lf P o_60) (lf P o_44)))) (nd P o_91 (nd P o_43 (nd P o_44 (lf P o_325) (lf P o_459)) (nd P o_60 (lf P o_391) (lf P o_523))) (nd P o_157 (nd P o_223 (lf P o_357) (lf P o_491)) (nd P o_291 (lf P o_425) (lf P o_43))))) (nd P o_64 (nd P o_83 (nd P o_115 (nd P o_43 (lf P o_317) (lf P o_449)) (nd P o_247 (lf P o_383) (lf P o_515))) (nd P o_43 (nd P o_215 (lf P o_349) (lf P o_44)) (nd P o_283 (lf P o_44) (lf P o_549)))) (nd P o_99 (nd P o_44 (nd P o_197 (lf P o_43) (lf P o_467)) (nd P o_265 (lf P o_43) (lf P o_43))) (nd P o_165 (nd P o_231 (lf P o_367) (lf P o_43)) (nd P o_299 (lf P o_433) n0)))))) (nd P W.boot_o_5 (nd P W.boot_o_9 (nd P o_54 (nd P o_43 (nd P o_43 (nd P o_171 (lf P o_307) (lf P o_44)) (nd P o_237 (lf P o_373) (lf P o_505))) (nd P o_43 (nd P o_44 (lf P o_44) (lf P o_473)) (nd P o_271 (lf P o_405) (lf P o_537)))) (nd P o_89 (nd P o_121 (nd P o_187 (lf P o_43) (lf P o_43)) (nd P o_253 (lf P o_389) (lf P o_521))) (nd P o_155 (nd P o_43 (lf P o_355) (lf P o_43)) (nd P o_43 (lf P o_43) (lf P o_44))))) (nd P o_43 (nd P o_78 (nd P o_113 (nd P o_179 (lf P o_315) (lf P o_447)) (nd P o_245 (lf P o_43) (lf P o_43))) (nd P o_44 (nd P o_213 (lf P o_43) (lf P o_481)) (nd P o_281 (lf P o_415) (lf P o_43)))) (nd P o_97 (nd P o_129 (nd P o_43 (lf P o_44) (lf P o_465)) (nd P o_43 (lf P o_397) (lf P o_529))) (nd P o_43 (nd P o_229 (lf P o_365) (lf P o_44)) (nd P o_297 (lf P o_43) n0))))) (nd P o_45 (nd P o_58 (nd P o_74 (nd P o_43 (nd P o_44 (lf P o_311) (lf P o_443)) (nd P o_44 (lf P o_377) (lf P o_509))) (nd P o_143 (nd P o_207 (lf P o_343) (lf P o_477)) (nd P o_275 (lf P o_43) (lf P o_43)))) (nd P o_93 (nd P o_125 (nd P o_43 (lf P o_327) (lf P o_43)) (nd P o_43 (lf P o_44) (lf P o_44))) (nd P o_159 (nd P o_43 (lf P o_359) (lf P o_493)) (nd P o_293 (lf P o_427) (lf P o_559))))) (nd P o_66 (nd P o_85 (nd P o_44 (nd P o_183 (lf P o_319) (lf P o_451)) (nd P o_249 (lf P o_43) (lf P o_43))) (nd P o_151 (nd P o_217 (lf P o_351) (lf P o_43)) (nd P o_285 (lf P o_43) (lf P o_551)))) (nd P o_101 (nd P o_43 (nd P o_199 (lf P o_335) (lf P o_44)) (nd P o_267 (lf P o_401) (lf P o_533))) (nd P o_43 (nd P o_60 (lf P o_369) (lf P o_501)) (nd P o_60 (lf P o_435) n0))))))) (nd P o_49 (nd P W.boot_o_4 (nd P W.boot_o_8 (nd P o_44 (nd P o_69 (nd P o_104 (nd P o_43 (lf P o_306) (lf P o_43)) (nd P o_236 (lf P o_44) (lf P o_44))) (nd P o_136 (nd P o_43 (lf P o_43) (lf P o_472)) (nd P o_270 (lf P o_404) (lf P o_536)))) (nd P o_88 (nd P o_120 (nd P o_186 (lf P o_322) (lf P o_456)) (nd P o_252 (lf P o_43) (lf P o_43))) (nd P o_44 (nd P o_220 (lf P o_44) (lf P o_488)) (nd P o_288 (lf P o_422) (lf P o_43))))) (nd P o_61 (nd P o_77 (nd P o_43 (nd P o_178 (lf P o_314) (lf P o_446)) (nd P o_244 (lf P o_380) (lf P o_512))) (nd P o_43 (nd P o_44 (lf P o_44) (lf P o_480)) (nd P o_60 (lf P o_414) (lf P o_546)))) (nd P o_44 (nd P o_128 (nd P o_194 (lf P o_43) (lf P o_43)) (nd P o_262 (lf P o_396) (lf P o_528))) (nd P o_162 (nd P o_43 (lf P o_44) (lf P o_43)) (nd P o_296 (lf P o_430) n0))))) (nd P o_539 (nd P o_57 (nd P o_73 (nd P o_108 (nd P o_43 (lf P o_44) (lf P o_442)) (nd P o_43 (lf P o_376) (lf P o_508))) (nd P o_43 (nd P o_206 (lf P o_342) (lf P o_44)) (nd P o_274 (lf P o_410) (lf P o_542)))) (nd P o_92 (nd P o_44 (nd P o_190 (lf P o_43) (lf P o_460)) (nd P o_258 (lf P o_43) (lf P o_43))) (nd P o_158 (nd P o_224 (lf P o_358) (lf P o_43)) (nd P o_292 (lf P o_43) (lf P o_558))))) (nd P o_65 (nd P o_60 (nd P o_43 (nd P o_44 (lf P o_318) (lf P o_450)) (nd P o_248 (lf P o_384) (lf P o_516))) (nd P o_150 (nd P o_216 (lf P o_350) (lf P o_484)) (nd P o_284 (lf P o_418) (lf P o_43)))) (nd P o_100 (nd P o_132 (nd P o_43 (lf P o_334) (lf P o_43)) (nd P o_43 (lf P o_44) (lf P o_44))) (nd P o_166 (nd P o_43 (lf P o_368) (lf P o_500)) (nd P o_43 (lf P o_43) n0)))))) (nd P W.boot_o_6 (nd P W.boot_o_10 (nd P o_43 (nd P o_71 (nd P o_106 (nd P o_172 (lf P o_308) (lf P o_440)) (nd P o_238 (lf P o_43) (lf P o_43))) (nd P o_44 (nd P o_204 (lf P o_340) (lf P o_474)) (nd P o_272 (lf P o_43) (lf P o_43)))) (nd P o_43 (nd P o_122 (nd P o_43 (lf P o_44) (lf P o_458)) (nd P o_43 (lf P o_390) (lf P o_522))) (nd P o_43 (nd P o_222 (lf P o_43) (lf P o_44)) (nd P o_290 (lf P o_44) (lf P o_556))))) (nd P o_63 (nd P o_79 (nd P o_114 (nd P o_180 (lf P o_316) (lf P o_448)) (nd P o_246 (lf P o_382) (lf P o_514))) (nd P o_148 (nd P o_43 (lf P o_43) (lf P o_43)) (nd P o_43 (lf P o_43) (lf P o_44)))) (nd P o_43 (nd P o_43 (nd P o_44 (lf P o_332) (lf P o_466)) (nd P o_44 (lf P o_398) (lf P o_530))) (nd P o_164 (nd P o_230 (lf P o_43) (lf P o_498)) (nd P o_298 (lf P o_44) n0))))) (nd P o_46 (nd P o_59 (nd P o_75 (nd P o_44 (nd P o_176 (lf P o_43) (lf P o_444)) (nd P o_242 (lf P o_43) (lf P o_43))) (nd P o_144 (nd P o_208 (lf P o_344) (lf P o_43)) (nd P o_276 (lf P o_412) (lf P o_544)))) (nd P o_94 (nd P o_43 (nd P o_192 (lf P o_328) (lf P o_44)) (nd P o_260 (lf P o_394) (lf P o_526))) (nd P o_43 (nd P o_44 (lf P o_239) (lf P o_494)) (nd P o_294 (lf P o_428) (lf P o_560))))) (nd P o_43 (nd P o_43 (nd P o_118 (nd P o_43 (lf P o_320) (lf P o_43)) (nd P o_250 (lf P o_44) (lf P o_44))) (nd P o_152 (nd P o_43 (lf P o_239) (lf P o_486)) (nd P o_43 (lf P o_420) (lf P o_552)))) (nd P o_43 (nd P o_134 (nd P o_200 (lf P o_336) (lf P o_470)) (nd P o_268 (lf P o_43) (lf P o_43))) (nd P o_44 (nd P o_234 (lf P o_337) (lf P o_502)) (nd P o_304 (lf P o_436) n0))))))))
noncomputable def tree_649 : Params → BT := fun P => (nd P W.boot_o_0 (nd P W.boot_o_1 (nd P o_561 (nd P W.boot_o_7 (nd P o_43 (nd P o_44 (nd P o_44 (nd P o_169 (nd P o_43 (lf P o_44) n0) (lf P o_437)) (nd P o_43 (nd P o_43 (lf P o_619) n0) (lf P o_43))) (nd P o_135 (nd P o_201 (nd P o_337 (lf P o_603) n0) (lf P o_43)) (nd P o_269 (lf P o_403) (lf P o_535)))) (nd P o_44 (nd P o_43 (nd P o_185 (nd P o_321 (lf P o_43) n0) (lf P o_44)) (nd P o_251 (lf P o_387) (lf P o_519))) (nd P o_43 (nd P o_44 (nd P o_43 (lf P o_619) n0) (lf P o_487)) (nd P o_44 (lf P o_421) (lf P o_553))))) (nd P o_60 (nd P o_82 (nd P o_111 (nd P o_43 (nd P o_313 (lf P o_579) n0) (lf P o_445)) (nd P o_43 (nd P o_44 (lf P o_643) n0) (lf P o_44))) (nd P o_145 (nd P o_43 (nd P o_43 (lf P o_611) n0) (lf P o_479)) (nd P o_43 (lf P o_413) (lf P o_545)))) (nd P o_43 (nd P o_127 (nd P o_193 (nd P o_329 (lf P o_595) n0) (lf P o_463)) (nd P o_261 (lf P o_43) (lf P o_43))) (nd P o_44 (nd P o_227 (nd P o_43 (lf P o_619) n0) (lf P o_495)) (nd P o_295 (lf P o_429) (lf P o_43)))))) (nd P o_43 (nd P o_56 (nd P o_72 (nd P o_107 (nd P o_173 (nd P o_43 (lf P o_575) n0) (lf P o_43)) (nd P o_239 (nd P o_375 (lf P o_43) n0) (lf P o_507))) (nd P o_141 (nd P o_43 (nd P o_43 (lf P o_607) n0) (lf P o_43)) (nd P o_273 (lf P o_60) (lf P o_44)))) (nd P o_91 (nd P o_43 (nd P o_44 (nd P o_325 (lf P o_43) n0) (lf P o_459)) (nd P o_60 (lf P o_391) (lf P o_523))) (nd P o_157 (nd P o_223 (nd P o_357 (lf P o_43) n0) (lf P o_491)) (nd P o_291 (lf P o_425) (lf P o_43))))) (nd P o_64 (nd P o_83 (nd P o_115 (nd P o_43 (nd P o_317 (lf P o_583) n0) (lf P o_449)) (nd P o_247 (nd P o_383 (lf P o_647) n0) (lf P o_515))) (nd P o_43 (nd P o_215 (nd P o_349 (lf P o_43) n0) (lf P o_44)) (nd P o_283 (lf P o_44) (lf P o_549)))) (nd P o_99 (nd P o_44 (nd P o_197 (nd P o_43 (lf P o_44) n0) (lf P o_467)) (nd P o_265 (lf P o_43) (lf P o_43))) (nd P o_165 (nd P o_231 (nd P o_367 (lf P o_43) n0) (lf P o_43)) (nd P o_299 (lf P o_433) (lf P o_567))))))) (nd P W.boot_o_5 (nd P W.boot_o_9 (nd P o_54 (nd P o_43 (nd P o_43 (nd P o_171 (nd P o_307 (lf P o_43) n0) (lf P o_44)) (nd P o_237 (nd P o_373 (lf P o_44) n0) (lf P o_505))) (nd P o_43 (nd P o_44 (nd P o_44 (lf P o_43) n0) (lf P o_473)) (nd P o_271 (lf P o_405) (lf P o_537)))) (nd P o_89 (nd P o_121 (nd P o_187 (nd P o_43 (lf P o_589) n0) (lf P o_43)) (nd P o_253 (lf P o_389) (lf P o_521))) (nd P o_155 (nd P o_43 (nd P o_355 (lf P o_44) n0) (lf P o_43)) (nd P o_43 (lf P o_43) (lf P o_44))))) (nd P o_43 (nd P o_78 (nd P o_113 (nd P o_179 (nd P o_315 (lf P o_581) n0) (lf P o_447)) (nd P o_245 (nd P o_43 (lf P o_645) n0) (lf P o_43))) (nd P o_44 (nd P o_213 (nd P o_43 (lf P o_44) n0) (lf P o_481)) (nd P o_281 (lf P o_415) (lf P o_43)))) (nd P o_97 (nd P o_129 (nd P o_43 (nd P o_44 (lf P o_597) n0) (lf P o_465)) (nd P o_43 (lf P o_397) (lf P o_529))) (nd P o_43 (nd P o_229 (nd P o_365 (lf P o_44) n0) (lf P o_44)) (nd P o_297 (lf P o_43) (lf P o_565)))))) (nd P o_45 (nd P o_58 (nd P o_74 (nd P o_43 (nd P o_44 (nd P o_311 (lf P o_43) n0) (lf P o_443)) (nd P o_44 (nd P o_377 (lf P o_641) n0) (lf P o_509))) (nd P o_143 (nd P o_207 (nd P o_343 (lf P o_609) n0) (lf P o_477)) (nd P o_275 (lf P o_43) (lf P o_43)))) (nd P o_93 (nd P o_125 (nd P o_43 (nd P o_327 (lf P o_593) n0) (lf P o_43)) (nd P o_43 (lf P o_44) (lf P o_44))) (nd P o_159 (nd P o_43 (nd P o_359 (lf P o_625) n0) (lf P o_493)) (nd P o_293 (lf P o_427) (lf P o_559))))) (nd P o_66 (nd P o_85 (nd P o_44 (nd P o_183 (nd P o_319 (lf P o_44) n0) (lf P o_451)) (nd P o_249 (nd P o_43 (lf P o_649) n0) (lf P o_43))) (nd P o_151 (nd P o_217 (nd P o_351 (lf P o_617) n0) (lf P o_43)) (nd P o_285 (lf P o_43) (lf P o_551)))) (nd P o_101 (nd P o_43 (nd P o_199 (nd P o_335 (lf P o_43) n0) (lf P o_44)) (nd P o_267 (lf P o_401) (lf P o_533))) (nd P o_43 (nd P o_60 (nd P o_369 (lf P o_633) n0) (lf P o_501)) (nd P o_60 (lf P o_435) (lf P o_569)))))))) (nd P o_49 (nd P W.boot_o_4 (nd P W.boot_o_8 (nd P o_44 (nd P o_69 (nd P o_104 (nd P o_43 (nd P o_306 (lf P o_572) n0) (lf P o_43)) (nd P o_236 (nd P o_44 (lf P o_43) n0) (lf P o_44))) (nd P o_136 (nd P o_43 (nd P o_43 (lf P o_604) n0) (lf P o_472)) (nd P o_270 (lf P o_404) (lf P o_536)))) (nd P o_88 (nd P o_120 (nd P o_186 (nd P o_322 (lf P o_588) n0) (lf P o_456)) (nd P o_252 (lf P o_43) (lf P o_43))) (nd P o_44 (nd P o_220 (nd P o_44 (lf P o_43) n0) (lf P o_488)) (nd P o_288 (lf P o_422) (lf P o_43))))) (nd P o_61 (nd P o_77 (nd P o_43 (nd P o_178 (nd P o_314 (lf P o_43) n0) (lf P o_446)) (nd P o_244 (nd P o_380 (lf P o_644) n0) (lf P o_512))) (nd P o_43 (nd P o_44 (nd P o_44 (lf P o_43) n0) (lf P o_480)) (nd P o_60 (lf P o_414) (lf P o_546)))) (nd P o_44 (nd P o_128 (nd P o_194 (nd P o_43 (lf P o_596) n0) (lf P o_43)) (nd P o_262 (lf P o_396) (lf P o_528))) (nd P o_162 (nd P o_43 (nd P o_44 (lf P o_43) n0) (lf P o_43)) (nd P o_296 (lf P o_430) (lf P o_60)))))) (nd P o_562 (nd P o_57 (nd P o_73 (nd P o_108 (nd P o_43 (nd P o_44 (lf P o_576) n0) (lf P o_442)) (nd P o_43 (nd P o_376 (lf P o_640) n0) (lf P o_508))) (nd P o_43 (nd P o_206 (nd P o_342 (lf P o_43) n0) (lf P o_44)) (nd P o_274 (lf P o_410) (lf P o_542)))) (nd P o_92 (nd P o_44 (nd P o_190 (nd P o_43 (lf P o_44) n0) (lf P o_460)) (nd P o_258 (lf P o_43) (lf P o_43))) (nd P o_158 (nd P o_224 (nd P o_358 (lf P o_624) n0) (lf P o_43)) (nd P o_292 (lf P o_43) (lf P o_558))))) (nd P o_65 (nd P o_60 (nd P o_43 (nd P o_44 (nd P o_318 (lf P o_43) n0) (lf P o_450)) (nd P o_248 (nd P o_384 (lf P o_648) n0) (lf P o_516))) (nd P o_150 (nd P o_216 (nd P o_350 (lf P o_616) n0) (lf P o_484)) (nd P o_284 (lf P o_418) (lf P o_43)))) (nd P o_100 (nd P o_132 (nd P o_43 (nd P o_334 (lf P o_600) n0) (lf P o_43)) (nd P o_43 (lf P o_44) (lf P o_44))) (nd P o_166 (nd P o_43 (nd P o_368 (lf P o_632) n0) (lf P o_500)) (nd P o_43 (lf P o_43) (lf P o_568))))))) (nd P W.boot_o_6 (nd P W.boot_o_10 (nd P o_43 (nd P o_71 (nd P o_106 (nd P o_172 (nd P o_308 (lf P o_574) n0) (lf P o_440)) (nd P o_238 (nd P o_43 (lf P o_638) n0) (lf P o_43))) (nd P o_44 (nd P o_204 (nd P o_340 (lf P o_44) n0) (lf P o_474)) (nd P o_272 (lf P o_43) (lf P o_43)))) (nd P o_43 (nd P o_122 (nd P o_43 (nd P o_44 (lf P o_590) n0) (lf P o_458)) (nd P o_43 (lf P o_390) (lf P o_522))) (nd P o_43 (nd P o_222 (nd P o_43 (lf P o_622) n0) (lf P o_44)) (nd P o_290 (lf P o_44) (lf P o_556))))) (nd P o_63 (nd P o_79 (nd P o_114 (nd P o_180 (nd P o_316 (lf P o_582) n0) (lf P o_448)) (nd P o_246 (nd P o_382 (lf P o_646) n0) (lf P o_514))) (nd P o_148 (nd P o_43 (nd P o_43 (lf P o_614) n0) (lf P o_43)) (nd P o_43 (lf P o_43) (lf P o_44)))) (nd P o_43 (nd P o_43 (nd P o_44 (nd P o_332 (lf P o_43) n0) (lf P o_466)) (nd P o_44 (lf P o_398) (lf P o_530))) (nd P o_164 (nd P o_230 (nd P o_43 (lf P o_630) n0) (lf P o_498)) (nd P o_298 (lf P o_44) (lf P o_43)))))) (nd P o_46 (nd P o_59 (nd P o_75 (nd P o_44 (nd P o_176 (nd P o_43 (lf P o_44) n0) (lf P o_444)) (nd P o_242 (nd P o_43 (lf P o_642) n0) (lf P o_43))) (nd P o_144 (nd P o_208 (nd P o_344 (lf P o_610) n0) (lf P o_43)) (nd P o_276 (lf P o_412) (lf P o_544)))) (nd P o_94 (nd P o_43 (nd P o_192 (nd P o_328 (lf P o_43) n0) (lf P o_44)) (nd P o_260 (lf P o_394) (lf P o_526))) (nd P o_43 (nd P o_44 (nd P o_239 (lf P o_626) n0) (lf P o_494)) (nd P o_294 (lf P o_428) (lf P o_560))))) (nd P o_43 (nd P o_43 (nd P o_118 (nd P o_43 (nd P o_320 (lf P o_586) n0) (lf P o_43)) (nd P o_250 (lf P o_44) (lf P o_44))) (nd P o_152 (nd P o_43 (nd P o_239 (lf P o_618) n0) (lf P o_486)) (nd P o_43 (lf P o_420) (lf P o_552)))) (nd P o_43 (nd P o_134 (nd P o_200 (nd P o_336 (lf P o_602) n0) (lf P o_470)) (nd P o_268 (lf P o_43) (lf P o_43))) (nd P o_44 (nd P o_234 (nd P o_337 (lf P o_634) n0) (lf P o_502)) (nd P o_304 (lf P o_436) (lf P o_43)))))))))
noncomputable def tree_673 : Params → BT := fun P => (nd P W.boot_o_0 (nd P W.boot_o_1 (nd P o_650 (nd P W.boot_o_7 (nd P o_43 (nd P o_44 (nd P o_44 (nd P o_169 (nd P o_43 (lf P o_44) n0) (lf P o_437)) (nd P o_43 (nd P o_43 (lf P o_619) n0) (lf P o_43))) (nd P o_135 (nd P o_201 (nd P o_337 (lf P o_603) n0) (lf P o_43)) (nd P o_269 (nd P o_403 (lf P o_669) n0) (lf P o_535)))) (nd P o_44 (nd P o_43 (nd P o_185 (nd P o_321 (lf P o_43) n0) (lf P o_44)) (nd P o_251 (nd P o_387 (lf P o_60) n0) (lf P o_519))) (nd P o_43 (nd P o_44 (nd P o_43 (lf P o_619) n0) (lf P o_487)) (nd P o_44 (lf P o_421) (lf P o_553))))) (nd P o_60 (nd P o_82 (nd P o_111 (nd P o_43 (nd P o_313 (lf P o_579) n0) (lf P o_445)) (nd P o_43 (nd P o_44 (lf P o_643) n0) (lf P o_44))) (nd P o_145 (nd P o_43 (nd P o_43 (lf P o_611) n0) (lf P o_479)) (nd P o_43 (lf P o_413) (lf P o_545)))) (nd P o_43 (nd P o_127 (nd P o_193 (nd P o_329 (lf P o_595) n0) (lf P o_463)) (nd P o_261 (nd P o_43 (lf P o_44) n0) (lf P o_43))) (nd P o_44 (nd P o_227 (nd P o_43 (lf P o_619) n0) (lf P o_495)) (nd P o_295 (lf P o_429) (lf P o_43)))))) (nd P o_43 (nd P o_56 (nd P o_72 (nd P o_107 (nd P o_173 (nd P o_43 (lf P o_575) n0) (lf P o_43)) (nd P o_239 (nd P o_375 (lf P o_43) n0) (lf P o_507))) (nd P o_141 (nd P o_43 (nd P o_43 (lf P o_607) n0) (lf P o_43)) (nd P o_273 (nd P o_60 (lf P o_673) n0) (lf P o_44)))) (nd P o_91 (nd P o_43 (nd P o_44 (nd P o_325 (lf P o_43) n0) (lf P o_459)) (nd P o_60 (nd P o_391 (lf P o_657) n0) (lf P o_523))) (nd P o_157 (nd P o_223 (nd P o_357 (lf P o_43) n0) (lf P o_491)) (nd P o_291 (lf P o_425) (lf P o_43))))) (nd P o_64 (nd P o_83 (nd P o_115 (nd P o_43 (nd P o_317 (lf P o_583) n0) (lf P o_449)) (nd P o_247 (nd P o_383 (lf P o_647) n0) (lf P o_515))) (nd P o_43 (nd P o_215 (nd P o_349 (lf P o_43) n0) (lf P o_44)) (nd P o_283 (lf P o_44) (lf P o_549)))) (nd P o_99 (nd P o_44 (nd P o_197 (nd P o_43 (lf P o_44) n0) (lf P o_467)) (nd P o_265 (nd P o_43 (lf P o_665) n0) (lf P o_43))) (nd P o_165 (nd P o_231 (nd P o_367 (lf P o_43) n0) (lf P o_43)) (nd P o_299 (lf P o_433) (lf P o_567))))))) (nd P W.boot_o_5 (nd P W.boot_o_9 (nd P o_54 (nd P o_43 (nd P o_43 (nd P o_171 (nd P o_307 (lf P o_43) n0) (lf P o_44)) (nd P o_237 (nd P o_373 (lf P o_44) n0) (lf P o_505))) (nd P o_43 (nd P o_44 (nd P o_44 (lf P o_43) n0) (lf P o_473)) (nd P o_271 (nd P o_405 (lf P o_671) n0) (lf P o_537)))) (nd P o_89 (nd P o_121 (nd P o_187 (nd P o_43 (lf P o_589) n0) (lf P o_43)) (nd P o_253 (nd P o_389 (lf P o_43) n0) (lf P o_521))) (nd P o_155 (nd P o_43 (nd P o_355 (lf P o_44) n0) (lf P o_43)) (nd P o_43 (lf P o_43) (lf P o_44))))) (nd P o_43 (nd P o_78 (nd P o_113 (nd P o_179 (nd P o_315 (lf P o_581) n0) (lf P o_447)) (nd P o_245 (nd P o_43 (lf P o_645) n0) (lf P o_43))) (nd P o_44 (nd P o_213 (nd P o_43 (lf P o_44) n0) (lf P o_481)) (nd P o_281 (lf P o_415) (lf P o_43)))) (nd P o_97 (nd P o_129 (nd P o_43 (nd P o_44 (lf P o_597) n0) (lf P o_465)) (nd P o_43 (nd P o_397 (lf P o_43) n0) (lf P o_529))) (nd P o_43 (nd P o_229 (nd P o_365 (lf P o_44) n0) (lf P o_44)) (nd P o_297 (lf P o_43) (lf P o_565)))))) (nd P o_45 (nd P o_58 (nd P o_74 (nd P o_43 (nd P o_44 (nd P o_311 (lf P o_43) n0) (lf P o_443)) (nd P o_44 (nd P o_377 (lf P o_641) n0) (lf P o_509))) (nd P o_143 (nd P o_207 (nd P o_343 (lf P o_609) n0) (lf P o_477)) (nd P o_275 (lf P o_43) (lf P o_43)))) (nd P o_93 (nd P o_125 (nd P o_43 (nd P o_327 (lf P o_593) n0) (lf P o_43)) (nd P o_43 (nd P o_44 (lf P o_659) n0) (lf P o_44))) (nd P o_159 (nd P o_43 (nd P o_359 (lf P o_625) n0) (lf P o_493)) (nd P o_293 (lf P o_427) (lf P o_559))))) (nd P o_66 (nd P o_85 (nd P o_44 (nd P o_183 (nd P o_319 (lf P o_44) n0) (lf P o_451)) (nd P o_249 (nd P o_43 (lf P o_649) n0) (lf P o_43))) (nd P o_151 (nd P o_217 (nd P o_351 (lf P o_617) n0) (lf P o_43)) (nd P o_285 (lf P o_43) (lf P o_551)))) (nd P o_101 (nd P o_43 (nd P o_199 (nd P o_335 (lf P o_43) n0) (lf P o_44)) (nd P o_267 (nd P o_401 (lf P o_667) n0) (lf P o_533))) (nd P o_43 (nd P o_60 (nd P o_369 (lf P o_633) n0) (lf P o_501)) (nd P o_60 (lf P o_435) (lf P o_569)))))))) (nd P o_49 (nd P W.boot_o_4 (nd P W.boot_o_8 (nd P o_44 (nd P o_69 (nd P o_104 (nd P o_43 (nd P o_306 (lf P o_572) n0) (lf P o_43)) (nd P o_236 (nd P o_44 (lf P o_43) n0) (lf P o_44))) (nd P o_136 (nd P o_43 (nd P o_43 (lf P o_604) n0) (lf P o_472)) (nd P o_270 (nd P o_404 (lf P o_670) n0) (lf P o_536)))) (nd P o_88 (nd P o_120 (nd P o_186 (nd P o_322 (lf P o_588) n0) (lf P o_456)) (nd P o_252 (nd P o_43 (lf P o_654) n0) (lf P o_43))) (nd P o_44 (nd P o_220 (nd P o_44 (lf P o_43) n0) (lf P o_488)) (nd P o_288 (lf P o_422) (lf P o_43))))) (nd P o_61 (nd P o_77 (nd P o_43 (nd P o_178 (nd P o_314 (lf P o_43) n0) (lf P o_446)) (nd P o_244 (nd P o_380 (lf P o_644) n0) (lf P o_512))) (nd P o_43 (nd P o_44 (nd P o_44 (lf P o_43) n0) (lf P o_480)) (nd P o_60 (lf P o_414) (lf P o_546)))) (nd P o_44 (nd P o_128 (nd P o_194 (nd P o_43 (lf P o_596) n0) (lf P o_43)) (nd P o_262 (nd P o_396 (lf P o_662) n0) (lf P o_528))) (nd P o_162 (nd P o_43 (nd P o_44 (lf P o_43) n0) (lf P o_43)) (nd P o_296 (lf P o_430) (lf P o_60)))))) (nd P o_651 (nd P o_57 (nd P o_73 (nd P o_108 (nd P o_43 (nd P o_44 (lf P o_576) n0) (lf P o_442)) (nd P o_43 (nd P o_376 (lf P o_640) n0) (lf P o_508))) (nd P o_43 (nd P o_206 (nd P o_342 (lf P o_43) n0) (lf P o_44)) (nd P o_274 (lf P o_410) (lf P o_542)))) (nd P o_92 (nd P o_44 (nd P o_190 (nd P o_43 (lf P o_44) n0) (lf P o_460)) (nd P o_258 (nd P o_43 (lf P o_658) n0) (lf P o_43))) (nd P o_158 (nd P o_224 (nd P o_358 (lf P o_624) n0) (lf P o_43)) (nd P o_292 (lf P o_43) (lf P o_558))))) (nd P o_65 (nd P o_60 (nd P o_43 (nd P o_44 (nd P o_318 (lf P o_43) n0) (lf P o_450)) (nd P o_248 (nd P o_384 (lf P o_648) n0) (lf P o_516))) (nd P o_150 (nd P o_216 (nd P o_350 (lf P o_616) n0) (lf P o_484)) (nd P o_284 (lf P o_418) (lf P o_43)))) (nd P o_100 (nd P o_132 (nd P o_43 (nd P o_334 (lf P o_600) n0) (lf P o_43)) (nd P o_43 (nd P o_44 (lf P o_666) n0) (lf P o_44))) (nd P o_166 (nd P o_43 (nd P o_368 (lf P o_632) n0) (lf P o_500)) (nd P o_43 (lf P o_43) (lf P o_568))))))) (nd P W.boot_o_6 (nd P W.boot_o_10 (nd P o_43 (nd P o_71 (nd P o_106 (nd P o_172 (nd P o_308 (lf P o_574) n0) (lf P o_440)) (nd P o_238 (nd P o_43 (lf P o_638) n0) (lf P o_43))) (nd P o_44 (nd P o_204 (nd P o_340 (lf P o_44) n0) (lf P o_474)) (nd P o_272 (nd P o_43 (lf P o_672) n0) (lf P o_43)))) (nd P o_43 (nd P o_122 (nd P o_43 (nd P o_44 (lf P o_590) n0) (lf P o_458)) (nd P o_43 (nd P o_390 (lf P o_656) n0) (lf P o_522))) (nd P o_43 (nd P o_222 (nd P o_43 (lf P o_622) n0) (lf P o_44)) (nd P o_290 (lf P o_44) (lf P o_556))))) (nd P o_63 (nd P o_79 (nd P o_114 (nd P o_180 (nd P o_316 (lf P o_582) n0) (lf P o_448)) (nd P o_246 (nd P o_382 (lf P o_646) n0) (lf P o_514))) (nd P o_148 (nd P o_43 (nd P o_43 (lf P o_614) n0) (lf P o_43)) (nd P o_43 (lf P o_43) (lf P o_44)))) (nd P o_43 (nd P o_43 (nd P o_44 (nd P o_332 (lf P o_43) n0) (lf P o_466)) (nd P o_44 (nd P o_398 (lf P o_664) n0) (lf P o_530))) (nd P o_164 (nd P o_230 (nd P o_43 (lf P o_630) n0) (lf P o_498)) (nd P o_298 (lf P o_44) (lf P o_43)))))) (nd P o_46 (nd P o_59 (nd P o_75 (nd P o_44 (nd P o_176 (nd P o_43 (lf P o_44) n0) (lf P o_444)) (nd P o_242 (nd P o_43 (lf P o_642) n0) (lf P o_43))) (nd P o_144 (nd P o_208 (nd P o_344 (lf P o_610) n0) (lf P o_43)) (nd P o_276 (lf P o_412) (lf P o_544)))) (nd P o_94 (nd P o_43 (nd P o_192 (nd P o_328 (lf P o_43) n0) (lf P o_44)) (nd P o_260 (nd P o_394 (lf P o_43) n0) (lf P o_526))) (nd P o_43 (nd P o_44 (nd P o_239 (lf P o_626) n0) (lf P o_494)) (nd P o_294 (lf P o_428) (lf P o_560))))) (nd P o_43 (nd P o_43 (nd P o_118 (nd P o_43 (nd P o_320 (lf P o_586) n0) (lf P o_43)) (nd P o_250 (nd P o_44 (lf P o_43) n0) (lf P o_44))) (nd P o_152 (nd P o_43 (nd P o_239 (lf P o_618) n0) (lf P o_486)) (nd P o_43 (lf P o_420) (lf P o_552)))) (nd P o_43 (nd P o_134 (nd P o_200 (nd P o_336 (lf P o_602) n0) (lf P o_470)) (nd P o_268 (nd P o_43 (lf P o_668) n0) (lf P o_43))) (nd P o_44 (nd P o_234 (nd P o_337 (lf P o_634) n0) (lf P o_502)) (nd P o_304 (lf P o_436) (lf P o_43)))))))))
noncomputable def tree_696 : Params → BT := fun P => (nd P W.boot_o_0 (nd P W.boot_o_1 (nd P o_674 (nd P W.boot_o_7 (nd P o_43 (nd P o_44 (nd P o_44 (nd P o_169 (nd P o_43 (lf P o_44) n0) (lf P o_437)) (nd P o_43 (nd P o_43 (lf P o_619) n0) (lf P o_43))) (nd P o_135 (nd P o_201 (nd P o_337 (lf P o_603) n0) (lf P o_43)) (nd P o_269 (nd P o_403 (lf P o_669) n0) (lf P o_535)))) (nd P o_44 (nd P o_43 (nd P o_185 (nd P o_321 (lf P o_43) n0) (lf P o_44)) (nd P o_251 (nd P o_387 (lf P o_60) n0) (lf P o_519))) (nd P o_43 (nd P o_44 (nd P o_43 (lf P o_619) n0) (lf P o_487)) (nd P o_44 (nd P o_421 (lf P o_687) n0) (lf P o_553))))) (nd P o_60 (nd P o_82 (nd P o_111 (nd P o_43 (nd P o_313 (lf P o_579) n0) (lf P o_445)) (nd P o_43 (nd P o_44 (lf P o_643) n0) (lf P o_44))) (nd P o_145 (nd P o_43 (nd P o_43 (lf P o_611) n0) (lf P o_479)) (nd P o_43 (nd P o_413 (lf P o_43) n0) (lf P o_545)))) (nd P o_43 (nd P o_127 (nd P o_193 (nd P o_329 (lf P o_595) n0) (lf P o_463)) (nd P o_261 (nd P o_43 (lf P o_44) n0) (lf P o_43))) (nd P o_44 (nd P o_227 (nd P o_43 (lf P o_619) n0) (lf P o_495)) (nd P o_295 (nd P o_429 (lf P o_695) n0) (lf P o_43)))))) (nd P o_43 (nd P o_56 (nd P o_72 (nd P o_107 (nd P o_173 (nd P o_43 (lf P o_575) n0) (lf P o_43)) (nd P o_239 (nd P o_375 (lf P o_43) n0) (lf P o_507))) (nd P o_141 (nd P o_43 (nd P o_43 (lf P o_607) n0) (lf P o_43)) (nd P o_273 (nd P o_60 (lf P o_673) n0) (lf P o_44)))) (nd P o_91 (nd P o_43 (nd P o_44 (nd P o_325 (lf P o_43) n0) (lf P o_459)) (nd P o_60 (nd P o_391 (lf P o_657) n0) (lf P o_523))) (nd P o_157 (nd P o_223 (nd P o_357 (lf P o_43) n0) (lf P o_491)) (nd P o_291 (nd P o_425 (lf P o_691) n0) (lf P o_43))))) (nd P o_64 (nd P o_83 (nd P o_115 (nd P o_43 (nd P o_317 (lf P o_583) n0) (lf P o_449)) (nd P o_247 (nd P o_383 (lf P o_647) n0) (lf P o_515))) (nd P o_43 (nd P o_215 (nd P o_349 (lf P o_43) n0) (lf P o_44)) (nd P o_283 (nd P o_44 (lf P o_43) n0) (lf P o_549)))) (nd P o_99 (nd P o_44 (nd P o_197 (nd P o_43 (lf P o_44) n0) (lf P o_467)) (nd P o_265 (nd P o_43 (lf P o_665) n0) (lf P o_43))) (nd P o_165 (nd P o_231 (nd P o_367 (lf P o_43) n0) (lf P o_43)) (nd P o_299 (lf P o_433) (lf P o_567))))))) (nd P W.boot_o_5 (nd P W.boot_o_9 (nd P o_54 (nd P o_43 (nd P o_43 (nd P o_171 (nd P o_307 (lf P o_43) n0) (lf P o_44)) (nd P o_237 (nd P o_373 (lf P o_44) n0) (lf P o_505))) (nd P o_43 (nd P o_44 (nd P o_44 (lf P o_43) n0) (lf P o_473)) (nd P o_271 (nd P o_405 (lf P o_671) n0) (lf P o_537)))) (nd P o_89 (nd P o_121 (nd P o_187 (nd P o_43 (lf P o_589) n0) (lf P o_43)) (nd P o_253 (nd P o_389 (lf P o_43) n0) (lf P o_521))) (nd P o_155 (nd P o_43 (nd P o_355 (lf P o_44) n0) (lf P o_43)) (nd P o_43 (nd P o_43 (lf P o_689) n0) (lf P o_44))))) (nd P o_43 (nd P o_78 (nd P o_113 (nd P o_179 (nd P o_315 (lf P o_581) n0) (lf P o_447)) (nd P o_245 (nd P o_43 (lf P o_645) n0) (lf P o_43))) (nd P o_44 (nd P o_213 (nd P o_43 (lf P o_44) n0) (lf P o_481)) (nd P o_281 (nd P o_415 (lf P o_681) n0) (lf P o_43)))) (nd P o_97 (nd P o_129 (nd P o_43 (nd P o_44 (lf P o_597) n0) (lf P o_465)) (nd P o_43 (nd P o_397 (lf P o_43) n0) (lf P o_529))) (nd P o_43 (nd P o_229 (nd P o_365 (lf P o_44) n0) (lf P o_44)) (nd P o_297 (lf P o_43) (lf P o_565)))))) (nd P o_45 (nd P o_58 (nd P o_74 (nd P o_43 (nd P o_44 (nd P o_311 (lf P o_43) n0) (lf P o_443)) (nd P o_44 (nd P o_377 (lf P o_641) n0) (lf P o_509))) (nd P o_143 (nd P o_207 (nd P o_343 (lf P o_609) n0) (lf P o_477)) (nd P o_275 (nd P o_43 (lf P o_60) n0) (lf P o_43)))) (nd P o_93 (nd P o_125 (nd P o_43 (nd P o_327 (lf P o_593) n0) (lf P o_43)) (nd P o_43 (nd P o_44 (lf P o_659) n0) (lf P o_44))) (nd P o_159 (nd P o_43 (nd P o_359 (lf P o_625) n0) (lf P o_493)) (nd P o_293 (nd P o_427 (lf P o_693) n0) (lf P o_559))))) (nd P o_66 (nd P o_85 (nd P o_44 (nd P o_183 (nd P o_319 (lf P o_44) n0) (lf P o_451)) (nd P o_249 (nd P o_43 (lf P o_649) n0) (lf P o_43))) (nd P o_151 (nd P o_217 (nd P o_351 (lf P o_617) n0) (lf P o_43)) (nd P o_285 (nd P o_43 (lf P o_685) n0) (lf P o_551)))) (nd P o_101 (nd P o_43 (nd P o_199 (nd P o_335 (lf P o_43) n0) (lf P o_44)) (nd P o_267 (nd P o_401 (lf P o_667) n0) (lf P o_533))) (nd P o_43 (nd P o_60 (nd P o_369 (lf P o_633) n0) (lf P o_501)) (nd P o_60 (lf P o_435) (lf P o_569)))))))) (nd P o_49 (nd P W.boot_o_4 (nd P W.boot_o_8 (nd P o_44 (nd P o_69 (nd P o_104 (nd P o_43 (nd P o_306 (lf P o_572) n0) (lf P o_43)) (nd P o_236 (nd P o_44 (lf P o_43) n0) (lf P o_44))) (nd P o_136 (nd P o_43 (nd P o_43 (lf P o_604) n0) (lf P o_472)) (nd P o_270 (nd P o_404 (lf P o_670) n0) (lf P o_536)))) (nd P o_88 (nd P o_120 (nd P o_186 (nd P o_322 (lf P o_588) n0) (lf P o_456)) (nd P o_252 (nd P o_43 (lf P o_654) n0) (lf P o_43))) (nd P o_44 (nd P o_220 (nd P o_44 (lf P o_43) n0) (lf P o_488)) (nd P o_288 (nd P o_422 (lf P o_688) n0) (lf P o_43))))) (nd P o_61 (nd P o_77 (nd P o_43 (nd P o_178 (nd P o_314 (lf P o_43) n0) (lf P o_446)) (nd P o_244 (nd P o_380 (lf P o_644) n0) (lf P o_512))) (nd P o_43 (nd P o_44 (nd P o_44 (lf P o_43) n0) (lf P o_480)) (nd P o_60 (nd P o_414 (lf P o_680) n0) (lf P o_546)))) (nd P o_44 (nd P o_128 (nd P o_194 (nd P o_43 (lf P o_596) n0) (lf P o_43)) (nd P o_262 (nd P o_396 (lf P o_662) n0) (lf P o_528))) (nd P o_162 (nd P o_43 (nd P o_44 (lf P o_43) n0) (lf P o_43)) (nd P o_296 (nd P o_430 (lf P o_696) n0) (lf P o_60)))))) (nd P o_675 (nd P o_57 (nd P o_73 (nd P o_108 (nd P o_43 (nd P o_44 (lf P o_576) n0) (lf P o_442)) (nd P o_43 (nd P o_376 (lf P o_640) n0) (lf P o_508))) (nd P o_43 (nd P o_206 (nd P o_342 (lf P o_43) n0) (lf P o_44)) (nd P o_274 (nd P o_410 (lf P o_43) n0) (lf P o_542)))) (nd P o_92 (nd P o_44 (nd P o_190 (nd P o_43 (lf P o_44) n0) (lf P o_460)) (nd P o_258 (nd P o_43 (lf P o_658) n0) (lf P o_43))) (nd P o_158 (nd P o_224 (nd P o_358 (lf P o_624) n0) (lf P o_43)) (nd P o_292 (nd P o_43 (lf P o_692) n0) (lf P o_558))))) (nd P o_65 (nd P o_60 (nd P o_43 (nd P o_44 (nd P o_318 (lf P o_43) n0) (lf P o_450)) (nd P o_248 (nd P o_384 (lf P o_648) n0) (lf P o_516))) (nd P o_150 (nd P o_216 (nd P o_350 (lf P o_616) n0) (lf P o_484)) (nd P o_284 (nd P o_418 (lf P o_44) n0) (lf P o_43)))) (nd P o_100 (nd P o_132 (nd P o_43 (nd P o_334 (lf P o_600) n0) (lf P o_43)) (nd P o_43 (nd P o_44 (lf P o_666) n0) (lf P o_44))) (nd P o_166 (nd P o_43 (nd P o_368 (lf P o_632) n0) (lf P o_500)) (nd P o_43 (lf P o_43) (lf P o_568))))))) (nd P W.boot_o_6 (nd P W.boot_o_10 (nd P o_43 (nd P o_71 (nd P o_106 (nd P o_172 (nd P o_308 (lf P o_574) n0) (lf P o_440)) (nd P o_238 (nd P o_43 (lf P o_638) n0) (lf P o_43))) (nd P o_44 (nd P o_204 (nd P o_340 (lf P o_44) n0) (lf P o_474)) (nd P o_272 (nd P o_43 (lf P o_672) n0) (lf P o_43)))) (nd P o_43 (nd P o_122 (nd P o_43 (nd P o_44 (lf P o_590) n0) (lf P o_458)) (nd P o_43 (nd P o_390 (lf P o_656) n0) (lf P o_522))) (nd P o_43 (nd P o_222 (nd P o_43 (lf P o_622) n0) (lf P o_44)) (nd P o_290 (nd P o_44 (lf P o_690) n0) (lf P o_556))))) (nd P o_63 (nd P o_79 (nd P o_114 (nd P o_180 (nd P o_316 (lf P o_582) n0) (lf P o_448)) (nd P o_246 (nd P o_382 (lf P o_646) n0) (lf P o_514))) (nd P o_148 (nd P o_43 (nd P o_43 (lf P o_614) n0) (lf P o_43)) (nd P o_43 (nd P o_43 (lf P o_682) n0) (lf P o_44)))) (nd P o_43 (nd P o_43 (nd P o_44 (nd P o_332 (lf P o_43) n0) (lf P o_466)) (nd P o_44 (nd P o_398 (lf P o_664) n0) (lf P o_530))) (nd P o_164 (nd P o_230 (nd P o_43 (lf P o_630) n0) (lf P o_498)) (nd P o_298 (lf P o_44) (lf P o_43)))))) (nd P o_46 (nd P o_59 (nd P o_75 (nd P o_44 (nd P o_176 (nd P o_43 (lf P o_44) n0) (lf P o_444)) (nd P o_242 (nd P o_43 (lf P o_642) n0) (lf P o_43))) (nd P o_144 (nd P o_208 (nd P o_344 (lf P o_610) n0) (lf P o_43)) (nd P o_276 (nd P o_412 (lf P o_678) n0) (lf P o_544)))) (nd P o_94 (nd P o_43 (nd P o_192 (nd P o_328 (lf P o_43) n0) (lf P o_44)) (nd P o_260 (nd P o_394 (lf P o_43) n0) (lf P o_526))) (nd P o_43 (nd P o_44 (nd P o_239 (lf P o_626) n0) (lf P o_494)) (nd P o_294 (nd P o_428 (lf P o_694) n0) (lf P o_560))))) (nd P o_43 (nd P o_43 (nd P o_118 (nd P o_43 (nd P o_320 (lf P o_586) n0) (lf P o_43)) (nd P o_250 (nd P o_44 (lf P o_43) n0) (lf P o_44))) (nd P o_152 (nd P o_43 (nd P o_239 (lf P o_618) n0) (lf P o_486)) (nd P o_43 (nd P o_420 (lf P o_43) n0) (lf P o_552)))) (nd P o_43 (nd P o_134 (nd P o_200 (nd P o_336 (lf P o_602) n0) (lf P o_470)) (nd P o_268 (nd P o_43 (lf P o_668) n0) (lf P o_43))) (nd P o_44 (nd P o_234 (nd P o_337 (lf P o_634) n0) (lf P o_502)) (nd P o_304 (lf P o_436) (lf P o_43)))))))))
noncomputable def tree_776 : Params → BT := fun P => (nd P W.boot_o_0 (nd P W.boot_o_1 (nd P o_697 (nd P W.boot_o_7 (nd P o_43 (nd P o_44 (nd P o_44 (nd P o_169 (nd P o_43 (lf P o_44) n0) (nd P o_437 (lf P o_705) n0)) (nd P o_43 (nd P o_43 (lf P o_619) n0) (nd P o_43 (lf P o_769) n0))) (nd P o_135 (nd P o_201 (nd P o_337 (lf P o_603) n0) (nd P o_43 (lf P o_737) n0)) (nd P o_269 (nd P o_403 (lf P o_669) n0) (lf P o_535)))) (nd P o_44 (nd P o_43 (nd P o_185 (nd P o_321 (lf P o_43) n0) (nd P o_44 (lf P o_43) n0)) (nd P o_251 (nd P o_387 (lf P o_60) n0) (lf P o_519))) (nd P o_43 (nd P o_44 (nd P o_43 (lf P o_619) n0) (nd P o_487 (lf P o_753) n0)) (nd P o_44 (nd P o_421 (lf P o_687) n0) (lf P o_553))))) (nd P o_60 (nd P o_82 (nd P o_111 (nd P o_43 (nd P o_313 (lf P o_579) n0) (nd P o_445 (lf P o_43) n0)) (nd P o_43 (nd P o_44 (lf P o_643) n0) (lf P o_44))) (nd P o_145 (nd P o_43 (nd P o_43 (lf P o_611) n0) (nd P o_479 (lf P o_43) n0)) (nd P o_43 (nd P o_413 (lf P o_43) n0) (lf P o_545)))) (nd P o_43 (nd P o_127 (nd P o_193 (nd P o_329 (lf P o_595) n0) (nd P o_463 (lf P o_44) n0)) (nd P o_261 (nd P o_43 (lf P o_44) n0) (lf P o_43))) (nd P o_44 (nd P o_227 (nd P o_43 (lf P o_619) n0) (nd P o_495 (lf P o_761) n0)) (nd P o_295 (nd P o_429 (lf P o_695) n0) (lf P o_43)))))) (nd P o_43 (nd P o_56 (nd P o_72 (nd P o_107 (nd P o_173 (nd P o_43 (lf P o_575) n0) (nd P o_43 (lf P o_43) n0)) (nd P o_239 (nd P o_375 (lf P o_43) n0) (nd P o_507 (lf P o_773) n0))) (nd P o_141 (nd P o_43 (nd P o_43 (lf P o_607) n0) (nd P o_43 (lf P o_741) n0)) (nd P o_273 (nd P o_60 (lf P o_673) n0) (lf P o_44)))) (nd P o_91 (nd P o_43 (nd P o_44 (nd P o_325 (lf P o_43) n0) (nd P o_459 (lf P o_725) n0)) (nd P o_60 (nd P o_391 (lf P o_657) n0) (lf P o_523))) (nd P o_157 (nd P o_223 (nd P o_357 (lf P o_43) n0) (nd P o_491 (lf P o_44) n0)) (nd P o_291 (nd P o_425 (lf P o_691) n0) (lf P o_43))))) (nd P o_64 (nd P o_83 (nd P o_115 (nd P o_43 (nd P o_317 (lf P o_583) n0) (nd P o_449 (lf P o_717) n0)) (nd P o_247 (nd P o_383 (lf P o_647) n0) (lf P o_515))) (nd P o_43 (nd P o_215 (nd P o_349 (lf P o_43) n0) (nd P o_44 (lf P o_43) n0)) (nd P o_283 (nd P o_44 (lf P o_43) n0) (lf P o_549)))) (nd P o_99 (nd P o_44 (nd P o_197 (nd P o_43 (lf P o_44) n0) (nd P o_467 (lf P o_733) n0)) (nd P o_265 (nd P o_43 (lf P o_665) n0) (lf P o_43))) (nd P o_165 (nd P o_231 (nd P o_367 (lf P o_43) n0) (nd P o_43 (lf P o_765) n0)) (nd P o_299 (nd P o_433 (lf P o_701) n0) (lf P o_567))))))) (nd P W.boot_o_5 (nd P W.boot_o_9 (nd P o_54 (nd P o_43 (nd P o_43 (nd P o_171 (nd P o_307 (lf P o_43) n0) (nd P o_44 (lf P o_44) n0)) (nd P o_237 (nd P o_373 (lf P o_44) n0) (nd P o_505 (lf P o_771) n0))) (nd P o_43 (nd P o_44 (nd P o_44 (lf P o_43) n0) (nd P o_473 (lf P o_739) n0)) (nd P o_271 (nd P o_405 (lf P o_671) n0) (lf P o_537)))) (nd P o_89 (nd P o_121 (nd P o_187 (nd P o_43 (lf P o_589) n0) (nd P o_43 (lf P o_723) n0)) (nd P o_253 (nd P o_389 (lf P o_43) n0) (lf P o_521))) (nd P o_155 (nd P o_43 (nd P o_355 (lf P o_44) n0) (nd P o_43 (lf P o_755) n0)) (nd P o_43 (nd P o_43 (lf P o_689) n0) (lf P o_44))))) (nd P o_43 (nd P o_78 (nd P o_113 (nd P o_179 (nd P o_315 (lf P o_581) n0) (nd P o_447 (lf P o_715) n0)) (nd P o_245 (nd P o_43 (lf P o_645) n0) (lf P o_43))) (nd P o_44 (nd P o_213 (nd P o_43 (lf P o_44) n0) (nd P o_481 (lf P o_747) n0)) (nd P o_281 (nd P o_415 (lf P o_681) n0) (lf P o_43)))) (nd P o_97 (nd P o_129 (nd P o_43 (nd P o_44 (lf P o_597) n0) (nd P o_465 (lf P o_43) n0)) (nd P o_43 (nd P o_397 (lf P o_43) n0) (lf P o_529))) (nd P o_43 (nd P o_229 (nd P o_365 (lf P o_44) n0) (nd P o_44 (lf P o_43) n0)) (nd P o_297 (nd P o_43 (lf P o_43) n0) (lf P o_565)))))) (nd P o_45 (nd P o_58 (nd P o_74 (nd P o_43 (nd P o_44 (nd P o_311 (lf P o_43) n0) (nd P o_443 (lf P o_711) n0)) (nd P o_44 (nd P o_377 (lf P o_641) n0) (nd P o_509 (lf P o_775) n0))) (nd P o_143 (nd P o_207 (nd P o_343 (lf P o_609) n0) (nd P o_477 (lf P o_44) n0)) (nd P o_275 (nd P o_43 (lf P o_60) n0) (lf P o_43)))) (nd P o_93 (nd P o_125 (nd P o_43 (nd P o_327 (lf P o_593) n0) (nd P o_43 (lf P o_727) n0)) (nd P o_43 (nd P o_44 (lf P o_659) n0) (lf P o_44))) (nd P o_159 (nd P o_43 (nd P o_359 (lf P o_625) n0) (nd P o_493 (lf P o_43) n0)) (nd P o_293 (nd P o_427 (lf P o_693) n0) (lf P o_559))))) (nd P o_66 (nd P o_85 (nd P o_44 (nd P o_183 (nd P o_319 (lf P o_44) n0) (nd P o_451 (lf P o_719) n0)) (nd P o_249 (nd P o_43 (lf P o_649) n0) (lf P o_43))) (nd P o_151 (nd P o_217 (nd P o_351 (lf P o_617) n0) (nd P o_43 (lf P o_751) n0)) (nd P o_285 (nd P o_43 (lf P o_685) n0) (lf P o_551)))) (nd P o_101 (nd P o_43 (nd P o_199 (nd P o_335 (lf P o_43) n0) (nd P o_44 (lf P o_43) n0)) (nd P o_267 (nd P o_401 (lf P o_667) n0) (lf P o_533))) (nd P o_43 (nd P o_60 (nd P o_369 (lf P o_633) n0) (nd P o_501 (lf P o_767) n0)) (nd P o_60 (nd P o_435 (lf P o_703) n0) (lf P o_569)))))))) (nd P o_49 (nd P W.boot_o_4 (nd P W.boot_o_8 (nd P o_44 (nd P o_69 (nd P o_104 (nd P o_43 (nd P o_306 (lf P o_572) n0) (nd P o_43 (lf P o_43) n0)) (nd P o_236 (nd P o_44 (lf P o_43) n0) (nd P o_44 (lf P o_770) n0))) (nd P o_136 (nd P o_43 (nd P o_43 (lf P o_604) n0) (nd P o_472 (lf P o_43) n0)) (nd P o_270 (nd P o_404 (lf P o_670) n0) (lf P o_536)))) (nd P o_88 (nd P o_120 (nd P o_186 (nd P o_322 (lf P o_588) n0) (nd P o_456 (lf P o_44) n0)) (nd P o_252 (nd P o_43 (lf P o_654) n0) (lf P o_43))) (nd P o_44 (nd P o_220 (nd P o_44 (lf P o_43) n0) (nd P o_488 (lf P o_754) n0)) (nd P o_288 (nd P o_422 (lf P o_688) n0) (lf P o_43))))) (nd P o_61 (nd P o_77 (nd P o_43 (nd P o_178 (nd P o_314 (lf P o_43) n0) (nd P o_446 (lf P o_44) n0)) (nd P o_244 (nd P o_380 (lf P o_644) n0) (lf P o_512))) (nd P o_43 (nd P o_44 (nd P o_44 (lf P o_43) n0) (nd P o_480 (lf P o_746) n0)) (nd P o_60 (nd P o_414 (lf P o_680) n0) (lf P o_546)))) (nd P o_44 (nd P o_128 (nd P o_194 (nd P o_43 (lf P o_596) n0) (nd P o_43 (lf P o_730) n0)) (nd P o_262 (nd P o_396 (lf P o_662) n0) (lf P o_528))) (nd P o_162 (nd P o_43 (nd P o_44 (lf P o_43) n0) (nd P o_43 (lf P o_762) n0)) (nd P o_296 (nd P o_430 (lf P o_696) n0) (lf P o_60)))))) (nd P o_698 (nd P o_57 (nd P o_73 (nd P o_108 (nd P o_43 (nd P o_44 (lf P o_576) n0) (nd P o_442 (lf P o_710) n0)) (nd P o_43 (nd P o_376 (lf P o_640) n0) (nd P o_508 (lf P o_774) n0))) (nd P o_43 (nd P o_206 (nd P o_342 (lf P o_43) n0) (nd P o_44 (lf P o_43) n0)) (nd P o_274 (nd P o_410 (lf P o_43) n0) (lf P o_542)))) (nd P o_92 (nd P o_44 (nd P o_190 (nd P o_43 (lf P o_44) n0) (nd P o_460 (lf P o_726) n0)) (nd P o_258 (nd P o_43 (lf P o_658) n0) (lf P o_43))) (nd P o_158 (nd P o_224 (nd P o_358 (lf P o_624) n0) (nd P o_43 (lf P o_758) n0)) (nd P o_292 (nd P o_43 (lf P o_692) n0) (lf P o_558))))) (nd P o_65 (nd P o_60 (nd P o_43 (nd P o_44 (nd P o_318 (lf P o_43) n0) (nd P o_450 (lf P o_718) n0)) (nd P o_248 (nd P o_384 (lf P o_648) n0) (lf P o_516))) (nd P o_150 (nd P o_216 (nd P o_350 (lf P o_616) n0) (nd P o_484 (lf P o_44) n0)) (nd P o_284 (nd P o_418 (lf P o_44) n0) (lf P o_43)))) (nd P o_100 (nd P o_132 (nd P o_43 (nd P o_334 (lf P o_600) n0) (nd P o_43 (lf P o_734) n0)) (nd P o_43 (nd P o_44 (lf P o_666) n0) (lf P o_44))) (nd P o_166 (nd P o_43 (nd P o_368 (lf P o_632) n0) (nd P o_500 (lf P o_43) n0)) (nd P o_43 (nd P o_43 (lf P o_43) n0) (lf P o_568))))))) (nd P W.boot_o_6 (nd P W.boot_o_10 (nd P o_43 (nd P o_71 (nd P o_106 (nd P o_172 (nd P o_308 (lf P o_574) n0) (nd P o_440 (lf P o_708) n0)) (nd P o_238 (nd P o_43 (lf P o_638) n0) (nd P o_43 (lf P o_772) n0))) (nd P o_44 (nd P o_204 (nd P o_340 (lf P o_44) n0) (nd P o_474 (lf P o_740) n0)) (nd P o_272 (nd P o_43 (lf P o_672) n0) (lf P o_43)))) (nd P o_43 (nd P o_122 (nd P o_43 (nd P o_44 (lf P o_590) n0) (nd P o_458 (lf P o_43) n0)) (nd P o_43 (nd P o_390 (lf P o_656) n0) (lf P o_522))) (nd P o_43 (nd P o_222 (nd P o_43 (lf P o_622) n0) (nd P o_44 (lf P o_43) n0)) (nd P o_290 (nd P o_44 (lf P o_690) n0) (lf P o_556))))) (nd P o_63 (nd P o_79 (nd P o_114 (nd P o_180 (nd P o_316 (lf P o_582) n0) (nd P o_448 (lf P o_43) n0)) (nd P o_246 (nd P o_382 (lf P o_646) n0) (lf P o_514))) (nd P o_148 (nd P o_43 (nd P o_43 (lf P o_614) n0) (nd P o_43 (lf P o_748) n0)) (nd P o_43 (nd P o_43 (lf P o_682) n0) (lf P o_44)))) (nd P o_43 (nd P o_43 (nd P o_44 (nd P o_332 (lf P o_43) n0) (nd P o_466 (lf P o_732) n0)) (nd P o_44 (nd P o_398 (lf P o_664) n0) (lf P o_530))) (nd P o_164 (nd P o_230 (nd P o_43 (lf P o_630) n0) (nd P o_498 (lf P o_44) n0)) (nd P o_298 (nd P o_44 (lf P o_60) n0) (lf P o_43)))))) (nd P o_46 (nd P o_59 (nd P o_75 (nd P o_44 (nd P o_176 (nd P o_43 (lf P o_44) n0) (nd P o_444 (lf P o_712) n0)) (nd P o_242 (nd P o_43 (lf P o_642) n0) (nd P o_43 (lf P o_776) n0))) (nd P o_144 (nd P o_208 (nd P o_344 (lf P o_610) n0) (nd P o_43 (lf P o_744) n0)) (nd P o_276 (nd P o_412 (lf P o_678) n0) (lf P o_544)))) (nd P o_94 (nd P o_43 (nd P o_192 (nd P o_328 (lf P o_43) n0) (nd P o_44 (lf P o_43) n0)) (nd P o_260 (nd P o_394 (lf P o_43) n0) (lf P o_526))) (nd P o_43 (nd P o_44 (nd P o_239 (lf P o_626) n0) (nd P o_494 (lf P o_760) n0)) (nd P o_294 (nd P o_428 (lf P o_694) n0) (lf P o_560))))) (nd P o_43 (nd P o_43 (nd P o_118 (nd P o_43 (nd P o_320 (lf P o_586) n0) (nd P o_43 (lf P o_720) n0)) (nd P o_250 (nd P o_44 (lf P o_43) n0) (lf P o_44))) (nd P o_152 (nd P o_43 (nd P o_239 (lf P o_618) n0) (nd P o_486 (lf P o_43) n0)) (nd P o_43 (nd P o_420 (lf P o_43) n0) (lf P o_552)))) (nd P o_43 (nd P o_134 (nd P o_200 (nd P o_336 (lf P o_602) n0) (nd P o_470 (lf P o_44) n0)) (nd P o_268 (nd P o_43 (lf P o_668) n0) (lf P o_43))) (nd P o_44 (nd P o_234 (nd P o_337 (lf P o_634) n0) (nd P o_502 (lf P o_768) n0)) (nd P o_304 (nd P o_436 (lf P o_704) n0) (lf P o_43)))))))))
noncomputable def tree_861 : Params → BT := fun P => (nd P W.boot_o_0 (nd P W.boot_o_1 (nd P o_777 (nd P W.boot_o_7 (nd P o_43 (nd P o_44 (nd P o_44 (nd P o_169 (nd P o_43 (lf P o_44) (lf P o_43)) (nd P o_437 (lf P o_705) n0)) (nd P o_43 (nd P o_43 (lf P o_619) n0) (nd P o_43 (lf P o_769) n0))) (nd P o_135 (nd P o_201 (nd P o_337 (lf P o_603) n0) (nd P o_43 (lf P o_737) n0)) (nd P o_269 (nd P o_403 (lf P o_669) n0) (nd P o_535 (lf P o_43) n0)))) (nd P o_44 (nd P o_43 (nd P o_185 (nd P o_321 (lf P o_43) (lf P o_852)) (nd P o_44 (lf P o_43) n0)) (nd P o_251 (nd P o_387 (lf P o_60) n0) (nd P o_519 (lf P o_44) n0))) (nd P o_43 (nd P o_44 (nd P o_43 (lf P o_619) n0) (nd P o_487 (lf P o_753) n0)) (nd P o_44 (nd P o_421 (lf P o_687) n0) (nd P o_553 (lf P o_820) n0))))) (nd P o_60 (nd P o_82 (nd P o_111 (nd P o_43 (nd P o_313 (lf P o_579) (lf P o_44)) (nd P o_445 (lf P o_43) n0)) (nd P o_43 (nd P o_44 (lf P o_643) n0) (nd P o_44 (lf P o_780) n0))) (nd P o_145 (nd P o_43 (nd P o_43 (lf P o_611) n0) (nd P o_479 (lf P o_43) n0)) (nd P o_43 (nd P o_413 (lf P o_43) n0) (nd P o_545 (lf P o_812) n0)))) (nd P o_43 (nd P o_127 (nd P o_193 (nd P o_329 (lf P o_595) (lf P o_860)) (nd P o_463 (lf P o_44) n0)) (nd P o_261 (nd P o_43 (lf P o_44) n0) (nd P o_43 (lf P o_796) n0))) (nd P o_44 (nd P o_227 (nd P o_43 (lf P o_619) n0) (nd P o_495 (lf P o_761) n0)) (nd P o_295 (nd P o_429 (lf P o_695) n0) (nd P o_43 (lf P o_828) n0)))))) (nd P o_43 (nd P o_56 (nd P o_72 (nd P o_107 (nd P o_173 (nd P o_43 (lf P o_575) (lf P o_840)) (nd P o_43 (lf P o_43) n0)) (nd P o_239 (nd P o_375 (lf P o_43) n0) (nd P o_507 (lf P o_773) n0))) (nd P o_141 (nd P o_43 (nd P o_43 (lf P o_607) n0) (nd P o_43 (lf P o_741) n0)) (nd P o_273 (nd P o_60 (lf P o_673) n0) (nd P o_44 (lf P o_43) n0)))) (nd P o_91 (nd P o_43 (nd P o_44 (nd P o_325 (lf P o_43) (lf P o_856)) (nd P o_459 (lf P o_725) n0)) (nd P o_60 (nd P o_391 (lf P o_657) n0) (nd P o_523 (lf P o_792) n0))) (nd P o_157 (nd P o_223 (nd P o_357 (lf P o_43) n0) (nd P o_491 (lf P o_44) n0)) (nd P o_291 (nd P o_425 (lf P o_691) n0) (nd P o_43 (lf P o_824) n0))))) (nd P o_64 (nd P o_83 (nd P o_115 (nd P o_43 (nd P o_317 (lf P o_583) (lf P o_848)) (nd P o_449 (lf P o_717) n0)) (nd P o_247 (nd P o_383 (lf P o_647) n0) (nd P o_515 (lf P o_784) n0))) (nd P o_43 (nd P o_215 (nd P o_349 (lf P o_43) n0) (nd P o_44 (lf P o_43) n0)) (nd P o_283 (nd P o_44 (lf P o_43) n0) (nd P o_549 (lf P o_44) n0)))) (nd P o_99 (nd P o_44 (nd P o_197 (nd P o_43 (lf P o_44) n0) (nd P o_467 (lf P o_733) n0)) (nd P o_265 (nd P o_43 (lf P o_665) n0) (nd P o_43 (lf P o_800) n0))) (nd P o_165 (nd P o_231 (nd P o_367 (lf P o_43) n0) (nd P o_43 (lf P o_765) n0)) (nd P o_299 (nd P o_433 (lf P o_701) n0) (nd P o_567 (lf P o_43) n0))))))) (nd P W.boot_o_5 (nd P W.boot_o_9 (nd P o_54 (nd P o_43 (nd P o_43 (nd P o_171 (nd P o_307 (lf P o_43) (lf P o_838)) (nd P o_44 (lf P o_44) n0)) (nd P o_237 (nd P o_373 (lf P o_44) n0) (nd P o_505 (lf P o_771) n0))) (nd P o_43 (nd P o_44 (nd P o_44 (lf P o_43) n0) (nd P o_473 (lf P o_739) n0)) (nd P o_271 (nd P o_405 (lf P o_671) n0) (nd P o_537 (lf P o_806) n0)))) (nd P o_89 (nd P o_121 (nd P o_187 (nd P o_43 (lf P o_589) (lf P o_854)) (nd P o_43 (lf P o_723) n0)) (nd P o_253 (nd P o_389 (lf P o_43) n0) (nd P o_521 (lf P o_43) n0))) (nd P o_155 (nd P o_43 (nd P o_355 (lf P o_44) n0) (nd P o_43 (lf P o_755) n0)) (nd P o_43 (nd P o_43 (lf P o_689) n0) (nd P o_44 (lf P o_43) n0))))) (nd P o_43 (nd P o_78 (nd P o_113 (nd P o_179 (nd P o_315 (lf P o_581) (lf P o_43)) (nd P o_447 (lf P o_715) n0)) (nd P o_245 (nd P o_43 (lf P o_645) n0) (nd P o_43 (lf P o_782) n0))) (nd P o_44 (nd P o_213 (nd P o_43 (lf P o_44) n0) (nd P o_481 (lf P o_747) n0)) (nd P o_281 (nd P o_415 (lf P o_681) n0) (nd P o_43 (lf P o_814) n0)))) (nd P o_97 (nd P o_129 (nd P o_43 (nd P o_44 (lf P o_597) n0) (nd P o_465 (lf P o_43) n0)) (nd P o_43 (nd P o_397 (lf P o_43) n0) (nd P o_529 (lf P o_798) n0))) (nd P o_43 (nd P o_229 (nd P o_365 (lf P o_44) n0) (nd P o_44 (lf P o_43) n0)) (nd P o_297 (nd P o_43 (lf P o_43) n0) (nd P o_565 (lf P o_44) n0)))))) (nd P o_45 (nd P o_58 (nd P o_74 (nd P o_43 (nd P o_44 (nd P o_311 (lf P o_43) (lf P o_842)) (nd P o_443 (lf P o_711) n0)) (nd P o_44 (nd P o_377 (lf P o_641) n0) (nd P o_509 (lf P o_775) n0))) (nd P o_143 (nd P o_207 (nd P o_343 (lf P o_609) n0) (nd P o_477 (lf P o_44) n0)) (nd P o_275 (nd P o_43 (lf P o_60) n0) (nd P o_43 (lf P o_810) n0)))) (nd P o_93 (nd P o_125 (nd P o_43 (nd P o_327 (lf P o_593) (lf P o_858)) (nd P o_43 (lf P o_727) n0)) (nd P o_43 (nd P o_44 (lf P o_659) n0) (nd P o_44 (lf P o_43) n0))) (nd P o_159 (nd P o_43 (nd P o_359 (lf P o_625) n0) (nd P o_493 (lf P o_43) n0)) (nd P o_293 (nd P o_427 (lf P o_693) n0) (nd P o_559 (lf P o_826) n0))))) (nd P o_66 (nd P o_85 (nd P o_44 (nd P o_183 (nd P o_319 (lf P o_44) (lf P o_43)) (nd P o_451 (lf P o_719) n0)) (nd P o_249 (nd P o_43 (lf P o_649) n0) (nd P o_43 (lf P o_786) n0))) (nd P o_151 (nd P o_217 (nd P o_351 (lf P o_617) n0) (nd P o_43 (lf P o_751) n0)) (nd P o_285 (nd P o_43 (lf P o_685) n0) (nd P o_551 (lf P o_43) n0)))) (nd P o_101 (nd P o_43 (nd P o_199 (nd P o_335 (lf P o_43) n0) (nd P o_44 (lf P o_43) n0)) (nd P o_267 (nd P o_401 (lf P o_667) n0) (nd P o_533 (lf P o_44) n0))) (nd P o_43 (nd P o_60 (nd P o_369 (lf P o_633) n0) (nd P o_501 (lf P o_767) n0)) (nd P o_60 (nd P o_435 (lf P o_703) n0) (nd P o_569 (lf P o_834) n0)))))))) (nd P o_49 (nd P W.boot_o_4 (nd P W.boot_o_8 (nd P o_44 (nd P o_69 (nd P o_104 (nd P o_43 (nd P o_306 (lf P o_572) (lf P o_44)) (nd P o_43 (lf P o_43) n0)) (nd P o_236 (nd P o_44 (lf P o_43) n0) (nd P o_44 (lf P o_770) n0))) (nd P o_136 (nd P o_43 (nd P o_43 (lf P o_604) n0) (nd P o_472 (lf P o_43) n0)) (nd P o_270 (nd P o_404 (lf P o_670) n0) (nd P o_536 (lf P o_805) n0)))) (nd P o_88 (nd P o_120 (nd P o_186 (nd P o_322 (lf P o_588) (lf P o_43)) (nd P o_456 (lf P o_44) n0)) (nd P o_252 (nd P o_43 (lf P o_654) n0) (nd P o_43 (lf P o_789) n0))) (nd P o_44 (nd P o_220 (nd P o_44 (lf P o_43) n0) (nd P o_488 (lf P o_754) n0)) (nd P o_288 (nd P o_422 (lf P o_688) n0) (nd P o_43 (lf P o_821) n0))))) (nd P o_61 (nd P o_77 (nd P o_43 (nd P o_178 (nd P o_314 (lf P o_43) (lf P o_845)) (nd P o_446 (lf P o_44) n0)) (nd P o_244 (nd P o_380 (lf P o_644) n0) (nd P o_512 (lf P o_60) n0))) (nd P o_43 (nd P o_44 (nd P o_44 (lf P o_43) n0) (nd P o_480 (lf P o_746) n0)) (nd P o_60 (nd P o_414 (lf P o_680) n0) (nd P o_546 (lf P o_813) n0)))) (nd P o_44 (nd P o_128 (nd P o_194 (nd P o_43 (lf P o_596) (lf P o_861)) (nd P o_43 (lf P o_730) n0)) (nd P o_262 (nd P o_396 (lf P o_662) n0) (nd P o_528 (lf P o_43) n0))) (nd P o_162 (nd P o_43 (nd P o_44 (lf P o_43) n0) (nd P o_43 (lf P o_762) n0)) (nd P o_296 (nd P o_430 (lf P o_696) n0) (nd P o_60 (lf P o_43) n0)))))) (nd P o_778 (nd P o_57 (nd P o_73 (nd P o_108 (nd P o_43 (nd P o_44 (lf P o_576) (lf P o_841)) (nd P o_442 (lf P o_710) n0)) (nd P o_43 (nd P o_376 (lf P o_640) n0) (nd P o_508 (lf P o_774) n0))) (nd P o_43 (nd P o_206 (nd P o_342 (lf P o_43) n0) (nd P o_44 (lf P o_43) n0)) (nd P o_274 (nd P o_410 (lf P o_43) n0) (nd P o_542 (lf P o_44) n0)))) (nd P o_92 (nd P o_44 (nd P o_190 (nd P o_43 (lf P o_44) (lf P o_43)) (nd P o_460 (lf P o_726) n0)) (nd P o_258 (nd P o_43 (lf P o_658) n0) (nd P o_43 (lf P o_793) n0))) (nd P o_158 (nd P o_224 (nd P o_358 (lf P o_624) n0) (nd P o_43 (lf P o_758) n0)) (nd P o_292 (nd P o_43 (lf P o_692) n0) (nd P o_558 (lf P o_43) n0))))) (nd P o_65 (nd P o_60 (nd P o_43 (nd P o_44 (nd P o_318 (lf P o_43) (lf P o_849)) (nd P o_450 (lf P o_718) n0)) (nd P o_248 (nd P o_384 (lf P o_648) n0) (nd P o_516 (lf P o_785) n0))) (nd P o_150 (nd P o_216 (nd P o_350 (lf P o_616) n0) (nd P o_484 (lf P o_44) n0)) (nd P o_284 (nd P o_418 (lf P o_44) n0) (nd P o_43 (lf P o_817) n0)))) (nd P o_100 (nd P o_132 (nd P o_43 (nd P o_334 (lf P o_600) n0) (nd P o_43 (lf P o_734) n0)) (nd P o_43 (nd P o_44 (lf P o_666) n0) (nd P o_44 (lf P o_43) n0))) (nd P o_166 (nd P o_43 (nd P o_368 (lf P o_632) n0) (nd P o_500 (lf P o_43) n0)) (nd P o_43 (nd P o_43 (lf P o_43) n0) (nd P o_568 (lf P o_833) n0))))))) (nd P W.boot_o_6 (nd P W.boot_o_10 (nd P o_43 (nd P o_71 (nd P o_106 (nd P o_172 (nd P o_308 (lf P o_574) (lf P o_43)) (nd P o_440 (lf P o_708) n0)) (nd P o_238 (nd P o_43 (lf P o_638) n0) (nd P o_43 (lf P o_779) n0))) (nd P o_44 (nd P o_204 (nd P o_340 (lf P o_44) n0) (nd P o_474 (lf P o_740) n0)) (nd P o_272 (nd P o_43 (lf P o_672) n0) (nd P o_43 (lf P o_807) n0)))) (nd P o_43 (nd P o_122 (nd P o_43 (nd P o_44 (lf P o_590) (lf P o_855)) (nd P o_458 (lf P o_43) n0)) (nd P o_43 (nd P o_390 (lf P o_656) n0) (nd P o_522 (lf P o_791) n0))) (nd P o_43 (nd P o_222 (nd P o_43 (lf P o_622) n0) (nd P o_44 (lf P o_43) n0)) (nd P o_290 (nd P o_44 (lf P o_690) n0) (nd P o_556 (lf P o_44) n0))))) (nd P o_63 (nd P o_79 (nd P o_114 (nd P o_180 (nd P o_316 (lf P o_582) (lf P o_847)) (nd P o_448 (lf P o_43) n0)) (nd P o_246 (nd P o_382 (lf P o_646) n0) (nd P o_514 (lf P o_43) n0))) (nd P o_148 (nd P o_43 (nd P o_43 (lf P o_614) n0) (nd P o_43 (lf P o_748) n0)) (nd P o_43 (nd P o_43 (lf P o_682) n0) (nd P o_44 (lf P o_43) n0)))) (nd P o_43 (nd P o_43 (nd P o_44 (nd P o_332 (lf P o_43) n0) (nd P o_466 (lf P o_732) n0)) (nd P o_44 (nd P o_398 (lf P o_664) n0) (nd P o_530 (lf P o_799) n0))) (nd P o_164 (nd P o_230 (nd P o_43 (lf P o_630) n0) (nd P o_498 (lf P o_44) n0)) (nd P o_298 (nd P o_44 (lf P o_60) n0) (nd P o_43 (lf P o_831) n0)))))) (nd P o_46 (nd P o_59 (nd P o_75 (nd P o_44 (nd P o_176 (nd P o_43 (lf P o_44) (lf P o_43)) (nd P o_444 (lf P o_712) n0)) (nd P o_242 (nd P o_43 (lf P o_642) n0) (nd P o_43 (lf P o_776) n0))) (nd P o_144 (nd P o_208 (nd P o_344 (lf P o_610) n0) (nd P o_43 (lf P o_744) n0)) (nd P o_276 (nd P o_412 (lf P o_678) n0) (nd P o_544 (lf P o_43) n0)))) (nd P o_94 (nd P o_43 (nd P o_192 (nd P o_328 (lf P o_43) (lf P o_859)) (nd P o_44 (lf P o_43) n0)) (nd P o_260 (nd P o_394 (lf P o_43) n0) (nd P o_526 (lf P o_44) n0))) (nd P o_43 (nd P o_44 (nd P o_239 (lf P o_626) n0) (nd P o_494 (lf P o_760) n0)) (nd P o_294 (nd P o_428 (lf P o_694) n0) (nd P o_560 (lf P o_827) n0))))) (nd P o_43 (nd P o_43 (nd P o_118 (nd P o_43 (nd P o_320 (lf P o_586) (lf P o_44)) (nd P o_43 (lf P o_720) n0)) (nd P o_250 (nd P o_44 (lf P o_43) n0) (nd P o_44 (lf P o_43) n0))) (nd P o_152 (nd P o_43 (nd P o_239 (lf P o_618) n0) (nd P o_486 (lf P o_43) n0)) (nd P o_43 (nd P o_420 (lf P o_43) n0) (nd P o_552 (lf P o_819) n0)))) (nd P o_43 (nd P o_134 (nd P o_200 (nd P o_336 (lf P o_602) n0) (nd P o_470 (lf P o_44) n0)) (nd P o_268 (nd P o_43 (lf P o_668) n0) (nd P o_43 (lf P o_803) n0))) (nd P o_44 (nd P o_234 (nd P o_337 (lf P o_634) n0) (nd P o_502 (lf P o_768) n0)) (nd P o_304 (nd P o_436 (lf P o_704) n0) (nd P o_43 (lf P o_835) n0)))))))))
noncomputable def tree_962 : Params → BT := fun P => (nd P W.boot_o_0 (nd P W.boot_o_1 (nd P o_862 (nd P W.boot_o_7 (nd P o_43 (nd P o_44 (nd P o_44 (nd P o_169 (nd P o_43 (lf P o_44) (lf P o_43)) (nd P o_437 (lf P o_705) n0)) (nd P o_43 (nd P o_43 (lf P o_619) (lf P o_903)) (nd P o_43 (lf P o_769) n0))) (nd P o_135 (nd P o_201 (nd P o_337 (lf P o_603) (lf P o_871)) (nd P o_43 (lf P o_737) n0)) (nd P o_269 (nd P o_403 (lf P o_669) (lf P o_935)) (nd P o_535 (lf P o_43) n0)))) (nd P o_44 (nd P o_43 (nd P o_185 (nd P o_321 (lf P o_43) (lf P o_852)) (nd P o_44 (lf P o_43) n0)) (nd P o_251 (nd P o_387 (lf P o_60) (lf P o_919)) (nd P o_519 (lf P o_44) n0))) (nd P o_43 (nd P o_44 (nd P o_43 (lf P o_619) (lf P o_43)) (nd P o_487 (lf P o_753) n0)) (nd P o_44 (nd P o_421 (lf P o_687) (lf P o_43)) (nd P o_553 (lf P o_820) n0))))) (nd P o_60 (nd P o_82 (nd P o_111 (nd P o_43 (nd P o_313 (lf P o_579) (lf P o_44)) (nd P o_445 (lf P o_43) n0)) (nd P o_43 (nd P o_44 (lf P o_643) (lf P o_43)) (nd P o_44 (lf P o_780) n0))) (nd P o_145 (nd P o_43 (nd P o_43 (lf P o_611) (lf P o_879)) (nd P o_479 (lf P o_43) n0)) (nd P o_43 (nd P o_413 (lf P o_43) (lf P o_337)) (nd P o_545 (lf P o_812) n0)))) (nd P o_43 (nd P o_127 (nd P o_193 (nd P o_329 (lf P o_595) (lf P o_860)) (nd P o_463 (lf P o_44) n0)) (nd P o_261 (nd P o_43 (lf P o_44) (lf P o_927)) (nd P o_43 (lf P o_796) n0))) (nd P o_44 (nd P o_227 (nd P o_43 (lf P o_619) (lf P o_44)) (nd P o_495 (lf P o_761) n0)) (nd P o_295 (nd P o_429 (lf P o_695) (lf P o_959)) (nd P o_43 (lf P o_828) n0)))))) (nd P o_43 (nd P o_56 (nd P o_72 (nd P o_107 (nd P o_173 (nd P o_43 (lf P o_575) (lf P o_840)) (nd P o_43 (lf P o_43) n0)) (nd P o_239 (nd P o_375 (lf P o_43) (lf P o_907)) (nd P o_507 (lf P o_773) n0))) (nd P o_141 (nd P o_43 (nd P o_43 (lf P o_607) (lf P o_875)) (nd P o_43 (lf P o_741) n0)) (nd P o_273 (nd P o_60 (lf P o_673) (lf P o_43)) (nd P o_44 (lf P o_43) n0)))) (nd P o_91 (nd P o_43 (nd P o_44 (nd P o_325 (lf P o_43) (lf P o_856)) (nd P o_459 (lf P o_725) n0)) (nd P o_60 (nd P o_391 (lf P o_657) (lf P o_44)) (nd P o_523 (lf P o_792) n0))) (nd P o_157 (nd P o_223 (nd P o_357 (lf P o_43) (lf P o_891)) (nd P o_491 (lf P o_44) n0)) (nd P o_291 (nd P o_425 (lf P o_691) (lf P o_955)) (nd P o_43 (lf P o_824) n0))))) (nd P o_64 (nd P o_83 (nd P o_115 (nd P o_43 (nd P o_317 (lf P o_583) (lf P o_848)) (nd P o_449 (lf P o_717) n0)) (nd P o_247 (nd P o_383 (lf P o_647) (lf P o_43)) (nd P o_515 (lf P o_784) n0))) (nd P o_43 (nd P o_215 (nd P o_349 (lf P o_43) (lf P o_43)) (nd P o_44 (lf P o_43) n0)) (nd P o_283 (nd P o_44 (lf P o_43) (lf P o_43)) (nd P o_549 (lf P o_44) n0)))) (nd P o_99 (nd P o_44 (nd P o_197 (nd P o_43 (lf P o_44) (lf P o_867)) (nd P o_467 (lf P o_733) n0)) (nd P o_265 (nd P o_43 (lf P o_665) (lf P o_931)) (nd P o_43 (lf P o_800) n0))) (nd P o_165 (nd P o_231 (nd P o_367 (lf P o_43) (lf P o_899)) (nd P o_43 (lf P o_765) n0)) (nd P o_299 (nd P o_433 (lf P o_701) n0) (nd P o_567 (lf P o_43) n0))))))) (nd P W.boot_o_5 (nd P W.boot_o_9 (nd P o_54 (nd P o_43 (nd P o_43 (nd P o_171 (nd P o_307 (lf P o_43) (lf P o_838)) (nd P o_44 (lf P o_44) n0)) (nd P o_237 (nd P o_373 (lf P o_44) (lf P o_905)) (nd P o_505 (lf P o_771) n0))) (nd P o_43 (nd P o_44 (nd P o_44 (lf P o_43) (lf P o_43)) (nd P o_473 (lf P o_739) n0)) (nd P o_271 (nd P o_405 (lf P o_671) (lf P o_44)) (nd P o_537 (lf P o_806) n0)))) (nd P o_89 (nd P o_121 (nd P o_187 (nd P o_43 (lf P o_589) (lf P o_854)) (nd P o_43 (lf P o_723) n0)) (nd P o_253 (nd P o_389 (lf P o_43) (lf P o_921)) (nd P o_521 (lf P o_43) n0))) (nd P o_155 (nd P o_43 (nd P o_355 (lf P o_44) (lf P o_889)) (nd P o_43 (lf P o_755) n0)) (nd P o_43 (nd P o_43 (lf P o_689) (lf P o_953)) (nd P o_44 (lf P o_43) n0))))) (nd P o_43 (nd P o_78 (nd P o_113 (nd P o_179 (nd P o_315 (lf P o_581) (lf P o_43)) (nd P o_447 (lf P o_715) n0)) (nd P o_245 (nd P o_43 (lf P o_645) (lf P o_913)) (nd P o_43 (lf P o_782) n0))) (nd P o_44 (nd P o_213 (nd P o_43 (lf P o_44) (lf P o_44)) (nd P o_481 (lf P o_747) n0)) (nd P o_281 (nd P o_415 (lf P o_681) (lf P o_44)) (nd P o_43 (lf P o_814) n0)))) (nd P o_97 (nd P o_129 (nd P o_43 (nd P o_44 (lf P o_597) (lf P o_865)) (nd P o_465 (lf P o_43) n0)) (nd P o_43 (nd P o_397 (lf P o_43) (lf P o_43)) (nd P o_529 (lf P o_798) n0))) (nd P o_43 (nd P o_229 (nd P o_365 (lf P o_44) (lf P o_43)) (nd P o_44 (lf P o_43) n0)) (nd P o_297 (nd P o_43 (lf P o_43) (lf P o_961)) (nd P o_565 (lf P o_44) n0)))))) (nd P o_45 (nd P o_58 (nd P o_74 (nd P o_43 (nd P o_44 (nd P o_311 (lf P o_43) (lf P o_842)) (nd P o_443 (lf P o_711) n0)) (nd P o_44 (nd P o_377 (lf P o_641) (lf P o_44)) (nd P o_509 (lf P o_775) n0))) (nd P o_143 (nd P o_207 (nd P o_343 (lf P o_609) (lf P o_877)) (nd P o_477 (lf P o_44) n0)) (nd P o_275 (nd P o_43 (lf P o_60) (lf P o_941)) (nd P o_43 (lf P o_810) n0)))) (nd P o_93 (nd P o_125 (nd P o_43 (nd P o_327 (lf P o_593) (lf P o_858)) (nd P o_43 (lf P o_727) n0)) (nd P o_43 (nd P o_44 (lf P o_659) (lf P o_43)) (nd P o_44 (lf P o_43) n0))) (nd P o_159 (nd P o_43 (nd P o_359 (lf P o_625) (lf P o_893)) (nd P o_493 (lf P o_43) n0)) (nd P o_293 (nd P o_427 (lf P o_693) (lf P o_957)) (nd P o_559 (lf P o_826) n0))))) (nd P o_66 (nd P o_85 (nd P o_44 (nd P o_183 (nd P o_319 (lf P o_44) (lf P o_43)) (nd P o_451 (lf P o_719) n0)) (nd P o_249 (nd P o_43 (lf P o_649) (lf P o_917)) (nd P o_43 (lf P o_786) n0))) (nd P o_151 (nd P o_217 (nd P o_351 (lf P o_617) (lf P o_885)) (nd P o_43 (lf P o_751) n0)) (nd P o_285 (nd P o_43 (lf P o_685) (lf P o_949)) (nd P o_551 (lf P o_43) n0)))) (nd P o_101 (nd P o_43 (nd P o_199 (nd P o_335 (lf P o_43) (lf P o_869)) (nd P o_44 (lf P o_43) n0)) (nd P o_267 (nd P o_401 (lf P o_667) (lf P o_933)) (nd P o_533 (lf P o_44) n0))) (nd P o_43 (nd P o_60 (nd P o_369 (lf P o_633) (lf P o_43)) (nd P o_501 (lf P o_767) n0)) (nd P o_60 (nd P o_435 (lf P o_703) n0) (nd P o_569 (lf P o_834) n0)))))))) (nd P o_49 (nd P W.boot_o_4 (nd P W.boot_o_8 (nd P o_44 (nd P o_69 (nd P o_104 (nd P o_43 (nd P o_306 (lf P o_572) (lf P o_44)) (nd P o_43 (lf P o_43) n0)) (nd P o_236 (nd P o_44 (lf P o_43) (lf P o_43)) (nd P o_44 (lf P o_770) n0))) (nd P o_136 (nd P o_43 (nd P o_43 (lf P o_604) (lf P o_66)) (nd P o_472 (lf P o_43) n0)) (nd P o_270 (nd P o_404 (lf P o_670) (lf P o_43)) (nd P o_536 (lf P o_805) n0)))) (nd P o_88 (nd P o_120 (nd P o_186 (nd P o_322 (lf P o_588) (lf P o_43)) (nd P o_456 (lf P o_44) n0)) (nd P o_252 (nd P o_43 (lf P o_654) (lf P o_920)) (nd P o_43 (lf P o_789) n0))) (nd P o_44 (nd P o_220 (nd P o_44 (lf P o_43) (lf P o_44)) (nd P o_488 (lf P o_754) n0)) (nd P o_288 (nd P o_422 (lf P o_688) (lf P o_44)) (nd P o_43 (lf P o_821) n0))))) (nd P o_61 (nd P o_77 (nd P o_43 (nd P o_178 (nd P o_314 (lf P o_43) (lf P o_845)) (nd P o_446 (lf P o_44) n0)) (nd P o_244 (nd P o_380 (lf P o_644) (lf P o_912)) (nd P o_512 (lf P o_60) n0))) (nd P o_43 (nd P o_44 (nd P o_44 (lf P o_43) (lf P o_43)) (nd P o_480 (lf P o_746) n0)) (nd P o_60 (nd P o_414 (lf P o_680) (lf P o_43)) (nd P o_546 (lf P o_813) n0)))) (nd P o_44 (nd P o_128 (nd P o_194 (nd P o_43 (lf P o_596) (lf P o_861)) (nd P o_43 (lf P o_730) n0)) (nd P o_262 (nd P o_396 (lf P o_662) (lf P o_928)) (nd P o_528 (lf P o_43) n0))) (nd P o_162 (nd P o_43 (nd P o_44 (lf P o_43) (lf P o_896)) (nd P o_43 (lf P o_762) n0)) (nd P o_296 (nd P o_430 (lf P o_696) (lf P o_960)) (nd P o_60 (lf P o_43) n0)))))) (nd P o_863 (nd P o_57 (nd P o_73 (nd P o_108 (nd P o_43 (nd P o_44 (lf P o_576) (lf P o_841)) (nd P o_442 (lf P o_710) n0)) (nd P o_43 (nd P o_376 (lf P o_640) (lf P o_43)) (nd P o_508 (lf P o_774) n0))) (nd P o_43 (nd P o_206 (nd P o_342 (lf P o_43) (lf P o_43)) (nd P o_44 (lf P o_43) n0)) (nd P o_274 (nd P o_410 (lf P o_43) (lf P o_940)) (nd P o_542 (lf P o_44) n0)))) (nd P o_92 (nd P o_44 (nd P o_190 (nd P o_43 (lf P o_44) (lf P o_43)) (nd P o_460 (lf P o_726) n0)) (nd P o_258 (nd P o_43 (lf P o_658) (lf P o_924)) (nd P o_43 (lf P o_793) n0))) (nd P o_158 (nd P o_224 (nd P o_358 (lf P o_624) (lf P o_892)) (nd P o_43 (lf P o_758) n0)) (nd P o_292 (nd P o_43 (lf P o_692) (lf P o_956)) (nd P o_558 (lf P o_43) n0))))) (nd P o_65 (nd P o_60 (nd P o_43 (nd P o_44 (nd P o_318 (lf P o_43) (lf P o_849)) (nd P o_450 (lf P o_718) n0)) (nd P o_248 (nd P o_384 (lf P o_648) (lf P o_44)) (nd P o_516 (lf P o_785) n0))) (nd P o_150 (nd P o_216 (nd P o_350 (lf P o_616) (lf P o_884)) (nd P o_484 (lf P o_44) n0)) (nd P o_284 (nd P o_418 (lf P o_44) (lf P o_948)) (nd P o_43 (lf P o_817) n0)))) (nd P o_100 (nd P o_132 (nd P o_43 (nd P o_334 (lf P o_600) (lf P o_43)) (nd P o_43 (lf P o_734) n0)) (nd P o_43 (nd P o_44 (lf P o_666) (lf P o_43)) (nd P o_44 (lf P o_43) n0))) (nd P o_166 (nd P o_43 (nd P o_368 (lf P o_632) (lf P o_900)) (nd P o_500 (lf P o_43) n0)) (nd P o_43 (nd P o_43 (lf P o_43) n0) (nd P o_568 (lf P o_833) n0))))))) (nd P W.boot_o_6 (nd P W.boot_o_10 (nd P o_43 (nd P o_71 (nd P o_106 (nd P o_172 (nd P o_308 (lf P o_574) (lf P o_43)) (nd P o_440 (lf P o_708) n0)) (nd P o_238 (nd P o_43 (lf P o_638) (lf P o_906)) (nd P o_43 (lf P o_779) n0))) (nd P o_44 (nd P o_204 (nd P o_340 (lf P o_44) (lf P o_44)) (nd P o_474 (lf P o_740) n0)) (nd P o_272 (nd P o_43 (lf P o_672) (lf P o_938)) (nd P o_43 (lf P o_807) n0)))) (nd P o_43 (nd P o_122 (nd P o_43 (nd P o_44 (lf P o_590) (lf P o_855)) (nd P o_458 (lf P o_43) n0)) (nd P o_43 (nd P o_390 (lf P o_656) (lf P o_43)) (nd P o_522 (lf P o_791) n0))) (nd P o_43 (nd P o_222 (nd P o_43 (lf P o_622) (lf P o_43)) (nd P o_44 (lf P o_43) n0)) (nd P o_290 (nd P o_44 (lf P o_690) (lf P o_43)) (nd P o_556 (lf P o_44) n0))))) (nd P o_63 (nd P o_79 (nd P o_114 (nd P o_180 (nd P o_316 (lf P o_582) (lf P o_847)) (nd P o_448 (lf P o_43) n0)) (nd P o_246 (nd P o_382 (lf P o_646) (lf P o_914)) (nd P o_514 (lf P o_43) n0))) (nd P o_148 (nd P o_43 (nd P o_43 (lf P o_614) (lf P o_882)) (nd P o_43 (lf P o_748) n0)) (nd P o_43 (nd P o_43 (lf P o_682) (lf P o_946)) (nd P o_44 (lf P o_43) n0)))) (nd P o_43 (nd P o_43 (nd P o_44 (nd P o_332 (lf P o_43) (lf P o_60)) (nd P o_466 (lf P o_732) n0)) (nd P o_44 (nd P o_398 (lf P o_664) (lf P o_44)) (nd P o_530 (lf P o_799) n0))) (nd P o_164 (nd P o_230 (nd P o_43 (lf P o_630) (lf P o_898)) (nd P o_498 (lf P o_44) n0)) (nd P o_298 (nd P o_44 (lf P o_60) (lf P o_962)) (nd P o_43 (lf P o_831) n0)))))) (nd P o_46 (nd P o_59 (nd P o_75 (nd P o_44 (nd P o_176 (nd P o_43 (lf P o_44) (lf P o_43)) (nd P o_444 (lf P o_712) n0)) (nd P o_242 (nd P o_43 (lf P o_642) (lf P o_910)) (nd P o_43 (lf P o_776) n0))) (nd P o_144 (nd P o_208 (nd P o_344 (lf P o_610) (lf P o_878)) (nd P o_43 (lf P o_744) n0)) (nd P o_276 (nd P o_412 (lf P o_678) (lf P o_942)) (nd P o_544 (lf P o_43) n0)))) (nd P o_94 (nd P o_43 (nd P o_192 (nd P o_328 (lf P o_43) (lf P o_864)) (nd P o_44 (lf P o_43) n0)) (nd P o_260 (nd P o_394 (lf P o_43) (lf P o_926)) (nd P o_526 (lf P o_44) n0))) (nd P o_43 (nd P o_44 (nd P o_239 (lf P o_626) (lf P o_43)) (nd P o_494 (lf P o_760) n0)) (nd P o_294 (nd P o_428 (lf P o_694) (lf P o_958)) (nd P o_560 (lf P o_827) n0))))) (nd P o_43 (nd P o_43 (nd P o_118 (nd P o_43 (nd P o_320 (lf P o_586) (lf P o_44)) (nd P o_43 (lf P o_720) n0)) (nd P o_250 (nd P o_44 (lf P o_43) (lf P o_43)) (nd P o_44 (lf P o_43) n0))) (nd P o_152 (nd P o_43 (nd P o_239 (lf P o_618) (lf P o_886)) (nd P o_486 (lf P o_43) n0)) (nd P o_43 (nd P o_420 (lf P o_43) (lf P o_950)) (nd P o_552 (lf P o_819) n0)))) (nd P o_43 (nd P o_134 (nd P o_200 (nd P o_336 (lf P o_602) (lf P o_870)) (nd P o_470 (lf P o_44) n0)) (nd P o_268 (nd P o_43 (lf P o_668) (lf P o_934)) (nd P o_43 (lf P o_803) n0))) (nd P o_44 (nd P o_234 (nd P o_337 (lf P o_634) (lf P o_44)) (nd P o_502 (lf P o_768) n0)) (nd P o_304 (nd P o_436 (lf P o_704) n0) (nd P o_43 (lf P o_835) n0)))))))))
noncomputable def tree_1109 : Params → BT := fun P => (nd P W.boot_o_0 (nd P W.boot_o_1 (nd P o_1048 (nd P W.boot_o_7 (nd P o_43 (nd P o_44 (nd P o_44 (nd P o_169 (nd P o_43 (lf P o_44) (lf P o_43)) (nd P o_437 (lf P o_705) (lf P o_1054))) (nd P o_43 (nd P o_43 (lf P o_619) (lf P o_903)) (nd P o_43 (lf P o_769) n0))) (nd P o_135 (nd P o_201 (nd P o_337 (lf P o_603) (lf P o_871)) (nd P o_43 (lf P o_737) (lf P o_1086))) (nd P o_269 (nd P o_403 (lf P o_669) (lf P o_935)) (nd P o_535 (lf P o_43) n0)))) (nd P o_44 (nd P o_43 (nd P o_185 (nd P o_321 (lf P o_43) (lf P o_852)) (nd P o_44 (lf P o_43) (lf P o_1070))) (nd P o_251 (nd P o_387 (lf P o_60) (lf P o_919)) (nd P o_519 (lf P o_44) n0))) (nd P o_43 (nd P o_44 (nd P o_43 (lf P o_619) (lf P o_43)) (nd P o_487 (lf P o_753) (lf P o_1102))) (nd P o_44 (nd P o_421 (lf P o_687) (lf P o_43)) (nd P o_553 (lf P o_820) n0))))) (nd P o_60 (nd P o_82 (nd P o_111 (nd P o_43 (nd P o_313 (lf P o_579) (lf P o_44)) (nd P o_445 (lf P o_43) (lf P o_1062))) (nd P o_43 (nd P o_44 (lf P o_643) (lf P o_43)) (nd P o_44 (lf P o_780) n0))) (nd P o_145 (nd P o_43 (nd P o_43 (lf P o_611) (lf P o_879)) (nd P o_479 (lf P o_43) (lf P o_43))) (nd P o_43 (nd P o_413 (lf P o_43) (lf P o_337)) (nd P o_545 (lf P o_812) n0)))) (nd P o_43 (nd P o_127 (nd P o_193 (nd P o_329 (lf P o_595) (lf P o_860)) (nd P o_463 (lf P o_44) (lf P o_44))) (nd P o_261 (nd P o_43 (lf P o_44) (lf P o_927)) (nd P o_43 (lf P o_796) n0))) (nd P o_44 (nd P o_227 (nd P o_43 (lf P o_619) (lf P o_44)) (nd P o_495 (lf P o_761) n0)) (nd P o_295 (nd P o_429 (lf P o_695) (lf P o_959)) (nd P o_43 (lf P o_828) n0)))))) (nd P o_43 (nd P o_56 (nd P o_72 (nd P o_107 (nd P o_173 (nd P o_43 (lf P o_575) (lf P o_840)) (nd P o_43 (lf P o_43) (lf P o_44))) (nd P o_239 (nd P o_375 (lf P o_43) (lf P o_907)) (nd P o_507 (lf P o_773) n0))) (nd P o_141 (nd P o_43 (nd P o_43 (lf P o_607) (lf P o_875)) (nd P o_43 (lf P o_741) (lf P o_1090))) (nd P o_273 (nd P o_60 (lf P o_673) (lf P o_43)) (nd P o_44 (lf P o_43) n0)))) (nd P o_91 (nd P o_43 (nd P o_44 (nd P o_325 (lf P o_43) (lf P o_856)) (nd P o_459 (lf P o_725) (lf P o_1074))) (nd P o_60 (nd P o_391 (lf P o_657) (lf P o_44)) (nd P o_523 (lf P o_792) n0))) (nd P o_157 (nd P o_223 (nd P o_357 (lf P o_43) (lf P o_891)) (nd P o_491 (lf P o_44) (lf P o_44))) (nd P o_291 (nd P o_425 (lf P o_691) (lf P o_955)) (nd P o_43 (lf P o_824) n0))))) (nd P o_64 (nd P o_83 (nd P o_115 (nd P o_43 (nd P o_317 (lf P o_583) (lf P o_848)) (nd P o_449 (lf P o_717) (lf P o_44))) (nd P o_247 (nd P o_383 (lf P o_647) (lf P o_43)) (nd P o_515 (lf P o_784) n0))) (nd P o_43 (nd P o_215 (nd P o_349 (lf P o_43) (lf P o_43)) (nd P o_44 (lf P o_43) (lf P o_43))) (nd P o_283 (nd P o_44 (lf P o_43) (lf P o_43)) (nd P o_549 (lf P o_44) n0)))) (nd P o_99 (nd P o_44 (nd P o_197 (nd P o_43 (lf P o_44) (lf P o_867)) (nd P o_467 (lf P o_733) (lf P o_1082))) (nd P o_265 (nd P o_43 (lf P o_665) (lf P o_931)) (nd P o_43 (lf P o_800) n0))) (nd P o_165 (nd P o_231 (nd P o_367 (lf P o_43) (lf P o_899)) (nd P o_43 (lf P o_765) n0)) (nd P o_299 (nd P o_433 (lf P o_701) (lf P o_43)) (nd P o_567 (lf P o_43) n0))))))) (nd P W.boot_o_5 (nd P W.boot_o_9 (nd P o_54 (nd P o_43 (nd P o_43 (nd P o_171 (nd P o_307 (lf P o_43) (lf P o_838)) (nd P o_44 (lf P o_44) (lf P o_1056))) (nd P o_237 (nd P o_373 (lf P o_44) (lf P o_905)) (nd P o_505 (lf P o_771) n0))) (nd P o_43 (nd P o_44 (nd P o_44 (lf P o_43) (lf P o_43)) (nd P o_473 (lf P o_739) (lf P o_1088))) (nd P o_271 (nd P o_405 (lf P o_671) (lf P o_44)) (nd P o_537 (lf P o_806) n0)))) (nd P o_89 (nd P o_121 (nd P o_187 (nd P o_43 (lf P o_589) (lf P o_854)) (nd P o_43 (lf P o_723) (lf P o_43))) (nd P o_253 (nd P o_389 (lf P o_43) (lf P o_921)) (nd P o_521 (lf P o_43) n0))) (nd P o_155 (nd P o_43 (nd P o_355 (lf P o_44) (lf P o_889)) (nd P o_43 (lf P o_755) (lf P o_1104))) (nd P o_43 (nd P o_43 (lf P o_689) (lf P o_953)) (nd P o_44 (lf P o_43) n0))))) (nd P o_43 (nd P o_78 (nd P o_113 (nd P o_179 (nd P o_315 (lf P o_581) (lf P o_43)) (nd P o_447 (lf P o_715) (lf P o_1064))) (nd P o_245 (nd P o_43 (lf P o_645) (lf P o_913)) (nd P o_43 (lf P o_782) n0))) (nd P o_44 (nd P o_213 (nd P o_43 (lf P o_44) (lf P o_44)) (nd P o_481 (lf P o_747) (lf P o_1096))) (nd P o_281 (nd P o_415 (lf P o_681) (lf P o_44)) (nd P o_43 (lf P o_814) n0)))) (nd P o_97 (nd P o_129 (nd P o_43 (nd P o_44 (lf P o_597) (lf P o_865)) (nd P o_465 (lf P o_43) (lf P o_43))) (nd P o_43 (nd P o_397 (lf P o_43) (lf P o_43)) (nd P o_529 (lf P o_798) n0))) (nd P o_43 (nd P o_229 (nd P o_365 (lf P o_44) (lf P o_43)) (nd P o_44 (lf P o_43) n0)) (nd P o_297 (nd P o_43 (lf P o_43) (lf P o_961)) (nd P o_565 (lf P o_44) n0)))))) (nd P o_45 (nd P o_58 (nd P o_74 (nd P o_43 (nd P o_44 (nd P o_311 (lf P o_43) (lf P o_842)) (nd P o_443 (lf P o_711) (lf P o_43))) (nd P o_44 (nd P o_377 (lf P o_641) (lf P o_44)) (nd P o_509 (lf P o_775) n0))) (nd P o_143 (nd P o_207 (nd P o_343 (lf P o_609) (lf P o_877)) (nd P o_477 (lf P o_44) (lf P o_44))) (nd P o_275 (nd P o_43 (lf P o_60) (lf P o_941)) (nd P o_43 (lf P o_810) n0)))) (nd P o_93 (nd P o_125 (nd P o_43 (nd P o_327 (lf P o_593) (lf P o_858)) (nd P o_43 (lf P o_727) (lf P o_1076))) (nd P o_43 (nd P o_44 (lf P o_659) (lf P o_43)) (nd P o_44 (lf P o_43) n0))) (nd P o_159 (nd P o_43 (nd P o_359 (lf P o_625) (lf P o_893)) (nd P o_493 (lf P o_43) (lf P o_1108))) (nd P o_293 (nd P o_427 (lf P o_693) (lf P o_957)) (nd P o_559 (lf P o_826) n0))))) (nd P o_66 (nd P o_85 (nd P o_44 (nd P o_183 (nd P o_319 (lf P o_44) (lf P o_43)) (nd P o_451 (lf P o_719) (lf P o_43))) (nd P o_249 (nd P o_43 (lf P o_649) (lf P o_917)) (nd P o_43 (lf P o_786) n0))) (nd P o_151 (nd P o_217 (nd P o_351 (lf P o_617) (lf P o_885)) (nd P o_43 (lf P o_751) (lf P o_1100))) (nd P o_285 (nd P o_43 (lf P o_685) (lf P o_949)) (nd P o_551 (lf P o_43) n0)))) (nd P o_101 (nd P o_43 (nd P o_199 (nd P o_335 (lf P o_43) (lf P o_869)) (nd P o_44 (lf P o_43) (lf P o_43))) (nd P o_267 (nd P o_401 (lf P o_667) (lf P o_933)) (nd P o_533 (lf P o_44) n0))) (nd P o_43 (nd P o_60 (nd P o_369 (lf P o_633) (lf P o_43)) (nd P o_501 (lf P o_767) n0)) (nd P o_60 (nd P o_435 (lf P o_703) (lf P o_1052)) (nd P o_569 (lf P o_834) n0)))))))) (nd P o_49 (nd P W.boot_o_4 (nd P W.boot_o_8 (nd P o_44 (nd P o_69 (nd P o_104 (nd P o_43 (nd P o_306 (lf P o_572) (lf P o_44)) (nd P o_43 (lf P o_43) (lf P o_1055))) (nd P o_236 (nd P o_44 (lf P o_43) (lf P o_43)) (nd P o_44 (lf P o_770) n0))) (nd P o_136 (nd P o_43 (nd P o_43 (lf P o_604) (lf P o_66)) (nd P o_472 (lf P o_43) (lf P o_43))) (nd P o_270 (nd P o_404 (lf P o_670) (lf P o_43)) (nd P o_536 (lf P o_805) n0)))) (nd P o_88 (nd P o_120 (nd P o_186 (nd P o_322 (lf P o_588) (lf P o_43)) (nd P o_456 (lf P o_44) (lf P o_1071))) (nd P o_252 (nd P o_43 (lf P o_654) (lf P o_920)) (nd P o_43 (lf P o_789) n0))) (nd P o_44 (nd P o_220 (nd P o_44 (lf P o_43) (lf P o_44)) (nd P o_488 (lf P o_754) (lf P o_1103))) (nd P o_288 (nd P o_422 (lf P o_688) (lf P o_44)) (nd P o_43 (lf P o_821) n0))))) (nd P o_61 (nd P o_77 (nd P o_43 (nd P o_178 (nd P o_314 (lf P o_43) (lf P o_845)) (nd P o_446 (lf P o_44) (lf P o_1063))) (nd P o_244 (nd P o_380 (lf P o_644) (lf P o_912)) (nd P o_512 (lf P o_60) n0))) (nd P o_43 (nd P o_44 (nd P o_44 (lf P o_43) (lf P o_43)) (nd P o_480 (lf P o_746) (lf P o_1095))) (nd P o_60 (nd P o_414 (lf P o_680) (lf P o_43)) (nd P o_546 (lf P o_813) n0)))) (nd P o_44 (nd P o_128 (nd P o_194 (nd P o_43 (lf P o_596) (lf P o_861)) (nd P o_43 (lf P o_730) (lf P o_1079))) (nd P o_262 (nd P o_396 (lf P o_662) (lf P o_928)) (nd P o_528 (lf P o_43) n0))) (nd P o_162 (nd P o_43 (nd P o_44 (lf P o_43) (lf P o_896)) (nd P o_43 (lf P o_762) n0)) (nd P o_296 (nd P o_430 (lf P o_696) (lf P o_960)) (nd P o_60 (lf P o_43) n0)))))) (nd P o_1049 (nd P o_57 (nd P o_73 (nd P o_108 (nd P o_43 (nd P o_44 (lf P o_576) (lf P o_841)) (nd P o_442 (lf P o_710) (lf P o_1059))) (nd P o_43 (nd P o_376 (lf P o_640) (lf P o_43)) (nd P o_508 (lf P o_774) n0))) (nd P o_43 (nd P o_206 (nd P o_342 (lf P o_43) (lf P o_43)) (nd P o_44 (lf P o_43) (lf P o_43))) (nd P o_274 (nd P o_410 (lf P o_43) (lf P o_940)) (nd P o_542 (lf P o_44) n0)))) (nd P o_92 (nd P o_44 (nd P o_190 (nd P o_43 (lf P o_44) (lf P o_43)) (nd P o_460 (lf P o_726) (lf P o_1075))) (nd P o_258 (nd P o_43 (lf P o_658) (lf P o_924)) (nd P o_43 (lf P o_793) n0))) (nd P o_158 (nd P o_224 (nd P o_358 (lf P o_624) (lf P o_892)) (nd P o_43 (lf P o_758) (lf P o_1107))) (nd P o_292 (nd P o_43 (lf P o_692) (lf P o_956)) (nd P o_558 (lf P o_43) n0))))) (nd P o_65 (nd P o_60 (nd P o_43 (nd P o_44 (nd P o_318 (lf P o_43) (lf P o_849)) (nd P o_450 (lf P o_718) (lf P o_43))) (nd P o_248 (nd P o_384 (lf P o_648) (lf P o_44)) (nd P o_516 (lf P o_785) n0))) (nd P o_150 (nd P o_216 (nd P o_350 (lf P o_616) (lf P o_884)) (nd P o_484 (lf P o_44) (lf P o_44))) (nd P o_284 (nd P o_418 (lf P o_44) (lf P o_948)) (nd P o_43 (lf P o_817) n0)))) (nd P o_100 (nd P o_132 (nd P o_43 (nd P o_334 (lf P o_600) (lf P o_43)) (nd P o_43 (lf P o_734) (lf P o_1083))) (nd P o_43 (nd P o_44 (lf P o_666) (lf P o_43)) (nd P o_44 (lf P o_43) n0))) (nd P o_166 (nd P o_43 (nd P o_368 (lf P o_632) (lf P o_900)) (nd P o_500 (lf P o_43) n0)) (nd P o_43 (nd P o_43 (lf P o_43) (lf P o_44)) (nd P o_568 (lf P o_833) n0))))))) (nd P W.boot_o_6 (nd P W.boot_o_10 (nd P o_43 (nd P o_71 (nd P o_106 (nd P o_172 (nd P o_308 (lf P o_574) (lf P o_43)) (nd P o_440 (lf P o_708) (lf P o_43))) (nd P o_238 (nd P o_43 (lf P o_638) (lf P o_906)) (nd P o_43 (lf P o_779) n0))) (nd P o_44 (nd P o_204 (nd P o_340 (lf P o_44) (lf P o_44)) (nd P o_474 (lf P o_740) (lf P o_1089))) (nd P o_272 (nd P o_43 (lf P o_672) (lf P o_938)) (nd P o_43 (lf P o_807) n0)))) (nd P o_43 (nd P o_122 (nd P o_43 (nd P o_44 (lf P o_590) (lf P o_855)) (nd P o_458 (lf P o_43) (lf P o_44))) (nd P o_43 (nd P o_390 (lf P o_656) (lf P o_43)) (nd P o_522 (lf P o_791) n0))) (nd P o_43 (nd P o_222 (nd P o_43 (lf P o_622) (lf P o_43)) (nd P o_44 (lf P o_43) (lf P o_43))) (nd P o_290 (nd P o_44 (lf P o_690) (lf P o_43)) (nd P o_556 (lf P o_44) n0))))) (nd P o_63 (nd P o_79 (nd P o_114 (nd P o_180 (nd P o_316 (lf P o_582) (lf P o_847)) (nd P o_448 (lf P o_43) (lf P o_43))) (nd P o_246 (nd P o_382 (lf P o_646) (lf P o_914)) (nd P o_514 (lf P o_43) n0))) (nd P o_148 (nd P o_43 (nd P o_43 (lf P o_614) (lf P o_882)) (nd P o_43 (lf P o_748) (lf P o_1097))) (nd P o_43 (nd P o_43 (lf P o_682) (lf P o_946)) (nd P o_44 (lf P o_43) n0)))) (nd P o_43 (nd P o_43 (nd P o_44 (nd P o_332 (lf P o_43) (lf P o_60)) (nd P o_466 (lf P o_732) (lf P o_1081))) (nd P o_44 (nd P o_398 (lf P o_664) (lf P o_44)) (nd P o_530 (lf P o_799) n0))) (nd P o_164 (nd P o_230 (nd P o_43 (lf P o_630) (lf P o_898)) (nd P o_498 (lf P o_44) n0)) (nd P o_298 (nd P o_44 (lf P o_60) (lf P o_962)) (nd P o_43 (lf P o_831) n0)))))) (nd P o_46 (nd P o_59 (nd P o_75 (nd P o_44 (nd P o_176 (nd P o_43 (lf P o_44) (lf P o_43)) (nd P o_444 (lf P o_712) (lf P o_1061))) (nd P o_242 (nd P o_43 (lf P o_642) (lf P o_910)) (nd P o_43 (lf P o_776) n0))) (nd P o_144 (nd P o_208 (nd P o_344 (lf P o_610) (lf P o_878)) (nd P o_43 (lf P o_744) (lf P o_1093))) (nd P o_276 (nd P o_412 (lf P o_678) (lf P o_942)) (nd P o_544 (lf P o_43) n0)))) (nd P o_94 (nd P o_43 (nd P o_192 (nd P o_328 (lf P o_43) (lf P o_864)) (nd P o_44 (lf P o_43) (lf P o_43))) (nd P o_260 (nd P o_394 (lf P o_43) (lf P o_926)) (nd P o_526 (lf P o_44) n0))) (nd P o_43 (nd P o_44 (nd P o_239 (lf P o_626) (lf P o_43)) (nd P o_494 (lf P o_760) (lf P o_1109))) (nd P o_294 (nd P o_428 (lf P o_694) (lf P o_958)) (nd P o_560 (lf P o_827) n0))))) (nd P o_43 (nd P o_43 (nd P o_118 (nd P o_43 (nd P o_320 (lf P o_586) (lf P o_44)) (nd P o_43 (lf P o_720) (lf P o_1069))) (nd P o_250 (nd P o_44 (lf P o_43) (lf P o_43)) (nd P o_44 (lf P o_43) n0))) (nd P o_152 (nd P o_43 (nd P o_239 (lf P o_618) (lf P o_886)) (nd P o_486 (lf P o_43) (lf P o_43))) (nd P o_43 (nd P o_420 (lf P o_43) (lf P o_950)) (nd P o_552 (lf P o_819) n0)))) (nd P o_43 (nd P o_134 (nd P o_200 (nd P o_336 (lf P o_602) (lf P o_870)) (nd P o_470 (lf P o_44) (lf P o_44))) (nd P o_268 (nd P o_43 (lf P o_668) (lf P o_934)) (nd P o_43 (lf P o_803) n0))) (nd P o_44 (nd P o_234 (nd P o_337 (lf P o_634) (lf P o_44)) (nd P o_502 (lf P o_768) n0)) (nd P o_304 (nd P o_436 (lf P o_704) (lf P o_43)) (nd P o_43 (lf P o_835) n0)))))))))
noncomputable def heap_46 : Params → Heap := fun P => Heap.mk (Array.mk (W.boot_o_0 P :: W.boot_o_1 P :: W.boot_o_2 P :: W.boot_o_3 P :: W.boot_o_4 P :: W.boot_o_5 P :: W.boot_o_6 P :: W.boot_o_7 P :: W.boot_o_8 P :: W.boot_o_9 P :: W.boot_o_10 P :: o_43 P :: o_44 P :: o_45 P :: o_46 P :: [])) {}
noncomputable def heap_1110 : Params → Heap := fun P => Heap.mk (Array.mk (W.boot_o_0 P :: W.boot_o_1 P :: o_49 P :: o_1048 P :: W.boot_o_4 P :: W.boot_o_5 P :: W.boot_o_6 P :: W.boot_o_7 P :: W.boot_o_8 P :: W.boot_o_9 P :: W.boot_o_10 P :: o_43 P :: o_1049 P :: o_45 P :: o_46 P :: o_43 P :: o_44 P :: o_54 P :: o_43 P :: o_56 P :: o_57 P :: o_58 P :: o_59 P :: o_60 P :: o_61 P :: o_43 P :: o_63 P :: o_64 P :: o_65 P :: o_66 P :: o_43 P :: o_44 P :: o_69 P :: o_43 P :: o_71 P :: o_72 P :: o_73 P :: o_74 P :: o_75 P :: o_82 P :: o_77 P :: o_78 P :: o_79 P :: o_83 P :: o_60 P :: o_85 P :: o_43 P :: o_44 P :: o_88 P :: o_89 P :: o_43 P :: o_91 P :: o_92 P :: o_93 P :: o_94 P :: o_43 P :: o_44 P :: o_97 P :: o_43 P :: o_99 P :: o_100 P :: o_101 P :: o_43 P :: o_44 P :: o_104 P :: o_43 P :: o_106 P :: o_107 P :: o_108 P :: o_43 P :: o_44 P :: o_111 P :: o_43 P :: o_113 P :: o_114 P :: o_115 P :: o_43 P :: o_44 P :: o_118 P :: o_43 P :: o_120 P :: o_121 P :: o_122 P :: o_43 P :: o_44 P :: o_125 P :: o_43 P :: o_127 P :: o_128 P :: o_129 P :: o_43 P :: o_44 P :: o_132 P :: o_43 P :: o_134 P :: o_135 P :: o_136 P :: o_43 P :: o_44 P :: o_141 P :: o_43 P :: o_143 P :: o_144 P :: o_145 P :: o_43 P :: o_44 P :: o_148 P :: o_43 P :: o_150 P :: o_151 P :: o_152 P :: o_43 P :: o_44 P :: o_155 P :: o_43 P :: o_157 P :: o_158 P :: o_159 P :: o_43 P :: o_44 P :: o_162 P :: o_43 P :: o_164 P :: o_165 P :: o_166 P :: o_43 P :: o_44 P :: o_169 P :: o_43 P :: o_171 P :: o_172 P :: o_173 P :: o_43 P :: o_44 P :: o_176 P :: o_43 P :: o_178 P :: o_179 P :: o_180 P :: o_43 P :: o_44 P :: o_183 P :: o_43 P :: o_185 P :: o_186 P :: o_187 P :: o_43 P :: o_44 P :: o_190 P :: o_43 P :: o_192 P :: o_193 P :: o_194 P :: o_43 P :: o_44 P :: o_197 P :: o_43 P :: o_199 P :: o_200 P :: o_201 P :: o_43 P :: o_44 P :: o_204 P :: o_43 P :: o_206 P :: o_207 P :: o_208 P :: o_43 P :: o_44 P :: o_213 P :: o_43 P :: o_215 P :: o_216 P :: o_217 P :: o_43 P :: o_44 P :: o_220 P :: o_43 P :: o_222 P :: o_223 P :: o_224 P :: o_43 P :: o_44 P :: o_227 P :: o_43 P :: o_229 P :: o_230 P :: o_231 P :: o_43 P :: o_60 P :: o_234 P :: o_43 P :: o_236 P :: o_237 P :: o_238 P :: o_239 P :: o_43 P :: o_44 P :: o_242 P :: o_43 P :: o_244 P :: o_245 P :: o_246 P :: o_247 P :: o_248 P :: o_249 P :: o_250 P :: o_251 P :: o_252 P :: o_253 P :: o_43 P :: o_60 P :: o_258 P :: o_43 P :: o_260 P :: o_261 P :: o_262 P :: o_43 P :: o_44 P :: o_265 P :: o_43 P :: o_267 P :: o_268 P :: o_269 P :: o_270 P :: o_271 P :: o_272 P :: o_273 P :: o_274 P :: o_275 P :: o_276 P :: o_43 P :: o_60 P :: o_281 P :: o_43 P :: o_283 P :: o_284 P :: o_285 P :: o_43 P :: o_44 P :: o_288 P :: o_43 P :: o_290 P :: o_291 P :: o_292 P :: o_293 P :: o_294 P :: o_295 P :: o_296 P :: o_297 P :: o_298 P :: o_299 P :: o_43 P :: o_60 P :: o_304 P :: o_43 P :: o_306 P :: o_307 P :: o_308 P :: o_43 P :: o_44 P :: o_311 P :: o_43 P :: o_313 P :: o_314 P :: o_315 P :: o_316 P :: o_317 P :: o_318 P :: o_319 P :: o_320 P :: o_321 P :: o_322 P :: o_43 P :: o_44 P :: o_325 P :: o_43 P :: o_327 P :: o_328 P :: o_329 P :: o_43 P :: o_44 P :: o_332 P :: o_43 P :: o_334 P :: o_335 P :: o_336 P :: o_337 P :: o_43 P :: o_44 P :: o_340 P :: o_43 P :: o_342 P :: o_343 P :: o_344 P :: o_43 P :: o_44 P :: o_43 P :: o_43 P :: o_349 P :: o_350 P :: o_351 P :: o_239 P :: o_43 P :: o_44 P :: o_355 P :: o_43 P :: o_357 P :: o_358 P :: o_359 P :: o_239 P :: o_43 P :: o_44 P :: o_365 P :: o_43 P :: o_367 P :: o_368 P :: o_369 P :: o_337 P :: o_43 P :: o_44 P :: o_373 P :: o_43 P :: o_375 P :: o_376 P :: o_377 P :: o_43 P :: o_44 P :: o_380 P :: o_43 P :: o_382 P :: o_383 P :: o_384 P :: o_43 P :: o_44 P :: o_387 P :: o_43 P :: o_389 P :: o_390 P :: o_391 P :: o_43 P :: o_44 P :: o_394 P :: o_43 P :: o_396 P :: o_397 P :: o_398 P :: o_43 P :: o_44 P :: o_401 P :: o_43 P :: o_403 P :: o_404 P :: o_405 P :: o_43 P :: o_60 P :: o_410 P :: o_43 P :: o_412 P :: o_413 P :: o_414 P :: o_415 P :: o_43 P :: o_44 P :: o_418 P :: o_43 P :: o_420 P :: o_421 P :: o_422 P :: o_43 P :: o_44 P :: o_425 P :: o_43 P :: o_427 P :: o_428 P :: o_429 P :: o_430 P :: o_43 P :: o_44 P :: o_433 P :: o_43 P :: o_435 P :: o_436 P :: o_437 P :: o_43 P :: o_44 P :: o_440 P :: o_43 P :: o_442 P :: o_443 P :: o_444 P :: o_445 P :: o_446 P :: o_447 P :: o_448 P :: o_449 P :: o_450 P :: o_451 P :: o_43 P :: o_44 P :: o_456 P :: o_43 P :: o_458 P :: o_459 P :: o_460 P :: o_43 P :: o_44 P :: o_463 P :: o_43 P :: o_465 P :: o_466 P :: o_467 P :: o_43 P :: o_44 P :: o_470 P :: o_43 P :: o_472 P :: o_473 P :: o_474 P :: o_43 P :: o_44 P :: o_477 P :: o_43 P :: o_479 P :: o_480 P :: o_481 P :: o_43 P :: o_44 P :: o_484 P :: o_43 P :: o_486 P :: o_487 P :: o_488 P :: o_43 P :: o_44 P :: o_491 P :: o_43 P :: o_493 P :: o_494 P :: o_495 P :: o_43 P :: o_44 P :: o_498 P :: o_43 P :: o_500 P :: o_501 P :: o_502 P :: o_43 P :: o_44 P :: o_505 P :: o_43 P :: o_507 P :: o_508 P :: o_509 P :: o_43 P :: o_44 P :: o_512 P :: o_43 P :: o_514 P :: o_515 P :: o_516 P :: o_43 P :: o_44 P :: o_519 P :: o_43 P :: o_521 P :: o_522 P :: o_523 P :: o_43 P :: o_44 P :: o_526 P :: o_43 P :: o_528 P :: o_529 P :: o_530 P :: o_43 P :: o_44 P :: o_533 P :: o_43 P :: o_535 P :: o_536 P :: o_537 P :: o_43 P :: o_44 P :: o_542 P :: o_43 P :: o_544 P :: o_545 P :: o_546 P :: o_43 P :: o_44 P :: o_549 P :: o_43 P :: o_551 P :: o_552 P :: o_553 P :: o_43 P :: o_44 P :: o_556 P :: o_43 P :: o_558 P :: o_559 P :: o_560 P :: o_43 P :: o_60 P :: o_565 P :: o_43 P :: o_567 P :: o_568 P :: o_569 P :: o_43 P :: o_44 P :: o_572 P :: o_43 P :: o_574 P :: o_575 P :: o_576 P :: o_43 P :: o_44 P :: o_579 P :: o_43 P :: o_581 P :: o_582 P :: o_583 P :: o_43 P :: o_44 P :: o_586 P :: o_43 P :: o_588 P :: o_589 P :: o_590 P :: o_43 P :: o_44 P :: o_593 P :: o_43 P :: o_595 P :: o_596 P :: o_597 P :: o_43 P :: o_44 P :: o_600 P :: o_43 P :: o_602 P :: o_603 P :: o_604 P :: o_43 P :: o_44 P :: o_607 P :: o_43 P :: o_609 P :: o_610 P :: o_611 P :: o_43 P :: o_44 P :: o_614 P :: o_43 P :: o_616 P :: o_617 P :: o_618 P :: o_619 P :: o_43 P :: o_44 P :: o_622 P :: o_43 P :: o_624 P :: o_625 P :: o_626 P :: o_619 P :: o_43 P :: o_44 P :: o_630 P :: o_43 P :: o_632 P :: o_633 P :: o_634 P :: o_619 P :: o_43 P :: o_44 P :: o_638 P :: o_43 P :: o_640 P :: o_641 P :: o_642 P :: o_643 P :: o_644 P :: o_645 P :: o_646 P :: o_647 P :: o_648 P :: o_649 P :: o_43 P :: o_60 P :: o_654 P :: o_43 P :: o_656 P :: o_657 P :: o_658 P :: o_659 P :: o_43 P :: o_44 P :: o_662 P :: o_43 P :: o_664 P :: o_665 P :: o_666 P :: o_667 P :: o_668 P :: o_669 P :: o_670 P :: o_671 P :: o_672 P :: o_673 P :: o_43 P :: o_60 P :: o_678 P :: o_43 P :: o_680 P :: o_681 P :: o_682 P :: o_43 P :: o_44 P :: o_685 P :: o_43 P :: o_687 P :: o_688 P :: o_689 P :: o_690 P :: o_691 P :: o_692 P :: o_693 P :: o_694 P :: o_695 P :: o_696 P :: o_43 P :: o_60 P :: o_701 P :: o_43 P :: o_703 P :: o_704 P :: o_705 P :: o_43 P :: o_44 P :: o_708 P :: o_43 P :: o_710 P :: o_711 P :: o_712 P :: o_43 P :: o_44 P :: o_715 P :: o_43 P :: o_717 P :: o_718 P :: o_719 P :: o_720 P :: o_43 P :: o_44 P :: o_723 P :: o_43 P :: o_725 P :: o_726 P :: o_727 P :: o_43 P :: o_44 P :: o_730 P :: o_43 P :: o_732 P :: o_733 P :: o_734 P :: o_43 P :: o_44 P :: o_737 P :: o_43 P :: o_739 P :: o_740 P :: o_741 P :: o_43 P :: o_44 P :: o_744 P :: o_43 P :: o_746 P :: o_747 P :: o_748 P :: o_43 P :: o_44 P :: o_751 P :: o_43 P :: o_753 P :: o_754 P :: o_755 P :: o_43 P :: o_44 P :: o_758 P :: o_43 P :: o_760 P :: o_761 P :: o_762 P :: o_43 P :: o_44 P :: o_765 P :: o_43 P :: o_767 P :: o_768 P :: o_769 P :: o_770 P :: o_771 P :: o_779 P :: o_773 P :: o_774 P :: o_775 P :: o_776 P :: o_780 P :: o_60 P :: o_782 P :: o_43 P :: o_784 P :: o_785 P :: o_786 P :: o_43 P :: o_44 P :: o_789 P :: o_43 P :: o_791 P :: o_792 P :: o_793 P :: o_43 P :: o_44 P :: o_796 P :: o_43 P :: o_798 P :: o_799 P :: o_800 P :: o_43 P :: o_44 P :: o_803 P :: o_43 P :: o_805 P :: o_806 P :: o_807 P :: o_43 P :: o_44 P :: o_810 P :: o_43 P :: o_812 P :: o_813 P :: o_814 P :: o_43 P :: o_44 P :: o_817 P :: o_43 P :: o_819 P :: o_820 P :: o_821 P :: o_43 P :: o_44 P :: o_824 P :: o_43 P :: o_826 P :: o_827 P :: o_828 P :: o_43 P :: o_44 P :: o_831 P :: o_43 P :: o_833 P :: o_834 P :: o_835 P :: o_43 P :: o_44 P :: o_838 P :: o_43 P :: o_840 P :: o_841 P :: o_842 P :: o_43 P :: o_44 P :: o_845 P :: o_43 P :: o_847 P :: o_848 P :: o_849 P :: o_43 P :: o_44 P :: o_852 P :: o_43 P :: o_854 P :: o_855 P :: o_856 P :: o_43 P :: o_858 P :: o_864 P :: o_860 P :: o_861 P :: o_865 P :: o_60 P :: o_867 P :: o_43 P :: o_869 P :: o_870 P :: o_871 P :: o_66 P :: o_43 P :: o_44 P :: o_875 P :: o_43 P :: o_877 P :: o_878 P :: o_879 P :: o_43 P :: o_44 P :: o_882 P :: o_43 P :: o_884 P :: o_885 P :: o_886 P :: o_43 P :: o_44 P :: o_889 P :: o_43 P :: o_891 P :: o_892 P :: o_893 P :: o_43 P :: o_44 P :: o_896 P :: o_43 P :: o_898 P :: o_899 P :: o_900 P :: o_43 P :: o_44 P :: o_903 P :: o_43 P :: o_905 P :: o_906 P :: o_907 P :: o_43 P :: o_44 P :: o_910 P :: o_43 P :: o_912 P :: o_913 P :: o_914 P :: o_43 P :: o_44 P :: o_917 P :: o_43 P :: o_919 P :: o_920 P :: o_921 P :: o_43 P :: o_44 P :: o_924 P :: o_43 P :: o_926 P :: o_927 P :: o_928 P :: o_43 P :: o_44 P :: o_931 P :: o_43 P :: o_933 P :: o_934 P :: o_935 P :: o_43 P :: o_44 P :: o_938 P :: o_43 P :: o_940 P :: o_941 P :: o_942 P :: o_337 P :: o_43 P :: o_44 P :: o_946 P :: o_43 P :: o_948 P :: o_949 P :: o_950 P :: o_43 P :: o_44 P :: o_953 P :: o_43 P :: o_955 P :: o_956 P :: o_957 P :: o_958 P :: o_959 P :: o_960 P :: o_961 P :: o_962 P :: o_43 P :: o_44 P :: o_1052 P :: o_43 P :: o_1054 P :: o_1055 P :: o_1056 P :: o_43 P :: o_44 P :: o_1059 P :: o_43 P :: o_1061 P :: o_1062 P :: o_1063 P :: o_1064 P :: o_43 P :: o_44 P :: o_43 P :: o_43 P :: o_1069 P :: o_1070 P :: o_1071 P :: o_43 P :: o_44 P :: o_1074 P :: o_1075 P :: o_1076 P :: o_43 P :: o_44 P :: o_1079 P :: o_43 P :: o_1081 P :: o_1082 P :: o_1083 P :: o_43 P :: o_44 P :: o_1086 P :: o_43 P :: o_1088 P :: o_1089 P :: o_1090 P :: o_43 P :: o_44 P :: o_1093 P :: o_43 P :: o_1095 P :: o_1096 P :: o_1097 P :: o_43 P :: o_44 P :: o_1100 P :: o_43 P :: o_1102 P :: o_1103 P :: o_1104 P :: o_43 P :: o_44 P :: o_1107 P :: o_1108 P :: o_1109 P :: [])) {}
noncomputable def sts_49 : List Stmt := ((behindTheImports pr).drop 0).take 10
noncomputable def sts_80 : List Stmt := ((behindTheImports pr).drop 10).take 8
noncomputable def sts_137 : List Stmt := ((behindTheImports pr).drop 18).take 16
noncomputable def sts_209 : List Stmt := ((behindTheImports pr).drop 34).take 7
noncomputable def sts_254 : List Stmt := ((behindTheImports pr).drop 41).take 1
noncomputable def sts_277 : List Stmt := ((behindTheImports pr).drop 42).take 1
noncomputable def sts_300 : List Stmt := ((behindTheImports pr).drop 43).take 6
noncomputable def sts_360 : List Stmt := ((behindTheImports pr).drop 49).take 25
noncomputable def sts_406 : List Stmt := ((behindTheImports pr).drop 74).take 1
noncomputable def sts_452 : List Stmt := ((behindTheImports pr).drop 75).take 12
noncomputable def sts_538 : List Stmt := ((behindTheImports pr).drop 87).take 3
noncomputable def sts_561 : List Stmt := ((behindTheImports pr).drop 90).take 1
noncomputable def sts_650 : List Stmt := ((behindTheImports pr).drop 91).take 5
noncomputable def sts_674 : List Stmt := ((behindTheImports pr).drop 96).take 1
noncomputable def sts_697 : List Stmt := ((behindTheImports pr).drop 97).take 1
noncomputable def sts_777 : List Stmt := ((behindTheImports pr).drop 98).take 1
noncomputable def sts_862 : List Stmt := ((behindTheImports pr).drop 99).take 1
noncomputable def sts_1048 : List Stmt := ((behindTheImports pr).drop 100).take 11
end hd
namespace hd
theorem well : PySem.Challenge.rw_nt0532_01.wellSaid = true := by
  unfold OpenLaw.wellSaid OpenRow.wellSaid OpenRow.partSaid looksOpen
  repeat' (with_reducible refine look_both ?_ ?_)
  all_goals (try rw [R.allR_eq])
  all_goals (try rw [R.filterR_eq])
  all_goals (try rw [R.mapR_eq])
  all_goals (try rw [R.anyR_eq])
  all_goals (try rw [PySem.W.Fast.sDec_eq])
  all_goals (try rw [PySem.W.S.strDecS_eq])
  all_goals (try rw [PySem.W.Fast.named_eq])
  all_goals (try rw [PySem.W.Fast.te11788848310118352699])
  all_goals (try rw [PySem.W.Fast.te9807087744658564304])
  all_goals (try rw [PySem.W.Fast.te12862048085361865435])
  all_goals (try rw [PySem.W.Fast.te8377067652309620493])
  all_goals (try rw [PySem.W.Fast.te18344453789297297638])
  all_goals (try rw [PySem.W.Fast.te3471404346716756564])
  all_goals (try rw [PySem.W.Fast.te14412699480532031325])
  all_goals (try rw [PySem.W.Fast.te8326940854005059898])
  all_goals (try rw [PySem.W.Fast.te5923862056798008813])
  all_goals (try rw [PySem.W.Fast.te17691160309236699985])
  all_goals (try rw [PySem.W.Fast.te13343964577679436407])
  all_goals (try rw [PySem.W.Fast.te17119622794617984870])
  all_goals (try rw [PySem.W.Fast.te17868728402115742887])
  all_goals (try rw [PySem.W.Fast.te9706382859710513879])
  all_goals (try rw [PySem.W.Fast.te2357444279172408678])
  all_goals (try rw [PySem.W.Fast.te4857012375875476094])
  all_goals (try rw [PySem.W.Fast.te13582783067957832011])
  all_goals (try rw [PySem.W.Fast.te5318747976498570220])
  all_goals (try rw [PySem.W.Fast.te4579403493507170074])
  all_goals (try rw [PySem.W.Fast.te4274047373036748609])
  all_goals (try rw [PySem.W.Fast.te12749700546528644094])
  all_goals (try rw [PySem.W.Fast.te10501279942588096481])
  all_goals (try rw [PySem.W.Fast.te8179353310426384613])
  all_goals (try rw [PySem.W.Fast.te797321630700447069])
  all_goals (try rw [PySem.W.Fast.te9572597257264208301])
  all_goals (try rw [PySem.W.Fast.te9558739934217749035])
  all_goals (try rw [PySem.W.Fast.te16286561074155671207])
  all_goals (try rw [PySem.W.Fast.te6984425678791042302])
  all_goals (try rw [PySem.W.Fast.te17095254045102204799])
  all_goals (try rw [PySem.W.Fast.te12879404354523853263])
  all_goals (try rw [PySem.W.Fast.te482687673346738481])
  all_goals (try rw [PySem.W.Fast.te10792542408131684335])
  all_goals (try rw [PySem.W.Fast.te7723801398212525404])
  all_goals (try rw [PySem.W.Fast.te2368527892694137696])
  all_goals kernel_rfl
end hd
namespace hd
noncomputable abbrev B0 : List Frame := [topFrame ⟨0, 0, 0, 0⟩]
noncomputable abbrev cE : Code := Code.body (behindTheImports pr) env_41
noncomputable abbrev an : Option Value := some (Value.ref 6)
noncomputable abbrev sT (t : Params → BT) (n k : Nat) (w : World) (os : OsState) : SharedT := ⟨t w.params, n, {}, Array.mk [], {}, k, os⟩
theorem pre_ : ∀ w : World, (fun os => topGo treeTable pr w 11 an 12 ⟨boot_heap w.params, Array.mk [], boot_drawn, boot_toks, os⟩ (topStub pr)) = fun os => some (⟨heap_46 w.params, Array.mk [], {}, 187, os⟩, ⟨denote treeTable cE, cE, ⟨0, 0, 0, 0⟩, B0⟩) := by
  intro w; rw [PySem.W.Fast.te15667345088766844465, PySem.W.Fast.te14364793385576792824, PySem.W.Fast.te11892475500146522536]; kernel_rfl
theorem block_ : ∀ w : World, (fun os => segRun treeTable pr w 11 an 1 1 ⟨heap_46 w.params, Array.mk [], {}, 187, os⟩ (blockOf (behindTheImports pr) env_41 cE ⟨0, 0, 0, 0⟩ B0)) = fun os => some (Flow.next, (sT tree_47 15 187 w os).abs, cE, ⟨0, 0, 0, 0⟩) := by
  intro w; rw [PySem.W.Fast.te14374325043358763698, PySem.W.Fast.te14364793385576792824]; kernel_rfl
theorem p_49 : ∀ w : World, (fun os => segRunT treeTable pr w 11 an 1 354 (sT tree_47 15 187 w os) (piecesOf sts_49 env_41 cE ⟨0, 0, 0, 0⟩ B0)) = fun os => some (Flow.next, sT tree_79 43 246 w os, cE, ⟨12, 0, 15, 24⟩) := by
  intro w; rw [PySem.W.Fast.te10110043849684766642, PySem.W.Fast.te14364793385576792824]; kernel_rfl
theorem p_80 : ∀ w : World, (fun os => segRunT treeTable pr w 11 an 1 397 (sT tree_79 43 246 w os) (piecesOf sts_80 env_41 cE ⟨12, 0, 15, 24⟩ B0)) = fun os => some (Flow.next, sT tree_136 97 306 w os, cE, ⟨42, 0, 42, 8⟩) := by
  intro w; rw [PySem.W.Fast.te10110043849684766642, PySem.W.Fast.te14364793385576792824]; kernel_rfl
theorem p_137 : ∀ w : World, (fun os => segRunT treeTable pr w 11 an 1 380 (sT tree_136 97 306 w os) (piecesOf sts_137 env_41 cE ⟨42, 0, 42, 8⟩ B0)) = fun os => some (Flow.next, sT tree_208 167 409 w os, cE, ⟨96, 0, 105, 55⟩) := by
  intro w; rw [PySem.W.Fast.te10110043849684766642, PySem.W.Fast.te14364793385576792824]; kernel_rfl
theorem p_209 : ∀ w : World, (fun os => segRunT treeTable pr w 11 an 1 364 (sT tree_208 167 409 w os) (piecesOf sts_209 env_41 cE ⟨96, 0, 105, 55⟩ B0)) = fun os => some (Flow.next, sT tree_253 210 487 w os, cE, ⟨135, 0, 141, 28⟩) := by
  intro w; rw [PySem.W.Fast.te10110043849684766642, PySem.W.Fast.te14364793385576792824]; kernel_rfl
theorem p_254 : ∀ w : World, (fun os => segRunT treeTable pr w 11 an 1 229 (sT tree_253 210 487 w os) (piecesOf sts_254 env_41 cE ⟨135, 0, 141, 28⟩ B0)) = fun os => some (Flow.next, sT tree_276 231 522 w os, cE, ⟨142, 0, 148, 26⟩) := by
  intro w; rw [PySem.W.Fast.te10110043849684766642, PySem.W.Fast.te14364793385576792824]; kernel_rfl
theorem p_277 : ∀ w : World, (fun os => segRunT treeTable pr w 11 an 1 229 (sT tree_276 231 522 w os) (piecesOf sts_277 env_41 cE ⟨142, 0, 148, 26⟩ B0)) = fun os => some (Flow.next, sT tree_299 252 557 w os, cE, ⟨149, 0, 155, 26⟩) := by
  intro w; rw [PySem.W.Fast.te10110043849684766642, PySem.W.Fast.te14364793385576792824]; kernel_rfl
theorem p_300 : ∀ w : World, (fun os => segRunT treeTable pr w 11 an 1 378 (sT tree_299 252 557 w os) (piecesOf sts_300 env_41 cE ⟨149, 0, 155, 26⟩ B0)) = fun os => some (Flow.next, sT tree_359 310 627 w os, cE, ⟨170, 0, 171, 76⟩) := by
  intro w; rw [PySem.W.Fast.te10110043849684766642, PySem.W.Fast.te14364793385576792824]; kernel_rfl
theorem p_360 : ∀ w : World, (fun os => segRunT treeTable pr w 11 an 1 354 (sT tree_359 310 627 w os) (piecesOf sts_360 env_41 cE ⟨170, 0, 171, 76⟩ B0)) = fun os => some (Flow.next, sT tree_405 354 711 w os, cE, ⟨205, 0, 205, 12⟩) := by
  intro w; rw [PySem.W.Fast.te10110043849684766642, PySem.W.Fast.te14364793385576792824]; kernel_rfl
theorem p_406 : ∀ w : World, (fun os => segRunT treeTable pr w 11 an 1 378 (sT tree_405 354 711 w os) (piecesOf sts_406 env_41 cE ⟨205, 0, 205, 12⟩ B0)) = fun os => some (Flow.next, sT tree_451 398 765 w os, cE, ⟨206, 0, 223, 29⟩) := by
  intro w; rw [PySem.W.Fast.te10110043849684766642, PySem.W.Fast.te14364793385576792824]; kernel_rfl
theorem p_452 : ∀ w : World, (fun os => segRunT treeTable pr w 11 an 1 373 (sT tree_451 398 765 w os) (piecesOf sts_452 env_41 cE ⟨206, 0, 223, 29⟩ B0)) = fun os => some (Flow.next, sT tree_537 482 873 w os, cE, ⟨323, 0, 341, 23⟩) := by
  intro w; rw [PySem.W.Fast.te10110043849684766642, PySem.W.Fast.te14364793385576792824]; kernel_rfl
theorem p_538 : ∀ w : World, (fun os => segRunT treeTable pr w 11 an 1 92 (sT tree_537 482 873 w os) (piecesOf sts_538 env_41 cE ⟨323, 0, 341, 23⟩ B0)) = fun os => some (Flow.next, sT tree_560 503 898 w os, cE, ⟨351, 0, 355, 16⟩) := by
  intro w; rw [PySem.W.Fast.te10110043849684766642, PySem.W.Fast.te14364793385576792824]; kernel_rfl
theorem p_561 : ∀ w : World, (fun os => segRunT treeTable pr w 11 an 1 534 (sT tree_560 503 898 w os) (piecesOf sts_561 env_41 cE ⟨351, 0, 355, 16⟩ B0)) = fun os => some (Flow.next, sT tree_649 590 1019 w os, cE, ⟨356, 0, 439, 35⟩) := by
  intro w; rw [PySem.W.Fast.te10110043849684766642, PySem.W.Fast.te14364793385576792824]; kernel_rfl
theorem p_650 : ∀ w : World, (fun os => segRunT treeTable pr w 11 an 1 309 (sT tree_649 590 1019 w os) (piecesOf sts_650 env_41 cE ⟨356, 0, 439, 35⟩ B0)) = fun os => some (Flow.next, sT tree_673 612 1097 w os, cE, ⟨444, 0, 460, 20⟩) := by
  intro w; rw [PySem.W.Fast.te10110043849684766642, PySem.W.Fast.te14364793385576792824]; kernel_rfl
theorem p_674 : ∀ w : World, (fun os => segRunT treeTable pr w 11 an 1 229 (sT tree_673 612 1097 w os) (piecesOf sts_674 env_41 cE ⟨444, 0, 460, 20⟩ B0)) = fun os => some (Flow.next, sT tree_696 633 1132 w os, cE, ⟨461, 0, 467, 24⟩) := by
  intro w; rw [PySem.W.Fast.te10110043849684766642, PySem.W.Fast.te14364793385576792824]; kernel_rfl
theorem p_697 : ∀ w : World, (fun os => segRunT treeTable pr w 11 an 1 545 (sT tree_696 633 1132 w os) (piecesOf sts_697 env_41 cE ⟨461, 0, 467, 24⟩ B0)) = fun os => some (Flow.next, sT tree_776 711 1234 w os, cE, ⟨468, 0, 522, 16⟩) := by
  intro w; rw [PySem.W.Fast.te10110043849684766642, PySem.W.Fast.te14364793385576792824]; kernel_rfl
theorem p_777 : ∀ w : World, (fun os => segRunT treeTable pr w 11 an 1 546 (sT tree_776 711 1234 w os) (piecesOf sts_777 env_41 cE ⟨468, 0, 522, 16⟩ B0)) = fun os => some (Flow.next, sT tree_861 793 1343 w os, cE, ⟨523, 0, 553, 17⟩) := by
  intro w; rw [PySem.W.Fast.te10110043849684766642, PySem.W.Fast.te14364793385576792824]; kernel_rfl
theorem p_862 : ∀ w : World, (fun os => segRunT treeTable pr w 11 an 1 631 (sT tree_861 793 1343 w os) (piecesOf sts_862 env_41 cE ⟨523, 0, 553, 17⟩ B0)) = fun os => some (Flow.next, sT tree_962 891 1473 w os, cE, ⟨554, 0, 618, 17⟩) := by
  intro w; rw [PySem.W.Fast.te10110043849684766642, PySem.W.Fast.te14364793385576792824]; kernel_rfl
theorem p_1048 : ∀ w : World, (fun os => segRunT treeTable pr w 11 an 1 324 (sT tree_962 891 1473 w os) (piecesOf sts_1048 env_41 cE ⟨554, 0, 618, 17⟩ B0)) = fun os => some (Flow.next, sT tree_1109 951 1586 w os, cE, ⟨700, 0, 713, 96⟩) := by
  intro w; rw [PySem.W.Fast.te10110043849684766642, PySem.W.Fast.te14364793385576792824]; kernel_rfl
theorem fin_ : ∀ w : World, (fun os => topRun treeTable pr w 11 an 2 (sT tree_1109 951 1586 w os).abs ⟨doneF Flow.next, cE, ⟨700, 0, 713, 96⟩, B0⟩) = fun os => some ⟨heap_1110 w.params, Array.mk [], {}, 1586, os⟩ := by
  intro w; rw [PySem.W.Fast.te14082659384304107361, PySem.W.Fast.te14364793385576792824]; kernel_rfl
theorem run_ (w : World) (os : OsState) : topRun treeTable pr w 11 an (Nat.add 12 (Nat.add 1 (Nat.add 354 (Nat.add 397 (Nat.add 380 (Nat.add 364 (Nat.add 229 (Nat.add 229 (Nat.add 378 (Nat.add 354 (Nat.add 378 (Nat.add 373 (Nat.add 92 (Nat.add 534 (Nat.add 309 (Nat.add 229 (Nat.add 545 (Nat.add 546 (Nat.add 631 (Nat.add 324 2)))))))))))))))))))) ⟨boot_heap w.params, Array.mk [], boot_drawn, boot_toks, os⟩ (topStub pr) = some ⟨heap_1110 w.params, Array.mk [], {}, 1586, os⟩ := by
  refine go_top (congrFun (pre_ w) os) ?_
  refine piece_block (congrFun (block_ w) os) ?_
  show topRun treeTable pr w 11 an _ _ (restOf (sts_49 ++ (sts_80 ++ (sts_137 ++ (sts_209 ++ (sts_254 ++ (sts_277 ++ (sts_300 ++ (sts_360 ++ (sts_406 ++ (sts_452 ++ (sts_538 ++ (sts_561 ++ (sts_650 ++ (sts_674 ++ (sts_697 ++ (sts_777 ++ (sts_862 ++ (sts_1048 ++ ([]))))))))))))))))))) env_41 cE ⟨0, 0, 0, 0⟩ B0) = _
  refine piece_app (segRun_of (congrFun (p_49 w) os)) ?_
  refine piece_app (segRun_of (congrFun (p_80 w) os)) ?_
  refine piece_app (segRun_of (congrFun (p_137 w) os)) ?_
  refine piece_app (segRun_of (congrFun (p_209 w) os)) ?_
  refine piece_app (segRun_of (congrFun (p_254 w) os)) ?_
  refine piece_app (segRun_of (congrFun (p_277 w) os)) ?_
  refine piece_app (segRun_of (congrFun (p_300 w) os)) ?_
  refine piece_app (segRun_of (congrFun (p_360 w) os)) ?_
  refine piece_app (segRun_of (congrFun (p_406 w) os)) ?_
  refine piece_app (segRun_of (congrFun (p_452 w) os)) ?_
  refine piece_app (segRun_of (congrFun (p_538 w) os)) ?_
  refine piece_app (segRun_of (congrFun (p_561 w) os)) ?_
  refine piece_app (segRun_of (congrFun (p_650 w) os)) ?_
  refine piece_app (segRun_of (congrFun (p_674 w) os)) ?_
  refine piece_app (segRun_of (congrFun (p_697 w) os)) ?_
  refine piece_app (segRun_of (congrFun (p_777 w) os)) ?_
  refine piece_app (segRun_of (congrFun (p_862 w) os)) ?_
  refine piece_app (segRun_of (congrFun (p_1048 w) os)) ?_
  exact congrFun (fin_ w) os
end hd
namespace hd
noncomputable abbrev lo : List Str := ["LEAST_INT", "MOST_INT", "PostError", "MOST_REAL", "WORD_SIZE", "Thing", "name", "of_string", "of_row", "of_packed", "OctetSource", "MOST_COST", "Limits", "BodyMaker", "Memory", "_law_pieces"]
noncomputable abbrev lv : List (Str × WData) := [("LEAST_INT", .int (-2147483648)), ("MOST_INT", .int 2147483647), ("MOST_REAL", .int 1000000000000000000000), ("WORD_SIZE", .int 4294967296), ("MOST_COST", .int 16777216)]
noncomputable abbrev rr : RowW := (OpenLaw.row PySem.Challenge.rw_nt0532_01).toRowW
noncomputable abbrev HK : Hook := kHook heap_39 [2, 3, 15, 17, 18, 20, 21, 22, 29, 30, 32, 33, 35, 36, 37, 38, 39, 40, 43, 50, 51, 52, 55, 57, 58, 60, 61, 62, 64, 65, 67, 68, 69, 71, 72, 74, 75, 76, 78, 79, 81, 82, 83, 85, 86, 88, 89, 90, 92, 93, 95, 96, 97, 99, 100, 102, 103, 104, 106, 107, 109, 110, 111, 113, 114, 116, 117, 118, 120, 121, 123, 124, 125, 127, 128, 130, 131, 132, 134, 135, 137, 138, 139, 141, 142, 144, 145, 146, 148, 149, 151, 152, 153, 155, 156, 158, 159, 160, 162, 163, 165, 166, 167, 169, 170, 172, 173, 174, 176, 177, 179, 180, 181, 183, 184, 186, 187, 195, 196, 198, 199, 201, 202, 203, 204, 205, 206, 207, 217, 219, 220, 222, 223, 224, 225, 226, 227, 228, 238, 240, 241, 243, 244, 245, 246, 247, 248, 249, 259, 261, 262, 264, 265, 266, 267, 268, 269, 270, 273, 275, 276, 278, 279, 280, 282, 283, 285, 286, 287, 288, 290, 291, 293, 294, 295, 297, 298, 300, 301, 302, 303, 305, 306, 308, 309, 310, 311, 313, 314, 316, 317, 318, 319, 321, 322, 324, 325, 326, 328, 329, 331, 332, 333, 335, 336, 338, 339, 340, 342, 343, 345, 346, 347, 349, 350, 352, 353, 361, 362, 364, 365, 367, 368, 369, 371, 372, 374, 375, 376, 377, 379, 380, 382, 383, 384, 386, 387, 389, 390, 391, 392, 393, 394, 395, 398, 400, 401, 403, 404, 405, 407, 408, 410, 411, 412, 414, 415, 417, 418, 419, 421, 422, 424, 425, 426, 428, 429, 431, 432, 433, 435, 436, 438, 439, 440, 442, 443, 445, 446, 447, 449, 450, 452, 453, 454, 456, 457, 459, 460, 461, 463, 464, 466, 467, 468, 470, 471, 473, 474, 475, 477, 478, 480, 481, 482, 484, 485, 487, 488, 489, 491, 492, 494, 495, 496, 498, 499, 501, 502, 510, 512, 513, 515, 516, 517, 519, 520, 522, 523, 524, 526, 527, 529, 530, 531, 533, 534, 536, 537, 538, 540, 541, 543, 544, 545, 547, 548, 550, 551, 552, 554, 555, 557, 558, 559, 560, 562, 563, 565, 566, 567, 568, 570, 571, 573, 574, 575, 576, 578, 579, 581, 582, 583, 584, 585, 586, 587, 597, 598, 600, 601, 603, 604, 605, 606, 607, 608, 609, 619, 621, 622, 624, 625, 626, 627, 628, 629, 630, 640, 642, 643, 645, 646, 647, 649, 650, 652, 653, 654, 655, 657, 658, 660, 661, 662, 664, 665, 667, 668, 669, 671, 672, 674, 675, 676, 678, 679, 681, 682, 683, 685, 686, 688, 689, 690, 692, 693, 695, 696, 697, 699, 700, 702, 703, 704, 705, 706, 707, 708, 711, 718, 720, 721, 723, 724, 725, 727, 728, 730, 731, 732, 734, 735, 737, 738, 739, 741, 742, 744, 745, 746, 748, 749, 751, 752, 753, 755, 756, 758, 759, 760, 762, 763, 765, 766, 767, 769, 770, 772, 773, 774, 776, 777, 779, 780, 781, 783, 784, 786, 787, 788, 789, 790, 793, 800, 801, 803, 804, 806, 807, 808, 810, 811, 813, 814, 815, 817, 818, 820, 821, 822, 824, 825, 827, 828, 829, 831, 832, 834, 835, 836, 838, 839, 841, 842, 843, 845, 846, 848, 849, 850, 852, 853, 855, 856, 857, 859, 860, 862, 863, 864, 866, 867, 869, 870, 871, 872, 874, 875, 877, 878, 879, 881, 882, 884, 885, 886, 887, 888, 891, 893, 894, 896, 897, 898, 900, 901, 903, 904, 905, 906, 908, 909, 911, 912, 913, 916, 917, 918, 920, 921, 923, 924, 925, 927, 928, 930, 931, 932, 934, 935, 937, 938, 939, 941, 942, 944, 945, 946, 949, 950] (fun _ => by kernel_rfl)
noncomputable abbrev SF (w : World) (os : OsState) : Shared := ⟨heap_1110 w.params, Array.mk [], {}, 1586, os⟩
noncomputable abbrev Xt : Shared → Bool := fun s => xlAt view_39 lv s && recOk (RowW.records rr) s
theorem open_ : ∀ w : World, (fencedOpening treeTable pr w 13382).map (fun s => (s.heap, s.gens, s.drawn, s.toks)) = some (boot_heap w.params, Array.mk [], boot_drawn, boot_toks) :=
  boot_open (by kernel_rfl) (by decide) (fun s => by kernel_rfl)
theorem size_ : ∀ w : World, ((boot_heap w.params).isNs mainGlobals && (Array.mk [] : Array GenState).size == 0, (boot_heap w.params).objs.size, (boot_heap w.params).nsMap mainGlobals "__annotations__") = (true, 11, an) := by
  intro w; rw [PySem.W.Fast.te8920871248978507458]; kernel_rfl
theorem l1 : ∀ w : World, (fun os => staticsOk (importedModules pr.main.body) (boot_heap w.params) (heap_1110 w.params) && namesBound pr (heap_1110 w.params) && gensDone (SF w os) && laidKept (boot_heap w.params) (heap_1110 w.params)) = fun _ => true := by
  intro w; rw [PySem.W.Fast.te5923862056798008813]; kernel_rfl
theorem l2 : ∀ w : World, (fun os => seen ((recsOf view_39).map (·.name)) (ownsOf view_39) [] { SF w os with gens := #[] }) = fun _ => expectedOf view_39 := by
  intro w; rw [PySem.W.Fast.te5160383126252970620, R.mapR_eq, PySem.W.Fast.te3399658132070893891, PySem.W.Fast.te5991557255702980513]; kernel_rfl
theorem l3 : ∀ w : World, (fun os => (SF w os).heap.bltView) = fun _ => bltViewBooted := by
  intro w; kernel_rfl
theorem l4 : ∀ w : World, (fun os => (SF w os).heap.keysOk (looseW view_39 lo) ((recsOf view_39).map (·.name)) ((litsOf view_39).map (·.1)) ((clssOf view_39 (looseW view_39 lo)).map (·.name)) && (SF w os).heap.accountedOkI (importedModules pr.main.body) && (SF w os).heap.isNs mainGlobals && (SF w os).heap.isNs builtinsNs && tablesOk view_39 (SF w os).heap && Xt (SF w os) && (SF w os).gens.size == 0) = fun _ => true := by
  intro w; rw [PySem.W.Fast.te10880121769531294198, PySem.W.Fast.te821141287760084731, R.mapR_eq, PySem.W.Fast.te3399658132070893891, PySem.W.Fast.te7409074990110511671, PySem.W.Fast.te13664370479719496447, PySem.W.Fast.te14722251495701143533, PySem.W.Fast.te5923862056798008813, PySem.W.Fast.te10994771534591457954]; kernel_rfl
theorem l5 : ∀ w : World, (fun os => tabsOk view_39 (SF w os)) = fun _ => true := by
  intro w; rw [PySem.W.Fast.te479339242167458305]; kernel_rfl
theorem l6 : ∀ w : World, (fun os => pinSeenD view_39 (drecsOf view_39) (SF w os)) = fun _ => pinGoodD (drecsOf view_39) := by
  intro w; rw [PySem.W.Fast.te16090120013241838585, PySem.W.Fast.te3247288618530077131]; kernel_rfl
theorem l7 : ∀ w : World, (fun os => plainSeenE view_39 (looseW view_39 lo) (SF w os)) = fun _ => plainGoodE view_39 (looseW view_39 lo) := by
  intro w; rw [PySem.W.Fast.te2386780881361962483, PySem.W.Fast.te821141287760084731]; kernel_rfl
theorem l8 : ∀ w : World, (fun os => plainSeenD view_39 lo (SF w os)) = fun _ => plainGoodD view_39 lo := by
  intro w; rw [PySem.W.Fast.te11698064438423848299]; kernel_rfl
theorem l9 : ∀ w : World, (fun os => wideSeen view_39 (SF w os)) = fun _ => wideGood view_39 := by
  intro w; rw [PySem.W.Fast.te7317090234206586261]; kernel_rfl
theorem l10 : ∀ w : World, (fun os => clsSeenW view_39 lo (SF w os)) = fun _ => clsGoodW view_39 lo := by
  intro w; rw [PySem.W.Fast.te7369524293546568484]; kernel_rfl
theorem lK : ∀ w : World, (fun os => HK.obs (SF w os)) = fun _ => HK.val w := by
  intro w; kernel_rfl
theorem looks_ : ∀ w : World, (fun os => ((staticsOk (importedModules pr.main.body) (boot_heap w.params) (heap_1110 w.params) && namesBound pr (heap_1110 w.params) && gensDone (SF w os) && laidKept (boot_heap w.params) (heap_1110 w.params)), openSeen view_39 lo (importedModules pr.main.body) Xt true (SF w os), HK.obs (SF w os))) = fun _ => (true, openGood view_39 lo, HK.val w) := by
  intro w
  funext os
  exact looks_pair (congrFun (l1 w) os) (looks_pair (looks_pair (congrFun (l2 w) os) (looks_pair (congrFun (l3 w) os) (looks_pair (congrFun (l4 w) os) (looks_pair (congrFun (l5 w) os) (looks_pair (congrFun (l6 w) os) (looks_pair (congrFun (l7 w) os) (looks_pair (congrFun (l8 w) os) (looks_pair (congrFun (l9 w) os) (congrFun (l10 w) os))))))))) (congrFun (lK w) os))
theorem left_ : LeftO pr view_39 lo Xt HK.obs HK.val 13382 :=
  LeftO.of_pieces open_ size_ run_ (by decide) looks_
end hd
theorem hd.go {d : DefRec} {kwd : List (Str × Expr)} (hdef : defOf hd.view_39 hd.rr.name = some (d, kwd)) (hp : hd.rr.prog.theDef hd.rr.name = some (d.params, d.body, d.scope)) (hk : kwWritten? d.params.kwonlyargs d.params.kw_defaults = some kwd)
    (call : WalkP hd.view_39 hd.lo (XL hd.view_39 hd.lv) hd.HK.says hd.rr d kwd) : PySem.Challenge.rw_nt0532_01.Holds := by
  refine holds_law hd.well fun said => ?_
  refine PySem.W.holds_open (q := hd.view_39) (loose := hd.lo) (Xt := hd.Xt) (XP := XL hd.view_39 hd.lv) (Yf := hd.HK.obs) (Ya := hd.HK.val) (YP := hd.HK.says) (N := 13382) hd.left_ hd.HK.of hd.HK.keeps (fun s e => xl_of s (Bool.and_eq_true_iff.mp e).1) XL.keeps hdef hp hk (fun s e => recFacts_of (Bool.and_eq_true_iff.mp e).2) (by rfl) said ?_ ⟨rfl, rfl, rfl, rfl, rfl, by decide +kernel⟩ ?hw call
  · decide +kernel
  case hw => w_witness2
theorem hd.names_ : namesOk hd.view_39 (looseW hd.view_39 hd.lo) (namesW hd.view_39 hd.lo) = true := by
  rw [PySem.W.Fast.te17448422675489707002, PySem.W.Fast.te821141287760084731]; kernel_rfl
theorem hd.imp_ : importsNone hd.view_39 = true := by
  rw [PySem.W.Fast.te2458874890965802552]; kernel_rfl
end
theorem fillJ : PySem.Challenge.rw_nt0532_01 = PySem.Challenge.rw_nt0532_01 ∧ hd.heap_39 = hd.heap_39 := by k_fill; w_top off; exact ⟨rfl, rfl⟩
structure Goes {α : Type} (Q : α → Shared → Prop) (a : α) (s : Shared) : Prop where
  h : Q a s
theorem goes_in {α : Type} {Q Q' : α → Shared → Prop} {a : α} {s : Shared} (k : ∀ a s', Q a s' → Q' a s') (h : Q a s) : Goes Q' a s := ⟨k a s h⟩
theorem A_abs {M : Model} {A : Around} {α : Type} {t : Sem α} {Q : α → Shared → Prop} {E : Value → Shared → Prop} {s : Shared}
    (k : ∀ (Q' : α → Shared → Prop) (E' : Value → Shared → Prop), (∀ a s', Q a s' → Q' a s') → (∀ e s', E e s' → E' e s') → wpAny M A t (fun a s' => Goes Q' a s') (fun e s' => Goes E' e s') s) : wpAny M A t Q E s :=
  wpAny_mono (k Q E (fun _ _ h => h) (fun _ _ h => h)) (fun _ _ h => h.h) (fun _ _ h => h.h)
theorem P_abs {M : Model} {A : Around} {α : Type} {t : Sem α} {Q : α → Shared → Prop} {E : Value → Shared → Prop} {s : Shared}
    (k : ∀ (Q' : α → Shared → Prop) (E' : Value → Shared → Prop), (∀ a s', Q a s' → Q' a s') → (∀ e s', E e s' → E' e s') → wpP M A t (fun a s' => Goes Q' a s') (fun e s' => Goes E' e s') s) : wpP M A t Q E s :=
  P_mono (k Q E (fun _ _ h => h) (fun _ _ h => h)) (fun _ _ h => h.h) (fun _ _ h => h.h)
theorem tok_gen {M : Model} {A : Around} {α : Type} {t : Sem α} {Q : α → Shared → Prop} {E : Value → Shared → Prop} {h : Heap} {g d X os} (k : ∀ tk, wpAny M A t Q E ⟨h, g, d, tk, os⟩) : wpAny M A t Q E ⟨h, g, d, X, os⟩ := k X
theorem P_tok {M : Model} {A : Around} {α : Type} {t : Sem α} {Q : α → Shared → Prop} {E : Value → Shared → Prop} {h : Heap} {g d X os} (k : ∀ tk, wpP M A t Q E ⟨h, g, d, tk, os⟩) : wpP M A t Q E ⟨h, g, d, X, os⟩ := k X
theorem noE {M : Model} {A : Around} {α : Type} {t : Sem α} {Q : α → Shared → Prop} {E : Value → Shared → Prop} {s : Shared} (k : wpAny M A t Q (fun _ _ => False) s) : wpAny M A t Q E s := wpAny_mono k (fun _ _ h => h) (fun _ _ h => h.elim)
theorem P_noE {M : Model} {A : Around} {α : Type} {t : Sem α} {Q : α → Shared → Prop} {E : Value → Shared → Prop} {s : Shared} (k : wpP M A t Q (fun _ _ => False) s) : wpP M A t Q E s := P_mono k (fun _ _ h => h) (fun _ _ h => h.elim)
noncomputable abbrev PR : PySem.Program := PySem.Challenge.rw_nt0532_01.row.prog
noncomputable abbrev Lo : List PySem.Str := looseW hd.view_39
      [Str.ofString "LEAST_INT", Str.ofString "MOST_INT", Str.ofString "PostError", Str.ofString "MOST_REAL",
        Str.ofString "WORD_SIZE", Str.ofString "Thing", Str.ofString "name", Str.ofString "of_string",
        Str.ofString "of_row", Str.ofString "of_packed", Str.ofString "OctetSource", Str.ofString "MOST_COST",
        Str.ofString "Limits", Str.ofString "BodyMaker", Str.ofString "Memory", Str.ofString "_law_pieces"]
/-- the source's dict -/
noncomputable abbrev srcD (w : World) (k1 k2 : Tok) (bl : List UInt8) (tb : Tok) (p : Int) (tk : Tok) : Obj :=
  dictOf [{ hash := PyData.keyHash w.params (Str.ofString "octets"), key := .str (Str.ofString "octets") k1, val := .bytes bl.toArray tb },
    { hash := PyData.keyHash w.params (Str.ofString "at"), key := .str (Str.ofString "at") k2, val := .int p tk }] 2

/-- what a call of the text's own finds around it -/
structure Cx (D U : Nat) (w : World) (A : Around) (env : Env) (outer : List Env) (A₀ : Around) (base h₀ : Heap) (L : Addr) (m mg mb : PySem.Str → Option Value) (mean : ExcName → Option Value) (s : Shared) : Prop where
  hh : A.handled = none
  hf : A.frames = some (env :: outer)
  hdp : A.depth ≤ D
  hu : A.units ≤ U
  hL : env.frame = some L
  hk : env.scope.kind = .function
  B : Below A₀ base outer h₀
  F : Fr h₀ L s.heap m
  X : (hd.heap_39 w.params).In h₀
  T : Top hd.view_39 Lo mean mg mb h₀

theorem deepen {α : Type} {M : Model} {A : Around} {t : Sem α} {Q : α → Shared → Prop} {E : Value → Shared → Prop} {s : Shared} {env : Env} {outer : List Env} (D U : Nat)
    (hh : A.handled = none) (hf : A.frames = some (env :: outer)) (hd : A.depth ≤ D) (hu : A.units ≤ U)
    (h : wpAny M { handled := none, depth := D, frames := some (env :: outer), guards := A.guards, units := U } t Q E s) : wpAny M A t Q E s := by
  intro Γ p hΓ
  exact h Γ p ⟨hΓ.1.trans hh, Nat.le_trans hΓ.2.1 hd, fun l hl => hΓ.2.2.1 l (hf.trans hl), hΓ.2.2.2.1, Nat.le_trans hΓ.2.2.2.2 hu⟩

/-- a ledger with one object d that a call changes, another x that it reads: in the order in which the contracts are shown -/
theorem canon {h₀ h : Heap} {L x d : Addr} {news : List (Addr × Obj)} {g : Obj → List (Addr × Obj)} {ox od : Obj} (N : News h₀ L h news) (hx : (x, ox) ∈ news) (U : UpdF d od news g) :
    ∃ rest, News h₀ L h ((x, ox) :: (d, od) :: rest) ∧ OwnOff rest [x, d] ∧ ∀ h' o', News h₀ L h' ((x, ox) :: (d, o') :: rest) → News h₀ L h' (g o') := by
  obtain ⟨pre, post, rfl, hg, a, b⟩ := U.split
  refine ⟨(pre ++ post).filter (fun p => decide (p.1 ≠ x)), fun p hp => ?_, fun p hp q hq => ?_, fun h' o' N' p hp => ?_⟩
  · rcases List.mem_cons.mp hp with rfl | hp
    · exact N _ hx
    rcases List.mem_cons.mp hp with rfl | hp
    · exact N _ (by simp)
    have := (List.mem_filter.mp hp).1
    exact N p (by rcases List.mem_append.mp this with h | h <;> simp [h])
  · have hp' := List.mem_filter.mp hp
    rcases List.mem_cons.mp hq with rfl | hq
    · simpa using hp'.2
    · rw [List.mem_singleton.mp hq]
      rcases List.mem_append.mp hp'.1 with h | h
      · exact a p h
      · exact b p h
  · rw [hg] at hp
    have key : ∀ q, q ∈ pre ++ post → News h₀ L h (pre ++ (d, od) :: post) → h'.get? q.1 = some q.2 ∧ q.1 ≠ L ∧ h₀.get? q.1 = none := by
      intro q hq N
      by_cases e : q.1 = x
      · have h1 : h.get? q.1 = some q.2 := (N q (by rcases List.mem_append.mp hq with h | h <;> simp [h])).1
        have h2 := (N _ hx).1
        rw [e] at h1
        have e2 : q.2 = ox := Option.some.inj (h1.symm.trans h2)
        have e3 : q = (x, ox) := Prod.ext e e2
        rw [e3]
        exact N' _ (.head _)
      · exact N' q (.tail _ (.tail _ (List.mem_filter.mpr ⟨hq, by simpa using e⟩)))
    rcases List.mem_append.mp hp with hp | hp
    · exact key p (List.mem_append.mpr (.inl hp)) N
    rcases List.mem_cons.mp hp with rfl | hp
    · exact N' _ (.tail _ (.head _))
    · exact key p (List.mem_append.mpr (.inr hp)) N

theorem src_ne {h₀ h : Heap} {L x d : Addr} {r : List (Addr × Obj)} {c dx : Addr} {es : List DictEntry} {n : Nat} (N : News h₀ L h ((x, instObj c dx) :: (d, dictOf es n) :: r)) : @Ne Nat x d := by
  intro e
  have h1 := (N _ (.head _)).1
  have h2 := (N _ (.tail _ (.head _))).1
  dsimp only at h1 h2
  rw [e, h2] at h1
  cases h1

theorem byte_at {prog : Program} {w : World} {A : Around} {E : Value → Shared → Prop} {s : Shared} {value slice : PySem.Expr} {t : Tok} {Q : Value → Shared → Prop} {bl : List UInt8} {k : Nat} {c : UInt8} {i : Int} {ui : Tok}
    (hc : bl[k]? = some c) (hfit : bl.length ≤ 1000) (hi : i = (k : Int)) (h : Q (.int c.toNat s.toks) { s with toks := s.toks + 1 })
    (hs : subscripted slice false (.bytes bl.toArray t) (.int i ui) = operate [.bytes bl.toArray t, .int i ui] (getItem (.bytes bl.toArray t) (.int i ui)) := by with_unfolding_all rfl)
    (ht : ∀ r, letTemporaryGo value (.bytes bl.toArray t) r = pure () := by intro _; with_unfolding_all rfl) :
    wpAny (model prog w) A (subscriptTail value slice (.bytes bl.toArray t) (.int i ui)) Q E s := by
  subst hi
  have hk : k < bl.length := (List.getElem?_eq_some_iff.mp hc).1
  refine KBy.item_N (by omega) (by omega) (by omega) ?_ hs ht
  have e : bl.getD ((k : Int)).toNat 0 = c := by
    rw [Int.toNat_natCast, List.getD_eq_getElem?_getD, hc]; rfl
  rw [e]; exact h
/-- where a walk is to stop -/
structure Halt (P : Prop) : Prop where
  h : P
/-- «a < b» out of a chain of conjuncts -/
def LtIn (q : Prop) (a b : Nat) : Prop := q → a < b
theorem lt_here {a b : Nat} {q : Prop} : LtIn (a < b ∧ q) a b := And.left
theorem lt_last {a b : Nat} : LtIn (a < b) a b := id
theorem lt_skip {a b : Nat} {p q : Prop} (h : LtIn q a b) : LtIn (p ∧ q) a b := fun z => h z.2
theorem lt_go {a b c : Nat} {q : Prop} (h : LtIn q b c) : LtIn (a < b ∧ q) a c := fun z => Nat.lt_trans z.1 (h z.2)
theorem lt_ch {a b c d x y : Nat} {q : Prop} (z : a < b ∧ b < c ∧ c < d ∧ q) (h : LtIn (a < b ∧ b < c ∧ c < d ∧ q) x y) : x < y := h z
theorem at3 {a b c p q : Prop} (h : a ∧ b ∧ c ∧ p ∧ q) : p := h.2.2.2.1
theorem at2 {a b p q : Prop} (h : a ∧ b ∧ p ∧ q) : p := h.2.2.1
theorem at1 {a p q : Prop} (h : a ∧ p ∧ q) : p := h.2.1
theorem in4 {a b c d p : Prop} (h : a ∧ b ∧ c ∧ d ∧ p) : p := h.2.2.2.2
local macro_rules | `(tactic| walk_at "lts") => `(tactic| with_reducible first | assumption | exact And.left (by assumption) | exact at1 (by assumption) | exact at2 (by assumption) | exact at3 (by assumption) | exact And.left (in4 (by assumption)) | exact at1 (in4 (by assumption)) | exact at2 (in4 (by assumption)) | (refine lt_ch (by assumption) ?_; (repeat (first | exact lt_here | exact lt_last | refine lt_go ?_ | refine lt_skip ?_)); done))
local macro_rules | `(tactic| k_ne) => `(tactic| (refine neN ?_; (try dsimp only); with_reducible first | assumption | (apply Ne.symm; assumption) | (apply Nat.ne_of_lt; walk_at "lts") | (apply Nat.ne_of_gt; walk_at "lts")))
local macro_rules | `(tactic| ktr_enter) => `(tactic| (refine' code_def ?k1 ?k2 ?k3 ?k4 ?k5 ?kA ?kF ?kK ?k6 ?k7 ?k8 ?k9 ?kB ?_ ?c2 ?c3 ?c4 ?c5; (case kA => exact rfl); (case kF => first | assumption | exact rfl); (case kK => first | assumption | exact rfl); (case k1 => k_asm); (case k2 => k_asm); (case k3 => k_asm); (case k4 => k_asm); (case k5 => k_asm); (case k6 => k_is); (case k7 => k_is); (case k8 => k_room); (case k9 => first | exact BindsTo.of_eq rfl | exact binds_K (by k_in) rfl (by k_is) rfl rfl rfl); (case c5 => decide); (case kB => exact locs rfl); (case c2 => exact rfl); (case c3 => exact rfl); (case c4 => exact rfl); k_whole; intro g' L' h' FG' F' N' B' X' T'; (try dsimp only); (try k_fold)))
local macro_rules | `(tactic| walk_at "subscriptTail Attribute Name BinOp bytes int") => `(tactic| (k_here; (refine byte_at (by assumption) (by assumption) (by omega) ?_); (try dsimp only)))
local macro_rules | `(tactic| walk_at "execs cons") => `(tactic| (k_here; (with_reducible show wpAny _ _ _ _ _ (Shared.mk _ _ _ (_ + _) _)); refine tok_gen (fun tk9 => ?_)))
local macro_rules | `(tactic| walk_at "Goes") => `(tactic| (refine' goes_in (Q := _) ?h ?_; (case h => with_reducible assumption); (try dsimp only)))
section
variable {w : World} {A : Around} {env : Env} {outer : List Env} {A₀ : Around} {base h₀ : Heap} {L : Addr} {m mg mb : PySem.Str → Option Value} {mean : ExcName → Option Value} {s : Shared} {Q E : Value → Shared → Prop} {news : List (Addr × Obj)} {g : Obj → List (Addr × Obj)}
  {x dx : Addr} {k1 k2 tb : Tok} {bl : List UInt8} {p : Int} {tk : Tok} {k : Nat} {c : UInt8}
 local macro_rules | `(tactic| walk_at "execs cons") => `(tactic| (k_here; (with_reducible show wpAny _ _ _ _ (fun e s' => wpAny _ _ (leaving _ e) _ _ s') _); refine noE ?_))
set_option maxRecDepth 100000 in
set_option maxHeartbeats 8000000 in
theorem next_byte (C : Cx 410 500 w A env outer A₀ base h₀ L m mg mb mean s) (N : News h₀ L s.heap news) (hx : (x, instObj 393 dx) ∈ news) (U : UpdF dx (srcD w k1 k2 bl tb p tk) news g)
  (hp : p = (k : Int)) (hc : bl[k]? = some c) (hfit : bl.length ≤ 1000)
  (ret : ∀ t h' tk' tk2 p', Fr h₀ L h' m → News h₀ L h' (g (srcD w k1 k2 bl tb p' tk')) → p' = ((k + 1 : Nat) : Int) → Q (.int c.toNat t) { s with heap := h', toks := tk2 }) :
  wpAny (model PR w) A (call (.ref 383) [.ref x]) Q E s := by
  obtain ⟨hh, hf, hdp, hu, hL, hk, B, F, X, T⟩ := C
  refine noE (deepen 410 500 hh hf hdp hu ?_)
  obtain ⟨rest, Nc, hoff, back⟩ := canon N hx U
  have hne := src_ne Nc
  clear N hx U
  have hk' : k < bl.length := (List.getElem?_eq_some_iff.mp hc).1
  refine wpAny_call ?_
  k_dflt ktr_enter
  k_steps
  all_goals exact ret _ _ _ _ _ (by k_asm) (back _ _ (by k_asm)) (by first | assumption | omega)
set_option maxRecDepth 100000 in
set_option maxHeartbeats 8000000 in
theorem next_end (C : Cx 410 500 w A env outer A₀ base h₀ L m mg mb mean s) (N : News h₀ L s.heap news) (hx : (x, instObj 393 dx) ∈ news) (U : UpdF dx (srcD w k1 k2 bl tb p tk) news g)
  (hp : p = (k : Int)) (hc : bl[k]? = none) (hfit : bl.length ≤ 1000)
  (ret : ∀ h' tk2, Fr h₀ L h' m → News h₀ L h' (g (srcD w k1 k2 bl tb p tk)) → Q .none { s with heap := h', toks := tk2 }) :
  wpAny (model PR w) A (call (.ref 383) [.ref x]) Q E s := by
  obtain ⟨hh, hf, hdp, hu, hL, hk, B, F, X, T⟩ := C
  refine noE (deepen 410 500 hh hf hdp hu ?_)
  obtain ⟨rest, Nc, hoff, back⟩ := canon N hx U
  have hne := src_ne Nc
  clear N hx U
  have hk' : bl.length ≤ k := List.getElem?_eq_none_iff.mp hc
  refine wpAny_call ?_
  k_dflt ktr_enter
  k_steps
  all_goals exact ret _ _ (by k_asm) (back _ _ (by k_asm))
theorem next_any (C : Cx 410 500 w A env outer A₀ base h₀ L m mg mb mean s) (N : News h₀ L s.heap news) (hx : (x, instObj 393 dx) ∈ news) (U : UpdF dx (srcD w k1 k2 bl tb p tk) news g)
  (hp : p = (k : Int)) (hfit : bl.length ≤ 1000)
  (retN : bl[k]? = none → ∀ h' tk2, Fr h₀ L h' m → News h₀ L h' (g (srcD w k1 k2 bl tb p tk)) → Q .none { s with heap := h', toks := tk2 })
  (retB : ∀ c, bl[k]? = some c → ∀ t h' tk' tk2 p', Fr h₀ L h' m → News h₀ L h' (g (srcD w k1 k2 bl tb p' tk')) → p' = ((k + 1 : Nat) : Int) → Q (.int c.toNat t) { s with heap := h', toks := tk2 }) :
  wpAny (model PR w) A (call (.ref 383) [.ref x]) Q E s := by
  rcases hc : bl[k]? with _ | c
  · exact next_end C N hx U hp hc hfit (retN hc)
  · exact next_byte C N hx U hp hc hfit (retB c hc)
end
theorem news_tail {h₀ h : Heap} {L : Addr} {q : Addr × Obj} {l : List (Addr × Obj)} (N : News h₀ L h (q :: l)) : News h₀ L h l := fun p hp => N p (.tail _ hp)
theorem nat_of {a n : Nat} (h : (a : Int) = (n : Int)) : a = n := Int.ofNat.inj h
theorem nat_ne {a n : Nat} (h : ¬ (a : Int) = (n : Int)) : ¬ a = n := fun e => h (congrArg Nat.cast e)
/-! the plain reading -/
noncomputable def isO (c : UInt8) : Bool := decide (48 ≤ c.toNat) && decide (c.toNat ≤ 55)
theorem isO_iff {c : UInt8} : isO c = true ↔ 48 ≤ c.toNat ∧ c.toNat ≤ 55 := by simp [isO]
theorem isO_iff' {c : UInt8} : isO c = false ↔ ¬ (48 ≤ c.toNat ∧ c.toNat ≤ 55) := by rw [← isO_iff]; simp
noncomputable def skipK (bl : List UInt8) (k : Nat) : Nat := match bl[k]? with
  | none => k
  | some c => if c.toNat = 10 then k + 1 else k
noncomputable def octK (bl : List UInt8) : Nat → Nat → Nat → Nat × Nat
  | 0, k, v => (v, k)
  | n + 1, k, v => match bl[k]? with
    | none => (v, k)
    | some c => if 48 ≤ c.toNat ∧ c.toNat ≤ 55 then octK bl n (k + 1) (8 * v + c.toNat - 48) else (v, k)
noncomputable def meanU (c : UInt8) : UInt8 := if c.toNat = 110 then 10 else if c.toNat = 114 then 13 else if c.toNat = 116 then 9 else if c.toNat = 98 then 8 else if c.toNat = 102 then 12 else c
noncomputable def escK (bl : List UInt8) (k : Nat) : Option (List UInt8 × Nat) := match bl[k]? with
  | none => none
  | some c =>
    if 48 ≤ c.toNat ∧ c.toNat ≤ 55 then some ([UInt8.ofNat ((octK bl 2 (k + 1) (c.toNat - 48)).1 % 256)], (octK bl 2 (k + 1) (c.toNat - 48)).2)
    else if c.toNat = 13 then some ([], skipK bl (k + 1))
    else if c.toNat = 10 then some ([], k + 1)
    else some ([meanU c], k + 1)
noncomputable def rdK (bl : List UInt8) : Nat → Nat → List UInt8 → Nat → Option (List UInt8 × Nat)
  | 0, _, _, _ => none
  | n + 1, k, f, d => match bl[k]? with
    | none => none
    | some c =>
      if c.toNat = 92 then (match escK bl (k + 1) with
        | none => none
        | some (e, k') => rdK bl n k' (f ++ e) d)
      else if c.toNat = 13 then rdK bl n (skipK bl (k + 1)) (f ++ [10]) d
      else if c.toNat = 40 then rdK bl n (k + 1) (f ++ [c]) (d + 1)
      else if c.toNat = 41 then (if d = 1 then some (f, k + 1) else rdK bl n (k + 1) (f ++ [c]) (d - 1))
      else rdK bl n (k + 1) (f ++ [c]) d

theorem skipK_ge (bl : List UInt8) (k : Nat) : k ≤ skipK bl k := by unfold skipK; split <;> (try split) <;> omega
theorem octK_ge (bl : List UInt8) : ∀ n k v, k ≤ (octK bl n k v).2
  | 0, _, _ => Nat.le_refl _
  | n + 1, k, v => by
    unfold octK
    split
    · exact Nat.le_refl _
    · split
      · exact Nat.le_of_succ_le (octK_ge bl n (k + 1) _)
      · exact Nat.le_refl _
theorem escK_ge {bl : List UInt8} {k k' : Nat} {e : List UInt8} (h : escK bl k = some (e, k')) : k + 1 ≤ k' := by
  unfold escK at h
  split at h
  · cases h
  · split at h
    · cases h; exact octK_ge bl 2 (k + 1) _
    · split at h
      · cases h; exact skipK_ge bl (k + 1)
      · split at h <;> (cases h; exact Nat.le_refl _)
theorem oct_end {bl : List UInt8} {k v n : Nat} (h : bl[k]? = none) : octK bl n k v = (v, k) := by cases n <;> simp [octK, h]
theorem oct_no {bl : List UInt8} {k v n : Nat} {c : UInt8} (h : bl[k]? = some c) (ho : isO c = false) : octK bl n k v = (v, k) := by
  have := isO_iff'.mp ho
  cases n <;> simp [octK, h, this]
theorem oct_yes {bl : List UInt8} {k v n : Nat} {c : UInt8} (h : bl[k]? = some c) (ho : isO c = true) : octK bl (n + 1) k v = octK bl n (k + 1) (8 * v + c.toNat - 48) ∧ 48 ≤ c.toNat ∧ c.toNat ≤ 55 := by
  have := isO_iff.mp ho
  exact ⟨by simp [octK, h, this], this⟩
theorem oct_yn {bl : List UInt8} {k v : Nat} {c : UInt8} (h : bl[k]? = some c) (ho : isO c = true) (h2 : bl[k + 1]? = none) : octK bl 2 k v = (8 * v + c.toNat - 48, k + 1) ∧ 48 ≤ c.toNat ∧ c.toNat ≤ 55 := by
  rw [(oct_yes h ho).1, oct_end h2]; exact ⟨rfl, (oct_yes (n := 0) (v := 0) h ho).2⟩
theorem oct_yo {bl : List UInt8} {k v : Nat} {c d : UInt8} (h : bl[k]? = some c) (ho : isO c = true) (h2 : bl[k + 1]? = some d) (hd : isO d = false) : octK bl 2 k v = (8 * v + c.toNat - 48, k + 1) ∧ 48 ≤ c.toNat ∧ c.toNat ≤ 55 := by
  rw [(oct_yes h ho).1, oct_no h2 hd]; exact ⟨rfl, (oct_yes (n := 0) (v := 0) h ho).2⟩
theorem oct_yy {bl : List UInt8} {k v : Nat} {c d : UInt8} (h : bl[k]? = some c) (ho : isO c = true) (h2 : bl[k + 1]? = some d) (hd : isO d = true) :
    octK bl 2 k v = (8 * (8 * v + c.toNat - 48) + d.toNat - 48, k + 1 + 1) ∧ (48 ≤ c.toNat ∧ c.toNat ≤ 55) ∧ 48 ≤ d.toNat ∧ d.toNat ≤ 55 := by
  rw [(oct_yes h ho).1, (oct_yes h2 hd).1]; exact ⟨rfl, (oct_yes (n := 0) (v := 0) h ho).2, (oct_yes (n := 0) (v := 0) h2 hd).2⟩
local macro_rules | `(tactic| walk_at "call ref") => `(tactic| (k_here; (with_reducible show wpAny _ _ (call (Value.ref 383) _) _ _ _); k_dflt (first | (refine next_byte (Cx.mk rfl rfl (Nat.le_of_ble_eq_true rfl) (Nat.le_of_ble_eq_true rfl) rfl rfl (by k_asm) (by k_asm) (by k_asm) (by k_asm)) (by k_asm) (by k_mem) (by k_updF) (by first | assumption | rfl) (by assumption) (by assumption) ?_; intro t' h' tk' tk2' p' F' N' hp') | (refine next_end (Cx.mk rfl rfl (Nat.le_of_ble_eq_true rfl) (Nat.le_of_ble_eq_true rfl) rfl rfl (by k_asm) (by k_asm) (by k_asm) (by k_asm)) (by k_asm) (by k_mem) (by k_updF) (by first | assumption | rfl) (by assumption) (by assumption) ?_; intro h' tk2' F' N') | (refine next_any (Cx.mk rfl rfl (Nat.le_of_ble_eq_true rfl) (Nat.le_of_ble_eq_true rfl) rfl rfl (by k_asm) (by k_asm) (by k_asm) (by k_asm)) (by k_asm) (by k_mem) (by k_updF) (by first | assumption | rfl) (by assumption) (fun hc' h' tk2' F' N' => ?_) (fun c' hc' t' h' tk' tk2' p' F' N' hp' => ?_))); (all_goals (try dsimp only at N' ⊢)); (all_goals (try k_sweep))))
section
variable {w : World} {A : Around} {env : Env} {outer : List Env} {A₀ : Around} {base h₀ : Heap} {L : Addr} {m mg mb : PySem.Str → Option Value} {mean : ExcName → Option Value} {s : Shared} {Q E : Value → Shared → Prop} {news : List (Addr × Obj)} {g : Obj → List (Addr × Obj)}
  {x dx : Addr} {k1 k2 tb : Tok} {bl : List UInt8} {p : Int} {tk : Tok} {k : Nat} {c : UInt8}
set_option maxRecDepth 100000 in
set_option maxHeartbeats 8000000 in
theorem sure_byte (C : Cx 400 450 w A env outer A₀ base h₀ L m mg mb mean s) (N : News h₀ L s.heap news) (hx : (x, instObj 393 dx) ∈ news) (U : UpdF dx (srcD w k1 k2 bl tb p tk) news g)
  (hp : p = (k : Int)) (hc : bl[k]? = some c) (hfit : bl.length ≤ 1000)
  (ret : ∀ t h' tk' tk2 p', Fr h₀ L h' m → News h₀ L h' (g (srcD w k1 k2 bl tb p' tk')) → p' = ((k + 1 : Nat) : Int) → Q (.int c.toNat t) { s with heap := h', toks := tk2 }) :
  wpAny (model PR w) A (call (.ref 439) [.ref x]) Q E s := by
  obtain ⟨hh, hf, hdp, hu, hL, hk, B, F, X, T⟩ := C
  refine deepen 400 450 hh hf hdp hu ?_
  obtain ⟨rest, Nc, hoff, back⟩ := canon N hx U
  have hne := src_ne Nc
  clear N hx U
  refine wpAny_call ?_
  k_dflt ktr_enter
  k_steps
  all_goals exact ret _ _ _ _ _ (by k_asm) (back _ _ (by k_asm)) (by first | assumption | omega)
set_option maxRecDepth 100000 in
set_option maxHeartbeats 8000000 in
theorem skip_feed (C : Cx 400 450 w A env outer A₀ base h₀ L m mg mb mean s) (N : News h₀ L s.heap news) (hx : (x, instObj 393 dx) ∈ news) (U : UpdF dx (srcD w k1 k2 bl tb p tk) news g)
  (hp : p = (k : Int)) (hfit : bl.length ≤ 1000)
  (ret : ∀ h' tk' tk2 p', Fr h₀ L h' m → News h₀ L h' (g (srcD w k1 k2 bl tb p' tk')) → p' = ((skipK bl k : Nat) : Int) → Q .none { s with heap := h', toks := tk2 }) :
  wpAny (model PR w) A (call (.ref 411) [.ref x]) Q E s := by
  obtain ⟨hh, hf, hdp, hu, hL, hk, B, F, X, T⟩ := C
  refine deepen 400 450 hh hf hdp hu ?_
  obtain ⟨rest, Nc, hoff, back⟩ := canon N hx U
  have hne := src_ne Nc
  clear N hx U
  refine wpAny_call ?_
  k_dflt ktr_enter
  k_steps
  all_goals exact ret _ _ _ _ (by k_asm) (back _ _ (by k_asm)) (by (simp only [skipK, *]; try ((try split) <;> omega)))
end
theorem allLt_ne {d : Addr} : ∀ {l : List (Addr × Obj)}, AllLt d l → ∀ p ∈ l, p.1 ≠ d
  | [], _, _, h => nomatch h
  | q :: l, h, p, hp => by
    rcases List.mem_cons.mp hp with rfl | hp
    · exact Nat.ne_of_lt h.1
    · exact allLt_ne h.2 p hp
theorem unr_end {h₀ h' : Heap} {L I : Addr} {it : Obj} {R : (PySem.Str → Option Value) → List (Addr × Obj) → Prop} {s₁ : Shared} {tk : Nat} {m' : PySem.Str → Option Value} {a b : Addr × Obj} {l : List (Addr × Obj)}
    (F : Fr h₀ L h' m') (N : News h₀ L h' ((I, it) :: a :: b :: l)) (hl : @LT.lt Nat _ a.1 I ∧ @LT.lt Nat _ b.1 I ∧ AllLt I l) (r : R m' (a :: b :: l)) : UnrEnd h₀ L s₁ I it R { s₁ with heap := h', toks := tk } :=
  UnrEnd.intro F N (a :: b :: l) (fun _ hp => hp) (fun p hp => by
    rcases List.mem_cons.mp hp with rfl | hp
    · exact Nat.ne_of_lt hl.1
    rcases List.mem_cons.mp hp with rfl | hp
    · exact Nat.ne_of_lt hl.2.1
    · exact allLt_ne hl.2.2 p hp) r
local macro_rules | `(tactic| walk_at "UnrEnd") => `(tactic| (k_dflt (refine unr_end (by k_asm) (by k_asm) (by assumption) ?_)))
local macro_rules | `(tactic| walk_at "call ref") => `(tactic| (k_here; (with_reducible show wpAny _ _ (call (Value.ref 411) _) _ _ _); k_dflt ( (refine skip_feed (Cx.mk rfl rfl (Nat.le_of_ble_eq_true rfl) (Nat.le_of_ble_eq_true rfl) rfl rfl (by k_asm) (by k_asm) (by k_asm) (by k_asm)) (by k_asm) (by k_mem) (by k_updF) (by first | assumption | rfl) (by assumption) ?_; intro h' tk' tk2' p' F' N' hp')); (try dsimp only at N' ⊢); (try k_sweep)))
section
variable {w : World} {A : Around} {env : Env} {outer : List Env} {A₀ : Around} {base h₀ : Heap} {L : Addr} {m mg mb : PySem.Str → Option Value} {mean : ExcName → Option Value} {s : Shared} {Q E : Value → Shared → Prop} {news : List (Addr × Obj)} {g : Obj → List (Addr × Obj)}
  {x dx : Addr} {k1 k2 tb : Tok} {bl : List UInt8} {p : Int} {tk : Tok} {k : Nat} {c : UInt8}
 local macro_rules | `(tactic| walk_at "execs cons") => `(tactic| (k_here; (with_reducible show wpAny _ _ _ _ (fun e s' => wpAny _ _ (leaving _ e) _ _ s') _); refine noE ?_))
set_option maxRecDepth 100000 in
set_option maxHeartbeats 8000000 in
theorem is_octal_c (C : Cx 410 500 w A env outer A₀ base h₀ L m mg mb mean s) (N : News h₀ L s.heap news) {o : Int} {to : Tok} (ho : o = (c.toNat : Int))
  (ret : ∀ h' tk2, Fr h₀ L h' m → News h₀ L h' news → Q (.bool (isO c)) { s with heap := h', toks := tk2 }) :
  wpAny (model PR w) A (call (.ref 82) [.int o to]) Q E s := by
  obtain ⟨hh, hf, hdp, hu, hL, hk, B, F, X, T⟩ := C
  refine noE (deepen 410 500 hh hf hdp hu ?_)
  refine wpAny_call ?_
  by_cases h1 : 48 ≤ c.toNat
  · have hs : isO c = decide (o ≤ 55) := by simp [isO, h1, ho]; omega
    rw [hs] at ret
    k_dflt ktr_enter
    k_steps
    all_goals exact ret _ _ (by k_asm) (by k_asm)
  · have hs : isO c = decide (48 ≤ o) := by simp [isO, h1, ho]; omega
    rw [hs] at ret
    k_dflt ktr_enter
    k_steps
    all_goals exact ret _ _ (by k_asm) (by k_asm)
end

local macro_rules | `(tactic| walk_at "call ref") => `(tactic| (k_here; (with_reducible show wpAny _ _ (call (Value.ref 82) _) _ _ _); k_dflt (refine is_octal_c (Cx.mk rfl rfl (Nat.le_of_ble_eq_true rfl) (Nat.le_of_ble_eq_true rfl) rfl rfl (by k_asm) (by k_asm) (by k_asm) (by k_asm)) (by k_asm) (by first | assumption | rfl) ?_; intro h' tk2' F' N'); (try dsimp only at N' ⊢); (try simp only [*]); (try k_sweep)))
theorem s48 {x : Int} {n : Nat} (h : x = (n : Int)) (l : 48 ≤ n) : x - 48 = ((n - 48 : Nat) : Int) := by omega
theorem o48 {x : Int} {n c : Nat} (h : x = (n : Int)) (l : 48 ≤ c) : 8 * x + (c : Int) - 48 = ((8 * n + c - 48 : Nat) : Int) := by omega
theorem m8 {x : Int} {n : Nat} (h : x = (n : Int)) : x % 256 = ((n % 256 : Nat) : Int) := by subst h; rfl
section
variable {w : World} {A : Around} {env : Env} {outer : List Env} {A₀ : Around} {base h₀ : Heap} {L : Addr} {m mg mb : PySem.Str → Option Value} {mean : ExcName → Option Value} {s : Shared} {Q E : Value → Shared → Prop} {news : List (Addr × Obj)} {g : Obj → List (Addr × Obj)}
  {x dx : Addr} {k1 k2 tb : Tok} {bl : List UInt8} {p : Int} {tk : Tok} {k : Nat} {c : UInt8}
 local macro_rules | `(tactic| walk_at "execs cons") => `(tactic| (k_here; (with_reducible show wpAny _ _ _ _ (fun e s' => wpAny _ _ (leaving _ e) _ _ s') _); refine noE ?_))
set_option maxRecDepth 100000 in
set_option maxHeartbeats 8000000 in
theorem octal_c (C : Cx 390 400 w A env outer A₀ base h₀ L m mg mb mean s) (N : News h₀ L s.heap news) (hx : (x, instObj 393 dx) ∈ news) (U : UpdF dx (srcD w k1 k2 bl tb p tk) news g)
  (hp : p = (k : Int)) (hfit : bl.length ≤ 1000) {o : Int} {to : Tok} (ho : o = (c.toNat : Int)) (hO : isO c = true)
  (ret : ∀ t h' tk' tk2 p' v, Fr h₀ L h' m → News h₀ L h' (g (srcD w k1 k2 bl tb p' tk')) → v = (((octK bl 2 k (c.toNat - 48)).1 % 256 : Nat) : Int) → p' = ((octK bl 2 k (c.toNat - 48)).2 : Int) → Q (.int v t) { s with heap := h', toks := tk2 }) :
  wpAny (model PR w) A (call (.ref 446) [.ref x, .int o to]) Q E s := by
  obtain ⟨hh, hf, hdp, hu, hL, hk, B, F, X, T⟩ := C
  refine noE (deepen 390 400 hh hf hdp hu ?_)
  obtain ⟨rest, Nc, hoff, back⟩ := canon N hx U
  have hne := src_ne Nc
  clear N hx U
  refine wpAny_call ?_
  k_dflt ktr_enter
  k_steps
  · have e9 := oct_end (bl := bl) (k := k) (n := 2) (v := c.toNat - 48) (by assumption)
    (have b0 := isO_iff.mp hO; rw [e9] at ret; dsimp only at ret; exact ret _ _ _ _ _ _ (by k_asm) (back _ _ (by first | k_asm | exact news_tail (by k_asm))) (by rw [bitAnd_m8]; exact m8 (s48 ho b0.1)) (by omega))
  · obtain ⟨e9, b9⟩ := oct_yn (bl := bl) (k := k) (v := c.toNat - 48) (by assumption) (by assumption) (by assumption)
    (have b0 := isO_iff.mp hO; rw [e9] at ret; dsimp only at ret; exact ret _ _ _ _ _ _ (by k_asm) (back _ _ (by first | k_asm | exact news_tail (by k_asm))) (by rw [bitAnd_m8]; exact m8 (o48 (s48 ho b0.1) b9.1)) (by omega))
  · obtain ⟨e9, b9⟩ := oct_yy (bl := bl) (k := k) (v := c.toNat - 48) (by assumption) (by assumption) (by assumption) (by assumption)
    (have b0 := isO_iff.mp hO; rw [e9] at ret; dsimp only at ret; exact ret _ _ _ _ _ _ (by k_asm) (back _ _ (by first | k_asm | exact news_tail (by k_asm))) (by rw [bitAnd_m8]; exact m8 (o48 (o48 (s48 ho b0.1) b9.1.1) b9.2.1)) (by omega))
  · obtain ⟨e9, b9⟩ := oct_yo (bl := bl) (k := k) (v := c.toNat - 48) (by assumption) (by assumption) (by assumption) (by assumption)
    (have b0 := isO_iff.mp hO; rw [e9] at ret; dsimp only at ret; exact ret _ _ _ _ _ _ (by k_asm) (back _ _ (by first | k_asm | exact news_tail (by k_asm))) (by rw [bitAnd_m8]; exact m8 (o48 (s48 ho b0.1) b9.1)) (by omega))
  · have e9 := oct_no (bl := bl) (k := k) (n := 2) (v := c.toNat - 48) (by assumption) (by assumption)
    (have b0 := isO_iff.mp hO; rw [e9] at ret; dsimp only at ret; exact ret _ _ _ _ _ _ (by k_asm) (back _ _ (by first | k_asm | exact news_tail (by k_asm))) (by rw [bitAnd_m8]; exact m8 (s48 ho b0.1)) (by omega))
end
/-! the text's own exception PsError(told): made, flying out of frames -/
section
variable {M : Model} {A : Around} {E : Value → Shared → Prop} {s : Shared}
/-- e is a PsError with its dict d and a traceback whose flight is fl -/
def Ex (base h : Heap) (e d : Addr) (fl : Value) : Prop :=
  ∃ oe vs T oT ts, h.get? e = some oe ∧ (oe.cls = .ref 52 ∧ oe.dict = some d) ∧ oe.data = .fields vs ∧ vs[1]? = some (.ref T) ∧ base.get? T = none ∧ T ≠ e ∧ h.get? T = some oT ∧ oT.data = .fields ts ∧ ts[3]? = some fl
def Ex0 (h : Heap) (e d : Addr) : Prop :=
  ∃ oe vs, h.get? e = some oe ∧ (oe.cls = .ref 52 ∧ oe.dict = some d) ∧ oe.data = .fields vs ∧ vs[1]? = some .none
def Told (h : Heap) (d : Addr) (es : List DictEntry) : Prop := ∃ n sl, h.get? d = some { dictOf es n with slots := sl }
theorem Told.up {h h' : Heap} {d : Addr} {es : List DictEntry} (x : Told h d es) (k : h.UpToSlots h') : Told h' d es := by
  obtain ⟨n, sl, e⟩ := x
  obtain ⟨sl', e'⟩ := k d _ e (fun vs q => by cases q)
  exact ⟨n, sl', e'⟩
theorem dict_mapFields (f : Array Value → Array Value) (o : Obj) : (Obj.mapFields f o).dict = o.dict := by
  obtain ⟨c, d, dt, sl⟩ := o
  cases dt <;> rfl

theorem entry_ps {base : Heap} {env : Env} {outer : List Env} {L e d : Addr} {oe : Obj} {vs : Array Value} {head : Value} {hadNext : Bool} {Q : Unit → Shared → Prop}
    (hfr : A.frames = some (env :: outer)) (hl : s.heap.FunFrames base (env :: outer)) (hf : env.frame = some L)
    (he : s.heap.get? e = some oe) (hkb : base.StaysIn s.heap) (hen : base.get? e = none) (hcd : oe.cls = .ref 52 ∧ oe.dict = some d) (hd : oe.data = .fields vs) (hsz : 1 < vs.size)
    (h : ∀ h', base.StaysIn h' → h'.FunFrames base (env :: outer) → Ex base h' e d (rawInt L) → s.heap.UpToSlots h' → Q () { s with heap := h' }) :
    wpAny M A (do let a ← frameOf env; let pl ← entryPlaceOf L hadNext; let b ← EntryCells.newEntry head a .none (rawInt L) .none pl; setField (.ref e) 1 b) Q E s := by
  have off : e ∉ (env :: outer).filterMap (·.frame) := fun hm => by
    obtain ⟨_, o, ho, hnf⟩ := hl.mem hm
    rw [he] at ho
    exact hnf vs (Option.some.inj ho ▸ hd)
  refine wpAny_bind (wpAny_frameOf_fun hfr hl hf fun h₁ hs => wpAny_bind (wpAny_entryPlaceOf fun pl hpl => ?_))
  have e1 : h₁.get? e = some oe := (hs.2.1 e off).trans he
  have st1 : base.StaysIn h₁ := fun b o q => (hs.2.1 b fun hm => by have := (hl.mem hm).1; rw [this] at q; cases q).trans (hkb b o q)
  have up1 : s.heap.UpToSlots h₁ := fun b o q _ => hs.2.2 b o q
  unfold EntryCells.newEntry newFields
  refine wpAny_bind (wpAny_newObj_type ?_ (hpl.sizeOk5 _ _ _ _ _))
  generalize hT : ({ cls := .type "traceback", dict := none, data := .fields ([head, .ref L, .none, rawInt L, .none] ++ (if pl.isEmpty then List.replicate 6 Value.none else pl)).toArray } : Obj) = oT
  have dT : oT.data = .fields ([head, .ref L, .none, rawInt L, .none] ++ (if pl.isEmpty then List.replicate 6 Value.none else pl)).toArray := by rw [← hT]
  have fT : oT.isFreed = false := by rw [← hT]; rfl
  have e2 := Heap.get?_push_of_some oT e1
  refine wpAny_setField e2 hd hsz ?_
  have ne : h₁.objs.size ≠ e := Nat.ne_of_gt (Heap.lt_size e1)
  have de := Obj.data_mapFields hd (·.setIfInBounds 1 (Value.ref h₁.objs.size))
  have e3 := Heap.get?_update_self (Obj.mapFields (·.setIfInBounds 1 (Value.ref h₁.objs.size))) e2 (Obj.isFreed_of_fields de)
  have T3 := (Heap.get?_update_other (h₁.push oT) (Obj.mapFields (·.setIfInBounds 1 (Value.ref h₁.objs.size))) (Ne.symm ne)).trans (Heap.get?_push_size h₁ fT)
  have old : ∀ b o, b ≠ e → h₁.get? b = some o → ((h₁.push oT).update e (Obj.mapFields (·.setIfInBounds 1 (Value.ref h₁.objs.size)))).get? b = some o :=
    fun b o hb q => (Heap.get?_update_other _ _ (Ne.symm hb)).trans (Heap.get?_push_of_some _ q)
  have noE : ∀ b o, h₁.get? b = some o → (∀ vs, o.data ≠ .fields vs) → b ≠ e := fun b o q nf z => by
    rw [z, e1] at q
    exact nf vs (Option.some.inj q ▸ hd)
  have up2 : h₁.UpToSlots ((h₁.push oT).update e (Obj.mapFields (·.setIfInBounds 1 (Value.ref h₁.objs.size)))) := fun b o q nf => ⟨o.slots, old b o (noE b o q nf) q⟩
  refine h _ (fun b o q => old b o (fun z => by rw [z, hen] at q; cases q) (st1 b o q)) (hl.of_keeps fun b o q nf => ?_) ?_ (up1.trans up2)
  · obtain ⟨sl, q1⟩ := (up1.trans up2) b o q nf
    exact ⟨_, q1, rfl⟩
  · refine ⟨_, _, h₁.objs.size, oT, _, e3, ⟨(Obj.cls_mapFields _ _).trans hcd.1, (dict_mapFields _ _).trans hcd.2⟩, de, by simp [hsz], st1.fresh, ne, T3, dT, ?_⟩
    rcases hpl with rfl | ⟨_, _, _, _, _, _, _, rfl⟩ <;> simp

theorem note_ps {base : Heap} {env : Env} {outer : List Env} {L e d : Addr} {Q : Unit → Shared → Prop}
    (hfr : A.frames = some (env :: outer)) (hl : s.heap.FunFrames base (env :: outer)) (hf : env.frame = some L) (hkb : base.StaysIn s.heap) (hen : base.get? e = none) (hx : Ex0 s.heap e d ∨ Ex base s.heap e d .none)
    (h : ∀ h', base.StaysIn h' → h'.FunFrames base (env :: outer) → Ex base h' e d (rawInt L) → s.heap.UpToSlots h' → Q () { s with heap := h' }) :
    wpAny M A (noteFrame (.ref e) env) Q E s := by
  unfold noteFrame
  simp only [hf]
  rcases hx with ⟨oe, vs, he, hcd, hd, h1⟩ | ⟨oe, vs, T, oT, ts, he, hcd, hd, h1, hnT, hTe, hT, hdT, h3⟩
  · refine wpAny_bind (wpAny_field he hd h1 ?_)
    rw [if_neg (by decide)]
    exact entry_ps hfr hl hf he hkb hen hcd hd (Array.getElem?_eq_some_iff.mp h1).1 h
  · refine wpAny_bind (wpAny_field he hd h1 ?_)
    rw [if_pos (show (Value.ref T != Value.none) = true from by simp)]
    refine wpAny_bind (wpAny_field hT hdT h3 ?_)
    rw [if_neg (show ¬ ((Value.none == rawInt L) = true) from by simp [rawInt])]
    refine wpAny_bind (wpAny_setField hT hdT (Array.getElem?_eq_some_iff.mp h3).1 ?_)
    have other : ∀ b, b ≠ T → (s.heap.update T (Obj.mapFields (·.setIfInBounds 3 Value.none))).get? b = s.heap.get? b := fun b hb => Heap.get?_update_other _ _ (Ne.symm hb)
    have noT : ∀ b o, s.heap.get? b = some o → (∀ vs, o.data ≠ .fields vs) → b ≠ T := fun b o q nf z => by
      rw [z, hT] at q
      exact nf ts (Option.some.inj q ▸ hdT)
    have up : s.heap.UpToSlots (s.heap.update T (Obj.mapFields (·.setIfInBounds 3 Value.none))) := fun b o q nf => ⟨o.slots, (other b (noT b o q nf)).trans q⟩
    exact entry_ps (s := { s with heap := _ }) hfr (hl.of_keeps fun b o q nf => ⟨o, (other b (noT b o q nf)).trans q, rfl⟩) hf ((other e (Ne.symm hTe)).trans he)
      (fun b o q => (other b fun z => by rw [z, hnT] at q; cases q).trans (hkb b o q)) hen hcd hd (Array.getElem?_eq_some_iff.mp h1).1
      fun h' x1 x2 x3 x4 => h h' x1 x2 x3 (up.trans x4)

theorem note_again {base : Heap} {env : Env} {L e d : Addr} {Q : Unit → Shared → Prop} (hf : env.frame = some L) (hx : Ex base s.heap e d (rawInt L)) (h : Q () s) : wpAny M A (noteFrame (.ref e) env) Q E s := by
  obtain ⟨oe, vs, T, oT, ts, he, hcd, hd, h1, hnT, hTe, hT, hdT, h3⟩ := hx
  unfold noteFrame
  simp only [hf]
  refine wpAny_bind (wpAny_field he hd h1 ?_)
  rw [if_pos (show (Value.ref T != Value.none) = true from by simp)]
  refine wpAny_bind (wpAny_field hT hdT h3 ?_)
  rw [if_pos (by simp)]
  exact wpAny_pure h

theorem unflight_ps {base : Heap} {l : List Env} {e d : Addr} {fl : Value} {Q : Unit → Shared → Prop} (hkb : base.StaysIn s.heap) (hl : s.heap.FunFrames base l) (hx : Ex base s.heap e d fl)
    (h : ∀ h', base.StaysIn h' → h'.FunFrames base l → Ex base h' e d .none → s.heap.UpToSlots h' → Q () { s with heap := h' }) : wpAny M A (setFlight (.ref e) none) Q E s := by
  obtain ⟨oe, vs, T, oT, ts, he, hcd, hd, h1, hnT, hTe, hT, hdT, h3⟩ := hx
  have h3s : 3 < ts.size := (Array.getElem?_eq_some_iff.mp h3).1
  have other : ∀ b, b ≠ T → (s.heap.update T (Obj.mapFields (·.setIfInBounds 3 ((none : Option Addr).elim Value.none fun f => rawInt f)))).get? b = s.heap.get? b := fun b hb => Heap.get?_update_other _ _ (Ne.symm hb)
  have noT : ∀ b o, s.heap.get? b = some o → (∀ vs, o.data ≠ .fields vs) → b ≠ T := fun b o q nf z => by
    rw [z, hT] at q
    exact nf ts (Option.some.inj q ▸ hdT)
  unfold setFlight
  refine wpAny_bind (wpAny_field he hd h1 ?_)
  rw [if_pos (show (Value.ref T != Value.none) = true from by simp)]
  refine wpAny_setField hT hdT h3s (h _ (fun b o q => (other b fun z => by rw [z, hnT] at q; cases q).trans (hkb b o q))
    (hl.of_keeps fun b o q nf => ⟨o, (other b (noT b o q nf)).trans q, rfl⟩) ?_ fun b o q nf => ⟨o.slots, (other b (noT b o q nf)).trans q⟩)
  exact ⟨oe, vs, T, _, _, (other e (Ne.symm hTe)).trans he, hcd, hd, h1, hnT, hTe, Heap.get?_update_self _ hT (Obj.isFreed_of_fields (Obj.data_mapFields hdT _)), Obj.data_mapFields hdT _, by simp [h3s]⟩

/-- the exception flies over the frames l; the frame at hand there stands with its names m -/
structure Flown (base : Heap) (l : List Env) (h₀ : Heap) (L : Addr) (m : PySem.Str → Option Value) (e d : Addr) (es : List DictEntry) (h : Heap) : Prop where
  stays : base.StaysIn h
  fresh : base.get? e = none
  frames : h.FunFrames base l
  exc : Ex base h e d .none
  told : Told h d es
  up : h₀.UpToSlots h
  ns : h.Ns L m

theorem leave_ps {base g h₁ h₀ : Heap} {env : Env} {outer : List Env} {A₁ : Around} {L L' e d a : Addr} {m m' : PySem.Str → Option Value} {es : List DictEntry} {name : PySem.Str} {scope : Scope} {cd : Value} {Q : Unit → Shared → Prop}
    (K : Below A₁ base (env :: outer) g) (FG : Fr h₀ L g m) (F : Fr g L' h₁ m') (hk : h₁.UpToSlots s.heap) (hst : base.StaysIn s.heap) (hx : Ex0 s.heap e d) (hen : base.get? e = none) (ht : Told s.heap d es)
    (hQ : ∀ h', Flown base (env :: outer) h₀ L m e d es h' → Q () { s with heap := h' }) (hkf : scope.kind = .function := by rfl) :
    wpAny M (A₁.deeper (envOf name scope L' a cd)) (leaving (envOf name scope L' a cd) (.ref e)) Q E s := by
  have K' := K.push (name := name) (a := a) (cd := cd) F hkf
  have fr : s.heap.FunFrames base (envOf name scope L' a cd :: env :: outer) := K'.frames.of_keeps fun b o q nf => by
    obtain ⟨sl, q'⟩ := hk b o q nf
    exact ⟨_, q', rfl⟩
  unfold leaving
  refine wpAny_bind (note_ps K'.stack fr rfl hst hen (.inl hx) fun h₂ s2 f2 x2 u2 => ?_)
  refine unflight_ps (s := { s with heap := h₂ }) s2 f2 x2 fun h₃ s3 f3 x3 u3 => ?_
  have ug : g.UpToSlots h₃ := (Heap.UpToSlots.of_keeps F.keep).trans ((hk.trans u2).trans u3)
  exact hQ h₃ ⟨s3, hen, f3.2.2, x3, (ht.up u2).up u3, (Heap.UpToSlots.of_keeps FG.keep).trans ug, ug.ns FG.ns⟩

theorem leave_on {base g h₀ : Heap} {env : Env} {outer : List Env} {A₁ : Around} {L L' e d a : Addr} {m m' : PySem.Str → Option Value} {es : List DictEntry} {name : PySem.Str} {scope : Scope} {cd : Value} {Q : Unit → Shared → Prop}
    (K : Below A₁ base (env :: outer) g) (FG : Fr h₀ L g m) (R : Flown base (envOf name scope L' a cd :: env :: outer) g L' m' e d es s.heap)
    (hQ : ∀ h', Flown base (env :: outer) h₀ L m e d es h' → Q () { s with heap := h' }) :
    wpAny M (A₁.deeper (envOf name scope L' a cd)) (leaving (envOf name scope L' a cd) (.ref e)) Q E s := by
  unfold leaving
  refine wpAny_bind (note_ps (Around.frames_deeper K.stack) R.frames rfl R.stays R.fresh (.inr R.exc) fun h₂ s2 f2 x2 u2 => ?_)
  refine unflight_ps (s := { s with heap := h₂ }) s2 f2 x2 fun h₃ s3 f3 x3 u3 => ?_
  have ug : g.UpToSlots h₃ := (R.up.trans u2).trans u3
  exact hQ h₃ ⟨s3, R.fresh, f3.2.2, x3, (R.told.up u2).up u3, (Heap.UpToSlots.of_keeps FG.keep).trans ug, ug.ns FG.ns⟩
end
section
variable {w : World} {A : Around} {R : Result → Shared → Prop} {h : Heap} {g : Array GenState} {dr : Drawn} {t : Nat} {os : OsState}
noncomputable abbrev psObj (ta : Addr) : Obj := { cls := .ref 52, data := .fields #[.ref ta, .none, .none, .none, .bool false, .none] }
noncomputable abbrev tupObj (vs : List Value) : Obj := { cls := .type "tuple", data := .seq vs.toArray }
theorem ps_sub (X : (hd.heap_39 w.params).In h) : Looks (model PR w) h (isSubtype (.ref 52) (.type "Exception")) true := looks_subIn X (by k_is)
theorem ps_subA (X : (hd.heap_39 w.params).In h) : Looks (model PR w) h (isSubtype (.ref 52) (.type "AttributeError")) false := looks_subIn X (by k_is)
theorem ps_subN (X : (hd.heap_39 w.params).In h) : Looks (model PR w) h (isSubtype (.ref 52) (.type "NameError")) false := looks_subIn X (by k_is)
theorem ps_subB (X : (hd.heap_39 w.params).In h) : Looks (model PR w) h (isSubtype (.ref 52) (.type "BaseException")) true := looks_subIn X (by k_is)
theorem ps_self (X : (hd.heap_39 w.params).In h) : Looks (model PR w) h (isSubtype (.ref 52) (.ref 52)) true := looks_subIn X (by k_is)
theorem ps_isType (X : (hd.heap_39 w.params).In h) : Looks (model PR w) h (isType (.ref 52)) true := Looks.of_peek X (by kernel_rfl)
theorem ps_madeBy (X : (hd.heap_39 w.params).In h) : Looks (model PR w) h (Bind.madeBy (.ref 52)) (some "Exception.__new__") := Looks.of_peek X (by kernel_rfl)
theorem ps_madeHere (X : (hd.heap_39 w.params).In h) : Looks (model PR w) h (Bind.madeHere "BaseException.__new__" (.ref 52)) () := Looks.of_peek X (by kernel_rfl)
theorem ps_mro (X : (hd.heap_39 w.params).In h) : Looks (model PR w) h (mroOf (.ref 52)) [.ref 52, .ref 39, .type "Exception", .type "BaseException", .type "object"] := Looks.of_peek X (by kernel_rfl)
theorem ps_init (X : (hd.heap_39 w.params).In h) : Looks (model PR w) h (typeLookup (.ref 52) "__init__") (some (.ref 36)) := looks_findIn X (by k_is)
theorem ps_fn (X : (hd.heap_39 w.params).In h) (v : Value) : Looks (model PR w) h (bindSpecial (.ref 36) v) (.ref 36, [v]) := bind_fn X v (by k_is)
theorem ps_callSlot (X : (hd.heap_39 w.params).In h) : Looks (model PR w) h (specialOf (.ref 52) "__call__") (some (.builtin "type.__call__")) := looks_specialIn X (by k_is)
theorem ps_typ (X : (hd.heap_39 w.params).In h) : Looks (model PR w) h (isInstance (.ref 52) (.type "type")) true := looks_instIn X (by k_is)
theorem ps_newCheck (X : (hd.heap_39 w.params).In h) (rest : List Value) : Looks (model PR w) h (checkBuiltinCall "Exception.__new__" ⟨.ref 52 :: rest, []⟩) () := Looks.of_peek X (by kernel_rfl)
theorem ps_new (X : (hd.heap_39 w.params).In h) {rest : List Value} (hrest : rest.length ≤ 10)
    (hq : R (.ok (.ret (.ref (h.objs.size + 1)))) ⟨(h.push (tupObj rest)).push (psObj h.objs.size), g, dr, t, os⟩) :
    codeAny (model PR w) A (.builtin "Exception.__new__" ⟨.ref 52 :: rest, []⟩) R ⟨h, g, dr, t, os⟩ := by
  have F := PySem.F.excBase_Exception
  have hends := F.ends
  have L1 := ps_sub X
  have L2 := ps_subA X
  have L3 := ps_subN X
  have L4 := ps_isType X
  have L5 := ps_madeHere X
  have hrest' : rest.length ≤ sizeLine := by rw [sizeLine_eq]; omega
  refine codeAny_builtinAt F.entry ?_
  unfold Builtin.«BaseException.__new__»
  refine PySem.wpAt_bind ?_
  show PySem.wpAt _ _ _ (stack >>= _) _ _ _
  refine PySem.wpAt_bind (PySem.wpAt_stack fun p below => PySem.wpAt_of_wpAny ?_)
  wp_walk
  refine PySem.wpAt_of_wpAny ?_
  rw [F.owner]
  repeat lk
  have hz : ¬ (rest.toArray.size > sizeLine) := by rw [List.size_toArray]; omega
  rw [if_neg hz]
  repeat wp_step
  have hC := X 52 _ (by k_is)
  refine wpAny_load (Heap.get?_push_of_some _ (Heap.get?_push_of_some _ hC)) ?_
  repeat wp_step
  show R _ _
  rw [Heap.size_push]
  exact hq
theorem ps_core (X : (hd.heap_39 w.params).In h) {rest : List Value} (hrest : rest.length ≤ 10)
    (hq : codeAny (model PR w) (A.under (.builtin "type.__call__" ⟨.ref 52 :: rest, []⟩)) (.call (.ref 36) ⟨.ref (h.objs.size + 1) :: rest, []⟩) (InitBack (h.objs.size + 1) R) ⟨(h.push (tupObj rest)).push (psObj h.objs.size), g, dr, t, os⟩) :
    codeAny (model PR w) A (.call (.ref 52) ⟨rest, []⟩) R ⟨h, g, dr, t, os⟩ := by
  have hC := X 52 _ (by k_is)
  have call := ps_callSlot X
  have typ := ps_typ X
  have hm := ps_mro X
  have made := ps_madeBy X
  refine codeAny_of_tree ?_
  show wpAny _ _ (callAny (.ref 52) _) _ _ _
  refine nd_load hC ?_
  show wpAny _ _ (callAny.viaDunder (.ref 52) _) _ _ _
  unfold callAny.viaDunder
  refine wpAny_bind (call.at ?_)
  dsimp only
  rw [tc_bind]
  refine wpAny_bind (wpAny_pure (wpAny_bind (wpAny_pure ?_)))
  refine wpAny_pure (a := Fin.again (.call (.builtin "type.__call__") ⟨.ref 52 :: rest, []⟩)) (And.intro rfl ?_)
  refine codeAny_call_builtin_at (Code.quiet_builtin _ (by decide +kernel)) entry_typeCall (check_slot tc_kind tc_split typ (tc_args _ _ _) ?_)
  unfold Builtin.«type.__call__»
  repeat (first | simp only [List.isEmpty_cons, Bool.false_eq_true, if_false] | with_reducible refine wpAny_call ?_ | lk)
  refine codeAny_call_builtin_code (Code.quiet_builtin _ PySem.F.excBase_Exception.quiet) ((ps_newCheck X rest).at ?_)
  refine ps_new X hrest ?_
  have k : ∀ b o, h.get? b = some o → ((h.push (tupObj rest)).push (psObj h.objs.size)).get? b = some o := fun b o e => Heap.get?_push_of_some _ (Heap.get?_push_of_some _ e)
  have hx : ((h.push (tupObj rest)).push (psObj h.objs.size)).get? (h.objs.size + 1) = some (psObj h.objs.size) := by heap_get
  have t1 : Looks (model PR w) ((h.push (tupObj rest)).push (psObj h.objs.size)) (typeOf (.ref (h.objs.size + 1))) (.ref 52) := (Looks.ld hx).andThen .now
  have s1 := (ps_self X).keeps k
  have i1 := (ps_init X).keeps k
  have b1 := (ps_fn X (.ref (h.objs.size + 1))).keeps k
  unfold isInstance callSpecial? specialOf
  repeat (first | with_reducible refine wpAny_call ?_ | lk)
  refine codeAny_mono hq fun r s' z => ?_
  rcases r with e | (v | _ | _ | _) <;> first | exact z | exact z.elim | skip
  obtain ⟨rfl, z⟩ := z
  exact wpAny_pure (wpAny_pure z)
end
section
variable {w : World} {A : Around} {s : Shared} {h₀ : Heap} {L : Addr} {m : PySem.Str → Option Value} {news : List (Addr × Obj)} {Q E : Value → Shared → Prop}
theorem call_ps (F : Fr h₀ L s.heap m) (N : News h₀ L s.heap news) (X : (hd.heap_39 w.params).In h₀) {rest : List Value} (hrest : rest.length ≤ 10)
    (h : ∀ e te h', Fr h₀ L h' m → News h₀ L h' ((e, psObj te) :: (te, tupObj rest) :: news) → (∀ p ∈ news, p.1 < te) → te < e →
      codeAny (model PR w) (A.under (.builtin "type.__call__" ⟨.ref 52 :: rest, []⟩)) (.call (.ref 36) ⟨.ref e :: rest, []⟩) (InitBack e fun r s' => match r with | .ok (.ret v) => Q v s' | .ok _ => False | .error e => E e s') { s with heap := h' }) :
    wpAny (model PR w) A (call (.ref 52) rest) Q E s := by
  refine wpAny_call ?_
  obtain ⟨hh, g, d, t, os⟩ := s
  refine ps_core (X.keeps F.keep) hrest (h _ hh.objs.size _ ((F.push _).push _) ?_ (fun p hp => Heap.lt_size (N p hp).1) (Nat.lt_succ_self _))
  have := (N.push F (tupObj rest)).push (F.push _) (psObj hh.objs.size)
  rwa [Heap.size_push] at this
end
section
variable {w : World} {A : Around} {s : Shared} {h₀ : Heap} {L : Addr} {m : PySem.Str → Option Value} {news : List (Addr × Obj)} {Q : Unit → Shared → Prop} {E : Value → Shared → Prop}
noncomputable abbrev toldEs (w : World) (k : Tok) (v : Value) : List DictEntry := [{ hash := PyData.keyHash w.params (Str.ofString "told"), key := .str (Str.ofString "told") k, val := v }]
noncomputable abbrev psObjD (ta d : Addr) : Obj := { cls := .ref 52, dict := some d, data := .fields #[.ref ta, .none, .none, .none, .bool false, .none] }
open PySem.Builtin PySem.Builtin.ObjectAttr in
theorem set_told {e ta : Addr} {v : Value} (F : Fr h₀ L s.heap m) (N : News h₀ L s.heap ((e, psObj ta) :: news)) (X₀ : (hd.heap_39 w.params).In h₀) (off : ∀ p ∈ news, p.1 ≠ e)
    (h : ∀ d h' k tk', Fr h₀ L h' m → News h₀ L h' ((d, dictOf (toldEs w k v) 1) :: (e, psObjD ta d) :: news) → @LT.lt Nat _ e d → (∀ p ∈ news, p.1 < d) → Q () { s with heap := h', toks := tk' }) :
    wpAny (model PR w) A (setAttr (.ref e) (Str.ofString "told") v) Q E s := by
  have X := X₀.keeps F.keep
  have SF := PySem.F.store_Exception
  have he := (N _ (.head _)).1
  have I : InstAt s.heap e (psObj ta) 52 none := ⟨he, rfl, rfl, True.intro⟩
  refine set_plain X I (by k_is) ?_
  have L1 : Looks (model PR w) s.heap (typeOf (.ref e)) (.ref 52) := I.type
  have L2 := ps_mro X
  have L3 : Looks (model PR w) s.heap (typeLookup (.ref 52) (Str.ofString "told")) none := looks_findIn X (by k_is)
  have sub : Looks (model PR w) s.heap (isInstance (.ref e) (.type "object")) true := L1.andThen (looks_subIn X (by k_is))
  refine codeAny_call_builtin SF.slot.plain SF.entry (@check_slot (model PR w) _ _ _ "object.__setattr__" "object" "__setattr__" (.ref e) [.str (Str.ofString "told") s.toks, v] [] _ SF.kind SF.split sub (SF.args (.ref e) (.str (Str.ofString "told") s.toks) v) ?_)
  rw [osa_eq, refuse_eq]
  refine wpAny_bind (wpAny_bind (L1.at (wpAny_bind (L2.at ?_))))
  rw [refuseLoop_ref, refuseLoop_ref, SF.passes]
  refine wpAny_pure (wpAny_bind (L1.at (wpAny_bind (L3.at (wpAny_bind (wpAny_pure ?_))))))
  dsimp only
  unfold storeInOwnDict ownStreamTells ownDictForStores instanceDict
  obtain ⟨hh, g, dr, t, os⟩ := s
  have hC := X 52 _ (by k_is)
  dsimp only at he hC
  repeat (first | with_reducible refine wpAny_loadPart_at he ?_ | with_reducible refine wpAny_load hC ?_ | wp_step)
  have lt : e < hh.objs.size := Heap.lt_size he
  have N1 := N.push F emptyDict
  have F1 := F.push emptyDict
  dsimp only at N1 F1 N F
  obtain ⟨F2, N2⟩ := news_upd (pre := [(hh.objs.size, emptyDict)]) (post := news) (d := e) (o := psObj ta) (o' := psObjD ta hh.objs.size) (f := fun o => { o with dict := some hh.objs.size }) F1 N1
    (fun p hp => by rw [List.mem_singleton.mp hp]; exact Nat.ne_of_gt lt) off rfl rfl
  generalize (hh.push emptyDict).update e (fun o => { o with dict := some hh.objs.size }) = h2 at F2 N2 ⊢
  refine wpAny_askSetting (wpAny_pure (wpAny_bind (wpAny_mkText (wpAny_bind (wpAny_loadPart (N2 (hh.objs.size, emptyDict) (.head _)).1 ?_)))))
  dsimp only
  rw [if_neg (by rw [show aRefKeyMayBeTheName (Str.ofString "told") #[] = false from by kernel_rfl]; decide)]
  refine wpAny_updatePart (N2 (hh.objs.size, emptyDict) (.head _)).1 ?_
  have ep : Obj.putName (Str.ofString "told") (PyData.keyHash w.params (Str.ofString "told")) (.str (Str.ofString "told") (t + 1)) v emptyDict = dictOf (toldEs w (t + 1) v) 1 := putName_dict _ _ _ _ [] 0
  obtain ⟨F3, N3⟩ := news_upd (pre := []) (post := (e, psObjD ta hh.objs.size) :: news) (d := hh.objs.size) (o := emptyDict) (o' := dictOf (toldEs w (t + 1) v) 1) (f := Obj.putName (Str.ofString "told") (PyData.keyHash w.params (Str.ofString "told")) (.str (Str.ofString "told") (t + 1)) v) F2 N2
    (fun p hp => nomatch hp) (fun p hp => by
      rcases List.mem_cons.mp hp with rfl | hp
      · exact Nat.ne_of_lt lt
      · exact Nat.ne_of_lt (Heap.lt_size (N p (.tail _ hp)).1)) ep rfl
  refine wpAny_bind (wpAny_lookBehind (N3 _ (.head _)).1 (pastItsLine_dict (by rw [sizeLine_eq]; exact Nat.le_of_ble_eq_true rfl)) (wpAny_pure ?_))
  exact h _ _ _ _ F3 N3 lt fun p hp => Heap.lt_size (N p (.tail _ hp)).1
end
section
def PsUp (E : Value → Shared → Prop) (v : Value) (s₁ : Shared) : Prop :=
  ∃ e oe vs, v = .ref e ∧ s₁.heap.get? e = some oe ∧ oe.cls = .ref 52 ∧ oe.data = .fields vs ∧ vs[1]? = some .none ∧ E (.ref e) s₁
theorem psUp_intro {E : Value → Shared → Prop} {h₀ : Heap} {L e d te : Addr} {es : List DictEntry} {n : Nat} {rest : List (Addr × Obj)} {s₁ : Shared} (N : News h₀ L s₁.heap ((d, dictOf es n) :: (e, psObjD te d) :: rest)) (h : E (.ref e) s₁) : PsUp E (.ref e) s₁ :=
  ⟨e, _, _, rfl, (N _ (.tail _ (.head _))).1, rfl, rfl, rfl, h⟩
variable {w : World} {A : Around} {E : Value → Shared → Prop} {s : Shared} {env : Env} {h₀ : Heap} {L : Addr} {m : PySem.Str → Option Value}
theorem raise_own {x : Expr} {pos : Pos} {Q : Flow → Shared → Prop} (hh : A.handled = none) (X : (hd.heap_39 w.params).In h₀)
    (h : wpAny (model PR w) A (eval x env) (fun v s₁ => h₀.StaysIn s₁.heap ∧ PsUp E v s₁) E s) : wpAny (model PR w) A (exec (.Raise (some x) none pos) env) Q E s := by
  show wpAny _ A (do standAt pos; raiseStmt env (some (do let v ← eval x env; standAt pos; pure v)) none) Q E s
  refine wpAny_bind (wpAny_standAt ?_)
  unfold raiseStmt
  dsimp only
  refine wpAny_bind (wpAny_bind (wpAny_mono h (fun v s₁ h₁ => wpAny_bind (wpAny_standAt (wpAny_pure ?_))) fun _ _ x => x))
  obtain ⟨st, e, oe, vs, rfl, he, hc, hdt, h1, hE⟩ := h₁
  have X₁ : (hd.heap_39 w.params).In s₁.heap := X.keeps st
  have hT : Looks (model PR w) s₁.heap (typeOf (.ref e)) (.ref 52) := by
    refine (Looks.ld (part := some headPart) he).andThen ?_
    rw [hc]; exact .now
  have hnt : Looks (model PR w) s₁.heap (isType (.ref e)) false := by
    refine (Looks.ld (part := some headPart) he).andThen ?_
    rw [hdt]; exact .now
  have hb : Looks (model PR w) s₁.heap (isInstance (.ref e) (.type "BaseException")) true := hT.andThen (ps_subB X₁)
  have hm : Looks (model PR w) s₁.heap (typeOf (.ref 52)) (.type "type") := looks_typeIn X₁ (by k_is)
  refine wpAny_bind (wpAny_pure ?_)
  dsimp only
  refine wpAny_bind (wpAny_holding ?_)
  unfold excFromValue isExcClass
  refine wpAny_bind (wpAny_bind (hnt.here ?_))
  simp only [Bool.false_eq_true, if_false]
  refine wpAny_pure ?_
  simp only [Bool.false_eq_true, if_false]
  refine wpAny_bind (hb.here ?_)
  simp only [if_true]
  refine wpAny_pure (wpAny_bind (hnt.here ?_))
  simp only [Bool.false_eq_true, if_false]
  unfold raisedInstance
  refine wpAny_bind (wpAny_bind (hT.here (wpAny_bind (hm.here ?_))))
  rw [if_pos (by decide)]
  refine wpAny_pure ?_
  unfold setFlight raiseNew
  refine wpAny_bind (wpAny_bind (wpAny_field he hdt h1 ?_))
  rw [if_neg (by decide)]
  refine wpAny_pure (wpAny_bind (wpAny_handled ?_))
  rw [hh]
  exact wpAny_bind (wpAny_pure (wpAny_throw hE))
theorem leave_new {base g : Heap} {outer : List Env} {A₁ : Around} {L' e d te a : Addr} {m' : PySem.Str → Option Value} {es : List DictEntry} {n : Nat} {name : PySem.Str} {scope : Scope} {cd : Value} {M : Model} {rest : List (Addr × Obj)} {Q : Unit → Shared → Prop}
    (K : Below A₁ base (env :: outer) g) (FG : Fr h₀ L g m) (F : Fr g L' s.heap m') (N : News g L' s.heap ((d, dictOf es n) :: (e, psObjD te d) :: rest))
    (hQ : ∀ h', Flown base (env :: outer) h₀ L m e d es h' → Q () { s with heap := h' }) (hkf : scope.kind = .function := by rfl) :
    wpAny M (A₁.deeper (envOf name scope L' a cd)) (leaving (envOf name scope L' a cd) (.ref e)) Q E s := by
  have Ne := N _ (.tail _ (.head _))
  exact leave_ps K FG F (Heap.UpToSlots.refl _) (fun b o q => F.keep b o (K.stays b o q)) ⟨_, _, Ne.1, ⟨rfl, rfl⟩, rfl, rfl⟩ (fresh_of_stays K.stays Ne.2.2) ⟨n, #[], (N _ (.head _)).1⟩ hQ hkf
end
theorem allLt_off {d e : Addr} {l : List (Addr × Obj)} (h : AllLt d l) (hde : @LE.le Nat _ d e) : ∀ p ∈ l, p.1 ≠ e := fun p hp => by
  have : ∀ {l : List (Addr × Obj)}, AllLt d l → ∀ p ∈ l, @LT.lt Nat _ p.1 d := by
    intro l
    induction l with
    | nil => intro _ p hp; cases hp
    | cons q l ih =>
      intro h p hp
      rcases List.mem_cons.mp hp with rfl | hp
      · exact h.1
      · exact ih h.2 p hp
  exact Nat.ne_of_lt (Nat.lt_of_lt_of_le (this h p hp) hde)
local macro_rules | `(tactic| k_all) => `(tactic| first | exact allLt_off (And.right (And.right (by assumption))) (by omega) | exact allLt_off (And.right (And.right (And.right (by assumption)))) (by omega) | exact allLt_off (And.right (And.right (And.right (And.right (by assumption))))) (by omega))
local macro_rules | `(tactic| walk_at "exec Raise some none") => `(tactic| (k_here; k_dflt (refine raise_own rfl (by k_asm) ?_)))
local macro_rules | `(tactic| walk_at "call ref") => `(tactic| (k_here; (with_reducible show wpAny _ _ (call (Value.ref 52) _) _ _ _); k_dflt (refine call_ps (by k_asm) (by k_asm) (by k_asm) (Nat.le_of_ble_eq_true rfl) ?_; intro e' te' h' F' N' l1 l2; (try k_lt l1); (try k_lt2 l2); (try k_sweep); k_enter)))
local macro_rules | `(tactic| walk_at "setAttr ref") => `(tactic| (k_here; (with_reducible show wpAny _ _ (setAttr (Value.ref _) (Str.ofString "told") _) _ _ _); k_dflt (refine set_told (by k_asm) (by k_asm) (by k_asm) (by k_all) ?_; intro d' h' k' tk' F' N' l1 l2; (try k_lt l2); (try k_sweep))))
local macro_rules | `(tactic| walk_at "And") => `(tactic| ((with_reducible show Heap.StaysIn _ _ ∧ _); k_dflt (refine And.intro (Fr.keep (by k_asm)) (psUp_intro (by k_asm) ?_))))
local macro_rules | `(tactic| walk_at "leaving ref") => `(tactic| (k_here; k_dflt (first | (refine leave_new (by k_asm) (by k_asm) (by k_asm) (by k_asm) ?_; intro h' R'; (try dsimp only)) | (refine leave_on (by k_asm) (by k_asm) (by assumption) ?_; intro h' R'; (try dsimp only)))))
section
variable {w : World} {A : Around} {env : Env} {outer : List Env} {A₀ : Around} {base h₀ : Heap} {L : Addr} {m mg mb : PySem.Str → Option Value} {mean : ExcName → Option Value} {s : Shared} {Q E : Value → Shared → Prop} {news : List (Addr × Obj)} {g : Obj → List (Addr × Obj)}
  {x dx : Addr} {k1 k2 tb : Tok} {bl : List UInt8} {p : Int} {tk : Tok} {k : Nat} {c : UInt8}
noncomputable abbrev synB : Array UInt8 := #[115, 121, 110, 116, 97, 120, 101, 114, 114, 111, 114]
set_option maxRecDepth 100000 in
set_option maxHeartbeats 8000000 in
theorem sure_end (C : Cx 400 450 w A env outer A₀ base h₀ L m mg mb mean s) (N : News h₀ L s.heap news) (hx : (x, instObj 393 dx) ∈ news) (U : UpdF dx (srcD w k1 k2 bl tb p tk) news g)
  (hp : p = (k : Int)) (hc : bl[k]? = none) (hfit : bl.length ≤ 1000)
  (rz : ∀ e d k' t' h' tk2, Flown base (env :: outer) h₀ L m e d (toldEs w k' (.bytes synB t')) h' → E (.ref e) { s with heap := h', toks := tk2 }) :
  wpAny (model PR w) A (call (.ref 439) [.ref x]) Q E s := by
  obtain ⟨hh, hf, hdp, hu, hL, hk, B, F, X, T⟩ := C
  refine deepen 400 450 hh hf hdp hu ?_
  obtain ⟨rest, Nc, hoff, back⟩ := canon N hx U
  have hne := src_ne Nc
  clear N hx U
  refine wpAny_call ?_
  k_dflt ktr_enter
  k_steps
  all_goals exact rz _ _ _ _ _ _ (by assumption)
theorem sure_any (C : Cx 400 450 w A env outer A₀ base h₀ L m mg mb mean s) (N : News h₀ L s.heap news) (hx : (x, instObj 393 dx) ∈ news) (U : UpdF dx (srcD w k1 k2 bl tb p tk) news g)
  (hp : p = (k : Int)) (hfit : bl.length ≤ 1000)
  (rz : bl[k]? = none → ∀ e d k' t' h' tk2, Flown base (env :: outer) h₀ L m e d (toldEs w k' (.bytes synB t')) h' → E (.ref e) { s with heap := h', toks := tk2 })
  (retB : ∀ c, bl[k]? = some c → ∀ t h' tk' tk2 p', Fr h₀ L h' m → News h₀ L h' (g (srcD w k1 k2 bl tb p' tk')) → p' = ((k + 1 : Nat) : Int) → Q (.int c.toNat t) { s with heap := h', toks := tk2 }) :
  wpAny (model PR w) A (call (.ref 439) [.ref x]) Q E s := by
  rcases hc : bl[k]? with _ | c
  · exact sure_end C N hx U hp hc hfit (rz hc)
  · exact sure_byte C N hx U hp hc hfit (retB c hc)
end
section
variable {α : Type} {M : Model} {A : Around} {E : Value → Shared → Prop} {s : Shared} {env : Env}
theorem P_look {t : Sem α} {r : α} {Q : α → Shared → Prop} (x : Looks M s.heap t r) (q : Q r s) : wpP M A t Q E s := P_any (x.here q)
theorem P_nil {Q : Flow → Shared → Prop} (h : Q .next s) : wpP M A (execs [] env) Q E s := P_pure h
theorem P_cons {st : Stmt} {rest : List Stmt} {Q : Flow → Shared → Prop} (h : wpP M A (exec st env) (fun f s' => match f with | .next => wpP M A (execs rest env) Q E s' | f => Q f s') E s) : wpP M A (execs (st :: rest) env) Q E s := by
  rw [execs_cons]
  refine P_bind (P_mono h (fun f s' h' => ?_) fun _ _ x => x)
  cases f <;> first | exact h' | exact P_pure h'
theorem P_Expr {e : PySem.Expr} {pos : Pos} {Q : Flow → Shared → Prop} (h : wpP M A (eval e env) (fun v s' => match v with | .ref _ => False | _ => Q .next s') E s)
    (hi : interactive env = false := by rfl) (hs : swapsWith e none pos.line env = pure false := by rfl) : wpP M A (exec (.Expr e pos) env) Q E s := by
  rw [exec_Expr env e pos hi hs]
  refine P_bind (P_standAt (P_bind (P_mono h (fun v s' h' => ?_) fun _ _ x => x)))
  have hv : ∀ a, v ≠ .ref a := fun a hva => by subst hva; exact h'
  rw [dropValue_plain hv]
  refine P_pure ?_
  cases v <;> first | exact h' | exact (hv _ rfl).elim
theorem P_Assign {x : PySem.Str} {pos' pos : Pos} {value : PySem.Expr} {Q : Flow → Shared → Prop} (h : wpP M A (eval value env) (fun v s₁ => wpAny M A (storeName env x v) (fun _ => Q .next) E s₁) E s)
    (hs : swapsWith value (some (.Name x pos')) pos.line env = pure false := by rfl) : wpP M A (exec (.Assign [.Name x pos'] value pos) env) Q E s := by
  rw [exec_Assign_Name env x pos' value pos hs]
  refine P_bind (P_standAt (P_bind (P_mono h (fun v s₁ h₁ => ?_) fun _ _ x => x)))
  exact P_bind (P_standAt (P_bind (P_mono (P_any (wpAny_bindName h₁)) (fun _ _ q => P_pure q) fun _ _ x => x)))
theorem P_Return {e : PySem.Expr} {pos : Pos} {Q : Flow → Shared → Prop} (h : wpP M A (eval e env) (fun v => Q (.ret v)) E s) : wpP M A (exec (.Return (some e) pos) env) Q E s := by
  rw [exec_Return_some]
  exact P_bind (P_standAt (P_bind (P_mono h (fun _ _ q => P_pure q) fun _ _ x => x)))
theorem P_If {test : PySem.Expr} {body orelse : List Stmt} {pos : Pos} {Q : Flow → Shared → Prop}
    (h : wpAny M A (isTrue test env (eval test env)) (fun b s₂ => if b then wpP M A (execs body env) Q E s₂ else wpP M A (execs orelse env) Q E s₂) E s) : wpP M A (exec (.If test body orelse pos) env) Q E s := by
  rw [exec_If]
  refine P_bind (P_standAt (P_bind (P_mono (P_any h) (fun b s₂ h₂ => ?_) fun _ _ x => x)))
  cases b <;> exact h₂
theorem P_While {test : PySem.Expr} {body orelse : List Stmt} {pos : Pos} {Q : Flow → Shared → Prop}
    (h : codeP M A (.whileLoop test body orelse env) (fun r s' => match r with | .ok f => Q f s' | .error e => cameBackBy M A env E e s') s) : wpP M A (exec (.While test body orelse pos) env) Q E s := by
  rw [exec_While]
  refine P_bind (P_standAt ?_)
  unfold runOwn
  exact P_onRaise (P_mono (P_run (Q := Q) (E := cameBackBy M A env E) h (by intro x; cases x)) (fun _ _ x => x) fun _ _ x => P_any x)

theorem P_spliced {x : Sem Value} {rest : List (Bool × Sem Value)} {Q : List Value → Shared → Prop}
    (h : wpP M A x (fun v s₁ => wpP M A (spliced rest) (fun vs s₂ => Q (v :: vs) s₂) E s₁) E s) : wpP M A (spliced ((false, x) :: rest)) Q E s := by
  rw [spliced]
  refine P_bind (P_mono h (fun v s₁ h₁ => ?_) fun _ _ x => x)
  simp only [Bool.false_eq_true, if_false]
  exact P_bind (P_pure (P_bind (P_holding (P_mono h₁ (fun vs s₂ h₂ => P_pure h₂) fun _ _ x => x))))
theorem P_args {f : Value} {x : Sem Value} {rest : List (Bool × Sem Value)} {Q : Args → Shared → Prop}
    (h : wpP M A (spliced ((false, x) :: rest)) (fun vs s' => Q ⟨vs, []⟩ s') E s) : wpP M A (evalArgs f true ((false, x) :: rest) []) Q E s := by
  unfold evalArgs
  show wpP M A (spliced ((false, x) :: rest) >>= _) Q E s
  refine P_bind (P_mono h (fun vs s' h' => ?_) fun _ _ x => x)
  refine P_holding ?_
  exact P_bind (P_pure (P_bind (P_pure (P_pure h'))))
theorem P_args0 {f : Value} {Q : Args → Shared → Prop} (h : Q ⟨[], []⟩ s) : wpP M A (evalArgs f true [] []) Q E s := P_any (evalArgs_nil3 h)
theorem P_callWith {pos : Pos} {f : Value} {first : List Value} {trees : List (Bool × Sem Value)} {Q : Value → Shared → Prop} (hplain : trees.any (·.1) = false)
    (h : wpP M A (evalArgs f true trees []) (fun a s₁ => (∃ k, Looks M s₁.heap (keeperOf f) k) ∧ wpP M A (call f (first ++ a.pos) a.kw) Q E s₁) E s) : wpP M A (callWith pos f first trees []) Q E s := by
  unfold callWith
  refine P_bind (P_holding (P_mono h (fun a s₁ h₁ => P_bind (P_standAt ?_)) fun _ _ x => x))
  obtain ⟨⟨k, L⟩, hc⟩ := h₁
  simp only [hplain, List.any_nil, Bool.or_false]
  refine P_bind (P_look L ?_)
  have tail : ∀ {t : Sem Value}, wpP M A t Q E s₁ → wpP M A (t >>= fun r => holding [r] point >>= fun _ => pure r) Q E s₁ :=
    fun ht => P_bind (P_mono ht (fun r s₂ hr => P_bind (P_holding (P_point (P_pure hr)))) fun _ _ x => x)
  have marked (mk : Value) : wpP M A (callMarked mk f (first ++ a.pos) a.kw) Q E s₁ := by
    unfold callMarked
    refine ⟨fun Γ p i fr => ?_⟩
    rw [Sem.wp_keep]
    exact hc.run Γ p i fr
  cases k <;> dsimp only <;> first | exact tail hc | (split <;> first | exact tail hc | exact tail (marked _)) | exact tail (P_operate hc)
theorem P_Call_Name {x : PySem.Str} {np pos : Pos} {args : List PySem.Expr} {keywords : List Keyword} {Q : Value → Shared → Prop}
    (h : wpP M A (eval (.Name x np) env) (fun f s₁ => wpP M A (callWith pos f [] (backTo pos (starEach args env)) (backToKw pos (keywordEach keywords env))) Q E s₁) E s) :
    wpP M A (eval (.Call (.Name x np) args keywords pos) env) Q E s := by
  show wpP M A (do callWith pos (← eval (.Name x np) env) [] (backTo pos (starEach args env)) (backToKw pos (keywordEach keywords env))) Q E s
  exact P_bind h
theorem P_Call_Meth {o : PySem.Expr} {name : PySem.Str} {apos pos : Pos} {args : List PySem.Expr} {Q : Value → Shared → Prop}
    (h : wpP M A (eval o env) (fun ov s₁ => wpAny M A (getMethod ov name (do return (← importBound o env).getD true)) (fun fm s₂ => wpP M A (callWith pos fm.1 fm.2 (backTo pos (starEach args env)) []) Q E s₂) E s₁) E s)
    (hbase : attributeBase o name env (eval o env) = eval o env := by rfl)
    (hfew : methodCallForm (args.length + ([] : List Keyword).length) (backTo pos (starEach args env)) (backToKw pos (keywordEach [] env)) = true := by rfl) (hline : (apos.endLine == pos.line) = true := by rfl) :
    wpP M A (eval (.Call (.Attribute o name apos) args [] pos) env) Q E s := by
  rw [arm_eval_Call, hbase]
  refine P_bind (P_mono h (fun ov s₁ h₁ => ?_) fun _ _ x => x)
  refine P_bind (P_standAt ?_)
  have hpos : methodCallPos true o env apos pos = pure pos := by unfold methodCallPos; simp [hline]
  unfold methodCall
  rw [hfew, hpos]
  refine P_bind (P_holding (P_mono (P_any h₁) (fun fm s₂ h₂ => ?_) fun _ _ x => x))
  exact P_bind (P_pure h₂)
end

section
variable {prog : Program} {w : World} {A : Around} {E : Value → Shared → Prop} {R : Result → Shared → Prop} {s : Shared}
theorem P_func {body : List Stmt} {env : Env}
    (h : wpP (model prog w) (A.deeper env) (execs body env) (fun f s' => R (.ok (.ret (match f with | .ret v => v | _ => .none))) s')
      (fun e s' => wpAny (model prog w) (A.deeper env) (leaving env e) (fun _ s'' => R (.error e) s'') (fun e' s'' => R (.error e') s'') s') s) : codeP (model prog w) A (.func body env) R s := by
  refine P_tree rfl ?_
  show wpP _ (A.deeper env) (do point; match ← (execs body env).onRaise (leaving env) with | .ret v => ret v | _ => ret .none) _ _ s
  refine P_bind (P_point (P_bind (P_onRaise (P_mono h (fun f s' h' => ?_) fun _ _ h' => P_any h'))))
  cases f <;> exact P_pure h'
theorem P_loop {test : PySem.Expr} {body orelse : List Stmt} {env : Env} (I : Nat → Shared → Prop)
    (turn : ∀ n s, I n s → wpAny (model prog w) A (isTrue test env (eval test env)) (fun b s₂ =>
        if b then wpP (model prog w) A (execs body env) (fun f s₃ => match f with
            | .next | .cont => ∃ m, m < n ∧ I m s₃
            | .brk => R (.ok .next) s₃
            | .ret v => R (.ok (.ret v)) s₃) (notedBy (model prog w) A env fun e s' => R (.error e) s') s₂
        else wpP (model prog w) A (execs orelse env) (fun f s₃ => R (.ok f) s₃) (notedBy (model prog w) A env fun e s' => R (.error e) s') s₂)
        (notedBy (model prog w) A env fun e s' => R (.error e) s') s)
    (n : Nat) (h : I n s) : codeP (model prog w) A (.whileLoop test body orelse env) R s := by
  induction n using Nat.strongRecOn generalizing s with
  | ind n ih =>
    refine P_tree rfl ?_
    show wpP _ A ((whileTurn test body orelse env).onRaise (fun x => do noteFrame x env; theTreesLotGoes x)) _ _ s
    refine P_onRaise (P_mono (Q := fun fin s' => match fin with | .done f => R (.ok f) s' | .again c' => c'.quiet = true ∧ codeP (model prog w) A c' R s') (E := notedBy (model prog w) A env fun e s' => R (.error e) s') ?_ (fun _ _ q => q) fun _ _ x => P_any (wpAny_bind (wpAny_mono x (fun _ _ e => wpAny_theTreesLotGoes e) fun _ _ e => e)))
    simp only [whileTurn]
    refine P_bind (P_mono (P_any (turn n s h)) (fun b s₂ h₂ => ?_) fun _ _ h' => h')
    cases b with
    | false =>
      simp only [Bool.false_eq_true, if_false] at h₂ ⊢
      exact P_bind (P_mono h₂ (fun f s₃ h₃ => P_pure h₃) fun _ _ h' => h')
    | true =>
      simp only [if_true] at h₂ ⊢
      refine P_bind (P_mono h₂ (fun f s₃ h₃ => ?_) fun _ _ h' => h')
      cases f with
      | next => obtain ⟨m, hm, hI⟩ := h₃; exact P_pure ⟨rfl, ih m hm hI⟩
      | cont => obtain ⟨m, hm, hI⟩ := h₃; exact P_pure ⟨rfl, ih m hm hI⟩
      | brk => exact P_pure h₃
      | ret v => exact P_pure h₃
theorem P_call_fn {a : Addr} {args : Args} {o : Obj} {fd : FuncData} {body : List Stmt} (hroom : A.depth < recursionLimit) (ho : s.heap.get? a = some o)
    (hd' : o.data = .func fd) (hco : fd.scope.isCoroutine = false) (hgen : fd.scope.isGenerator = false) (hbody : fd.body = .stmts body) (hcd : s.heap.CodeRec fd.code fd.qualname)
    (h : wpAny (model prog w) A.in1 (bindArgs fd args) (fun binds s₁ =>
      wpAny (model prog w) A.in1 (newFunctionEnv fd.scope fd.globals fd.closure binds (fd.qualname ++ ".<locals>.") (some a) fd.code none fd.builtins)
        (fun env s₂ => s₂.heap.NoLimit ∧ codeP (model prog w) A (.func body env) R s₂) (fun e s' => R (.error e) s') s₁) (fun e s' => R (.error e) s') s) :
    codeP (model prog w) A (.call (.ref a) args) R s := by
  refine P_tree rfl (P_any ?_)
  show wpAny _ A.in1 (callAny (.ref a) args) _ _ s
  simp only [callAny]
  refine wpAny_bind (wpAny_load ho ?_)
  obtain ⟨c, oc, vs, tq, hc, hoc, hdc, hq⟩ := hcd
  simp only [hd', callFunction, hco, hgen, hbody, hc]
  rw [hc] at h
  refine wpAny_bind (m := field (.ref c) 1) (wpAny_field hoc hdc hq (wpAny_bind (wpAny_pure ?_)))
  exact wpAny_bind (wpAny_mono h (fun binds s₁ h₁ => wpAny_bind (wpAny_mono h₁ (fun env s₂ h₂ => wpAny_bind (wpAny_enterFrame h₂.1 hroom
    (wpAny_pure (And.intro rfl h₂.2)))) fun _ _ h' => h')) fun _ _ h' => h')
theorem P_builtin {id : String} {args : Args} {b : Builtin} (hq : (Code.builtin id args).quiet = true) (hd : decodes (.builtin id args) = false) (hb : entryFor table id = some b)
    (h : wpAny (model prog w) A.in1 (checkBuiltinCall id args) (fun _ s₁ => wpP (model prog w) (A.under (.builtin id args)) (b args)
      (fun fin s' => match fin with | .done f => R (.ok f) s' | .again c' => c'.quiet = true ∧ codeP (model prog w) A c' R s') (fun e s' => R (.error e) s') s₁)
      (fun e s' => R (.error e) s') s) : codeP (model prog w) A (.call (.builtin id) args) R s := by
  refine P_tree rfl (P_any ?_)
  show wpAny _ A.in1 (do checkBuiltinCall id args; again (.builtin id args)) _ _ s
  refine wpAny_bind (wpAny_mono h (fun _ s₁ h₁ => wpAny_pure (And.intro hq (P_tree hd ?_))) fun _ _ h' => h')
  show wpP _ _ (match entryFor table id with | some b => b args | none => unsupported ((withoutEnding? id "#data").getD id)) _ _ s₁
  rw [hb]; exact h₁
end

section
variable {prog : Program} {w : World} {A A₀ : Around} {s : Shared} {h₀ base : Heap} {L : Addr} {m : PySem.Str → Option Value} {news : List (Addr × Obj)} {K : Frag} {p : Program} {loose : List PySem.Str} {mean : ExcName → Option Value} {mg mb : PySem.Str → Option Value}
theorem P_def {env : Env} {outer : List Env} {R : Result → Shared → Prop} {name qual : PySem.Str} {params : Arguments} {body : List Stmt} {scope : Scope} {dV kV doc pm cdv ct oc : Value} {an od : Option Addr} {osl : Array (Option Value)} {f : Addr} {args : Args} {binds : List (PySem.Str × Value)}
    (B : Below A₀ base outer h₀) (F : Fr h₀ L s.heap m) (X₀ : K.In h₀) (N : News h₀ L s.heap news) (T : Top p loose mean mg mb h₀) (hA : A.frames = some (env :: outer)) (hf : env.frame = some L) (hke : env.scope.kind = .function)
    (ho : K.lookup f = some ⟨oc, od, .func (fnOf name qual params body scope dV kV doc pm an cdv ct), osl⟩) (hcd : codeIn K cdv qual = true) (hroom : A.depth < recursionLimit)
    (hbind : BindsTo s (fnOf name qual params body scope dV kV doc pm an cdv ct) args binds) (hloc : ∀ y ∈ binds, scope.names.lookup y.1 = some .local)
    (h : ∀ g L' h₁, Fr h₀ L g m → Fr g L' h₁ (fun y => binds.reverse.lookup y) → News g L' h₁ news → Below A base (env :: outer) g → K.In g → Top p loose mean mg mb g →
      wpP (model prog w) (A.deeper (envOf qual scope L' f cdv)) (execs body (envOf qual scope L' f cdv))
        (fun fl s' => LeaveK h₀ L m g R (match fl with | .ret v => v | _ => .none) s')
        (fun e s' => wpAny (model prog w) (A.deeper (envOf qual scope L' f cdv)) (leaving (envOf qual scope L' f cdv) e) (fun _ s'' => R (.error e) s'') (fun e' s'' => R (.error e') s'') s')
        { s with heap := h₁, toks := s.toks + binds.length })
    (hco : scope.isCoroutine = false) (hgen : scope.isGenerator = false) (hk : scope.kind = .function) (hcell : ∀ x ∈ scope.names, x.2 ≠ .cell) : codeP (model prog w) A (.call (.ref f) args) R s := by
  have X := X₀.keeps F.keep
  obtain ⟨FG, BG, st, lv⟩ := groundX (R := R) B F N hA hf hke
  refine P_call_fn hroom (X _ _ ho) rfl hco hgen rfl (codeRec_of X hcd) (hbind _ _ _ _ ?_)
  refine wpAny_newFunctionEnv hcell hloc (fun h₁ hns hsb => ⟨(T.nolimit.keeps F.keep).fresh _ hsb, ?_⟩) hk
  refine P_func (P_mono (h _ s.heap.objs.size h₁ FG ⟨hns, fun b o e => hsb.extBut b o (Nat.ne_of_lt (Heap.lt_size (of_hideAll _ e))) (Heap.get?_push_of_some _ (of_hideAll _ e)), Nat.le_of_eq (hideAll_size _ _)⟩
    (fun q hq => ⟨hsb.extBut _ _ (Nat.ne_of_lt (Heap.lt_size (N q hq).1)) (Heap.get?_push_of_some _ (N q hq).1), Nat.ne_of_lt (Heap.lt_size (N q hq).1), hideAll_none _ (List.mem_map_of_mem hq)⟩) BG (X₀.keeps st) (T.keeps st)) (fun fl s' hl => lv _ _ hl) fun _ _ y => y)
end
noncomputable abbrev baObj (b : Array UInt8) : Obj := { cls := .type "bytearray", data := .bytearray b }
namespace F
theorem ba_append : Slot "bytearray" "append" "bytearray.append" :=
  .of (owner := "bytearray") (n := "append") (by rw [typeLookup_type, builtinLookup_eq_fast]; kernel_rfl) (by decide +kernel) (by decide +kernel) (by decide +kernel)
    (by first | exact .inl (by decide +kernel) | exact .inr (by decide +kernel)) (by rw [isSubtype_type]; kernel_rfl)
theorem ba_len : Slot "bytearray" "__len__" "bytearray.__len__" :=
  .of (owner := "bytearray") (n := "__len__") (by rw [typeLookup_type, builtinLookup_eq_fast]; kernel_rfl) (by decide +kernel) (by decide +kernel) (by decide +kernel)
    (by first | exact .inl (by decide +kernel) | exact .inr (by decide +kernel)) (by rw [isSubtype_type]; kernel_rfl)
theorem ba_getitem : Slot "bytearray" "__getitem__" "bytearray.__getitem__" :=
  .of (owner := "bytearray") (n := "__getitem__") (by rw [typeLookup_type, builtinLookup_eq_fast]; kernel_rfl) (by decide +kernel) (by decide +kernel) (by decide +kernel)
    (by first | exact .inl (by decide +kernel) | exact .inr (by decide +kernel)) (by rw [isSubtype_type]; kernel_rfl)
theorem ba_init : Slot "bytearray" "__init__" "bytearray.__init__" :=
  .of (owner := "bytearray") (n := "__init__") (by rw [typeLookup_type, builtinLookup_eq_fast]; kernel_rfl) (by decide +kernel) (by decide +kernel) (by decide +kernel)
    (by first | exact .inl (by decide +kernel) | exact .inr (by decide +kernel)) (by rw [isSubtype_type]; kernel_rfl)
theorem ba_mro : mroOf (.type "bytearray") = pure [.type "bytearray", .type "object"] := by rw [mroOf_type]; kernel_rfl
theorem ba_entry_append : entryFor table "bytearray.append" = some Builtin.«bytearray.append» := by first | exact entryFor_of_fast (by kernel_rfl) | exact entryFor_of_tree (by kernel_rfl)
theorem ba_entry_init : entryFor table "bytearray.__init__" = some Builtin.«bytearray.__init__» := by first | exact entryFor_of_fast (by kernel_rfl) | exact entryFor_of_tree (by kernel_rfl)
theorem ba_entry_new : entryFor table "bytearray.__new__" = some Builtin.«list.__new__» := entryFor_alias (id' := "list.__new__") (by kernel_rfl) (by first | rfl | decide +kernel) (by decide +kernel) (by kernel_rfl)
theorem ba_sub : isSubtype (.type "bytearray") (.type "bytearray") = pure true := by rw [isSubtype_type]; kernel_rfl
set_option maxRecDepth 1000000 in
set_option maxHeartbeats 4000000 in
theorem ba_owner : ("bytearray.__new__".splitOn ".__new__").headD "" = "bytearray" := by simp +decide [String.splitOn, String.splitOnAux]
theorem ba_lookup_new : typeLookup (.type "bytearray") "__new__" = pure (some (.builtin "bytearray.__new__")) := by rw [typeLookup_type, builtinLookup_eq_fast]; kernel_rfl
theorem ba_called : TypeCalled "bytearray" "bytearray.__new__" "bytearray.__init__" :=
  ⟨by decide +kernel, by decide +kernel, ⟨_, _, ba_mro⟩, madeBy_type ba_mro ba_lookup_new (by decide +kernel), by decide +kernel, by rw [isSubtype_type]; kernel_rfl, ba_init⟩
theorem ba_typeCall0 : checkTypeCall "bytearray" ⟨[], []⟩ = pure () := by kernel_rfl
theorem ba_typeCall1 (a : Value) : checkTypeCall "bytearray" ⟨[a], []⟩ = pure () := by kernel_rfl
theorem ba_newCall0 : checkBuiltinCall "bytearray.__new__" ⟨[.type "bytearray"], []⟩ = pure () := by kernel_rfl
theorem ba_newCall1 (a : Value) : checkBuiltinCall "bytearray.__new__" ⟨[.type "bytearray", a], []⟩ = pure () := by kernel_rfl
theorem ba_bind0 : Builtin.Bytes.bindOptional "bytearray.__init__" "bytearray" ["source", "encoding", "errors"] [] [] = pure [none, none, none] := by kernel_rfl
theorem ba_bind1 (v : Value) : Builtin.Bytes.bindOptional "bytearray.__init__" "bytearray" ["source", "encoding", "errors"] [v] [] = pure [some v, none, none] := by kernel_rfl
theorem ba_args (a x : Value) : argsOk "bytearray.append" ⟨[a, x], []⟩ := by unfold argsOk; kernel_rfl
theorem ba_args_init0 (a : Value) : argsOk "bytearray.__init__" ⟨[a], []⟩ := by unfold argsOk; kernel_rfl
theorem ba_args_init1 (a x : Value) : argsOk "bytearray.__init__" ⟨[a, x], []⟩ := by unfold argsOk; kernel_rfl
end F
theorem ex_no (self : Value) (x : Code × Pos) (h1 : x.1.isGuard = false) (h2 : decodes x.1 = false) :
   Builtin.Bytes.exported.match_1 (fun _ => Bool) x (fun v _ _ _ => Builtin.Bytes.sameRef v self) (fun v _ _ _ => Builtin.Bytes.sameRef v self) (fun _ v _ _ _ => Builtin.Bytes.sameRef v self) (fun v _ _ _ => Builtin.Bytes.sameRef v self)
     (fun _ _ held _ _ => held.any (Builtin.Bytes.sameRef self)) (fun id v _ _ _ => Builtin.Bytes.sameRef v self && Builtin.Bytes.decodersThatHold.contains id) (fun _ => false) = false := by
  obtain ⟨c, p⟩ := x
  cases c with
  | builtin id args =>
    obtain ⟨ps, kw⟩ := args
    have n1 : ¬ id = "bytearray.__contains__" := by rintro rfl; exact absurd (show guardIds.contains "bytearray.__contains__" = false from h1) (by decide)
    have n2 : ¬ id = "bytearray.__mod__" := by rintro rfl; exact absurd (show guardIds.contains "bytearray.__mod__" = false from h1) (by decide)
    have n3 : ¬ id = "bytearray.__rmod__" := by rintro rfl; exact absurd (show guardIds.contains "bytearray.__rmod__" = false from h1) (by decide)
    have n4 : ¬ id = "_struct.pack_into.held" := by rintro rfl; exact absurd (show guardIds.contains "_struct.pack_into.held" = false from h1) (by decide)
    have n5 : ¬ id = "bytearray.find.held" := by rintro rfl; exact absurd (show guardIds.contains "bytearray.find.held" = false from h1) (by decide)
    unfold Builtin.Bytes.exported.match_1
    dsimp only
    refine Eq.trans (dif_neg n1) ?_
    refine Eq.trans (dif_neg n2) ?_
    refine Eq.trans (dif_neg n3) ?_
    refine Eq.trans (dif_neg n4) ?_
    refine Eq.trans (dif_neg n5) ?_
    cases ps with
    | nil => rfl
    | cons v r => exact (congrArg (Builtin.Bytes.sameRef v self && ·) h2).trans (Bool.and_false _)
  | _ => rfl
section
variable {prog : Program} {w : World} {A : Around} {E : Value → Shared → Prop} {s : Shared}
theorem free_of {f : Code × Pos → Bool} {st : List (Code × Pos)} (hf : ∀ x, x.1.isGuard = false → decodes x.1 = false → f x = false) (hg : guardsOf st = []) (hd : ∀ x ∈ st, decodes x.1 = false) : st.any f = false := by
  refine List.any_eq_false.mpr fun x hx => ?_
  have h1 : x.1.isGuard = false := by
    cases h : x.1.isGuard with
    | false => rfl
    | true =>
      have : x.1 ∈ guardsOf st := List.mem_filter.mpr ⟨List.mem_map_of_mem hx, h⟩
      rw [hg] at this; cases this
  rw [hf x h1 (hd x hx)]
  exact Bool.false_ne_true
theorem P_exported {a : Addr} {Q : Bool → Shared → Prop} (hg : A.guards = some []) (h : Q false s) : wpP (model prog w) A (Builtin.Bytes.exported (.ref a)) Q E s := by
  unfold Builtin.Bytes.exported
  refine P_bind (P_stack fun st hs hd => P_pure ?_)
  rw [free_of (fun x h1 h2 => ?_) (hs [] hg) hd]
  · exact h
  · exact ex_no _ x h1 h2
end
theorem decodes_builtin (id : String) (args : Args) : decodes (.builtin id args) = Builtin.Bytes.decodersThatHold.contains id := rfl
section
variable {prog : Program} {w : World} {A : Around} {E : Value → Shared → Prop} {s : Shared}
theorem past_ba {b : Array UInt8} (hz : b.size ≤ 1001) : (baObj b).data.pastItsLine = none := by
  have : b.size ≤ sizeLine := by rw [sizeLine_eq]; omega
  simp [Data.pastItsLine, Nat.not_lt.mpr this]
theorem ba_write {a : Addr} {b : Array UInt8} {f : Array UInt8 → Array UInt8} {Q : Unit → Shared → Prop} (ho : s.heap.get? a = some (baObj b)) (hz : (f b).size ≤ 1001)
    (h : ∀ h', Heap.SameBut a s.heap h' → h'.get? a = some (baObj (f b)) → Q () { s with heap := h' }) : wpAny (model prog w) A (Builtin.Bytes.write (.ref a) f) Q E s := by
  show wpAny _ _ (updateBytearray a f) _ _ _
  unfold updateBytearray
  refine wpAny_bind (wpAny_load ho ?_)
  have hu : (s.heap.update a (Obj.mapBytearray f)).get? a = some (baObj (f b)) := Heap.get?_update_self _ ho rfl
  exact wpAny_bind (wpAny_update ho (wpAny_lookBehind hu (past_ba hz) (h _ (Heap.SameBut.update ..) hu)))
theorem ba_noResize {a : Addr} {b : Array UInt8} {Q : Unit → Shared → Prop} (hg : A.guards = some []) (ho : s.heap.get? a = some (baObj b)) (h : Q () s) : wpP (model prog w) A (Builtin.Bytes.checkResize (.ref a)) Q E s := by
  unfold Builtin.Bytes.checkResize
  refine P_bind (P_bind (P_exported hg ?_))
  refine P_any ?_
  unfold Builtin.Bytes.exportsOf
  wp_walk
  refine P_pure ?_
  exact h
theorem P_append {a : Addr} {b : Array UInt8} {c : Int} {t : Tok} {Q : Value → Shared → Prop} (hg : A.guards = some []) (ho : s.heap.get? a = some (baObj b)) (hc : 0 ≤ c ∧ c < 256) (hz : b.size ≤ 1000)
    (h : ∀ h', Heap.SameBut a s.heap h' → h'.get? a = some (baObj (b.push c.toNat.toUInt8)) → Q .none { s with heap := h' }) :
    wpP (model prog w) A (call (.builtin "bytearray.append") [.ref a, .int c t]) Q E s := by
  refine P_call (P_builtin (plainId_quiet F.ba_append.plain _) ((decodes_builtin _ _).trans (by decide +kernel)) F.ba_entry_append (F.ba_append.check _ _ _ _ _ _ _ _ ⟨_, ho, rfl⟩ (F.ba_args _ _) ?_))
  rw [Around.under_plainId F.ba_append.plain _]
  unfold Builtin.«bytearray.append»
  refine P_bind (P_any ?_)
  wp_walk
  refine P_bind (P_any ?_)
  unfold Builtin.Bytes.byteValue
  wp_walk
  refine P_bind (ba_noResize hg ho ?_)
  refine P_bind (P_any (ba_write ho (by simp; omega) fun h' hs ho' => ?_))
  exact P_pure (h h' hs ho')
theorem ba_new {args : List Value} (hc : checkBuiltinCall "bytearray.__new__" ⟨.type "bytearray" :: args, []⟩ = pure ()) {Q₁ : Value → Shared → Prop} (h : Q₁ (.ref s.heap.objs.size) { s with heap := s.heap.push (baObj #[]) }) :
    codeAny (model prog w) A (.call (.builtin "bytearray.__new__") ⟨.type "bytearray" :: args, []⟩) (wants Q₁ E) s := by
  refine codeAny_of_tree ?_
  show wpAny _ A.in1 (do checkBuiltinCall "bytearray.__new__" ⟨.type "bytearray" :: args, []⟩; again (.builtin "bytearray.__new__" ⟨.type "bytearray" :: args, []⟩)) _ _ s
  refine wpAny_bind (wpAny_of_eq hc (wpAny_pure ⟨plainId_quiet (by decide +kernel) _, ?_⟩))
  refine codeAny_builtin_stack F.ba_entry_new rfl fun p st => ?_
  rw [Around.under_plainId (by decide +kernel) _]
  have hsub := F.ba_sub
  have hown := F.ba_owner
  obtain ⟨hp, g, d, tk, os⟩ := s
  simp only [hown]
  wp_walk
  exact h
theorem P_builtinAt {id : String} {args : Args} {b : Builtin} {R : Result → Shared → Prop} (hd : decodes (.builtin id args) = false) (hb : entryFor table id = some b)
    (h : wpP (model prog w) (A.under (.builtin id args)) (b args) (fun fin s' => match fin with | .done f => R (.ok f) s' | .again c' => c'.quiet = true ∧ codeP (model prog w) A c' R s') (fun e s' => R (.error e) s') s) : codeP (model prog w) A (.builtin id args) R s := by
  refine P_tree hd ?_
  show wpP _ _ (match entryFor table id with | some b => b args | none => unsupported ((withoutEnding? id "#data").getD id)) _ _ s
  rw [hb]; exact h
theorem P_callBa {args : List Value} {Q : Value → Shared → Prop} (hct : checkTypeCall "bytearray" ⟨args, []⟩ = pure ()) (hnc : checkBuiltinCall "bytearray.__new__" ⟨.type "bytearray" :: args, []⟩ = pure ())
    (hia : ∀ obj, argsOk "bytearray.__init__" ⟨obj :: args, []⟩)
    (hinit : wpP (model prog w) A.in1.in1 (Builtin.«bytearray.__init__» ⟨.ref s.heap.objs.size :: args, []⟩) (fun fin s' => fin = .done (.ret .none) ∧ Q (.ref s.heap.objs.size) s') E { s with heap := s.heap.push (baObj #[]) }) :
    wpP (model prog w) A (call (.type "bytearray") args) Q E s := by
  have ft := F.ba_called
  obtain ⟨c, tl, hmro⟩ := ft.mro
  have hmade := ft.made
  have hsub := ft.sub
  refine P_call (P_tree rfl (P_any ?_))
  show wpAny _ _ (callAny (.type "bytearray") _) _ _ _
  refine wpAny_pure ⟨Code.quiet_builtin _ (by decide +kernel), P_builtinAt ((decodes_builtin _ _).trans (by decide +kernel)) PySem.F.entry_type_call ?_⟩
  rw [Around.under_plain (weight_type_call_type "bytearray" args []) rfl]
  have h1 := ft.notType
  have h2 := ft.canCreate
  unfold Builtin.«type.__call__»
  dsimp only
  simp only [h1, h2, hct, hmro, hmade, Bool.false_eq_true, if_false]
  refine P_bind (P_pure ?_)
  refine P_bind (P_pure ?_)
  simp only [List.isEmpty_cons, Bool.false_eq_true, if_false]
  refine P_bind (P_pure ?_)
  refine P_bind (P_pure ?_)
  refine P_bind (P_holding (P_call (P_codeAny (codeAny_mono (ba_new (E := E) (Q₁ := fun obj s₁ => obj = .ref s.heap.objs.size ∧ s₁ = { s with heap := s.heap.push (baObj #[]) }) hnc ⟨rfl, rfl⟩) fun r s₁ hr => ?_))))
  cases r with
  | error e => exact hr
  | ok fl =>
    cases fl with
    | ret obj =>
      obtain ⟨rfl, rfl⟩ := hr
      have hT : ({ s with heap := s.heap.push (baObj #[]) } : Shared).TypeIs (.ref s.heap.objs.size) "bytearray" := ⟨_, Heap.get?_push_size _ rfl, rfl⟩
      have hli := ft.init.lookup
      have hbi := ft.init.bind (.ref s.heap.objs.size)
      refine P_bind (P_any ?_)
      repeat (any_goals (first | assumption | wp_step))
      simp only [Bool.not_true, Bool.false_eq_true, if_false]
      refine P_bind (P_holding ?_)
      unfold callSpecial?
      refine P_bind (P_any ?_)
      unfold specialOf
      repeat (any_goals (first | assumption | wp_step))
      dsimp only
      rw [hbi]
      refine P_holding (P_bind (P_pure ?_))
      dsimp only
      refine P_bind (P_call (P_builtin (plainId_quiet ft.init.plain _) ((decodes_builtin _ _).trans (by decide +kernel)) F.ba_entry_init (ft.init.check _ _ _ _ _ _ _ _ hT (hia _) ?_)))
      rw [Around.under_plainId ft.init.plain _]
      refine P_mono hinit (fun fin s' hf => ?_) fun _ _ x => x
      obtain ⟨rfl, hq⟩ := hf
      dsimp only
      refine P_pure ?_
      dsimp only
      exact P_pure hq
    | _ => exact hr.elim
end
namespace F
theorem ba_rel : typeLookup (.type "bytearray") "__release_buffer__" = pure (some (.builtin "bytearray.__release_buffer__")) := by rw [typeLookup_type, builtinLookup_eq_fast]; kernel_rfl
theorem ba_ends : ("bytearray.__release_buffer__".endsWith ("." ++ "__release_buffer__")) = true := by decide +kernel
theorem ba_drop : ("bytearray.__release_buffer__".dropRight ("__release_buffer__".length + 1)) = "bytearray" := by decide +kernel
end F
section
variable {prog : Program} {w : World} {A : Around} {E : Value → Shared → Prop} {s : Shared}
theorem ba_ownRelease {x : Addr} {b : Array UInt8} {Q : Bool → Shared → Prop} (ho : s.heap.get? x = some (baObj b)) (h : Q false s) : wpAny (model prog w) A (Builtin.Bytes.ownRelease (.ref x)) Q E s := by
  unfold Builtin.Bytes.ownRelease
  have f1 := F.ba_rel
  have f2 := F.ba_sub
  wp_walk
  rw [F.ba_ends, F.ba_drop]
  simp only [Bool.not_true, Bool.false_eq_true, if_false]
  wp_walk
  exact h
theorem ba_unheld {x : Addr} {b : Array UInt8} {α : Type} {k : Bool → Sem α} {Q : α → Shared → Prop} (hg : A.guards = some []) (ho : s.heap.get? x = some (baObj b)) (h : wpP (model prog w) A (k false) Q E s) :
    wpP (model prog w) A ((Builtin.Bytes.exported (.ref x) <||> (do return (← Builtin.Bytes.exportsOf (.ref x)) > 0)) >>= k) Q E s := by
  refine P_bind (P_bind (P_exported hg ?_))
  refine P_any ?_
  unfold Builtin.Bytes.exportsOf
  wp_walk
  exact h
theorem ba_init0 {x : Addr} {Q : PySem.Fin → Shared → Prop} (hg : A.guards = some []) (ho : s.heap.get? x = some (baObj #[]))
    (h : ∀ h', Heap.SameBut x s.heap h' → h'.get? x = some (baObj #[]) → Q (.done (.ret .none)) { s with heap := h' }) : wpP (model prog w) A (Builtin.«bytearray.__init__» ⟨[.ref x], []⟩) Q E s := by
  unfold Builtin.«bytearray.__init__»
  dsimp only
  refine P_bind (P_any (ba_ownRelease ho ?_))
  simp only [Bool.false_eq_true, if_false]
  rw [F.ba_bind0]
  refine P_bind (P_pure ?_)
  dsimp only
  refine P_bind (P_pure ?_)
  refine P_bind (P_pure ?_)
  refine ba_unheld hg ho ?_
  simp only [Bool.false_eq_true, if_false, Option.isSome_none]
  refine P_bind (P_any (ba_write ho (by decide) fun h' hs ho' => ?_))
  exact P_bind (P_pure (P_pure (h h' hs ho')))
theorem by_buf {b : Array UInt8} {t : Tok} {Q : Option (Array UInt8) → Shared → Prop} (h : Q (some b) s) : wpAny (model prog w) A (Builtin.Bytes.buffer? "bytearray.__init__" (.bytes b t) true) Q E s := by
  exact (Looks.of_peek (M := model prog w) (h := s.heap) (K := []) (fun _ _ e => nomatch e) (by kernel_rfl)).here h
theorem by_noIndex {b : Array UInt8} {t : Tok} {Q : Option Value → Shared → Prop} (h : Q none s) : wpAny (model prog w) A (specialOf (.bytes b t) "__index__") Q E s := by
  exact (Looks.of_peek (M := model prog w) (h := s.heap) (K := []) (fun _ _ e => nomatch e) (by kernel_rfl)).here h
theorem ba_init1 {x : Addr} {b : Array UInt8} {t : Tok} {Q : PySem.Fin → Shared → Prop} (hg : A.guards = some []) (ho : s.heap.get? x = some (baObj #[])) (hz1 : b.size ≤ 1001)
    (h : ∀ h', Heap.SameBut x s.heap h' → h'.get? x = some (baObj b) → Q (.done (.ret .none)) { s with heap := h' }) : wpP (model prog w) A (Builtin.«bytearray.__init__» ⟨[.ref x, .bytes b t], []⟩) Q E s := by
  unfold Builtin.«bytearray.__init__»
  dsimp only
  refine P_bind (P_any (ba_ownRelease ho ?_))
  simp only [Bool.false_eq_true, if_false]
  rw [F.ba_bind1]
  refine P_bind (P_pure ?_)
  dsimp only
  refine P_bind (P_pure ?_)
  refine P_bind (P_pure ?_)
  refine ba_unheld hg ho ?_
  simp only [Bool.false_eq_true, if_false, Option.isSome_none]
  refine P_bind (P_any (ba_write ho (by decide) fun h' hs ho' => ?_))
  refine P_any ?_
  refine wpAny_bind (wpAny_pure ?_)
  simp only [Bool.false_eq_true, if_false, Option.isSome_none]
  refine wpAny_bind (wpAny_pure ?_)
  refine wpAny_bind (by_noIndex ?_)
  simp only [Bool.false_eq_true, if_false, Option.isSome_none]
  refine wpAny_bind (by_buf ?_)
  dsimp only
  refine wpAny_bind (wpAny_rule ?_)
  refine wpAny_bind (ba_write ho' hz1 fun h2 hs2 ho2 => ?_)
  exact wpAny_pure (h h2 (hs.trans hs2) ho2)
theorem P_ba0 {Q : Value → Shared → Prop} (hg : A.guards = some []) (h : ∀ h', Heap.SameBut s.heap.objs.size (s.heap.push (baObj #[])) h' → h'.get? s.heap.objs.size = some (baObj #[]) → Q (.ref s.heap.objs.size) { s with heap := h' }) :
    wpP (model prog w) A (call (.type "bytearray") []) Q E s :=
  P_callBa F.ba_typeCall0 F.ba_newCall0 F.ba_args_init0 (ba_init0 (A := A.in1.in1) hg (Heap.get?_push_size _ rfl) fun h' hs ho => ⟨rfl, h h' hs ho⟩)
theorem P_ba1 {b : Array UInt8} {t : Tok} {Q : Value → Shared → Prop} (hg : A.guards = some []) (hz : b.size ≤ 1001) (h : ∀ h', Heap.SameBut s.heap.objs.size (s.heap.push (baObj #[])) h' → h'.get? s.heap.objs.size = some (baObj b) → Q (.ref s.heap.objs.size) { s with heap := h' }) :
    wpP (model prog w) A (call (.type "bytearray") [.bytes b t]) Q E s :=
  P_callBa (F.ba_typeCall1 _) (F.ba_newCall1 _) (fun o => F.ba_args_init1 o _) (ba_init1 (A := A.in1.in1) hg (Heap.get?_push_size _ rfl) hz fun h' hs ho => ⟨rfl, h h' hs ho⟩)
end
local macro_rules | `(tactic| ktr_enter) => `(tactic| (refine' P_def ?k1 ?k2 ?k3 ?k4 ?k5 ?kA ?kF ?kK ?k6 ?k7 ?k8 ?k9 ?kB ?_ ?c2 ?c3 ?c4 ?c5; (case kA => exact rfl); (case kF => first | assumption | exact rfl); (case kK => first | assumption | exact rfl); (case k1 => k_asm); (case k2 => k_asm); (case k3 => k_asm); (case k4 => k_asm); (case k5 => k_asm); (case k6 => k_is); (case k7 => k_is); (case k8 => k_room); (case k9 => first | exact BindsTo.of_eq rfl | exact binds_K (by k_in) rfl (by k_is) rfl rfl rfl); (case c5 => decide); (case kB => exact locs rfl); (case c2 => exact rfl); (case c3 => exact rfl); (case c4 => exact rfl); k_whole; intro g' L' h' FG' F' N' B' X' T'; (try dsimp only); (try k_fold)))
theorem byte_in (c : UInt8) : 0 ≤ (c.toNat : Int) ∧ (c.toNat : Int) < 256 := by have := c.toNat_lt; omega
theorem deepenP {α : Type} {M : Model} {A : Around} {t : Sem α} {Q : α → Shared → Prop} {E : Value → Shared → Prop} {s : Shared} {env : Env} {outer : List Env} (D U : Nat)
    (hh : A.handled = none) (hf : A.frames = some (env :: outer)) (hg : A.guards = some []) (hd : A.depth ≤ D) (hu : A.units ≤ U)
    (h : wpP M { handled := none, depth := D, frames := some (env :: outer), guards := some [], units := U } t Q E s) : wpP M A t Q E s := by
  refine ⟨fun Γ p hΓ hc => ?_⟩
  exact h.run Γ p ⟨hΓ.1.trans hh, Nat.le_trans hΓ.2.1 hd, fun l hl => hΓ.2.2.1 l (hf.trans hl), fun l hl => hΓ.2.2.2.1 l (hg.trans hl), Nat.le_trans hΓ.2.2.2.2 hu⟩ hc
namespace F
theorem ba_attrs : PlainAttrs "bytearray" :=
  ⟨⟨"bytearray.__getattribute__", by rw [typeLookup_type, builtinLookup_eq_fast]; kernel_rfl, by decide +kernel⟩, by rw [typeLookup_type, builtinLookup_eq_fast]; kernel_rfl⟩
theorem ba_type_append : typeOf (.builtin "bytearray.append") = pure (.type "method_descriptor") := by show builtinType _ = _; rw [builtinType_eq_fast]; kernel_rfl
end F
section
variable {α : Type} {M : Model} {prog : Program} {w : World} {A : Around} {E : Value → Shared → Prop} {s : Shared} {env : Env} {h₀ : Heap} {L : Addr} {m : PySem.Str → Option Value} {news : List (Addr × Obj)} {g : Obj → List (Addr × Obj)} {D : Addr} {b : Array UInt8} {pos : Pos}
theorem ba_method {name : PySem.Str} {id : String} {pl : Sem Bool} {Q : Value × List Value → Shared → Prop} (N : News h₀ L s.heap news) (hm : (D, baObj b) ∈ news) (slot : Slot "bytearray" name id) (hty : typeOf (.builtin id) = pure (.type "method_descriptor"))
    (h : Q (.builtin id, [.ref D]) s) : wpAny (model prog w) A (getMethod (.ref D) name pl) Q E s :=
  getMethod_builtin ⟨_, (N _ hm).1, rfl⟩ F.ba_attrs slot hty (fun a e => by cases e; exact ⟨_, (N _ hm).1, rfl⟩) h
theorem append_P {c : Int} {t : Tok} {Q : Value → Shared → Prop} (hg : A.guards = some []) (F : Fr h₀ L s.heap m) (N : News h₀ L s.heap news) (U : UpdF D (baObj b) news g) (hc : 0 ≤ c ∧ c < 256) (hz : b.size ≤ 1000)
    (h : ∀ h', Fr h₀ L h' m → News h₀ L h' (g (baObj (b.push c.toNat.toUInt8))) → Q .none { s with heap := h' }) : wpP (model prog w) A (call (.builtin "bytearray.append") [.ref D, .int c t]) Q E s := by
  obtain ⟨pre, post, rfl, hgo, u1, u2⟩ := U.split
  have ND := N (D, baObj b) (by simp)
  refine P_append hg ND.1 hc hz fun h' hs ho => ?_
  have hne : L ≠ D := Ne.symm ND.2.1
  refine h h' ⟨?_, fun a o e => ?_, F.above⟩ ?_
  · obtain ⟨o, es, ep, z1, z2⟩ := F.ns
    exact ⟨o, es, ep, (hs.2 L hne).trans z1, z2⟩
  · refine (hs.2 a fun z => ?_).trans (F.keep a o e)
    rw [z, ND.2.2] at e; cases e
  · rw [hgo]
    intro q hq
    rcases List.mem_append.mp hq with hq | hq
    · have := N q (List.mem_append.mpr (.inl hq)); exact ⟨(hs.2 q.1 (u1 q hq)).trans this.1, this.2⟩
    rcases List.mem_cons.mp hq with rfl | hq
    · exact ⟨ho, ND.2⟩
    · have := N q (List.mem_append.mpr (.inr (.tail _ hq))); exact ⟨(hs.2 q.1 (u2 q hq)).trans this.1, this.2⟩
theorem made_news {h h' : Heap} {o o' : Obj} (F : Fr h₀ L h m) (N : News h₀ L h news) (hs : Heap.SameBut h.objs.size (h.push o) h') (ho : h'.get? h.objs.size = some o') (hfr : o.isFreed = false := by rfl) :
    Fr h₀ L h' m ∧ News h₀ L h' ((h.objs.size, o') :: news) ∧ ∀ p ∈ news, p.1 < h.objs.size := by
  have F1 := F.push o
  have N1 := N.push F o hfr
  have hne : L ≠ h.objs.size := Ne.symm (N1 _ (.head _)).2.1
  refine ⟨⟨?_, fun a q e => ?_, F.above⟩, fun q hq => ?_, fun p hp => Heap.lt_size (N p hp).1⟩
  · obtain ⟨x, es, ep, z1, z2⟩ := F1.ns
    exact ⟨x, es, ep, (hs.2 L hne).trans z1, z2⟩
  · refine (hs.2 a fun z => ?_).trans (F1.keep a q e)
    have := (N1 _ (.head _)).2.2
    rw [z] at e; rw [this] at e; cases e
  · rcases List.mem_cons.mp hq with rfl | hq
    · exact ⟨ho, (N1 _ (.head _)).2⟩
    · have := N1 q (.tail _ hq)
      exact ⟨(hs.2 q.1 (Nat.ne_of_lt (Heap.lt_size (N q hq).1))).trans this.1, this.2⟩
theorem ba0_P {Q : Value → Shared → Prop} (hg : A.guards = some []) (F : Fr h₀ L s.heap m) (N : News h₀ L s.heap news)
    (h : ∀ D h', Fr h₀ L h' m → News h₀ L h' ((D, baObj #[]) :: news) → (∀ p ∈ news, p.1 < D) → Q (.ref D) { s with heap := h' }) : wpP (model prog w) A (call (.type "bytearray") []) Q E s := by
  refine P_ba0 hg fun h' hs ho => ?_
  obtain ⟨a, b, c⟩ := made_news F N hs ho
  exact h _ h' a b c
theorem ba1_P {Q : Value → Shared → Prop} {t : Tok} (hg : A.guards = some []) (hz : b.size ≤ 1001) (F : Fr h₀ L s.heap m) (N : News h₀ L s.heap news)
    (h : ∀ D h', Fr h₀ L h' m → News h₀ L h' ((D, baObj b) :: news) → (∀ p ∈ news, p.1 < D) → Q (.ref D) { s with heap := h' }) : wpP (model prog w) A (call (.type "bytearray") [.bytes b t]) Q E s := by
  refine P_ba1 hg hz fun h' hs ho => ?_
  obtain ⟨a, b, c⟩ := made_news F N hs ho
  exact h _ h' a b c
theorem P_sp0 {Q : List Value → Shared → Prop} (h : Q [] s) : wpP M A (spliced (backTo pos (starEach [] env))) Q E s := P_pure h
theorem P_sp1 {e : PySem.Expr} {rest : List PySem.Expr} {Q : List Value → Shared → Prop}
    (h : wpP M A (eval e env) (fun v s₁ => wpP M A (spliced (backTo pos (starEach rest env))) (fun vs s₂ => Q (v :: vs) s₂) E s₁) E s)
    (hs : backTo pos (starEach (e :: rest) env) = (false, eval e env) :: backTo pos (starEach rest env) := by rfl) : wpP M A (spliced (backTo pos (starEach (e :: rest) env))) Q E s := by
  rw [hs]; exact P_spliced h
theorem P_ar0 {f : Value} {Q : Args → Shared → Prop} (h : Q ⟨[], []⟩ s) : wpP M A (evalArgs f true (backTo pos (starEach [] env)) []) Q E s := P_args0 h
theorem P_ar1 {f : Value} {e : PySem.Expr} {rest : List PySem.Expr} {Q : Args → Shared → Prop}
    (h : wpP M A (spliced (backTo pos (starEach (e :: rest) env))) (fun vs s' => Q ⟨vs, []⟩ s') E s)
    (hs : backTo pos (starEach (e :: rest) env) = (false, eval e env) :: backTo pos (starEach rest env) := by rfl) : wpP M A (evalArgs f true (backTo pos (starEach (e :: rest) env)) []) Q E s := by
  rw [hs] at h ⊢; exact P_args h
theorem keeper_K {K : Frag} {h : Heap} {f : Value} (X : K.In h) (hk : keepIn K f = true) : ∃ k, Looks M h (keeperOf f) k := let ⟨k, _, b⟩ := looks_keep hk X; ⟨k, b⟩
theorem keeper_F {K : Frag} {h : Heap} {f : Value} {h₀ : Heap} {L : Addr} {m : PySem.Str → Option Value} (F : Fr h₀ L h m) (X : K.In h₀) (hk : keepIn K f = true) : ∃ k, Looks M h (keeperOf f) k := keeper_K (X.keeps F.keep) hk
theorem keeper_b {h : Heap} {id : String} : ∃ k, Looks M h (keeperOf (.builtin id)) k := ⟨.machine, Looks.of_pure rfl⟩
theorem keeper_t {h : Heap} {id : String} : ∃ k, Looks M h (keeperOf (.type id)) k := ⟨.machine, Looks.of_pure rfl⟩
theorem and_b {h : Heap} {id : String} {R : Prop} (r : R) : (∃ k, Looks M h (keeperOf (.builtin id)) k) ∧ R := ⟨keeper_b, r⟩
theorem and_t {h : Heap} {id : String} {R : Prop} (r : R) : (∃ k, Looks M h (keeperOf (.type id)) k) ∧ R := ⟨keeper_t, r⟩
theorem and_F {K : Frag} {h : Heap} {a : Addr} {h₀ : Heap} {L : Addr} {m : PySem.Str → Option Value} {R : Prop} (F : Fr h₀ L h m) (X : K.In h₀) (hk : keepIn K (.ref a) = true) (r : R) : (∃ k, Looks M h (keeperOf (.ref a)) k) ∧ R := ⟨keeper_F F X hk, r⟩
end
local macro_rules | `(tactic| walk_at "getMethod ref") => `(tactic| (k_here; (with_reducible show wpAny _ _ (getMethod (Value.ref _) (PySem.Str.ofString "append") _) _ _ _); k_dflt (refine' ba_method ?N ?m F.ba_append F.ba_type_append ?_; (case N => k_asm); (case m => k_mem))))
local macro_rules | `(tactic| walk_at "call ref") => `(tactic| (k_here; (with_reducible show wpAny _ _ (call (Value.ref 439) _) _ _ _); k_dflt (first | (refine sure_byte (Cx.mk rfl rfl (Nat.le_of_ble_eq_true rfl) (Nat.le_of_ble_eq_true rfl) rfl rfl (by k_asm) (by k_asm) (by k_asm) (by k_asm)) (by k_asm) (by k_mem) (by k_updF) (by first | assumption | rfl) (by assumption) (by assumption) ?_; intro t' h' tk' tk2' p' F' N' hp') | (refine sure_any (Cx.mk rfl rfl (Nat.le_of_ble_eq_true rfl) (Nat.le_of_ble_eq_true rfl) rfl rfl (by k_asm) (by k_asm) (by k_asm) (by k_asm)) (by k_asm) (by k_mem) (by k_updF) (by first | assumption | rfl) (by assumption) (fun hc' e' d' k' t' h' tk2' R' => ?_) (fun c' hc' t' h' tk' tk2' p' F' N' hp' => ?_))); (all_goals (try dsimp only at N' ⊢)); (all_goals (try k_sweep))))
local macro_rules | `(tactic| walk_at "call ref") => `(tactic| (k_here; (with_reducible show wpAny _ _ (call (Value.ref 446) _) _ _ _); k_dflt (refine octal_c (Cx.mk rfl rfl (Nat.le_of_ble_eq_true rfl) (Nat.le_of_ble_eq_true rfl) rfl rfl (by k_asm) (by k_asm) (by k_asm) (by k_asm)) (by k_asm) (by k_mem) (by k_updF) (by first | assumption | rfl) (by assumption) (by first | assumption | rfl) (by assumption) ?_; intro t' h' tk' tk2' p' v' F' N' hv' hp'); (try dsimp only at N' ⊢); (try k_sweep)))
local macro_rules | `(tactic| walk_at "And") => `(tactic| (first | with_reducible refine and_b ?_ | with_reducible refine and_t ?_ | with_reducible refine and_F (by assumption) (by assumption) (by k_dflt k_is) ?_); (try dsimp only [List.nil_append, List.cons_append]))
section
variable {M : Model} {A : Around} {E : Value → Shared → Prop} {s : Shared} {env : Env}
theorem P_Assign_At {t value pos} {Q : Flow → Shared → Prop}
    (h : wpP M A (eval value env) (fun v s₁ => wpAny M A (assign t env v) (fun _ => Q .next) E s₁) E s)
    (hs : swapsWithSole [t] value pos.line env = pure false := by rfl) (hw : swappedStores [t] value env = pure none := by rfl) (ha : (assignEach [t] env).map (·.2) = [assign t env] := by rfl) : wpP M A (exec (.Assign [t] value pos) env) Q E s := by
  rw [exec_Assign]
  refine P_bind (P_standAt ?_)
  rw [hs]
  refine P_bind (P_pure ?_)
  rw [if_neg (by decide)]
  refine P_bind (P_mono h (fun v s₁ h₁ => ?_) fun _ _ x => x)
  rw [hw]
  refine P_bind (P_pure ?_)
  show wpP M A (do assignAll v ((assignEach [t] env).map (·.2)); pure .next) Q E s₁
  rw [ha]
  exact P_bind (P_mono (P_any h₁) (fun _ _ x => P_pure x) fun _ _ x => x)
theorem P_Assign_Swapped {elts k tpos value pos} {names : List PySem.Str} {Q : Flow → Shared → Prop}
    (h : wpP M A (eval value env) (fun v s₁ => wpAny M A (unpackItems v names.length none) (fun items s₂ =>
      wpAny M A (assignInOrder (names.reverse.map fun n => bindName env n) items.reverse) (fun _ => Q .next) E s₂) E s₁) E s)
    (hs : swapsWithSole [.Tuple elts k tpos] value pos.line env = pure false := by rfl) (hw : swappedStores [.Tuple elts k tpos] value env = pure (some names) := by rfl) : wpP M A (exec (.Assign [.Tuple elts k tpos] value pos) env) Q E s := by
  rw [exec_Assign]
  refine P_bind (P_standAt ?_)
  rw [hs]
  refine P_bind (P_pure ?_)
  rw [if_neg (by decide)]
  refine P_bind (P_mono h (fun v s₁ h₁ => ?_) fun _ _ x => x)
  rw [hw]
  refine P_bind (P_pure ?_)
  show wpP M A (do rule "assign.swapped-stores"; let items ← unpackItems v names.length none; assignInOrder (names.reverse.map fun n => bindName env n) items.reverse; pure .next) Q E s₁
  refine P_bind (P_any (wpAny_rule ?_))
  exact P_bind (P_mono (P_any h₁) (fun items s₂ h₂ => P_bind (P_mono (P_any h₂) (fun _ _ x => P_pure x) fun _ _ x => x)) fun _ _ x => x)
theorem P_Tup {elts x1 pos} {Q : Value → Shared → Prop} (h : wpP M A (spliced (backTo pos (starEach elts env))) (fun vs s₁ => wpAny M A (newTuple vs) Q E s₁) E s) : wpP M A (eval (.Tuple elts x1 pos) env) Q E s := by
  rw [arm_eval_Tuple]
  exact P_bind (P_standAt (P_bind (P_mono h (fun _ _ x => P_any x) fun _ _ x => x)))
theorem P_Compare {l op r pos} {Q : Value → Shared → Prop}
    (h : wpP M A (eval l env) (fun a s₁ => wpAny M A (eval r env) (fun b s₂ => wpAny M A (compareOp op a b) Q E s₂) E s₁) E s)
    (hm : behindInMarks op r = false := by with_unfolding_all rfl) : wpP M A (eval (.Compare l [op] [r] pos) env) Q E s := by
  rw [eval_Compare1, markedBehindIn_of_false hm]
  refine P_bind (P_mono h (fun a s₁ h₁ => ?_) fun _ _ x => x)
  refine P_bind (P_holding (P_mono (P_any h₁) (fun b s₂ h₂ => ?_) fun _ _ x => x))
  refine P_bind (P_standAt ?_)
  exact P_operate (P_any h₂)
end
section
variable {prog : Program} {w : World} {A : Around} {E : Value → Shared → Prop} {s : Shared} {env : Env}
theorem P_Try {body orelse : List Stmt} {hd₀ : ExceptHandler} {hs : List ExceptHandler} {pos : Pos} {Q : Flow → Shared → Prop}
    (h : wpP (model prog w) A (execs body env) (fun f s₁ => match f with | .next => wpP (model prog w) A (execs orelse env) Q E s₁ | f => Q f s₁)
      (fun e s₁ => wpAny (model prog w) A (noteFrame e env) (fun _ s₂ => wpAny (model prog w) A (setFlight e none) (fun _ s₃ => wpAny (model prog w) A (handleBy e env (hd₀ :: hs)) Q E s₃) E s₂) E s₁) s) :
    wpP (model prog w) A (exec (.Try body (hd₀ :: hs) orelse [] pos) env) Q E s := by
  rw [arm_exec_Try]
  refine P_bind (P_standAt ?_)
  unfold tryStmt
  simp only [List.isEmpty_nil, if_true, List.isEmpty_cons, Bool.false_and, Bool.false_eq_true, if_false]
  refine P_bind (P_attempt (P_mono h (fun f s₁ h₁ => ?_) fun e s₁ h₁ => ?_))
  · cases f <;> first | exact h₁ | exact P_pure h₁
  · exact P_any (wpAny_bind (wpAny_mono h₁ (fun _ _ h₂ => wpAny_bind h₂) fun _ _ x => x))
end
section
variable {prog : Program} {w : World} {A : Around} {K : Frag} {C : Addr} {R : Result → Shared → Prop} {h : Heap} {g : Array GenState} {d : Drawn} {t : Nat} {os : OsState}
theorem P_make_core {rest : List Value} {init : Value} (Y : Makes (model prog w) h C) (hi : Looks (model prog w) h (typeLookup (.ref C) "__init__") (some init))
    (hb : ∀ self, Looks (model prog w) h (bindSpecial init self) (init, [self])) (hne : (some init != some (Value.builtin "object.__init__")) = true)
    (hq : codeP (model prog w) (A.under (.builtin "type.__call__" ⟨.ref C :: rest, []⟩)) (.call init ⟨.ref (h.objs.size + 1) :: rest, []⟩) (InitBack (h.objs.size + 1) R) ⟨(h.push emptyDict).push (instObj C h.objs.size), g, d, t, os⟩) :
    codeP (model prog w) A (.call (.ref C) ⟨rest, []⟩) R ⟨h, g, d, t, os⟩ := by
  have Y' := Y
  obtain ⟨⟨oc, od, cd, sl, hC, e1, e2, e4⟩, made, base, self, top, call, typ⟩ := Y
  refine P_tree rfl (P_any ?_)
  show wpAny _ _ (callAny (.ref C) _) _ _ _
  refine nd_load hC ?_
  show wpAny _ _ (callAny.viaDunder (.ref C) _) _ _ _
  unfold callAny.viaDunder
  refine wpAny_bind (call.at ?_)
  dsimp only
  rw [tc_bind]
  refine wpAny_bind (wpAny_pure (wpAny_bind (wpAny_pure ?_)))
  refine wpAny_pure (a := Fin.again (.call (.builtin "type.__call__") ⟨.ref C :: rest, []⟩)) (And.intro rfl ?_)
  refine P_builtin (Code.quiet_builtin _ (by decide +kernel)) ((decodes_builtin _ _).trans (by decide +kernel)) entry_typeCall (check_slot tc_kind tc_split typ (tc_args _ _ _) ?_)
  unfold Builtin.«type.__call__»
  have hm : Looks (model prog w) h (mroOf (.ref C)) cd.mro := ((Looks.ld (part := none) hC).andThen .now).andThen .now
  dsimp only
  rw [show (Value.ref C == Value.type "type") = false from rfl]
  simp only [Bool.false_eq_true, if_false]
  refine P_bind (P_any (hm.at ?_))
  simp only [e4, Bool.false_eq_true, if_false]
  refine P_bind (P_any (made.at ?_))
  dsimp only
  refine P_bind (P_pure ?_)
  refine P_bind (P_holding (P_call (P_codeAny (new_K (init := init) Y' hi (.inl hne) ?_))))
  dsimp only
  have k : ∀ b o, h.get? b = some o → ((h.push emptyDict).push (instObj C h.objs.size)).get? b = some o := fun b o e => Heap.get?_push_of_some _ (Heap.get?_push_of_some _ e)
  have hx : ((h.push emptyDict).push (instObj C h.objs.size)).get? (h.objs.size + 1) = some (instObj C h.objs.size) := by heap_get
  have t1 : Looks (model prog w) ((h.push emptyDict).push (instObj C h.objs.size)) (typeOf (.ref (h.objs.size + 1))) (.ref C) := (Looks.ld hx).andThen .now
  have s1 := self.keeps k
  have i1 := hi.keeps k
  have b1 := (hb (.ref (h.objs.size + 1))).keeps k
  have isI : Looks (model prog w) ((h.push emptyDict).push (instObj C h.objs.size)) (isInstance (.ref (h.objs.size + 1)) (.ref C)) true := t1.andThen s1
  refine P_bind (P_any (isI.at ?_))
  simp only [Bool.not_true, Bool.false_eq_true, if_false]
  refine P_bind (P_holding ?_)
  unfold callSpecial?
  have sp : Looks (model prog w) ((h.push emptyDict).push (instObj C h.objs.size)) (specialOf (.ref (h.objs.size + 1)) "__init__") (some init) := t1.andThen i1
  refine P_bind (P_any (sp.at ?_))
  dsimp only
  refine P_holding (P_bind (P_any (b1.at ?_)))
  dsimp only
  refine P_bind (P_call (P_codeMono hq fun r s' z => ?_))
  rcases r with e | (v | _ | _ | _) <;> first | exact z | exact z.elim | skip
  obtain ⟨rfl, z⟩ := z
  refine P_pure ?_
  dsimp only
  exact P_pure z
end
section
variable {prog : Program} {w : World} {A : Around} {K : Frag} {C x : Addr} {s : Shared} {h₀ : Heap} {L : Addr} {m : PySem.Str → Option Value} {news : List (Addr × Obj)} {R : Result → Shared → Prop}
theorem P_make {rest : List Value} {fI : Addr} (F : Fr h₀ L s.heap m) (N : News h₀ L s.heap news) (X : K.In s.heap) (hm : makesIn K C = true)
    (hi : findIn K (.ref C) "__init__" = some (some (.ref fI))) (hf : typeIn K (.ref fI) = some (.type "function"))
    (h : ∀ x dx h', Fr h₀ L h' m → News h₀ L h' ((x, instObj C dx) :: (dx, emptyDict) :: news) → (∀ p ∈ news, p.1 < dx) → dx < x →
      codeP (model prog w) (A.under (.builtin "type.__call__" ⟨.ref C :: rest, []⟩)) (.call (.ref fI) ⟨.ref x :: rest, []⟩) (InitBack x R) { s with heap := h' }) :
    codeP (model prog w) A (.call (.ref C) ⟨rest, []⟩) R s := by
  obtain ⟨hh, g, d, t, os⟩ := s
  refine P_make_core (makes_of X hm) (looks_findIn X hi) (fun self => bind_fn X self hf) rfl (h _ hh.objs.size _ ((F.push _).push _) ?_ (fun p hp => Heap.lt_size (N p hp).1) (Nat.lt_succ_self _))
  have := (N.push F emptyDict).push (F.push _) (instObj C hh.objs.size)
  rwa [Heap.size_push] at this
end
theorem mod_in {v : Int} {n : Nat} (h : v = ((n % 256 : Nat) : Int)) : 0 ≤ v ∧ v < 256 := by omega
theorem lt_in {d : Nat} (h : d < 256) : 0 ≤ (d : Int) ∧ (d : Int) < 256 := by omega
section
variable {M : Model} {A : Around} {E : Value → Shared → Prop} {s : Shared} {env : Env} {Q : Flow → Shared → Prop} {f x : PySem.Str} {o t r : PySem.Expr} {op : CmpOp} {np ap pos l xp : Pos} {args : List PySem.Expr} {kw : List Keyword} {rest : List Stmt}
/-- names and methods whose calls are walked in wpP -/
noncomputable abbrev PNs : List PySem.Str := [Str.ofString "scan_escape", Str.ofString "scan_first", Str.ofString "scan_word", Str.ofString "scan_string", Str.ofString "scan_name", Str.ofString "_law_escape", Str.ofString "_law_read", Str.ofString "_law_told", Str.ofString "Text", Str.ofString "bytearray"]
noncomputable abbrev PMs : List PySem.Str := [Str.ofString "append", Str.ofString "slashed", Str.ofString "plain", Str.ofString "token", Str.ofString "token_in", Str.ofString "string"]
noncomputable def stepP : Stmt → Bool
  | .Assign .. | .Expr .. | .Return .. | .Raise .. | .Continue .. => true
  | _ => false
theorem P_eN  (h : wpAny M A (eval (.Name f np) env) (fun v s₁ => wpP M A (callWith pos v [] (backTo pos (starEach args env)) (backToKw pos (keywordEach kw env))) (fun v s' => match v with | .ref _ => False | _ => wpP M A (execs rest env) Q E s') E s₁) E s) (hi : interactive env = false := by k_dflt rfl) (hs : swapsWith (.Call (.Name f np) args kw pos) none l.line env = pure false := by k_dflt rfl) (_hm : List.Mem f PNs := by k_mem) :
    wpP M A (execs (.Expr (.Call (.Name f np) args kw pos) l :: rest) env) Q E s := P_cons (P_Expr (P_Call_Name (P_any h)) hi hs)
theorem P_rN  (h : wpAny M A (eval (.Name f np) env) (fun v s₁ => wpP M A (callWith pos v [] (backTo pos (starEach args env)) (backToKw pos (keywordEach kw env))) (fun v s' => Q (.ret v) s') E s₁) E s) (_hm : List.Mem f PNs := by k_mem) :
    wpP M A (execs (.Return (some (.Call (.Name f np) args kw pos)) l :: rest) env) Q E s := P_cons (P_Return (P_Call_Name (P_any h)))
theorem P_aN  (h : wpAny M A (eval (.Name f np) env) (fun v s₁ => wpP M A (callWith pos v [] (backTo pos (starEach args env)) (backToKw pos (keywordEach kw env))) (fun v s₃ => wpAny M A (storeName env x v) (fun _ s' => wpP M A (execs rest env) Q E s') E s₃) E s₁) E s) (hs : swapsWith (.Call (.Name f np) args kw pos) (some (.Name x xp)) l.line env = pure false := by k_dflt rfl) (_hm : List.Mem f PNs := by k_mem) :
    wpP M A (execs (.Assign [.Name x xp] (.Call (.Name f np) args kw pos) l :: rest) env) Q E s := P_cons (P_Assign (P_Call_Name (P_any h)) hs)
theorem P_tN  (h : wpAny M A (eval (.Name f np) env) (fun v s₁ => wpP M A (callWith pos v [] (backTo pos (starEach args env)) (backToKw pos (keywordEach kw env))) (fun v s₃ => wpAny M A (assign t env v) (fun _ s' => wpP M A (execs rest env) Q E s') E s₃) E s₁) E s) (hs : swapsWithSole [t] (.Call (.Name f np) args kw pos) l.line env = pure false := by k_dflt rfl) (hw : swappedStores [t] (.Call (.Name f np) args kw pos) env = pure none := by k_dflt rfl) (ha : (assignEach [t] env).map (·.2) = [assign t env] := by k_dflt rfl) (_hm : List.Mem f PNs := by k_mem) :
    wpP M A (execs (.Assign [t] (.Call (.Name f np) args kw pos) l :: rest) env) Q E s := P_cons (P_Assign_At (P_Call_Name (P_any h)) hs hw ha)
theorem P_eM  (h : wpAny M A (eval o env) (fun ov s₁ => wpAny M A (getMethod ov f (do return (← importBound o env).getD true)) (fun fm s₂ => wpP M A (callWith pos fm.1 fm.2 (backTo pos (starEach args env)) []) (fun v s' => match v with | .ref _ => False | _ => wpP M A (execs rest env) Q E s') E s₂) E s₁) E s) (hb : attributeBase o f env (eval o env) = eval o env := by k_dflt rfl) (hf : methodCallForm (args.length + ([] : List Keyword).length) (backTo pos (starEach args env)) (backToKw pos (keywordEach [] env)) = true := by k_dflt rfl) (hl : (ap.endLine == pos.line) = true := by k_dflt rfl) (hi : interactive env = false := by k_dflt rfl) (hs : swapsWith (.Call (.Attribute o f ap) args [] pos) none l.line env = pure false := by k_dflt rfl) (_hm : List.Mem f PMs := by k_mem) :
    wpP M A (execs (.Expr (.Call (.Attribute o f ap) args [] pos) l :: rest) env) Q E s := P_cons (P_Expr (P_Call_Meth (P_any h) hb hf hl) hi hs)
theorem P_rM  (h : wpAny M A (eval o env) (fun ov s₁ => wpAny M A (getMethod ov f (do return (← importBound o env).getD true)) (fun fm s₂ => wpP M A (callWith pos fm.1 fm.2 (backTo pos (starEach args env)) []) (fun v s' => Q (.ret v) s') E s₂) E s₁) E s) (hb : attributeBase o f env (eval o env) = eval o env := by k_dflt rfl) (hf : methodCallForm (args.length + ([] : List Keyword).length) (backTo pos (starEach args env)) (backToKw pos (keywordEach [] env)) = true := by k_dflt rfl) (hl : (ap.endLine == pos.line) = true := by k_dflt rfl) (_hm : List.Mem f PMs := by k_mem) :
    wpP M A (execs (.Return (some (.Call (.Attribute o f ap) args [] pos)) l :: rest) env) Q E s := P_cons (P_Return (P_Call_Meth (P_any h) hb hf hl))
theorem P_aM  (h : wpAny M A (eval o env) (fun ov s₁ => wpAny M A (getMethod ov f (do return (← importBound o env).getD true)) (fun fm s₂ => wpP M A (callWith pos fm.1 fm.2 (backTo pos (starEach args env)) []) (fun v s₃ => wpAny M A (storeName env x v) (fun _ s' => wpP M A (execs rest env) Q E s') E s₃) E s₂) E s₁) E s) (hb : attributeBase o f env (eval o env) = eval o env := by k_dflt rfl) (hf : methodCallForm (args.length + ([] : List Keyword).length) (backTo pos (starEach args env)) (backToKw pos (keywordEach [] env)) = true := by k_dflt rfl) (hl : (ap.endLine == pos.line) = true := by k_dflt rfl) (hs : swapsWith (.Call (.Attribute o f ap) args [] pos) (some (.Name x xp)) l.line env = pure false := by k_dflt rfl) (_hm : List.Mem f PMs := by k_mem) :
    wpP M A (execs (.Assign [.Name x xp] (.Call (.Attribute o f ap) args [] pos) l :: rest) env) Q E s := P_cons (P_Assign (P_Call_Meth (P_any h) hb hf hl) hs)
theorem P_tM  (h : wpAny M A (eval o env) (fun ov s₁ => wpAny M A (getMethod ov f (do return (← importBound o env).getD true)) (fun fm s₂ => wpP M A (callWith pos fm.1 fm.2 (backTo pos (starEach args env)) []) (fun v s₃ => wpAny M A (assign t env v) (fun _ s' => wpP M A (execs rest env) Q E s') E s₃) E s₂) E s₁) E s) (hb : attributeBase o f env (eval o env) = eval o env := by k_dflt rfl) (hf : methodCallForm (args.length + ([] : List Keyword).length) (backTo pos (starEach args env)) (backToKw pos (keywordEach [] env)) = true := by k_dflt rfl) (hl : (ap.endLine == pos.line) = true := by k_dflt rfl) (hs : swapsWithSole [t] (.Call (.Attribute o f ap) args [] pos) l.line env = pure false := by k_dflt rfl) (hw : swappedStores [t] (.Call (.Attribute o f ap) args [] pos) env = pure none := by k_dflt rfl) (ha : (assignEach [t] env).map (·.2) = [assign t env] := by k_dflt rfl) (_hm : List.Mem f PMs := by k_mem) :
    wpP M A (execs (.Assign [t] (.Call (.Attribute o f ap) args [] pos) l :: rest) env) Q E s := P_cons (P_Assign_At (P_Call_Meth (P_any h) hb hf hl) hs hw ha)
theorem P_cN  (h : wpAny M A (eval (.Name f np) env) (fun v s₁ => wpP M A (callWith pos v [] (backTo pos (starEach args env)) (backToKw pos (keywordEach kw env))) (fun a s₃ => wpAny M A (eval r env) (fun b s₄ => wpAny M A (compareOp op a b) (fun v s' => Q (.ret v) s') E s₄) E s₃) E s₁) E s) (hn : behindInMarks op r = false := by with_unfolding_all rfl) (_hm : List.Mem f PNs := by k_mem) :
    wpP M A (execs (.Return (some (.Compare (.Call (.Name f np) args kw pos) [op] [r] xp)) l :: rest) env) Q E s := P_cons (P_Return (P_Compare (P_Call_Name (P_any h)) hn))
theorem P_sN {es : List PySem.Expr} {lp : Pos} {Q : List Value → Shared → Prop}  (h : wpAny M A (eval (.Name f np) env) (fun v s₁ => wpP M A (callWith pos v [] (backTo pos (starEach args env)) (backToKw pos (keywordEach kw env))) (fun v s₁ => wpP M A (spliced (backTo lp (starEach es env))) (fun vs s₂ => Q (v :: vs) s₂) E s₁) E s₁) E s) (_hm : List.Mem f PNs := by k_mem) :
    wpP M A (spliced (backTo lp (starEach (.Call (.Name f np) args kw pos :: es) env))) Q E s := P_sp1 (P_Call_Name (P_any h))
theorem P_ca {st : Stmt} (hp : stepP st = true) (h : wpAny M A (exec st env) (fun f s' => match f with | .next => wpP M A (execs rest env) Q E s' | f => Q f s') E s) : wpP M A (execs (st :: rest) env) Q E s := P_cons (P_any h)
end
local macro_rules | `(tactic| walk_at "wpP") => `(tactic| (k_here; first | ((with_reducible show wpP _ _ (execs _ _) _ _ _); with_reducible first | (refine P_nil ?_; (try dsimp only)) | refine P_cons (P_If ?_) | refine P_eN ?_ | refine P_eM ?_ | refine P_rN ?_ | refine P_rM ?_ | refine P_aN ?_ | refine P_aM ?_ | refine P_tN ?_ | refine P_tM ?_ | refine P_cN ?_ | refine P_cons (P_Try ?_) | refine P_ca (by k_dflt exact rfl) ?_) | ((with_reducible show wpP _ _ (callWith _ _ _ _ _) _ _ _); k_dflt (refine P_callWith rfl ?_)) | ((with_reducible show wpP _ _ (evalArgs _ _ _ _) _ _ _); k_dflt (first | refine P_ar1 ?_ | refine P_ar0 ?_)) | ((with_reducible show wpP _ _ (spliced _) _ _ _); (first | with_reducible refine P_sN ?_ | k_dflt (first | refine P_sp1 (P_any ?_) | refine P_sp0 ?_)); (try dsimp only)) | ((with_reducible show wpP _ _ (call (Value.builtin "bytearray.append") _) _ _ _); k_dflt (refine append_P rfl (by k_asm) (by k_asm) (by k_updF) (by first | exact byte_in _ | exact mod_in (by assumption) | exact lt_in (by assumption) | decide | omega) (by first | assumption | omega) ?_); intro h' F' N'; (try dsimp only at N'); (try k_sweep)) | ((with_reducible show wpP _ _ (call (Value.type "bytearray") []) _ _ _); k_dflt (refine ba0_P rfl (by k_asm) (by k_asm) ?_); intro D' h' F' N' l1; (try k_lt l1); (try k_sweep))))
local macro_rules | `(tactic| walk_at "wpP") => `(tactic| (k_here; (with_reducible show wpP _ _ (execs _ _) _ _ (Shared.mk _ _ _ (_ + _) _)); refine P_tok (fun tk9 => ?_)))
local macro_rules | `(tactic| walk_at "execs cons") => `(tactic| (k_here; (fail_if_success (with_reducible show wpAny _ _ _ (fun a s' => Goes _ a s') _ _)); refine A_abs (fun Q9 E9 hQ9 hE9 => ?_)))
local macro_rules | `(tactic| walk_at "wpP") => `(tactic| (k_here; (with_reducible show wpP _ _ (execs (_ :: _) _) _ _ _); (fail_if_success (with_reducible show wpP _ _ _ (fun a s' => Goes _ a s') _ _)); refine P_abs (fun Q9 E9 hQ9 hE9 => ?_)))
theorem esc_oct {bl : List UInt8} {k : Nat} {c : UInt8} (h : bl[k]? = some c) (ho : isO c = true) : escK bl k = some ([UInt8.ofNat ((octK bl 2 (k + 1) (c.toNat - 48)).1 % 256)], (octK bl 2 (k + 1) (c.toNat - 48)).2) := by
  simp only [escK, h, if_pos (isO_iff.mp ho)]
theorem esc_cr {bl : List UInt8} {k : Nat} {c : UInt8} (h : bl[k]? = some c) (hc : (c.toNat : Int) = 13) : escK bl k = some ([], skipK bl (k + 1)) := by
  have h1 : c.toNat = 13 := nat_of (by assumption)
  simp only [escK, h, h1]; rfl
theorem esc_lf {bl : List UInt8} {k : Nat} {c : UInt8} (h : bl[k]? = some c) (hc : (c.toNat : Int) = 10) : escK bl k = some ([], k + 1) := by
  have h1 : c.toNat = 10 := nat_of (by assumption)
  simp only [escK, h, h1]; rfl
theorem esc_mean {bl : List UInt8} {k : Nat} {c : UInt8} (h : bl[k]? = some c) (ho : isO c = false) (h13 : (c.toNat : Int) ≠ 13) (h10 : (c.toNat : Int) ≠ 10) : escK bl k = some ([meanU c], k + 1) := by
  have := isO_iff'.mp ho
  simp only [escK, h, if_neg this, if_neg (nat_ne (n := 13) h13), if_neg (nat_ne (n := 10) h10)]
theorem news_as {h₀ h : Heap} {L fb : Addr} {q : Addr × Obj} {b b' : Array UInt8} {l : List (Addr × Obj)} (N : News h₀ L h (q :: (fb, baObj b) :: l)) (e : b = b') : News h₀ L h ((fb, baObj b') :: l) := e ▸ news_tail N
theorem push_is {b : Array UInt8} {v : Int} {n : Nat} {c : UInt8} (hv : v = (n : Int)) (hc : UInt8.ofNat n = c) : b.push v.toNat.toUInt8 = b ++ [c].toArray := by
  subst hv hc; simp [Nat.toUInt8]
theorem meanU_is {c : UInt8} {n : Int} {d : Nat} (h : (c.toNat : Int) = n) (e : (if n.toNat = 110 then 10 else if n.toNat = 114 then 13 else if n.toNat = 116 then 9 else if n.toNat = 98 then 8 else if n.toNat = 102 then 12 else n.toNat) = d) : UInt8.ofNat d = meanU c := by
  have h1 : c.toNat = n.toNat := by rw [← h]; rfl
  unfold meanU
  rw [h1]
  subst e
  repeat' split
  all_goals first | rfl | (rw [← h1]; simp)
theorem meanU_other {c : UInt8} (h1 : ¬ (c.toNat : Int) = 110) (h2 : ¬ (c.toNat : Int) = 114) (h3 : ¬ (c.toNat : Int) = 116) (h4 : ¬ (c.toNat : Int) = 98) (h5 : ¬ (c.toNat : Int) = 102) : UInt8.ofNat c.toNat = meanU c := by
  unfold meanU
  rw [if_neg (nat_ne (n := 110) h1), if_neg (nat_ne (n := 114) h2), if_neg (nat_ne (n := 116) h3), if_neg (nat_ne (n := 98) h4), if_neg (nat_ne (n := 102) h5)]; simp
/-- a sign's meaning, as int -/
structure Mean (c : UInt8) (s : Shared) (v : Value) (s' : Shared) : Prop where
  out : ∃ (d : Nat) (t tk : Nat), v = .int (d : Int) t ∧ d < 256 ∧ UInt8.ofNat d = meanU c ∧ s' = { s with toks := tk }
theorem get_join {M : Model} {A : Around} {E : Value → Shared → Prop} {s : Shared} {a : Addr} {c : UInt8} {t1 t2 : Tok} {Q : Value → Shared → Prop} (h1 : wpAny M A (call (.builtin "dict.get") [.ref a, .int (c.toNat : Int) t1, .int (c.toNat : Int) t2]) (Mean c s) E s)
    (h2 : ∀ d t tk, d < 256 → UInt8.ofNat d = meanU c → Q (.int ((d : Nat) : Int) t) { s with toks := tk }) : wpAny M A (call (.builtin "dict.get") [.ref a, .int (c.toNat : Int) t1, .int (c.toNat : Int) t2]) Q E s :=
  wpAny_mono h1 (fun v s' h => by obtain ⟨d, t, tk, rfl, hd, hm, rfl⟩ := h.out; exact h2 d t tk hd hm) (fun _ _ h => h)
theorem mean_is {c : UInt8} {n v : Int} {s : Shared} {t tk : Nat} (h : (c.toNat : Int) = n) (d : Nat) (e : (if n.toNat = 110 then 10 else if n.toNat = 114 then 13 else if n.toNat = 116 then 9 else if n.toNat = 98 then 8 else if n.toNat = 102 then 12 else n.toNat) = d) (hd : d < 256) (hv : v = (d : Int)) : Mean c s (.int v t) { s with toks := tk } :=
  ⟨d, t, tk, by rw [hv], hd, meanU_is h e, rfl⟩
theorem mean_other {c : UInt8} {s : Shared} {t tk : Nat} (h1 : ¬ (c.toNat : Int) = 110) (h2 : ¬ (c.toNat : Int) = 114) (h3 : ¬ (c.toNat : Int) = 116) (h4 : ¬ (c.toNat : Int) = 98) (h5 : ¬ (c.toNat : Int) = 102) : Mean c s (.int (c.toNat : Int) t) { s with toks := tk } :=
  ⟨c.toNat, t, tk, rfl, c.toNat_lt, meanU_other h1 h2 h3 h4 h5, rfl⟩
local macro_rules | `(tactic| walk_at "call builtin:dict.get") => `(tactic| (k_here; (fail_if_success (with_reducible show wpAny _ _ _ (Mean _ _) _ _)); with_reducible refine get_join ?_ (fun d9 t9 tk9 hd9 hm9 => ?_)))
section
variable {w : World} {A : Around} {env : Env} {outer : List Env} {A₀ : Around} {base h₀ : Heap} {L : Addr} {m mg mb : PySem.Str → Option Value} {mean : ExcName → Option Value} {s : Shared} {Q E : Value → Shared → Prop} {rest : List (Addr × Obj)}
  {x dx fb : Addr} {k1 k2 tb : Tok} {bl : List UInt8} {p : Int} {tk : Tok} {k : Nat} {c : UInt8} {b : Array UInt8}
set_option maxRecDepth 100000 in
set_option maxHeartbeats 8000000 in
theorem escape_P (C : Cx 380 350 w A env outer A₀ base h₀ L m mg mb mean s) (hg : A.guards = some [])
  (N : News h₀ L s.heap ((fb, baObj b) :: (x, instObj 393 dx) :: (dx, srcD w k1 k2 bl tb p tk) :: rest)) (hne : @Ne Nat x dx ∧ @Ne Nat fb x ∧ @Ne Nat fb dx) (hoff : OwnOff rest [fb, x, dx])
  (hp : p = (k : Int)) (hfit : bl.length ≤ 1000) (hz : b.size ≤ 999)
  (rz : bl[k]? = none → ∀ e d k' t' h' tk2, Flown base (env :: outer) h₀ L m e d (toldEs w k' (.bytes synB t')) h' → E (.ref e) { s with heap := h', toks := tk2 })
  (ret : ∀ ev k', escK bl k = some (ev, k') → ∀ h' p' tk' tk2, Fr h₀ L h' m → News h₀ L h' ((fb, baObj (b ++ ev.toArray)) :: (x, instObj 393 dx) :: (dx, srcD w k1 k2 bl tb p' tk') :: rest) → p' = (k' : Int) → Q .none { s with heap := h', toks := tk2 }) :
  wpP (model PR w) A (call (.ref 453) [.ref x, .ref fb]) Q E s := by
  obtain ⟨hh, hf, hdp, hu, hL, hk, B, F, X, T⟩ := C
  obtain ⟨hne, hne1, hne2⟩ := hne
  refine deepenP 380 350 hh hf hg hdp hu ?_
  refine P_call ?_
  k_dflt ktr_enter
  k_steps
  · exact rz (by assumption) _ _ _ _ _ _ (by assumption)
  · exact ret _ _ (esc_oct (by assumption) (by assumption)) _ _ _ _ (by k_asm) (news_as (by k_asm) (push_is (by assumption) rfl)) (by assumption)
  · exact ret _ _ (esc_cr (by assumption) (by assumption)) _ _ _ _ (by k_asm) (news_as (by k_asm) (by simp)) (by assumption)
  iterate 5 exact mean_is (by assumption) _ rfl (by decide) rfl
  · exact mean_other (by assumption) (by assumption) (by assumption) (by assumption) (by assumption)
  · exact ret _ _ (esc_mean (by assumption) (by assumption) (by assumption) (by assumption)) _ _ _ _ (by k_asm) (news_as (by k_asm) (push_is rfl (by assumption))) (by assumption)
  · exact ret _ _ (esc_lf (by assumption) (by assumption)) _ _ _ _ (by k_asm) (news_as (by k_asm) (by simp)) (by assumption)
end
namespace F
theorem ba_no_bytes : typeLookup (.type "bytearray") "__bytes__" = pure none := by rw [typeLookup_type, builtinLookup_eq_fast]; kernel_rfl
theorem ba_no_index : typeLookup (.type "bytearray") "__index__" = pure none := by rw [typeLookup_type, builtinLookup_eq_fast]; kernel_rfl
theorem ba_buffer : typeLookup (.type "bytearray") "__buffer__" = pure (some (.builtin "bytearray.__buffer__")) := by rw [typeLookup_type, builtinLookup_eq_fast]; kernel_rfl
theorem ba_bends : ("bytearray.__buffer__".endsWith ("." ++ "__buffer__")) = true := by decide +kernel
theorem ba_bdrop : ("bytearray.__buffer__".dropRight ("__buffer__".length + 1)) = "bytearray" := by decide +kernel
theorem ba_entry_len : entryFor table "bytearray.__len__" = some Builtin.«bytearray.__len__» := by first | exact entryFor_of_fast (by kernel_rfl) | exact entryFor_of_tree (by kernel_rfl)
theorem ba_entry_getitem : entryFor table "bytearray.__getitem__" = some Builtin.«bytearray.__getitem__» := by first | exact entryFor_of_fast (by kernel_rfl) | exact entryFor_of_tree (by kernel_rfl)
theorem ba_owner_sig : Manifest.owners.lookup (String.ofList ['y', 'a', 'r', 'r', 'a', 'e', 't', 'y', 'b'].reverse) = some Manifest.sig_bytearray := by kernel_rfl
theorem ba_args_len (a : Value) : argsOk "bytearray.__len__" ⟨[a], []⟩ := by
  unfold argsOk; rw [signature?_of (id := "bytearray.__len__") (n := ['_', '_', 'n', 'e', 'l', '_', '_']) (o := ['y', 'a', 'r', 'r', 'a', 'e', 't', 'y', 'b']) (by kernel_rfl) ba_owner_sig]; kernel_rfl
theorem ba_args_getitem (a b : Value) : argsOk "bytearray.__getitem__" ⟨[a, b], []⟩ := by
  unfold argsOk; rw [signature?_of (id := "bytearray.__getitem__") (n := ['_', '_', 'm', 'e', 't', 'i', 't', 'e', 'g', '_', '_']) (o := ['y', 'a', 'r', 'r', 'a', 'e', 't', 'y', 'b']) (by kernel_rfl) ba_owner_sig]; kernel_rfl
end F
section
variable {prog : Program} {w : World} {A : Around} {E : Value → Shared → Prop} {s : Shared}
theorem ba_payload {x : Addr} {b : Array UInt8} {Q : Array UInt8 → Shared → Prop} (ho : s.heap.get? x = some (baObj b)) (h : Q b s) : wpAny (model prog w) A (Builtin.Bytes.payload (.ref x)) Q E s := by
  unfold Builtin.Bytes.payload Builtin.Bytes.payload?
  exact wpAny_bind (wpAny_bind (wpAny_load ho (wpAny_pure (wpAny_pure h))))
theorem ba_buf {x : Addr} {b : Array UInt8} {id : String} {Q : Option (Array UInt8) → Shared → Prop} (ho : s.heap.get? x = some (baObj b)) (h : Q (some b) s) : wpAny (model prog w) A (Builtin.Bytes.buffer? id (.ref x) true) Q E s := by
  have hT : s.TypeIs (.ref x) "bytearray" := ⟨_, ho, rfl⟩
  unfold Builtin.Bytes.buffer?
  refine wpAny_bind (wpAny_specialOf hT F.ba_buffer ?_)
  dsimp only
  refine wpAny_bind (m := Builtin.Bytes.slotIsOwn (.ref x) "__buffer__") ?_
  unfold Builtin.Bytes.slotIsOwn
  refine wpAny_bind (wpAny_specialOf hT F.ba_buffer ?_)
  dsimp only
  rw [F.ba_bends, F.ba_bdrop]
  simp only [Bool.not_true, Bool.false_eq_true, if_false]
  refine wpAny_isInstance hT F.ba_sub ?_
  simp only [Bool.not_true, Bool.false_eq_true, if_false]
  refine wpAny_bind (wpAny_specialOf hT F.ba_buffer ?_)
  refine wpAny_bind (ba_ownRelease ho ?_)
  simp only [Bool.false_eq_true, if_false]
  exact wpAny_bind (ba_payload ho (wpAny_pure h))
theorem by_of_ba_new {x : Addr} {b : Array UInt8} {Q : Value → Shared → Prop} (ho : s.heap.get? x = some (baObj b)) (hz : b.size ≤ 1001) (hQ : ∀ t k, Q (.bytes b t) { s with toks := k }) :
    codeAny (model prog w) A (.call (.builtin "bytes.__new__") ⟨[.type "bytes", .ref x], []⟩) (wants Q E) s := by
  refine codeAny_of_tree ?_
  show wpAny _ A.in1 (do checkBuiltinCall "bytes.__new__" ⟨[.type "bytes", .ref x], []⟩; again (.builtin "bytes.__new__" ⟨[.type "bytes", .ref x], []⟩)) _ _ s
  refine wpAny_bind (wpAny_of_eq (PySem.F.bm_newCall _) (wpAny_pure ⟨plainId_quiet PySem.F.bm_plain _, codeAny_builtin PySem.F.bm_entry ?_⟩))
  rw [Around.under_plainId PySem.F.bm_plain _]
  have hT : s.TypeIs (.ref x) "bytearray" := ⟨_, ho, rfl⟩
  unfold Builtin.«bytes.__new__»
  refine wpAny_bind (wpAny_of_eq (a := true) rfl ?_)
  refine bm_if_false rfl ?_
  refine wpAny_bind (wpAny_of_eq PySem.F.bm_sub ?_)
  refine bm_if_false rfl ?_
  refine wpAny_bind (wpAny_of_eq (PySem.F.bm_bind _) ?_)
  refine wpAny_bind (wpAny_of_eq (a := ()) rfl ?_)
  refine wpAny_bind (wpAny_of_eq (a := ()) rfl ?_)
  refine bm_if_false rfl ?_
  refine wpAny_bind (wpAny_specialOf hT F.ba_no_bytes ?_)
  refine wpAny_bind (wpAny_bind ?_)
  show wpAny _ _ (load x >>= _) _ _ _
  refine wpAny_bind (wpAny_load ho ?_)
  refine wpAny_pure (wpAny_pure ?_)
  refine bm_if_false rfl ?_
  refine wpAny_bind (wpAny_specialOf hT F.ba_no_index ?_)
  refine bm_if_true rfl ?_
  first
    | show wpAny _ _ (Builtin.Bytes.buffer? "bytes.__new__" (.ref x) true >>= _) _ _ _
    | (refine wpAny_bind ?_; show wpAny _ _ (Builtin.Bytes.buffer? "bytes.__new__" (.ref x) true >>= _) _ _ _)
  refine wpAny_bind (ba_buf ho ?_)
  refine wpAny_bind (wpAny_rule ?_)
  refine wpAny_bind (wpAny_mkBytes ?_ (by rw [sizeLine_eq]; omega))
  show wpAny _ _ (if (Value.type "bytes" == Value.type "bytes") = true then _ else _) _ _ _
  refine bm_if_true (by decide) ?_
  first
    | exact wpAny_pure (hQ _ _)
    | exact wpAny_bind (wpAny_pure (wpAny_pure (hQ _ _)))
theorem by_of_ba {x : Addr} {b : Array UInt8} {Q : Value → Shared → Prop} (ho : s.heap.get? x = some (baObj b)) (hz : b.size ≤ 1001) (hQ : ∀ t k, Q (.bytes b t) { s with toks := k }) :
    wpAny (model prog w) A (call (.type "bytes") [.ref x]) Q E s := by
  refine callType_codes (Q₁ := fun obj s₁ => s₁.TypeIs obj "bytes" ∧ Q obj s₁) PySem.F.bm_called (PySem.F.bm_typeCall _) PySem.F.entry_object_init
    (by_of_ba_new ho hz fun t k => ⟨PySem.W.typeIs_bytes _ _ _, hQ t k⟩) fun obj s₁ h₁ => ?_
  exact ⟨h₁.1, PySem.F.args_object_init_2 obj _, object_init_meets PySem.F.bm_called.init.lookup PySem.F.bm_called.made (by decide) prog w A.in1 _ s₁ ⟨h₁.1, rfl, h₁.2⟩⟩
theorem ba_len_call {x : Addr} {b : Array UInt8} {Q : Value → Shared → Prop} (ho : s.heap.get? x = some (baObj b)) (hz : b.size ≤ 1001) (h : Q (.int b.size (s.toks + 1)) { s with toks := s.toks + 1 + 1 }) :
    wpAny (model prog w) A (call (.builtin "len") [.ref x]) Q E s := by
  have hT : s.TypeIs (.ref x) "bytearray" := ⟨_, ho, rfl⟩
  refine call_len_slot (n := (b.size : Int)) hT F.ba_len (fun Q' hq => ?_) (by omega) (by omega) h
  refine wpAny_call (codeAny_call_builtin F.ba_len.plain F.ba_entry_len (F.ba_len.check _ _ _ _ _ _ _ _ hT (F.ba_args_len _) ?_))
  show wpAny _ _ (Builtin.Bytes.payload (.ref x) >>= fun r => _) _ _ s
  refine wpAny_bind (ba_payload ho ?_)
  exact wpAny_bind (wpAny_mkInt (wpAny_pure hq))
end
section
variable {prog : Program} {w : World} {A : Around} {E : Value → Shared → Prop} {s : Shared} {h₀ : Heap} {L : Addr} {m : PySem.Str → Option Value} {news : List (Addr × Obj)} {b : Array UInt8} {D : Addr}
theorem ba_meets_slice (a : Addr) {n : Nat} {u0 u1 : Tok} {x : Addr} (hn : n = b.size) (hz : b.size ≤ 1001) {R : Result → Shared → Prop} (ho : s.heap.get? x = some (baObj b)) (hS : s.heap.IsSliceOf a (.int 0 u0) (.int (n : Int) u1) .none)
    (h : R (.ok (.ret (.ref s.heap.objs.size))) { s with heap := s.heap.push (baObj b) }) :
    wpAny (model prog w) A.in1 (Builtin.«bytearray.__getitem__» ⟨[.ref x, .ref a], []⟩) (fun fin s' => match fin with | .done f => R (.ok f) s' | .again c' => c'.quiet = true ∧ codeAny (model prog w) A c' R s') (fun e s' => R (.error e) s') s := by
  obtain ⟨o, hoa, hc, hd⟩ := hS
  have hT : s.TypeIs (.ref a) "slice" := ⟨o, hoa, hc⟩
  show wpAny _ _ (Builtin.Bytes.subscript? (.ref a) >>= fun r => _) _ _ s
  refine wpAny_bind ?_
  unfold Builtin.Bytes.subscript?
  refine wpAny_bind (wpAny_specialOf hT slice_no_index (wpAny_pure ?_))
  refine wpAny_bind (wpAny_typeOf hT ?_)
  show wpAny _ _ (Builtin.Bytes.sliceParts (.ref a) >>= fun r => _) _ _ s
  refine wpAny_bind ?_
  unfold Builtin.Bytes.sliceParts
  refine wpAny_bind (wpAny_field (x := .none) hoa hd rfl ?_)
  kby_none
  refine wpAny_ite (KBy.ite_no (show ¬ ((Value.none == rawInt 0) = true) from Bool.false_ne_true) ?_)
  refine wpAny_bind (wpAny_field (x := .int _ _) hoa hd rfl ?_)
  kby_int
  refine wpAny_bind (wpAny_field (x := .int _ _) hoa hd rfl ?_)
  kby_int
  refine wpAny_pure ?_
  refine wpAny_bind (ba_payload ho ?_)
  have go : wpAny (model prog w) A.in1 (sliceIndices (rawPart (some 0)) (rawPart (some (n : Int))) (rawPart none) b.size) (fun r s' => r = sliceBounds (some 0) (some (n : Int)) none b.size ∧ s' = s) (fun _ _ => False) s :=
    wpAny_of_eq (sliceIndices_raw (some 0) (some (n : Int)) none b.size (fun e => nomatch e)) ⟨rfl, rfl⟩
  refine wpAny_bind (wpAny_mono go (fun r s' hr => ?_) fun _ _ e => e.elim)
  obtain ⟨rfl, rfl⟩ := hr
  unfold Builtin.Bytes.newBytearray
  have es : Builtin.Bytes.sliced b (sliceBounds (some 0) (some (n : Int)) none b.size).1 (sliceBounds (some 0) (some (n : Int)) none b.size).2.1 (sliceBounds (some 0) (some (n : Int)) none b.size).2.2 = b := by
    have e := KBc.picked_eq b (some 0) (some (n : Int))
    unfold KBy.picked at e
    rw [e]
    have c0 : clipAt b.size 0 = 0 := by unfold clipAt; omega
    have c1 : clipAt b.size (n : Int) = b.size := by unfold clipAt; split <;> omega
    simp only [Option.elim, c0, c1, List.drop_zero, Nat.sub_zero]
    rw [List.take_of_length_le (by simp), Array.toArray_toList]
  dsimp only
  rw [es]
  refine wpAny_bind (wpAny_newObj_type (wpAny_pure ?_) ?_)
  · exact h
  · show b.size ≤ sizeLine
    rw [sizeLine_eq]; omega
end
/-- the exception has left the tree of the frame at hand (a loop's own activation): its flight is that frame -/
structure FlownL (base : Heap) (l : List Env) (h₀ : Heap) (L : Addr) (m : PySem.Str → Option Value) (e d : Addr) (es : List DictEntry) (h : Heap) : Prop where
  stays : base.StaysIn h
  fresh : base.get? e = none
  frames : h.FunFrames base l
  exc : Ex base h e d (rawInt L)
  told : Told h d es
  up : h₀.UpToSlots h
  ns : h.Ns L m
section
variable {M : Model} {A : Around} {E : Value → Shared → Prop} {s : Shared} {env : Env} {outer : List Env} {base h₀ : Heap} {L e d : Addr} {m : PySem.Str → Option Value} {es : List DictEntry}
theorem set_flight {fl : Value} {f : Addr} {l : List Env} {Q : Unit → Shared → Prop} (hkb : base.StaysIn s.heap) (hl : s.heap.FunFrames base l) (hx : Ex base s.heap e d fl)
    (h : ∀ h', base.StaysIn h' → h'.FunFrames base l → Ex base h' e d (rawInt f) → s.heap.UpToSlots h' → Q () { s with heap := h' }) : wpAny M A (setFlight (.ref e) (some f)) Q E s := by
  obtain ⟨oe, vs, T, oT, ts, he, hcd, hd, h1, hnT, hTe, hT, hdT, h3⟩ := hx
  have h3s : 3 < ts.size := (Array.getElem?_eq_some_iff.mp h3).1
  have other : ∀ b, b ≠ T → (s.heap.update T (Obj.mapFields (·.setIfInBounds 3 ((some f : Option Addr).elim Value.none fun f => rawInt f)))).get? b = s.heap.get? b := fun b hb => Heap.get?_update_other _ _ (Ne.symm hb)
  have noT : ∀ b o, s.heap.get? b = some o → (∀ vs, o.data ≠ .fields vs) → b ≠ T := fun b o q nf z => by
    rw [z, hT] at q
    exact nf ts (Option.some.inj q ▸ hdT)
  unfold setFlight
  refine wpAny_bind (wpAny_field he hd h1 ?_)
  rw [if_pos (show (Value.ref T != Value.none) = true from by simp)]
  refine wpAny_setField hT hdT h3s (h _ (fun b o q => (other b fun z => by rw [z, hnT] at q; cases q).trans (hkb b o q))
    (hl.of_keeps fun b o q nf => ⟨o, (other b (noT b o q nf)).trans q, rfl⟩) ?_ fun b o q nf => ⟨o.slots, (other b (noT b o q nf)).trans q⟩)
  exact ⟨oe, vs, T, _, _, (other e (Ne.symm hTe)).trans he, hcd, hd, h1, hnT, hTe, Heap.get?_update_self _ hT (Obj.isFreed_of_fields (Obj.data_mapFields hdT _)), Obj.data_mapFields hdT _, by simp [h3s]⟩
theorem loop_flown (hA : A.frames = some (env :: outer)) (hL : env.frame = some L) (R : Flown base (env :: outer) h₀ L m e d es s.heap) (h : ∀ h', FlownL base (env :: outer) h₀ L m e d es h' → E (.ref e) { s with heap := h' }) :
    notedBy M A env (fun e' s' => cameBackBy M A env E e' s') (.ref e) s := by
  unfold notedBy
  refine note_ps hA R.frames hL R.stays R.fresh (.inr R.exc) fun h₂ s2 f2 x2 u2 => ?_
  show cameBackBy M A env E (.ref e) _
  unfold cameBackBy
  obtain ⟨oe, vs, T, oT, ts, he, hcd, hd, h1, _⟩ := id x2
  refine wpAny_bind (wpAny_field he hd h1 ?_)
  rw [if_neg (show ¬ ((Value.ref T == Value.none) = true) from by simp)]
  rw [hL]
  refine set_flight (s := { s with heap := h₂ }) s2 f2 x2 fun h₃ s3 f3 x3 u3 => ?_
  exact h h₃ ⟨s3, R.fresh, f3, x3, (R.told.up u2).up u3, (R.up.trans u2).trans u3, (u2.trans u3).ns R.ns⟩
theorem leave_loop {g : Heap} {A₁ : Around} {L' a : Addr} {m' : PySem.Str → Option Value} {name : PySem.Str} {scope : Scope} {cd : Value} {Q : Unit → Shared → Prop}
    (R : FlownL base (envOf name scope L' a cd :: env :: outer) g L' m' e d es s.heap) (FG : Fr h₀ L g m)
    (hQ : ∀ h', Flown base (env :: outer) h₀ L m e d es h' → Q () { s with heap := h' }) :
    wpAny M (A₁.deeper (envOf name scope L' a cd)) (leaving (envOf name scope L' a cd) (.ref e)) Q E s := by
  unfold leaving
  refine wpAny_bind (note_again rfl R.exc ?_)
  refine unflight_ps R.stays R.frames R.exc fun h₃ s3 f3 x3 u3 => ?_
  have ug : g.UpToSlots h₃ := R.up.trans u3
  exact hQ h₃ ⟨s3, R.fresh, f3.2.2, x3, R.told.up u3, (Heap.UpToSlots.of_keeps FG.keep).trans ug, ug.ns FG.ns⟩
end
/-- one turn more -/
structure Again (I : Nat → Shared → Prop) (n : Nat) (s : Shared) : Prop where
  out : ∃ m, m < n ∧ I m s
section
variable {prog : Program} {w : World} {A : Around} {E : Value → Shared → Prop} {s : Shared}
theorem P_while {test : PySem.Expr} {body : List Stmt} {pos : Pos} {env : Env} {Q : Flow → Shared → Prop} (I : Nat → Shared → Prop)
    (turn : ∀ n s, I n s → wpAny (model prog w) A (isTrue test env (eval test env)) (fun b s₂ =>
        if b = true then wpP (model prog w) A (execs body env) (fun f s₃ => match f with
            | .next => Again I n s₃ | .cont => Again I n s₃
            | .brk => Q .next s₃
            | .ret v => Q (.ret v) s₃) (notedBy (model prog w) A env fun e s' => cameBackBy (model prog w) A env E e s') s₂
        else Q .next s₂)
        (notedBy (model prog w) A env fun e s' => cameBackBy (model prog w) A env E e s') s)
    (n : Nat) (h : I n s) : wpP (model prog w) A (exec (.While test body [] pos) env) Q E s := by
  refine P_While (P_loop I (fun n s hI => ?_) n h)
  refine wpAny_mono (turn n s hI) (fun b s₂ h₂ => ?_) fun _ _ x => x
  cases b with
  | false => exact P_nil h₂
  | true =>
    refine P_mono h₂ (fun f s₃ h₃ => ?_) fun _ _ x => x
    cases f with
    | next => exact h₃.out
    | cont => exact h₃.out
    | brk => exact h₃
    | ret v => exact h₃
end
local macro_rules | `(tactic| walk_at "leaving ref") => `(tactic| (k_here; k_dflt (refine leave_loop (by assumption) (by k_asm) ?_; intro h' R'; (try dsimp only))))
/-- the frame's names written out: those of ps, and the rest as they lie -/
noncomputable def mL (ps : List (PySem.Str × Value)) (u : PySem.Str → Option Value) : PySem.Str → Option Value := match ps with
  | [] => u
  | p :: r => fun y => if y = p.1 then some p.2 else mL r u y
theorem mL_self : ∀ {ps : List (PySem.Str × Value)} {u : PySem.Str → Option Value}, (∀ p ∈ ps, u p.1 = some p.2) → mL ps u = u
  | [], _, _ => rfl
  | p :: r, u, h => by
    funext y
    show (if y = p.1 then some p.2 else mL r u y) = u y
    by_cases e : y = p.1
    · rw [if_pos e, e]; exact (h p (.head _)).symm
    · rw [if_neg e, mL_self fun q hq => h q (.tail _ hq)]
theorem fr_mL {h₀ h : Heap} {L : Addr} {u : PySem.Str → Option Value} {ps : List (PySem.Str × Value)} (F : Fr h₀ L h u) (hp : ∀ p ∈ ps, u p.1 = some p.2) : Fr h₀ L h (mL ps u) := by rw [mL_self hp]; exact F
local macro_rules | `(tactic| walk_at "notedBy") => `(tactic| (k_here; k_dflt (refine loop_flown rfl rfl (by assumption) ?_; intro h' R'; (try dsimp only))))
section
variable {bl f e : List UInt8} {n k k' d : Nat} {c : UInt8} {R : Option (List UInt8 × Nat)}
theorem rd_end (h : bl[k]? = none) : rdK bl n k f d = none := by cases n <;> simp [rdK, h]
theorem rd_esc0 (h : bl[k]? = some c) (hc : (c.toNat : Int) = 92) (he : bl[k + 1]? = none) : rdK bl n k f d = none := by
  have h1 : c.toNat = 92 := nat_of (by assumption)
  cases n with
  | zero => rfl
  | succ n => simp [rdK, h, h1, escK, he]
theorem rd_esc (h : bl[k]? = some c) (hc : (c.toNat : Int) = 92) (he : escK bl (k + 1) = some (e, k')) : rdK bl (n + 1) k f d = rdK bl n k' (f ++ e) d := by
  have h1 : c.toNat = 92 := nat_of (by assumption)
  simp [rdK, h, h1, he]
theorem rd_cr (h : bl[k]? = some c) (hc : (c.toNat : Int) = 13) : rdK bl (n + 1) k f d = rdK bl n (skipK bl (k + 1)) (f ++ [10]) d := by
  have h1 : c.toNat = 13 := nat_of (by assumption)
  simp [rdK, h, h1]
theorem rd_open (h : bl[k]? = some c) (hc : (c.toNat : Int) = 40) : rdK bl (n + 1) k f d = rdK bl n (k + 1) (f ++ [c]) (d + 1) := by
  have h1 : c.toNat = 40 := nat_of (by assumption)
  simp [rdK, h, h1]
theorem rd_close1 (h : bl[k]? = some c) (hc : (c.toNat : Int) = 41) : rdK bl (n + 1) k f 1 = some (f, k + 1) := by
  have h1 : c.toNat = 41 := nat_of (by assumption)
  simp [rdK, h, h1]
theorem rd_close (h : bl[k]? = some c) (hc : (c.toNat : Int) = 41) (hd : d ≠ 1) : rdK bl (n + 1) k f d = rdK bl n (k + 1) (f ++ [c]) (d - 1) := by
  have h1 : c.toNat = 41 := nat_of (by assumption)
  simp [rdK, h, h1, hd]
theorem rd_else (h : bl[k]? = some c) (h1 : (c.toNat : Int) ≠ 92) (h2 : (c.toNat : Int) ≠ 13) (h3 : (c.toNat : Int) ≠ 40) (h4 : (c.toNat : Int) ≠ 41) : rdK bl (n + 1) k f d = rdK bl n (k + 1) (f ++ [c]) d := by
  have h1 : ¬ c.toNat = 92 := nat_ne (by assumption)
  have h2 : ¬ c.toNat = 13 := nat_ne (by assumption)
  have h3 : ¬ c.toNat = 40 := nat_ne (by assumption)
  have h4 : ¬ c.toNat = 41 := nat_ne (by assumption)
  simp [rdK, h, h1, h2, h3, h4]
theorem esc_one (h : escK bl k = some (e, k')) : e.length ≤ 1 := by
  unfold escK at h
  split at h
  · cases h
  · split at h
    · cases h; simp
    · split at h
      · cases h; simp
      · split at h <;> (cases h; simp)
end
theorem in_bytes {bl : List UInt8} {k : Nat} {c : UInt8} (h : bl[k]? = some c) : k < bl.length := (List.getElem?_eq_some_iff.mp h).1
inductive StrI (w : World) (s₀ : Shared) (g : Heap) (L x dx fb : Addr) (k1 k2 tb : Tok) (bl : List UInt8) (rest : List (Addr × Obj)) (R : Option (List UInt8 × Nat)) (n : Nat) (s : Shared) : Prop
  | mk (h : Heap) (tk : Nat) (u : PySem.Str → Option Value) (f : List UInt8) (k d : Nat) (td : Tok) (p dep : Int) (tkp : Tok) (e0 : s = { s₀ with heap := h, toks := tk }) (e1 : Fr g L h (mL [(Str.ofString "source", .ref x), (Str.ofString "found", .ref fb), (Str.ofString "depth", .int dep td)] u)) (e2 : News g L h ((fb, baObj f.toArray) :: (x, instObj 393 dx) :: (dx, srcD w k1 k2 bl tb p tkp) :: rest)) (e3 : p = (k : Int)) (e4 : dep = (d : Int)) (e5 : bl.length < n + k) (e6 : f.length + n ≤ bl.length + 1) (e7 : ((0 < d ∧ rdK bl n k f d = R) ∨ (d = 0 ∧ R = some (f, k)))) : StrI w s₀ g L x dx fb k1 k2 tb bl rest R n s
theorem strI {w : World} {s₀ : Shared} {g : Heap} {L x dx fb : Addr} {k1 k2 tb : Tok} {bl : List UInt8} {rest : List (Addr × Obj)} {R : Option (List UInt8 × Nat)} {n : Nat} {h : Heap} {tk : Nat} {u : PySem.Str → Option Value} {b : Array UInt8} {p dep : Int} {td tkp : Tok} (f : List UInt8) (k d : Nat)
    (F : Fr g L h u) (h1 : u (Str.ofString "source") = some (.ref x)) (h2 : u (Str.ofString "found") = some (.ref fb)) (h3 : u (Str.ofString "depth") = some (.int dep td))
    (N : News g L h ((fb, baObj b) :: (x, instObj 393 dx) :: (dx, srcD w k1 k2 bl tb p tkp) :: rest)) (hb : b = f.toArray) (hp : p = (k : Int)) (hd : dep = (d : Int)) (hk : bl.length < n + k) (hf : f.length + n ≤ bl.length + 1)
    (hr : (0 < d ∧ rdK bl n k f d = R) ∨ (d = 0 ∧ R = some (f, k))) : StrI w s₀ g L x dx fb k1 k2 tb bl rest R n { s₀ with heap := h, toks := tk } := by
  subst hb
  refine ⟨h, tk, u, f, k, d, td, p, dep, tkp, rfl, fr_mL F ?_, N, hp, hd, hk, hf, hr⟩
  simp only [List.forall_mem_cons, List.not_mem_nil, false_implies, implies_true, and_true]
  exact ⟨h1, h2, h3⟩
theorem off3 {g h : Heap} {L fb x dx : Addr} {o ox od : Obj} {rest : List (Addr × Obj)} (_N : News g L h ((fb, o) :: (x, ox) :: (dx, od) :: rest)) (h : OwnOff rest [x, dx]) (l : @LT.lt Nat _ x fb ∧ @LT.lt Nat _ dx fb ∧ AllLt fb rest) :
    OwnOff rest [fb, x, dx] ∧ @Ne Nat fb x ∧ @Ne Nat fb dx := by
  refine ⟨fun p hp q hq => ?_, Ne.symm (Nat.ne_of_lt l.1), Ne.symm (Nat.ne_of_lt l.2.1)⟩
  rcases List.mem_cons.mp hq with rfl | hq
  · exact allLt_ne l.2.2 p hp
  · exact h p hp q hq
theorem str_turn {w : World} {s₀ : Shared} {g : Heap} {L x dx fb : Addr} {k1 k2 tb : Tok} {bl : List UInt8} {rest : List (Addr × Obj)} {R : Option (List UInt8 × Nat)} {n : Nat} {h : Heap} {tk : Nat} {u : PySem.Str → Option Value} {b : Array UInt8} {p dep : Int} {td tkp : Tok} {f1 : List UInt8} {kk d1 : Nat} {c : UInt8} (f : List UInt8) (k d : Nat)
    (F : Fr g L h u) (h1 : u (Str.ofString "source") = some (.ref x)) (h2 : u (Str.ofString "found") = some (.ref fb)) (h3 : u (Str.ofString "depth") = some (.int dep td))
    (N : News g L h ((fb, baObj b) :: (x, instObj 393 dx) :: (dx, srcD w k1 k2 bl tb p tkp) :: rest)) (hb : b = f.toArray) (hp : p = (k : Int)) (hd : dep = (d : Int))
    (hc : bl[kk]? = some c) (hn : bl.length < n + kk) (hf1 : f1.length + n ≤ bl.length + 1) (hd1 : 0 < d1) (hr : (0 < d1 ∧ rdK bl n kk f1 d1 = R) ∨ (d1 = 0 ∧ R = some (f1, kk)))
    (hk : kk + 1 ≤ k) (hf : f.length ≤ f1.length + 1) (hs : ∀ n', (0 < d ∧ rdK bl (n' + 1) kk f1 d1 = rdK bl n' k f d) ∨ (d = 0 ∧ rdK bl (n' + 1) kk f1 d1 = some (f, k))) :
    Again (StrI w s₀ g L x dx fb k1 k2 tb bl rest R) n { s₀ with heap := h, toks := tk } := by
  have hlt := in_bytes hc
  obtain ⟨n', rfl⟩ : ∃ n', n = n' + 1 := ⟨n - 1, by omega⟩
  have hr' : rdK bl (n' + 1) kk f1 d1 = R := by
    rcases hr with hr | hr
    · exact hr.2
    · omega
  refine ⟨⟨n', by omega, strI f k d F h1 h2 h3 N hb hp hd (by omega) (by omega) ?_⟩⟩
  rcases hs n' with z | z
  · exact .inl ⟨z.1, z.2.symm.trans hr'⟩
  · exact .inr ⟨z.1, hr'.symm.trans z.2⟩
theorem ba_push {f : List UInt8} {c : UInt8} : f.toArray.push (Nat.toUInt8 (Int.toNat (c.toNat : Int))) = (f ++ [c]).toArray := by simp [Nat.toUInt8]
theorem ba_pushLF {f : List UInt8} : f.toArray.push (Nat.toUInt8 (Int.toNat 10)) = (f ++ [10]).toArray := by simp
theorem ba_cat {f e : List UInt8} : f.toArray ++ e.toArray = (f ++ e).toArray := by simp
theorem bytes_ba_K {prog : Program} {w : World} {A : Around} {E : Value → Shared → Prop} {s : Shared} {g : Heap} {L fb : Addr} {b : Array UInt8} {news : List (Addr × Obj)} {Q : Value → Shared → Prop} (N : News g L s.heap news) (hm : (fb, baObj b) ∈ news) (hz : b.size ≤ 1001)
    (h : ∀ t k, Q (.bytes b t) { s with toks := k }) : wpAny (model prog w) A (call (.type "bytes") [.ref fb]) Q E s := by_of_ba (N _ hm).1 hz h
theorem len_ba_K {prog : Program} {w : World} {A : Around} {E : Value → Shared → Prop} {s : Shared} {g : Heap} {L fb : Addr} {r : List UInt8} {news : List (Addr × Obj)} {Q : Value → Shared → Prop} (N : News g L s.heap news) (hm : (fb, baObj r.toArray) ∈ news) (hz : r.toArray.size ≤ 1001)
    (h : Q (.int (r.length : Nat) (s.toks + 1)) { s with toks := s.toks + 1 + 1 }) : wpAny (model prog w) A (call (.builtin "len") [.ref fb]) Q E s := by
  refine ba_len_call (N _ hm).1 hz ?_
  rw [List.size_toArray]; exact h
local macro_rules | `(tactic| walk_at "call builtin:len") => `(tactic| (k_here; (with_reducible show wpAny _ _ (call (Value.builtin "len") [Value.ref _]) _ _ _); k_dflt (refine len_ba_K (by k_asm) (by k_mem) (by first | assumption | omega) ?_)))
local macro_rules | `(tactic| walk_at "call type:bytes") => `(tactic| (k_here; (with_reducible show wpAny _ _ (call (Value.type "bytes") [Value.ref _]) _ _ _); k_dflt (refine bytes_ba_K (by k_asm) (by k_mem) (by first | assumption | omega) ?_); intro t' k'))
theorem rdK_len {bl : List UInt8} : ∀ {n k d : Nat} {f r : List UInt8} {e : Nat}, rdK bl n k f d = some (r, e) → r.length ≤ f.length + n := by
  intro n
  induction n with
  | zero => intro k d f r e h; cases h
  | succ n ih =>
    intro k d f r e h
    unfold rdK at h
    split at h
    · cases h
    · rename_i c hc
      split at h
      · split at h
        · cases h
        · rename_i ev k' he
          have h1 := esc_one he
          have h2 := ih h
          rw [List.length_append] at h2
          omega
      · split at h
        · have h2 := ih h
          rw [List.length_append] at h2
          simp at h2; omega
        · split at h
          · have h2 := ih h
            rw [List.length_append] at h2
            simp at h2; omega
          · split at h
            · split at h
              · simp only [Option.some.injEq, Prod.mk.injEq] at h; rw [← h.1]; omega
              · have h2 := ih h
                rw [List.length_append] at h2
                simp at h2; omega
            · have h2 := ih h
              rw [List.length_append] at h2
              simp at h2; omega
section
variable {w : World} {A : Around} {env : Env} {outer : List Env} {A₀ : Around} {base h₀ : Heap} {L : Addr} {m mg mb : PySem.Str → Option Value} {mean : ExcName → Option Value} {s : Shared} {Q E : Value → Shared → Prop} {news : List (Addr × Obj)} {g : Obj → List (Addr × Obj)}
  {x dx : Addr} {k1 k2 tb : Tok} {bl : List UInt8} {p : Int} {tk : Tok} {k : Nat}
set_option maxRecDepth 100000 in
set_option maxHeartbeats 8000000 in
theorem string_P (C : Cx 370 300 w A env outer A₀ base h₀ L m mg mb mean s) (hg : A.guards = some []) (N : News h₀ L s.heap news) (hx : (x, instObj 393 dx) ∈ news) (U : UpdF dx (srcD w k1 k2 bl tb p tk) news g)
  (hp : p = (k : Int)) (hfit : bl.length ≤ 900)
  (rz : rdK bl (bl.length + 1) k [] 1 = none → ∀ e d k' t' h' tk2, Flown base (env :: outer) h₀ L m e d (toldEs w k' (.bytes synB t')) h' → E (.ref e) { s with heap := h', toks := tk2 })
  (ret : ∀ r e, rdK bl (bl.length + 1) k [] 1 = some (r, e) → ∀ t h' p' tk' tk2, Fr h₀ L h' m → News h₀ L h' (g (srcD w k1 k2 bl tb p' tk')) → p' = (e : Int) → Q (.bytes r.toArray t) { s with heap := h', toks := tk2 }) :
  wpP (model PR w) A (call (.ref 460) [.ref x]) Q E s := by
  obtain ⟨hh, hf, hdp, hu, hL, hk, B, F, X, T⟩ := C
  refine deepenP 370 300 hh hf hg hdp hu ?_
  obtain ⟨rest, Nc, hoff, back⟩ := canon N hx U
  have hne := src_ne Nc
  clear N hx U
  refine P_call ?_
  k_dflt ktr_enter
  refine P_cons (P_Assign_Swapped (P_Tup (P_sp1 (P_Call_Name (P_any ?_)))))
  k_steps
  refine P_cons (P_while (StrI w s ?g ?L x dx ?D k1 k2 tb bl rest (rdK bl (bl.length + 1) k [] 1)) ?turn (bl.length + 1) ?init)
  case init =>
    exact strI [] k 1 (by k_asm) (by exact rfl) (by exact rfl) (by exact rfl) (news_tail (by k_asm)) rfl hp rfl (by omega) (by simp) (.inl ⟨by omega, rfl⟩)
  case turn =>
    intro n s1 I1
    obtain ⟨h1, tk1, u1, f1, kk, d1, td1, p1, dep1, tkp1, rfl, F1, N1, hp1, hd1, hn1, hf1, hr1⟩ := I1
    dsimp only [mL] at F1
    obtain ⟨hoffb, hne1, hne2⟩ := off3 N1 hoff (by assumption)
    have hfit1 : bl.length ≤ 1000 := by omega
    have hz1 : f1.toArray.size ≤ 999 := by rw [List.size_toArray]; omega
    have hz2 : f1.toArray.size ≤ 1001 := by omega
    k_steps
    repeat (any_goals ((first | ((with_reducible show wpP _ _ (call (Value.ref 453) _) _ _ _); k_dflt (refine escape_P (Cx.mk rfl rfl (Nat.le_of_ble_eq_true rfl) (Nat.le_of_ble_eq_true rfl) rfl rfl (by k_asm) (by k_asm) (by k_asm) (by k_asm)) rfl (by k_asm) (by refine ⟨?_, ?_, ?_⟩ <;> k_ne) (by assumption) (by first | assumption | rfl) (by assumption) (by assumption) (fun hc'z e'z d'z k'z t'z h'z tk2'z R'z => ?_) (fun ev'z ke'z he'z h'z p'z tk'z tk2'z F'z N'z hp'z => ?_)); (all_goals (try k_sweep)))); all_goals k_steps))
    · exact rz (by rcases hr1 with z | z; exact z.2 ▸ rd_end (by assumption); omega) _ _ _ _ _ _ (by assumption)
    · exact rz (by rcases hr1 with z | z; exact z.2 ▸ rd_esc0 (by assumption) (by assumption) (by assumption); omega) _ _ _ _ _ _ (by assumption)
    · have e1 := esc_one (by assumption)
      have e2 := escK_ge (by assumption)
      exact str_turn (f1 ++ _) _ d1 (by k_asm) (by exact rfl) (by exact rfl) (by exact rfl) (by k_asm) ba_cat (by assumption) hd1 (by assumption) hn1 hf1 (by omega) hr1 (by omega) (by rw [List.length_append]; omega) (fun n' => .inl ⟨by omega, rd_esc (by assumption) (by assumption) (by assumption)⟩)
    · have e1 := skipK_ge bl (kk + 1)
      exact str_turn (f1 ++ [10]) _ d1 (by k_asm) (by exact rfl) (by exact rfl) (by exact rfl) (by k_asm) ba_pushLF (by assumption) hd1 (by assumption) hn1 hf1 (by omega) hr1 (by omega) (by simp) (fun n' => .inl ⟨by omega, rd_cr (by assumption) (by assumption)⟩)
    · exfalso; omega
    · exact str_turn (f1 ++ [_]) (kk + 1) (d1 + 1) (by k_asm) (by exact rfl) (by exact rfl) (by exact rfl) (by k_asm) ba_push (by assumption) (by omega) (by assumption) hn1 hf1 (by omega) hr1 (by omega) (by simp) (fun n' => .inl ⟨by omega, rd_open (by assumption) (by assumption)⟩)
    · exact str_turn (f1 ++ [_]) (kk + 1) (d1 - 1) (by k_asm) (by exact rfl) (by exact rfl) (by exact rfl) (by k_asm) ba_push (by assumption) (by omega) (by assumption) hn1 hf1 (by omega) hr1 (by omega) (by simp) (fun n' => .inl ⟨by omega, rd_close (by assumption) (by assumption) (by omega)⟩)
    · obtain rfl : d1 = 1 := by omega
      exact str_turn f1 (kk + 1) 0 (by k_asm) (by exact rfl) (by exact rfl) (by exact rfl) (by k_asm) rfl (by assumption) (by omega) (by assumption) hn1 hf1 (by omega) hr1 (by omega) (by omega) (fun n' => .inr ⟨rfl, rd_close1 (by assumption) (by assumption)⟩)
    · exact str_turn (f1 ++ [_]) (kk + 1) d1 (by k_asm) (by exact rfl) (by exact rfl) (by exact rfl) (by k_asm) ba_push (by assumption) (by omega) (by assumption) hn1 hf1 (by omega) hr1 (by omega) (by simp) (fun n' => .inl ⟨by omega, rd_else (by assumption) (by assumption) (by assumption) (by assumption) (by assumption)⟩)
    · exact ret f1 kk (by rcases hr1 with z | z; omega; exact z.2) _ _ _ _ _ (by k_asm) (back _ _ (news_tail (by k_asm))) hp1
end
theorem binds_peek {K : Frag} {s : Shared} {fd : FuncData} {args : Args} {binds : List (PySem.Str × Value)} (X : K.In s.heap) (e : ∀ M : Model, peek K ⟨M.prog, M.w.params⟩ (bindArgs fd args) = some binds) : BindsTo s fd args binds :=
  fun M _ _ _ hq => (Looks.of_peek (M := M) X (e M)).here hq
noncomputable abbrev limBinds (x : Addr) : List (PySem.Str × Value) := [(Str.ofString "self", .ref x), (Str.ofString "operands", .int 500 1041), (Str.ofString "dicts", .int 20 1042), (Str.ofString "frames", .int 250 1043), (Str.ofString "saves", .int 15 1044), (Str.ofString "gstates", .int 31 1045), (Str.ofString "text", .int 65535 1046), (Str.ofString "row", .int 65535 1047), (Str.ofString "entries", .int 65535 1048), (Str.ofString "word", .int 127 1049), (Str.ofString "path", .int 1500 1050), (Str.ofString "dash", .int 11 1051), (Str.ofString "files", .int 15 1052), (Str.ofString "system", .int 600 1053), (Str.ofString "vm", .int 16777216 1027)]
noncomputable abbrev ent (w : World) (n : PySem.Str) (k : Tok) (v : Value) : DictEntry := { hash := PyData.keyHash w.params n, key := .str n k, val := v }
noncomputable abbrev limEs (w : World) (k0 k1 k2 k3 k4 k5 k6 k7 k8 k9 k10 k11 k12 k13 : Tok) : List DictEntry := [ent w (Str.ofString "operands") k0 (.int 500 1041), ent w (Str.ofString "dicts") k1 (.int 20 1042), ent w (Str.ofString "frames") k2 (.int 250 1043), ent w (Str.ofString "saves") k3 (.int 15 1044), ent w (Str.ofString "gstates") k4 (.int 31 1045), ent w (Str.ofString "text") k5 (.int 65535 1046), ent w (Str.ofString "row") k6 (.int 65535 1047), ent w (Str.ofString "entries") k7 (.int 65535 1048), ent w (Str.ofString "word") k8 (.int 127 1049), ent w (Str.ofString "path") k9 (.int 1500 1050), ent w (Str.ofString "dash") k10 (.int 11 1051), ent w (Str.ofString "files") k11 (.int 15 1052), ent w (Str.ofString "system") k12 (.int 600 1053), ent w (Str.ofString "vm") k13 (.int 16777216 1027)]
section
variable {w : World} {A : Around} {env : Env} {outer : List Env} {A₀ : Around} {base h₀ : Heap} {L : Addr} {m mg mb : PySem.Str → Option Value} {mean : ExcName → Option Value} {s : Shared} {Q E : Value → Shared → Prop} {news : List (Addr × Obj)}
set_option maxRecDepth 100000 in
set_option maxHeartbeats 8000000 in
theorem limits_new (C : Cx 370 300 w A env outer A₀ base h₀ L m mg mb mean s) (N : News h₀ L s.heap news)
  (ret : ∀ l d h' tk2 k0 k1 k2 k3 k4 k5 k6 k7 k8 k9 k10 k11 k12 k13, Fr h₀ L h' m → News h₀ L h' ((l, instObj 607 d) :: (d, dictOf (limEs w k0 k1 k2 k3 k4 k5 k6 k7 k8 k9 k10 k11 k12 k13) 14) :: news) → (∀ p ∈ news, p.1 < d) → @LT.lt Nat _ d l → Q (.ref l) { s with heap := h', toks := tk2 }) :
  wpAny (model PR w) A (call (.ref 607) []) Q E s := by
  obtain ⟨hh, hf, hdp, hu, hL, hk, B, F, X, T⟩ := C
  refine noE (deepen 370 300 hh hf hdp hu ?_)
  k_dflt (refine' call_cls ?k1 ?k2 ?k3 ?k4 ?k5 ?k6 ?_; (case k1 => k_asm); (case k2 => k_asm); (case k3 => k_asm); (case k4 => k_is); (case k5 => k_is); (case k6 => k_is); k_whole; intro x' d' h' F' N' l1 l2; (try k_lt l1); (try k_lt2 l2); (try k_sweep))
  k_dflt (refine' code_def (binds := limBinds x') ?k1 ?k2 ?k3 ?k4 ?k5 ?kA ?kF ?kK ?k6 ?k7 ?k8 ?k9 ?kB ?_ ?c2 ?c3 ?c4 ?c5; (case kA => exact rfl); (case kF => first | assumption | exact rfl); (case kK => first | assumption | exact rfl); (case k1 => k_asm); (case k2 => k_asm); (case k3 => k_asm); (case k4 => k_asm); (case k5 => k_asm); (case k6 => k_is); (case k7 => k_is); (case k8 => k_room); (case k9 => exact binds_peek (by k_in) (fun _ => by kernel_rfl)); (case c5 => decide); (case kB => exact locs rfl); (case c2 => exact rfl); (case c3 => exact rfl); (case c4 => exact rfl); k_whole; intro g' L' h' FG' F' N' B' X' T'; (try dsimp only); (try k_fold))
  k_steps
  all_goals exact ret _ _ _ _ _ _ _ _ _ _ _ _ _ _ _ _ _ _ (by k_asm) (by k_asm) (by assumption) (by assumption)
end
local macro_rules | `(tactic| walk_at "call ref") => `(tactic| (k_here; (with_reducible show wpAny _ _ (call (Value.ref 607) _) _ _ _); k_dflt (refine limits_new (Cx.mk rfl rfl (Nat.le_of_ble_eq_true rfl) (Nat.le_of_ble_eq_true rfl) rfl rfl (by k_asm) (by k_asm) (by k_asm) (by k_asm)) (by k_asm) ?_; intro l' d' h' tk2' _ _ _ _ _ _ _ _ _ _ _ _ _ _ F' N' l1 l2; (try k_lt l1); (try k_lt2 l2)); (try k_sweep)))
noncomputable abbrev thingEs (w : World) (sp : Addr) (a0 a1 a2 a3 t0 t1 : Tok) : List DictEntry := [ent w (Str.ofString "kind") a0 (.str (Str.ofString "string") t0), ent w (Str.ofString "value") a1 (.ref sp), ent w (Str.ofString "is_exec") a2 (.bool false), ent w (Str.ofString "access") a3 (.int 3 t1)]
noncomputable abbrev spanEs (w : World) (tx : Addr) (n : Nat) (b0 b1 b2 t2 t3 : Tok) : List DictEntry := [ent w (Str.ofString "body") b0 (.ref tx), ent w (Str.ofString "start") b1 (.int 0 t2), ent w (Str.ofString "many") b2 (.int n t3)]
noncomputable abbrev textEs (w : World) (ob : Addr) (d0 d1 d2 d3 : Tok) (v0 v2 v3 : Value) : List DictEntry := [ent w (Str.ofString "number") d0 v0, ent w (Str.ofString "octets") d1 (.ref ob), ent w (Str.ofString "is_global") d2 v2, ent w (Str.ofString "level") d3 v3]
theorem news_sub {h₀ h : Heap} {L : Addr} {l l' : List (Addr × Obj)} (N : News h₀ L h l) (k : ∀ p ∈ l', p ∈ l) : News h₀ L h l' := fun p hp => N p (k p hp)
section
variable {w : World} {A : Around} {env : Env} {outer : List Env} {A₀ : Around} {base h₀ : Heap} {L : Addr} {m mg mb : PySem.Str → Option Value} {mean : ExcName → Option Value} {s : Shared} {Q E : Value → Shared → Prop} {kept : List (Addr × Obj)}
  {tx txd ob : Addr} {r : List UInt8} {d0 d1 d2 d3 : Tok} {v0 v2 v3 : Value}
set_option maxRecDepth 100000 in
set_option maxHeartbeats 8000000 in
theorem ofstr_new (C : Cx 370 300 w A env outer A₀ base h₀ L m mg mb mean s)
  (N : News h₀ L s.heap ((tx, instObj 226 txd) :: (txd, dictOf (textEs w ob d0 d1 d2 d3 v0 v2 v3) 4) :: (ob, baObj r.toArray) :: kept)) (hfit : r.toArray.size ≤ 1001)
  (ret : ∀ th td sp spd h' tk2 a0 a1 a2 a3 b0 b1 b2 t0 t1 t2 t3, Fr h₀ L h' m → News h₀ L h' ((th, instObj 205 td) :: (td, dictOf (thingEs w sp a0 a1 a2 a3 t0 t1) 4) ::
      (sp, instObj 268 spd) :: (spd, dictOf (spanEs w tx r.length b0 b1 b2 t2 t3) 3) :: (tx, instObj 226 txd) :: (txd, dictOf (textEs w ob d0 d1 d2 d3 v0 v2 v3) 4) :: (ob, baObj r.toArray) :: kept) → Q (.ref th) { s with heap := h', toks := tk2 }) :
  wpAny (model PR w) A (call (.ref 309) [.ref tx]) Q E s := by
  obtain ⟨hh, hf, hdp, hu, hL, hk, B, F, X, T⟩ := C
  refine noE (deepen 370 300 hh hf hdp hu ?_)
  refine wpAny_call ?_
  k_dflt ktr_enter
  k_steps
  all_goals exact ret _ _ _ _ _ _ _ _ _ _ _ _ _ _ _ _ _ (by k_asm) (by k_asm)
end
theorem pick3 {h₀ h : Heap} {L : Addr} {a b c : Addr × Obj} {l kept : List (Addr × Obj)} (N : News h₀ L h (a :: b :: c :: l)) (k : ∀ p ∈ kept, p ∈ l) : News h₀ L h (b :: c :: a :: kept) := fun p hp => by
  rcases List.mem_cons.mp hp with rfl | hp
  · exact N _ (.tail _ (.head _))
  rcases List.mem_cons.mp hp with rfl | hp
  · exact N _ (.tail _ (.tail _ (.head _)))
  rcases List.mem_cons.mp hp with rfl | hp
  · exact N _ (.head _)
  · exact N _ (.tail _ (.tail _ (.tail _ (k p hp))))
theorem gives_in {b : Array UInt8} {t u : Tok} {i : Int} (h0 : 0 ≤ i ∧ i < 256) : Gives (Builtin.«bytes.__contains__» ⟨[.bytes b t, .int i u], []⟩) (.val (.bool (b.contains i.toNat.toUInt8))) := by
  refine .of_wp fun M A E s Q hq => ?_
  show wpAny M A (Builtin.Bytes.containsIn "bytes.__contains__" (.bytes b t) (.int i u) >>= fun r => _) _ E s
  refine wpAny_bind ?_
  unfold Builtin.Bytes.containsIn
  refine wpAny_bind (wpAny_of_eq (a := Except.ok i) rfl ?_)
  refine wpAny_bind (wpAny_of_eq KBy.buffer_eq ?_)
  dsimp only
  rw [if_neg (by simp only [Bool.or_eq_true, decide_eq_true_eq]; omega)]
  exact wpAny_pure (wpAny_pure ⟨_, rfl, hq⟩)
theorem in_by {prog : Program} {w : World} {A : Around} {E : Value → Shared → Prop} {s : Shared} {Q : Value → Shared → Prop} {b : Array UInt8} {t u : Tok} {i : Int} (r : Bool) (h0 : 0 ≤ i ∧ i < 256) (hr : b.contains i.toNat.toUInt8 = r) (h : Q (.bool r) s) :
    wpAny (model prog w) A (compareOp .In (.int i u) (.bytes b t)) Q E s :=
  in_gives (PySem.W.typeIs_bytes _ _ _) FB.slot_bytes_contains FB.entry_bytes_contains (FB.args_bytes_contains_2 _ _) (hr ▸ gives_in h0) h
local macro_rules | `(tactic| walk_at "compareOp In int bytes") => `(tactic| (k_here; k_dflt (first | refine in_by false (by omega) (by decide +kernel) ?_ | refine in_by true (by omega) (by decide +kernel) ?_)))
inductive FirI (w : World) (s₀ : Shared) (g : Heap) (L x dx : Addr) (k1 k2 tb : Tok) (bl : List UInt8) (rest : List (Addr × Obj)) (k e : Nat) (n : Nat) (s : Shared) : Prop
  | mk (h : Heap) (tk : Nat) (u : PySem.Str → Option Value) (j : Nat) (c : UInt8) (to : Tok) (p : Int) (tkp : Tok) (e0 : s = { s₀ with heap := h, toks := tk }) (e1 : Fr g L h (mL [(Str.ofString "source", .ref x), (Str.ofString "octet", .int c.toNat to)] u)) (e2 : News g L h ((x, instObj 393 dx) :: (dx, srcD w k1 k2 bl tb p tkp) :: rest)) (e3 : p = ((j + 1 : Nat) : Int)) (e4 : j + n = e) (e5 : k ≤ j) (e6 : bl[j]? = some c) : FirI w s₀ g L x dx k1 k2 tb bl rest k e n s
theorem firI {w : World} {s₀ : Shared} {g : Heap} {L x dx : Addr} {k1 k2 tb : Tok} {bl : List UInt8} {rest : List (Addr × Obj)} {k e n : Nat} {h : Heap} {tk : Nat} {u : PySem.Str → Option Value} {p : Int} {to tkp : Tok} {c : UInt8} (j : Nat)
    (F : Fr g L h u) (h1 : u (Str.ofString "source") = some (.ref x)) (h2 : u (Str.ofString "octet") = some (.int c.toNat to)) (N : News g L h ((x, instObj 393 dx) :: (dx, srcD w k1 k2 bl tb p tkp) :: rest))
    (hp : p = ((j + 1 : Nat) : Int)) (hn : j + n = e) (hk : k ≤ j) (hc : bl[j]? = some c) : FirI w s₀ g L x dx k1 k2 tb bl rest k e n { s₀ with heap := h, toks := tk } := by
  refine ⟨h, tk, u, j, c, to, p, tkp, rfl, fr_mL F ?_, N, hp, hn, hk, hc⟩
  simp only [List.forall_mem_cons, List.not_mem_nil, false_implies, implies_true, and_true]
  exact ⟨h1, h2⟩
section
variable {w : World} {A : Around} {env : Env} {outer : List Env} {A₀ : Around} {base h₀ : Heap} {L : Addr} {m mg mb : PySem.Str → Option Value} {mean : ExcName → Option Value} {s : Shared} {Q E : Value → Shared → Prop} {news : List (Addr × Obj)} {g : Obj → List (Addr × Obj)}
  {x dx : Addr} {k1 k2 tb : Tok} {bl : List UInt8} {p : Int} {tk : Tok} {k e : Nat} {c : UInt8}
set_option maxRecDepth 100000 in
set_option maxHeartbeats 8000000 in
theorem first_P (C : Cx 370 300 w A env outer A₀ base h₀ L m mg mb mean s) (hg : A.guards = some []) (N : News h₀ L s.heap news) (hx : (x, instObj 393 dx) ∈ news) (U : UpdF dx (srcD w k1 k2 bl tb p tk) news g)
  (hp : p = (k : Int)) (hfit : bl.length ≤ 1000) (hke : k ≤ e) (hb : ∀ j, k ≤ j → j < e → bl[j]? = some 32) (he : bl[e]? = some c) (hc : c.toNat = 40 ∨ c.toNat = 47)
  (ret : ∀ t h' tk' tk2 p', Fr h₀ L h' m → News h₀ L h' (g (srcD w k1 k2 bl tb p' tk')) → p' = ((e + 1 : Nat) : Int) → Q (.int c.toNat t) { s with heap := h', toks := tk2 }) :
  wpP (model PR w) A (call (.ref 425) [.ref x]) Q E s := by
  obtain ⟨hh, hf, hdp, hu, hL, hk, B, F, X, T⟩ := C
  refine P_noE (deepenP 370 300 hh hf hg hdp hu ?_)
  obtain ⟨rest, Nc, hoff, back⟩ := canon N hx U
  have hne := src_ne Nc
  clear N hx U
  obtain ⟨c0, hc0⟩ : ∃ c0, bl[k]? = some c0 := by
    rcases Nat.lt_or_ge k e with h | h
    · exact ⟨_, hb k (Nat.le_refl _) h⟩
    · obtain rfl : k = e := by omega
      exact ⟨_, he⟩
  refine P_call ?_
  k_dflt ktr_enter
  refine P_cons (P_any ?_)
  k_steps
  refine P_cons (P_while (FirI w s ?g ?L x dx k1 k2 tb bl rest k e) ?turn (e - k) ?init)
  case init =>
    exact firI k (by k_asm) (by exact rfl) (by exact rfl) (by k_asm) (by assumption) (by omega) (by omega) hc0
  case turn =>
    intro n s1 I1
    obtain ⟨h1, tk1, u1, j, cj, to, p1, tkp1, rfl, F1, N1, hp1, hn1, hk1, hj⟩ := I1
    dsimp only [mL] at F1
    cases n with
    | zero =>
      obtain rfl : j = e := by omega
      obtain rfl : cj = c := by rw [hj] at he; cases he; rfl
      rcases hc with hc | hc
      · have hc9 : (cj.toNat : Int) = 40 := by omega
        rw [hc9] at F1
        simp only [hc9] at ret
        k_steps
        all_goals exact ret _ _ _ _ _ (by k_asm) (back _ _ (by k_asm)) (by assumption)
      · have hc9 : (cj.toNat : Int) = 47 := by omega
        rw [hc9] at F1
        simp only [hc9] at ret
        k_steps
        all_goals exact ret _ _ _ _ _ (by k_asm) (back _ _ (by k_asm)) (by assumption)
    | succ n =>
      have hj2 := hb j hk1 (by omega)
      obtain rfl : cj = 32 := by rw [hj] at hj2; cases hj2; rfl
      have hc9 : ((32 : UInt8).toNat : Int) = 32 := by decide
      rw [hc9] at F1
      obtain ⟨c2, hc2⟩ : ∃ c2, bl[j + 1]? = some c2 := by
        rcases Nat.lt_or_ge (j + 1) e with h | h
        · exact ⟨_, hb (j + 1) (by omega) h⟩
        · obtain rfl : j + 1 = e := by omega
          exact ⟨_, he⟩
      k_steps
      all_goals exact ⟨⟨n, by omega, firI (j + 1) (by k_asm) (by exact rfl) (by exact rfl) (by k_asm) (by assumption) (by omega) (by omega) hc2⟩⟩
end
noncomputable abbrev memEs (w : World) (lx sv jr mdd fr : Addr) (n0 n1 n2 n3 n4 n5 n6 n7 n8 n9 t6 t7 t8 t9 : Tok) : List DictEntry := [ent w (Str.ofString "limits") n0 (.ref lx), ent w (Str.ofString "is_global") n1 (.bool false), ent w (Str.ofString "saves") n2 (.ref sv), ent w (Str.ofString "journal") n3 (.ref jr), ent w (Str.ofString "made") n4 (.ref mdd), ent w (Str.ofString "freed") n5 (.ref fr), ent w (Str.ofString "used") n6 (.int 0 t6), ent w (Str.ofString "used_global") n7 (.int 0 t7), ent w (Str.ofString "last_body") n8 (.int 0 t8), ent w (Str.ofString "last_save") n9 (.int 0 t9)]
section
variable {w : World} {A : Around} {env : Env} {outer : List Env} {A₀ : Around} {base h₀ : Heap} {L : Addr} {m mg mb : PySem.Str → Option Value} {mean : ExcName → Option Value} {s : Shared} {Q E : Value → Shared → Prop} {kept : List (Addr × Obj)}
  {sx sd mx md lx ld sv jr mdd fr : Addr} {om : Obj} {kM tr : Tok} {c0 c1 c2 c3 c4 c5 c6 c7 c8 c9 c10 c11 c12 c13 n0 n1 n2 n3 n4 n5 n6 n7 n8 n9 t6 t7 t8 t9 : Tok} {r : List UInt8}
set_option maxRecDepth 100000 in
set_option maxHeartbeats 8000000 in
theorem text_P (C : Cx 350 200 w A env outer A₀ base h₀ L m mg mb mean s) (hg : A.guards = some [])
  (N : News h₀ L s.heap ((sx, instObj 585 sd) :: (sd, dictOf [ent w (Str.ofString "memory") kM (.ref mx)] 1) :: (mdd, om) :: (sv, W.listOf #[] 0) :: (mx, instObj 888 md) :: (md, dictOf (memEs w lx sv jr mdd fr n0 n1 n2 n3 n4 n5 n6 n7 n8 n9 t6 t7 t8 t9) 10) :: (lx, instObj 607 ld) :: (ld, dictOf (limEs w c0 c1 c2 c3 c4 c5 c6 c7 c8 c9 c10 c11 c12 c13) 14) :: kept))
  (hs' : Obj.IsDictOf (strKind PR w) om []) (hi' : Obj.IsDictOf (intKind PR w) om []) (lo' : (mdd == sysModules) = false)
  (l1 : @LT.lt Nat _ ld lx ∧ @LT.lt Nat _ lx md ∧ @LT.lt Nat _ md mx ∧ @LT.lt Nat _ mx sv ∧ @LT.lt Nat _ sv mdd ∧ @LT.lt Nat _ mdd sd ∧ @LT.lt Nat _ sd sx)
  (hoff : OwnOff kept [md, mdd]) (hfit : r.length ≤ 1000)
  (ret : ∀ th td sp spd tx txd ob h' tk2 a0 a1 a2 a3 b0 b1 b2 d0 d1 d2 d3 t0 t1 t2 t3 v0 v2 v3, Fr h₀ L h' m → News h₀ L h' ((th, instObj 205 td) :: (td, dictOf (thingEs w sp a0 a1 a2 a3 t0 t1) 4) ::
      (sp, instObj 268 spd) :: (spd, dictOf (spanEs w tx r.length b0 b1 b2 t2 t3) 3) :: (tx, instObj 226 txd) :: (txd, dictOf (textEs w ob d0 d1 d2 d3 v0 v2 v3) 4) :: (ob, baObj r.toArray) :: kept) → Q (.ref th) { s with heap := h', toks := tk2 }) :
  wpP (model PR w) A (call (.ref 523) [.ref sx, .bytes r.toArray tr]) Q E s := by
  obtain ⟨hh, hf, hdp, hu, hL, hk, B, F, X, T⟩ := C
  refine P_noE (deepenP 350 200 hh hf hg hdp hu ?_)
  have hz : r.toArray.size ≤ 1001 := by rw [List.size_toArray]; omega
  refine P_call ?_
  k_dflt ktr_enter
  refine P_cons (P_Return (P_Call_Name (P_any ?_)))
  walk1
  refine P_callWith rfl ?_
  refine P_ar1 (P_sp1 (P_Call_Meth (P_any ?_)))
  k_steps
  have Nd := news_tail (news_tail (show News _ _ _ (_ :: _ :: _) by assumption))
  refine P_call ?_
  k_dflt ktr_enter
  k_steps
  have Nk := news_sub (l' := kept) (show News _ _ _ (_ :: _) by assumption) (by intro p hp; repeat (first | exact hp | apply List.mem_cons_of_mem))
  k_dflt (refine P_call (P_make (fI := 223) (by k_asm) (by k_asm) (by k_in) (by k_is) (by k_is) (by k_is) ?_); intro x' dx' h' F' N' l1 l2; (try k_lt l1); (try k_lt2 l2); (try k_sweep))
  k_dflt ktr_enter
  k_steps
  repeat (any_goals ((first | ((with_reducible show wpP _ _ (call (Value.type "bytearray") [Value.bytes _ _]) _ _ _); k_dflt (refine ba1_P rfl (by assumption) (by k_asm) (by k_asm) ?_); intro D'z h'z F'z N'z l1; (try k_lt l1); (try k_sweep))); all_goals k_steps))
  refine P_any ?_
  k_dflt (refine ofstr_new (kept := kept) (Cx.mk rfl rfl (Nat.le_of_ble_eq_true rfl) (Nat.le_of_ble_eq_true rfl) rfl rfl (by k_asm) (by k_asm) (by k_asm) (by k_asm)) (pick3 (by k_asm) (by intro p hp; repeat (first | exact hp | apply List.mem_cons_of_mem))) (by assumption) ?_; intro th' td' sp' spd' h' tk2' _ _ _ _ _ _ _ _ _ _ _ F' N'; (try k_sweep))
  exact leaveK_ (by k_asm) (by k_asm) (fun kF kN => ret _ _ _ _ _ _ _ _ _ _ _ _ _ _ _ _ _ _ _ _ _ _ _ _ _ _ _ kF kN)
end
theorem ledger_dup {h₀ h : Heap} {L : Addr} {a b c d e f g k : Addr × Obj} {kept : List (Addr × Obj)} (N : News h₀ L h (a :: b :: c :: d :: e :: f :: g :: k :: kept)) : News h₀ L h (a :: b :: c :: d :: e :: f :: g :: k :: a :: b :: kept) :=
  news_sub N fun p hp => by
    simp only [List.mem_cons] at hp ⊢
    rcases hp with h | h | h | h | h | h | h | h | h | h | h <;> simp [h]
theorem off_kept {sx sd x dx md mdd : Addr} {o1 o2 o3 o4 : Obj} {rest : List (Addr × Obj)} (h : OwnOff rest [x, dx, md, mdd]) (l : @LT.lt Nat _ md mdd ∧ @LT.lt Nat _ mdd sd ∧ @LT.lt Nat _ sd sx ∧ @LT.lt Nat _ sx dx ∧ @LT.lt Nat _ dx x) :
    OwnOff ((sx, o1) :: (sd, o2) :: (x, o3) :: (dx, o4) :: rest) [md, mdd] := by
  intro p hp q hq
  have key : ∀ a b : Nat, b < a → a ≠ b := fun a b h => Ne.symm (Nat.ne_of_lt h)
  have hq' : q = md ∨ q = mdd := by simpa using hq
  rcases List.mem_cons.mp hp with rfl | hp
  · rcases hq' with rfl | rfl <;> (apply key; dsimp only; walk_at "lts")
  rcases List.mem_cons.mp hp with rfl | hp
  · rcases hq' with rfl | rfl <;> (apply key; dsimp only; walk_at "lts")
  rcases List.mem_cons.mp hp with rfl | hp
  · rcases hq' with rfl | rfl <;> (apply key; dsimp only; walk_at "lts")
  rcases List.mem_cons.mp hp with rfl | hp
  · rcases hq' with rfl | rfl <;> (apply key; dsimp only; walk_at "lts")
  · exact h p hp q (by rcases hq' with rfl | rfl <;> simp)
theorem chain_app {a b c d e f g h i j : Nat} (l1 : a < b ∧ b < c ∧ c < d ∧ d < e ∧ e < f ∧ f < g ∧ g < h) (l2 : h < i ∧ i < j) : a < b ∧ b < c ∧ c < d ∧ d < e ∧ e < f ∧ f < g ∧ g < h ∧ h < i ∧ i < j :=
  ⟨l1.1, l1.2.1, l1.2.2.1, l1.2.2.2.1, l1.2.2.2.2.1, l1.2.2.2.2.2.1, l1.2.2.2.2.2.2, l2⟩
section
variable {w : World} {A : Around} {env : Env} {outer : List Env} {A₀ : Around} {base h₀ : Heap} {L : Addr} {m mg mb : PySem.Str → Option Value} {mean : ExcName → Option Value} {s : Shared} {Q E : Value → Shared → Prop} {rest : List (Addr × Obj)}
  {sx sd mx md lx ld sv jr mdd fr x dx : Addr} {om : Obj} {kM tk k1 k2 tb to : Tok} {c0 c1 c2 c3 c4 c5 c6 c7 c8 c9 c10 c11 c12 c13 n0 n1 n2 n3 n4 n5 n6 n7 n8 n9 t6 t7 t8 t9 : Tok} {bl : List UInt8} {p : Int} {k : Nat} {lk : Value}
set_option maxRecDepth 100000 in
set_option maxHeartbeats 8000000 in
theorem plain_open (C : Cx 346 180 w A env outer A₀ base h₀ L m mg mb mean s) (hg : A.guards = some [])
  (N : News h₀ L s.heap ((sx, instObj 585 sd) :: (sd, dictOf [ent w (Str.ofString "memory") kM (.ref mx)] 1) :: (mdd, om) :: (sv, W.listOf #[] 0) :: (mx, instObj 888 md) :: (md, dictOf (memEs w lx sv jr mdd fr n0 n1 n2 n3 n4 n5 n6 n7 n8 n9 t6 t7 t8 t9) 10) :: (lx, instObj 607 ld) :: (ld, dictOf (limEs w c0 c1 c2 c3 c4 c5 c6 c7 c8 c9 c10 c11 c12 c13) 14) :: (x, instObj 393 dx) :: (dx, srcD w k1 k2 bl tb p tk) :: rest))
  (hs' : Obj.IsDictOf (strKind PR w) om []) (hi' : Obj.IsDictOf (intKind PR w) om []) (lo' : (mdd == sysModules) = false)
  (l1 : @LT.lt Nat _ ld lx ∧ @LT.lt Nat _ lx md ∧ @LT.lt Nat _ md mx ∧ @LT.lt Nat _ mx sv ∧ @LT.lt Nat _ sv mdd ∧ @LT.lt Nat _ mdd sd ∧ @LT.lt Nat _ sd sx) (l2 : @LT.lt Nat _ sx dx ∧ @LT.lt Nat _ dx x)
  (hoff : OwnOff rest [x, dx, md, mdd]) (hp : p = (k : Int)) (hfit : bl.length ≤ 900)
  (rz : rdK bl (bl.length + 1) k [] 1 = none → ∀ e d k' t' h' tk2, Flown base (env :: outer) h₀ L m e d (toldEs w k' (.bytes synB t')) h' → E (.ref e) { s with heap := h', toks := tk2 })
  (ret : ∀ r e, rdK bl (bl.length + 1) k [] 1 = some (r, e) → ∀ th td sp spd tx txd ob h' tk2 a0 a1 a2 a3 b0 b1 b2 d0 d1 d2 d3 t0 t1 t2 t3 v0 v2 v3 p' tk', Fr h₀ L h' m → News h₀ L h' ((th, instObj 205 td) :: (td, dictOf (thingEs w sp a0 a1 a2 a3 t0 t1) 4) ::
      (sp, instObj 268 spd) :: (spd, dictOf (spanEs w tx r.length b0 b1 b2 t2 t3) 3) :: (tx, instObj 226 txd) :: (txd, dictOf (textEs w ob d0 d1 d2 d3 v0 v2 v3) 4) :: (ob, baObj r.toArray) :: (sx, instObj 585 sd) :: (sd, dictOf [ent w (Str.ofString "memory") kM (.ref mx)] 1) :: (x, instObj 393 dx) :: (dx, srcD w k1 k2 bl tb p' tk') :: rest) → p' = (e : Int) → Q (.ref th) { s with heap := h', toks := tk2 }) :
  wpP (model PR w) A (call (.ref 558) [.ref sx, .ref x, .int 40 to, lk]) Q E s := by
  obtain ⟨hh, hf, hdp, hu, hL, hk, B, F, X, T⟩ := C
  refine deepenP 346 180 hh hf hg hdp hu ?_
  have l3 := chain_app l1 l2
  refine P_call ?_
  k_dflt ktr_enter
  refine P_cons (P_If ?_)
  k_steps
  repeat (any_goals ((first | ((with_reducible show wpP _ _ (call (Value.ref 460) _) _ _ _); k_dflt (refine string_P (Cx.mk rfl rfl (Nat.le_of_ble_eq_true rfl) (Nat.le_of_ble_eq_true rfl) rfl rfl (by k_asm) (by k_asm) (by k_asm) (by k_asm)) rfl (by k_asm) (by k_mem) (by k_updF) (by first | assumption | rfl) (by assumption) (fun hc'z e'z d'z k'z t'z h'z tk2'z R'z => ?_) (fun r'z e2'z hr'z t'z h'z p'z tk'z tk2'z F'z N'z hp'z => ?_)); (all_goals (try dsimp only at N'z)); (all_goals (try k_sweep)))); all_goals k_steps))
  · exact rz (by assumption) _ _ _ _ _ _ (by assumption)
  · have hlen := rdK_len (by assumption)
    k_dflt (refine text_P (Cx.mk rfl rfl (Nat.le_of_ble_eq_true rfl) (Nat.le_of_ble_eq_true rfl) rfl rfl (by k_asm) (by k_asm) (by k_asm) (by k_asm)) rfl (ledger_dup (by k_asm)) hs' hi' lo' l1 (off_kept hoff (by refine ⟨?_, ?_, ?_, ?_, ?_⟩ <;> first | walk_at "lts" | omega)) (by simp at hlen; omega) ?_)
    intro x0 x1 x2 x3 x4 x5 x6 x7 x8 x9 x10 x11 x12 x13 x14 x15 x16 x17 x18 x19 x20 x21 x22 x23 x24 x25 x26 F' N'
    k_steps
    all_goals exact ret _ _ (by assumption) _ _ _ _ _ _ _ _ _ _ _ _ _ _ _ _ _ _ _ _ _ _ _ _ _ _ _ _ _ (by k_asm) (by k_asm) (by assumption)
end
theorem ledger_rot {h₀ h : Heap} {L : Addr} {z a b c d e f g k i j : Addr × Obj} {rest : List (Addr × Obj)} (N : News h₀ L h (z :: a :: b :: c :: d :: e :: f :: g :: k :: i :: j :: rest)) : News h₀ L h (a :: b :: c :: d :: e :: f :: g :: k :: i :: j :: z :: rest) :=
  news_sub N fun p hp => by
    simp only [List.mem_cons] at hp ⊢
    rcases hp with h | h | h | h | h | h | h | h | h | h | h | h <;> simp [h]
theorem off_cons4 {a x dx md mdd : Addr} {o : Obj} {rest : List (Addr × Obj)} (h : OwnOff rest [x, dx, md, mdd]) (l : @LT.lt Nat _ x a ∧ @LT.lt Nat _ dx a ∧ @LT.lt Nat _ md a ∧ @LT.lt Nat _ mdd a) : OwnOff ((a, o) :: rest) [x, dx, md, mdd] := by
  obtain ⟨l1, l2, l3, l4⟩ := l
  have key : ∀ a b : Nat, b < a → a ≠ b := fun a b h => Ne.symm (Nat.ne_of_lt h)
  intro p hp q hq
  rcases List.mem_cons.mp hp with rfl | hp
  · have hq' : q = x ∨ q = dx ∨ q = md ∨ q = mdd := by simpa using hq
    rcases hq' with rfl | rfl | rfl | rfl <;> (apply key; assumption)
  · exact h p hp q hq
theorem ledger_drop {h₀ h : Heap} {L : Addr} {z y a0 a1 a2 a3 a4 a5 a6 a7 a8 a9 a10 : Addr × Obj} {rest : List (Addr × Obj)} (N : News h₀ L h (z :: a0 :: a1 :: a2 :: a3 :: a4 :: a5 :: a6 :: a7 :: a8 :: a9 :: a10 :: y :: rest)) : News h₀ L h (a0 :: a1 :: a2 :: a3 :: a4 :: a5 :: a6 :: a7 :: a8 :: a9 :: a10 :: rest) :=
  news_sub N fun p hp => by
    simp only [List.mem_cons] at hp ⊢
    rcases hp with h | h | h | h | h | h | h | h | h | h | h | h <;> simp [h]
section
variable {w : World} {A : Around} {env : Env} {outer : List Env} {A₀ : Around} {base h₀ : Heap} {L : Addr} {m mg mb : PySem.Str → Option Value} {mean : ExcName → Option Value} {s : Shared} {Q E : Value → Shared → Prop} {rest : List (Addr × Obj)}
  {sx sd mx md lx ld sv jr mdd fr x dx : Addr} {om : Obj} {kM tk k1 k2 tb : Tok} {c0 c1 c2 c3 c4 c5 c6 c7 c8 c9 c10 c11 c12 c13 n0 n1 n2 n3 n4 n5 n6 n7 n8 n9 t6 t7 t8 t9 : Tok} {bl : List UInt8} {p : Int} {k e0 : Nat}
set_option maxRecDepth 100000 in
set_option maxHeartbeats 8000000 in
theorem token_open (C : Cx 342 160 w A env outer A₀ base h₀ L m mg mb mean s) (hg : A.guards = some [])
  (N : News h₀ L s.heap ((sx, instObj 585 sd) :: (sd, dictOf [ent w (Str.ofString "memory") kM (.ref mx)] 1) :: (mdd, om) :: (sv, W.listOf #[] 0) :: (mx, instObj 888 md) :: (md, dictOf (memEs w lx sv jr mdd fr n0 n1 n2 n3 n4 n5 n6 n7 n8 n9 t6 t7 t8 t9) 10) :: (lx, instObj 607 ld) :: (ld, dictOf (limEs w c0 c1 c2 c3 c4 c5 c6 c7 c8 c9 c10 c11 c12 c13) 14) :: (x, instObj 393 dx) :: (dx, srcD w k1 k2 bl tb p tk) :: rest))
  (hs' : Obj.IsDictOf (strKind PR w) om []) (hi' : Obj.IsDictOf (intKind PR w) om []) (lo' : (mdd == sysModules) = false)
  (l1 : @LT.lt Nat _ ld lx ∧ @LT.lt Nat _ lx md ∧ @LT.lt Nat _ md mx ∧ @LT.lt Nat _ mx sv ∧ @LT.lt Nat _ sv mdd ∧ @LT.lt Nat _ mdd sd ∧ @LT.lt Nat _ sd sx) (l2 : @LT.lt Nat _ sx dx ∧ @LT.lt Nat _ dx x)
  (hoff : OwnOff rest [x, dx, md, mdd]) (hp : p = (k : Int)) (hfit : bl.length ≤ 900)
  (hke : k ≤ e0) (hb : ∀ j, k ≤ j → j < e0 → bl[j]? = some 32) (he : bl[e0]? = some 40)
  (rz : rdK bl (bl.length + 1) (e0 + 1) [] 1 = none → ∀ e d k' t' h' tk2, Flown base (env :: outer) h₀ L m e d (toldEs w k' (.bytes synB t')) h' → E (.ref e) { s with heap := h', toks := tk2 })
  (ret : ∀ r e, rdK bl (bl.length + 1) (e0 + 1) [] 1 = some (r, e) → ∀ th td sp spd tx txd ob h' tk2 a0 a1 a2 a3 b0 b1 b2 d0 d1 d2 d3 t0 t1 t2 t3 v0 v2 v3 p' tk', Fr h₀ L h' m → News h₀ L h' ((th, instObj 205 td) :: (td, dictOf (thingEs w sp a0 a1 a2 a3 t0 t1) 4) ::
      (sp, instObj 268 spd) :: (spd, dictOf (spanEs w tx r.length b0 b1 b2 t2 t3) 3) :: (tx, instObj 226 txd) :: (txd, dictOf (textEs w ob d0 d1 d2 d3 v0 v2 v3) 4) :: (ob, baObj r.toArray) :: (sx, instObj 585 sd) :: (sd, dictOf [ent w (Str.ofString "memory") kM (.ref mx)] 1) :: (x, instObj 393 dx) :: (dx, srcD w k1 k2 bl tb p' tk') :: rest) → p' = (e : Int) → Q (.ref th) { s with heap := h', toks := tk2 }) :
  wpP (model PR w) A (call (.ref 566) [.ref sx, .ref x, .bool false, .none]) Q E s := by
  obtain ⟨hh, hf, hdp, hu, hL, hk, B, F, X, T⟩ := C
  refine deepenP 342 160 hh hf hg hdp hu ?_
  have hfit1 : bl.length ≤ 1000 := by omega
  have hc40 : (40 : UInt8).toNat = 40 ∨ (40 : UInt8).toNat = 47 := .inl (by decide)
  refine P_call ?_
  k_dflt ktr_enter
  k_steps
  repeat (any_goals ((first | ((with_reducible show wpP _ _ (call (Value.ref 425) _) _ _ _); k_dflt (refine first_P (Cx.mk rfl rfl (Nat.le_of_ble_eq_true rfl) (Nat.le_of_ble_eq_true rfl) rfl rfl (by k_asm) (by k_asm) (by k_asm) (by k_asm)) rfl (by k_asm) (by k_mem) (by k_updF) (by first | assumption | rfl) (by assumption) (by assumption) (by assumption) (by assumption) (by assumption) ?_); intro t'z h'z tk'z tk2'z p'z F'z N'z hp'z; (try dsimp only at N'z); (try k_sweep))); all_goals k_steps))
  refine P_cons (P_while (fun _ s' => s' = _) (fun n s1 e1 => ?_) 0 rfl)
  subst e1
  k_steps
  repeat (any_goals ((first | ((with_reducible show wpP _ _ (call (Value.ref 425) _) _ _ _); k_dflt (refine first_P (Cx.mk rfl rfl (Nat.le_of_ble_eq_true rfl) (Nat.le_of_ble_eq_true rfl) rfl rfl (by k_asm) (by k_asm) (by k_asm) (by k_asm)) rfl (by k_asm) (by k_mem) (by k_updF) (by first | assumption | rfl) (by assumption) (by assumption) (by assumption) (by assumption) (by assumption) ?_); intro t'z h'z tk'z tk2'z p'z F'z N'z hp'z; (try dsimp only at N'z); (try k_sweep))); all_goals k_steps))
  k_dflt (refine plain_open (Cx.mk rfl rfl (Nat.le_of_ble_eq_true rfl) (Nat.le_of_ble_eq_true rfl) rfl rfl (by k_asm) (by k_asm) (by k_asm) (by k_asm)) rfl (ledger_rot (by k_asm)) hs' hi' lo' l1 l2 (off_cons4 hoff (by refine ⟨?_, ?_, ?_, ?_⟩ <;> first | walk_at "lts" | omega)) (by assumption) hfit (fun hc' e' d' k' t' h' tk2' R' => ?_) ?_)
  · k_steps
    all_goals exact rz (by assumption) _ _ _ _ _ _ (by assumption)
  · intro r' e2' hr' x0 x1 x2 x3 x4 x5 x6 x7 x8 x9 x10 x11 x12 x13 x14 x15 x16 x17 x18 x19 x20 x21 x22 x23 x24 x25 x26 p9 tk9 F' N' hp'
    k_steps
    all_goals exact ret _ _ (by assumption) _ _ _ _ _ _ _ _ _ _ _ _ _ _ _ _ _ _ _ _ _ _ _ _ _ _ _ _ _ (by k_asm) (ledger_drop (by k_asm)) (by assumption)
end
theorem off_new {x dx md mdd : Addr} {rest : List (Addr × Obj)} (h : OwnOff rest [md, mdd]) (l : AllLt dx rest) (l2 : @LT.lt Nat _ dx x) : OwnOff rest [x, dx, md, mdd] := by
  intro p hp q hq
  have hq' : q = x ∨ q = dx ∨ q = md ∨ q = mdd := by simpa using hq
  rcases hq' with rfl | rfl | hq'
  · exact allLt_off l (Nat.le_of_lt l2) p hp
  · exact allLt_off l (Nat.le_refl _) p hp
  · exact h p hp q (by simpa using hq')
theorem off_new8 {a b c d e f g k x dx md mdd : Addr} {rest : List (Addr × Obj)} (h : OwnOff rest [md, mdd]) (l : @LT.lt Nat _ a dx ∧ @LT.lt Nat _ b dx ∧ @LT.lt Nat _ c dx ∧ @LT.lt Nat _ d dx ∧ @LT.lt Nat _ e dx ∧ @LT.lt Nat _ f dx ∧ @LT.lt Nat _ g dx ∧ @LT.lt Nat _ k dx ∧ AllLt dx rest) (l2 : @LT.lt Nat _ dx x) : OwnOff rest [x, dx, md, mdd] :=
  off_new h l.2.2.2.2.2.2.2.2 l2
theorem ledger_src {h₀ h : Heap} {L : Addr} {x y a b c d e f g k : Addr × Obj} {rest : List (Addr × Obj)} (N : News h₀ L h (x :: y :: a :: b :: c :: d :: e :: f :: g :: k :: rest)) : News h₀ L h (a :: b :: c :: d :: e :: f :: g :: k :: x :: y :: rest) :=
  news_sub N fun p hp => by
    simp only [List.mem_cons] at hp ⊢
    rcases hp with h | h | h | h | h | h | h | h | h | h | h <;> simp [h]
theorem ledger_cut2 {h₀ h : Heap} {L : Addr} {z x y a0 a1 a2 a3 a4 a5 a6 a7 a8 : Addr × Obj} {rest : List (Addr × Obj)} (N : News h₀ L h (z :: a0 :: a1 :: a2 :: a3 :: a4 :: a5 :: a6 :: a7 :: a8 :: x :: y :: rest)) : News h₀ L h (z :: a0 :: a1 :: a2 :: a3 :: a4 :: a5 :: a6 :: a7 :: a8 :: rest) :=
  news_sub N fun p hp => by
    simp only [List.mem_cons] at hp ⊢
    rcases hp with h | h | h | h | h | h | h | h | h | h | h <;> simp [h]
section
variable {w : World} {A : Around} {env : Env} {outer : List Env} {A₀ : Around} {base h₀ : Heap} {L : Addr} {m mg mb : PySem.Str → Option Value} {mean : ExcName → Option Value} {s : Shared} {Q E : Value → Shared → Prop} {rest : List (Addr × Obj)}
  {sx sd mx md lx ld sv jr mdd fr : Addr} {om : Obj} {kM tb : Tok} {c0 c1 c2 c3 c4 c5 c6 c7 c8 c9 c10 c11 c12 c13 n0 n1 n2 n3 n4 n5 n6 n7 n8 n9 t6 t7 t8 t9 : Tok} {bl : List UInt8} {e0 : Nat}
set_option maxRecDepth 100000 in
set_option maxHeartbeats 8000000 in
theorem tokin_open (C : Cx 338 140 w A env outer A₀ base h₀ L m mg mb mean s) (hg : A.guards = some [])
  (N : News h₀ L s.heap ((sx, instObj 585 sd) :: (sd, dictOf [ent w (Str.ofString "memory") kM (.ref mx)] 1) :: (mdd, om) :: (sv, W.listOf #[] 0) :: (mx, instObj 888 md) :: (md, dictOf (memEs w lx sv jr mdd fr n0 n1 n2 n3 n4 n5 n6 n7 n8 n9 t6 t7 t8 t9) 10) :: (lx, instObj 607 ld) :: (ld, dictOf (limEs w c0 c1 c2 c3 c4 c5 c6 c7 c8 c9 c10 c11 c12 c13) 14) :: rest))
  (hs' : Obj.IsDictOf (strKind PR w) om []) (hi' : Obj.IsDictOf (intKind PR w) om []) (lo' : (mdd == sysModules) = false)
  (l1 : @LT.lt Nat _ ld lx ∧ @LT.lt Nat _ lx md ∧ @LT.lt Nat _ md mx ∧ @LT.lt Nat _ mx sv ∧ @LT.lt Nat _ sv mdd ∧ @LT.lt Nat _ mdd sd ∧ @LT.lt Nat _ sd sx)
  (hoff : OwnOff rest [md, mdd]) (hfit : bl.length ≤ 900)
  (hb : ∀ j, 0 ≤ j → j < e0 → bl[j]? = some 32) (he : bl[e0]? = some 40)
  (rz : rdK bl (bl.length + 1) (e0 + 1) [] 1 = none → ∀ e d k' t' h' tk2, Flown base (env :: outer) h₀ L m e d (toldEs w k' (.bytes synB t')) h' → E (.ref e) { s with heap := h', toks := tk2 })
  (ret : ∀ r e, rdK bl (bl.length + 1) (e0 + 1) [] 1 = some (r, e) → ∀ tu te th td sp spd tx txd ob h' tk2 a0 a1 a2 a3 b0 b1 b2 d0 d1 d2 d3 t0 t1 t2 t3 v0 v2 v3, Fr h₀ L h' m → News h₀ L h' ((tu, tupObj [.ref th, .int (e : Nat) te]) :: (th, instObj 205 td) :: (td, dictOf (thingEs w sp a0 a1 a2 a3 t0 t1) 4) ::
      (sp, instObj 268 spd) :: (spd, dictOf (spanEs w tx r.length b0 b1 b2 t2 t3) 3) :: (tx, instObj 226 txd) :: (txd, dictOf (textEs w ob d0 d1 d2 d3 v0 v2 v3) 4) :: (ob, baObj r.toArray) :: (sx, instObj 585 sd) :: (sd, dictOf [ent w (Str.ofString "memory") kM (.ref mx)] 1) :: rest) → Q (.ref tu) { s with heap := h', toks := tk2 }) :
  wpP (model PR w) A (call (.ref 582) [.ref sx, .bytes bl.toArray tb]) Q E s := by
  obtain ⟨hh, hf, hdp, hu, hL, hk, B, F, X, T⟩ := C
  refine deepenP 338 140 hh hf hg hdp hu ?_
  refine P_call ?_
  k_dflt ktr_enter
  k_steps
  k_dflt (refine token_open (k := 0) (e0 := e0) (Cx.mk rfl rfl (Nat.le_of_ble_eq_true rfl) (Nat.le_of_ble_eq_true rfl) rfl rfl (by k_asm) (by k_asm) (by k_asm) (by k_asm)) rfl (ledger_src (by k_asm)) hs' hi' lo' l1 (by refine ⟨?_, ?_⟩ <;> first | walk_at "lts" | omega) (off_new8 hoff (by assumption) (by assumption)) rfl hfit (Nat.zero_le _) hb he (fun hc' e' d' k' t' h' tk2' R' => ?_) ?_)
  · k_steps
    all_goals exact rz (by assumption) _ _ _ _ _ _ (by assumption)
  · intro r' e2' hr' x0 x1 x2 x3 x4 x5 x6 x7 x8 x9 x10 x11 x12 x13 x14 x15 x16 x17 x18 x19 x20 x21 x22 x23 x24 x25 x26 p9 tk9 F' N' hp'
    subst hp'
    k_steps
    all_goals exact ret _ _ (by assumption) _ _ _ _ _ _ _ _ _ _ _ _ _ _ _ _ _ _ _ _ _ _ _ _ _ _ _ _ _ (by k_asm) (ledger_cut2 (by k_asm))
end
noncomputable abbrev wb : List UInt8 := [47, 97, 98]
inductive WrdI (w : World) (s₀ : Shared) (g : Heap) (L x dx fb : Addr) (k1 k2 tb : Tok) (rest : List (Addr × Obj)) (n : Nat) (s : Shared) : Prop
  | mk (h : Heap) (tk : Nat) (u : PySem.Str → Option Value) (ov : Value) (f : List UInt8) (p : Int) (tkp : Tok) (e0 : s = { s₀ with heap := h, toks := tk }) (e1 : Fr g L h (mL [(Str.ofString "source", .ref x), (Str.ofString "found", .ref fb), (Str.ofString "octet", ov)] u)) (e2 : News g L h ((fb, baObj f.toArray) :: (x, instObj 393 dx) :: (dx, srcD w k1 k2 wb tb p tkp) :: rest)) (e3 : ((n = 2 ∧ (∃ t, ov = .int 97 t) ∧ f = [] ∧ p = ((2 : Nat) : Int)) ∨ (n = 1 ∧ (∃ t, ov = .int 98 t) ∧ f = [97] ∧ p = ((3 : Nat) : Int)) ∨ (n = 0 ∧ ov = .none ∧ f = [97, 98] ∧ p = ((3 : Nat) : Int)))) : WrdI w s₀ g L x dx fb k1 k2 tb rest n s
theorem wrdI {w : World} {s₀ : Shared} {g : Heap} {L x dx fb : Addr} {k1 k2 tb : Tok} {rest : List (Addr × Obj)} {h : Heap} {tk : Nat} {u : PySem.Str → Option Value} {p : Int} {tkp : Tok} {ov : Value} {b : Array UInt8} (n : Nat) (f : List UInt8)
    (F : Fr g L h u) (h1 : u (Str.ofString "source") = some (.ref x)) (h2 : u (Str.ofString "found") = some (.ref fb)) (h3 : u (Str.ofString "octet") = some ov) (N : News g L h ((fb, baObj b) :: (x, instObj 393 dx) :: (dx, srcD w k1 k2 wb tb p tkp) :: rest)) (hb : b = f.toArray)
    (hc : (n = 2 ∧ (∃ t, ov = .int 97 t) ∧ f = [] ∧ p = ((2 : Nat) : Int)) ∨ (n = 1 ∧ (∃ t, ov = .int 98 t) ∧ f = [97] ∧ p = ((3 : Nat) : Int)) ∨ (n = 0 ∧ ov = .none ∧ f = [97, 98] ∧ p = ((3 : Nat) : Int))) : WrdI w s₀ g L x dx fb k1 k2 tb rest n { s₀ with heap := h, toks := tk } := by
  subst hb
  refine ⟨h, tk, u, ov, f, p, tkp, rfl, fr_mL F ?_, N, hc⟩
  simp only [List.forall_mem_cons, List.not_mem_nil, false_implies, implies_true, and_true]
  exact ⟨h1, h2, h3⟩
section
variable {w : World} {A : Around} {env : Env} {outer : List Env} {A₀ : Around} {base h₀ : Heap} {L : Addr} {m mg mb : PySem.Str → Option Value} {mean : ExcName → Option Value} {s : Shared} {Q E : Value → Shared → Prop} {news : List (Addr × Obj)} {g : Obj → List (Addr × Obj)}
  {x dx : Addr} {k1 k2 tb : Tok} {p : Int} {tk : Tok}
set_option maxRecDepth 100000 in
set_option maxHeartbeats 8000000 in
theorem word_P (C : Cx 370 300 w A env outer A₀ base h₀ L m mg mb mean s) (hg : A.guards = some []) (N : News h₀ L s.heap news) (hx : (x, instObj 393 dx) ∈ news) (U : UpdF dx (srcD w k1 k2 wb tb p tk) news g)
  (hp : p = ((1 : Nat) : Int))
  (ret : ∀ t h' tk' tk2 p', Fr h₀ L h' m → News h₀ L h' (g (srcD w k1 k2 wb tb p' tk')) → p' = ((3 : Nat) : Int) → Q (.bytes #[97, 98] t) { s with heap := h', toks := tk2 }) :
  wpP (model PR w) A (call (.ref 432) [.ref x]) Q E s := by
  obtain ⟨hh, hf, hdp, hu, hL, hk, B, F, X, T⟩ := C
  refine P_noE (deepenP 370 300 hh hf hg hdp hu ?_)
  obtain ⟨rest, Nc, hoff, back⟩ := canon N hx U
  have hne := src_ne Nc
  clear N hx U
  have hfit : wb.length ≤ 1000 := by decide
  have e1 : wb[1]? = some 97 := rfl
  have e2 : wb[1 + 1]? = some 98 := rfl
  have e3 : wb[3]? = none := rfl
  have e4 : wb[2]? = some 98 := rfl
  refine P_call ?_
  k_dflt ktr_enter
  refine P_cons (P_Assign (P_Call_Name (P_any ?_)))
  k_steps
  refine P_cons (P_while (WrdI w s ?g ?L x dx ?D k1 k2 tb rest) ?turn 2 ?init)
  case init =>
    exact wrdI 2 [] (by k_asm) (by exact rfl) (by exact rfl) (by exact rfl) (by k_asm) rfl (.inl ⟨rfl, ⟨_, rfl⟩, rfl, by assumption⟩)
  case turn =>
    intro n s1 I1
    obtain ⟨h1, tk1, u1, ov, f1, p1, tkp1, rfl, F1, N1, hc⟩ := I1
    dsimp only [mL] at F1
    obtain ⟨hoffb, hne1, hne2⟩ := off3 N1 hoff (by assumption)
    rcases hc with ⟨rfl, ⟨t, rfl⟩, rfl, hp1⟩ | ⟨rfl, ⟨t, rfl⟩, rfl, hp1⟩ | ⟨rfl, rfl, rfl, hp1⟩
    · have hz1 : ([] : List UInt8).toArray.size ≤ 1000 := by decide
      k_steps
      all_goals exact ⟨⟨1, by decide, wrdI 1 [97] (by k_asm) (by exact rfl) (by exact rfl) (by exact rfl) (by k_asm) (by decide) (.inr (.inl ⟨rfl, ⟨_, rfl⟩, rfl, by assumption⟩))⟩⟩
    · have hz1 : ([97] : List UInt8).toArray.size ≤ 1000 := by decide
      k_steps
      all_goals exact ⟨⟨0, by decide, wrdI 0 [97, 98] (by k_asm) (by exact rfl) (by exact rfl) (by exact rfl) (by k_asm) (by decide) (.inr (.inr ⟨rfl, rfl, rfl, hp1⟩))⟩⟩
    · have hz1 : ([97, 98] : List UInt8).toArray.size ≤ 1001 := by decide
      k_steps
      all_goals exact ret _ _ _ _ _ (by k_asm) (back _ _ (news_tail (by k_asm))) hp1
end
theorem ledger_nm {h₀ h : Heap} {L : Addr} {z y a b c d e f g : Addr × Obj} {rest : List (Addr × Obj)} (N : News h₀ L h (z :: y :: a :: b :: c :: d :: e :: f :: g :: rest)) : News h₀ L h (z :: a :: b :: rest) :=
  news_sub N fun p hp => by
    simp only [List.mem_cons] at hp ⊢
    rcases hp with h | h | h | h <;> simp [h]
section
variable {w : World} {A : Around} {env : Env} {outer : List Env} {A₀ : Around} {base h₀ : Heap} {L : Addr} {m mg mb : PySem.Str → Option Value} {mean : ExcName → Option Value} {s : Shared} {Q E : Value → Shared → Prop} {rest : List (Addr × Obj)}
  {sx sd mx : Addr} {kM tb : Tok}
set_option maxRecDepth 100000 in
set_option maxHeartbeats 8000000 in
theorem tokin_name (C : Cx 338 140 w A env outer A₀ base h₀ L m mg mb mean s) (hg : A.guards = some [])
  (N : News h₀ L s.heap ((sx, instObj 585 sd) :: (sd, dictOf [ent w (Str.ofString "memory") kM (.ref mx)] 1) :: rest)) (l1 : @LT.lt Nat _ sd sx)
  (ret : ∀ tu te th td h' tk2 a0 a1 a2 a3 t0 t1 t2, Fr h₀ L h' m → News h₀ L h' ((tu, tupObj [.ref th, .int 3 te]) :: (th, instObj 205 td) :: (td, dictOf [ent w (Str.ofString "kind") a0 (.str (Str.ofString "name") t0), ent w (Str.ofString "value") a1 (.bytes #[97, 98] t1), ent w (Str.ofString "is_exec") a2 (.bool false), ent w (Str.ofString "access") a3 (.int 3 t2)] 4) :: rest) → Q (.ref tu) { s with heap := h', toks := tk2 }) :
  wpP (model PR w) A (call (.ref 582) [.ref sx, .bytes wb.toArray tb]) Q E s := by
  obtain ⟨hh, hf, hdp, hu, hL, hk, B, F, X, T⟩ := C
  refine P_noE (deepenP 338 140 hh hf hg hdp hu ?_)
  have hfit : wb.length ≤ 1000 := by decide
  have hb0 : ∀ j, 0 ≤ j → j < 0 → wb[j]? = some 32 := fun j _ h => absurd h (Nat.not_lt_zero _)
  have he0 : wb[0]? = some 47 := rfl
  have hc0 : (47 : UInt8).toNat = 40 ∨ (47 : UInt8).toNat = 47 := .inr (by decide)
  have h00 : 0 ≤ 0 := Nat.le_refl 0
  have e1 : wb[0 + 1]? = some 97 := rfl
  have e2 : wb[1]? = some 97 := rfl
  refine P_call ?_
  k_dflt ktr_enter
  k_steps
  repeat (any_goals ((first | ((with_reducible show wpP _ _ (call (Value.ref 425) _) _ _ _); k_dflt (refine first_P (Cx.mk rfl rfl (Nat.le_of_ble_eq_true rfl) (Nat.le_of_ble_eq_true rfl) rfl rfl (by k_asm) (by k_asm) (by k_asm) (by k_asm)) rfl (by k_asm) (by k_mem) (by k_updF) (by first | assumption | rfl) (by assumption) (by assumption) (by assumption) (by assumption) (by assumption) ?_); intro t'z h'z tk'z tk2'z p'z F'z N'z hp'z; (try dsimp only at N'z); (try k_sweep)) | ((with_reducible show wpP _ _ (call (Value.ref 432) _) _ _ _); k_dflt (refine word_P (Cx.mk rfl rfl (Nat.le_of_ble_eq_true rfl) (Nat.le_of_ble_eq_true rfl) rfl rfl (by k_asm) (by k_asm) (by k_asm) (by k_asm)) rfl (by k_asm) (by k_mem) (by k_updF) (by first | assumption | (push_cast; omega) | omega) ?_); intro t'z h'z tk'z tk2'z p'z F'z N'z hp'z; (try dsimp only at N'z); (try k_sweep)) | ((with_reducible show wpP _ _ (call (Value.ref 488) _) _ _ _); k_dflt (refine P_any ?_)) | ((with_reducible show wpP _ _ (call (Value.ref 537) _) _ _ _); k_dflt (refine P_call ?_); k_dflt ktr_enter) | ((with_reducible show wpP _ _ (call (Value.ref 558) _) _ _ _); k_dflt (refine P_call ?_); k_dflt ktr_enter) | ((with_reducible show wpP _ _ (call (Value.ref 566) _) _ _ _); k_dflt (refine P_call ?_); k_dflt ktr_enter)); all_goals k_steps))
  refine P_cons (P_while (fun _ s' => s' = _) (fun n s1 e1 => ?_) 0 rfl)
  subst e1
  k_steps
  repeat (any_goals ((first | ((with_reducible show wpP _ _ (call (Value.ref 425) _) _ _ _); k_dflt (refine first_P (Cx.mk rfl rfl (Nat.le_of_ble_eq_true rfl) (Nat.le_of_ble_eq_true rfl) rfl rfl (by k_asm) (by k_asm) (by k_asm) (by k_asm)) rfl (by k_asm) (by k_mem) (by k_updF) (by first | assumption | rfl) (by assumption) (by assumption) (by assumption) (by assumption) (by assumption) ?_); intro t'z h'z tk'z tk2'z p'z F'z N'z hp'z; (try dsimp only at N'z); (try k_sweep)) | ((with_reducible show wpP _ _ (call (Value.ref 432) _) _ _ _); k_dflt (refine word_P (Cx.mk rfl rfl (Nat.le_of_ble_eq_true rfl) (Nat.le_of_ble_eq_true rfl) rfl rfl (by k_asm) (by k_asm) (by k_asm) (by k_asm)) rfl (by k_asm) (by k_mem) (by k_updF) (by first | assumption | (push_cast; omega) | omega) ?_); intro t'z h'z tk'z tk2'z p'z F'z N'z hp'z; (try dsimp only at N'z); (try k_sweep)) | ((with_reducible show wpP _ _ (call (Value.ref 488) _) _ _ _); k_dflt (refine P_any ?_)) | ((with_reducible show wpP _ _ (call (Value.ref 537) _) _ _ _); k_dflt (refine P_call ?_); k_dflt ktr_enter) | ((with_reducible show wpP _ _ (call (Value.ref 558) _) _ _ _); k_dflt (refine P_call ?_); k_dflt ktr_enter) | ((with_reducible show wpP _ _ (call (Value.ref 566) _) _ _ _); k_dflt (refine P_call ?_); k_dflt ktr_enter)); all_goals k_steps))
  subst_vars
  all_goals exact ret _ _ _ _ _ _ _ _ _ _ _ _ _ (by k_asm) (ledger_nm (by k_asm))
end
section
variable {w : World} {A : Around} {E : Value → Shared → Prop} {h : Heap} {g : Array GenState} {dr : Drawn} {t : Nat} {os : OsState} {e : Addr} {oe od : Obj} {v : Value}
theorem told_find (X : (hd.heap_39 w.params).In h) (I : InstAt h e oe 52 (some od)) (hl : lookIn (Str.ofString "told") od = some (some v)) : Looks (model PR w) h (Builtin.ObjectAttr.find (.ref e) (.ref 52) (Str.ofString "told")) (.value v) :=
  looks_find X I (findObj_own (K := hd.heap_39 w.params) (C := 52) (name := Str.ofString "told") (by k_is) (by k_is) (by k_is) hl)
theorem told_entry {tk : Tok} {Q : PySem.Fin → Shared → Prop} (X : (hd.heap_39 w.params).In h) (I : InstAt h e oe 52 (some od)) (hl : lookIn (Str.ofString "told") od = some (some v)) (hq : Q (.done (.ret v)) ⟨h, g, dr, t, os⟩) :
    wpAny (model PR w) A (Builtin.«object.__getattribute__» ⟨[.ref e, .str (Str.ofString "told") tk], []⟩) Q E ⟨h, g, dr, t, os⟩ := by
  have L0 := I.type (M := model PR w)
  have L1 := told_find X I hl
  unfold Builtin.«object.__getattribute__»
  repeat lk
  exact hq
theorem told_call {tk : Tok} {R : Result → Shared → Prop} (X : (hd.heap_39 w.params).In h) (I : InstAt h e oe 52 (some od)) (hl : lookIn (Str.ofString "told") od = some (some v)) (hq : R (.ok (.ret v)) ⟨h, g, dr, t, os⟩) :
    codeAny (model PR w) A (.call (.builtin "BaseException.__getattribute__") ⟨[.ref e, .str (Str.ofString "told") tk], []⟩) R ⟨h, g, dr, t, os⟩ := by
  have sub : Looks (model PR w) h (isInstance (.ref e) (.type "BaseException")) true := I.type.andThen (ps_subB X)
  exact codeAny_call_builtin PySem.F.attrBase_Exception.ga.plain PySem.F.entry_bexc_ga (@check_slot (model PR w) _ _ _ "BaseException.__getattribute__" "BaseException" "__getattribute__" (.ref e) [.str (Str.ofString "told") tk] [] _ (by decide +kernel) (by decide +kernel) sub (PySem.F.args_bexc_ga _ _) (told_entry X I hl hq))
theorem told_get {Q : Value → Shared → Prop} {expr : Bool} (X : (hd.heap_39 w.params).In h) (I : InstAt h e oe 52 (some od)) (hl : lookIn (Str.ofString "told") od = some (some v)) (hv : handedIn v = true) (hq : Q v ⟨h, g, dr, t + 1, os⟩) :
    wpAny (model PR w) A (getAttr (.ref e) (Str.ofString "told") expr) Q E ⟨h, g, dr, t, os⟩ := by
  have L0 := I.type (M := model PR w)
  have L1 : Looks (model PR w) h (typeLookup (.ref 52) "__getattribute__") (some (.builtin "BaseException.__getattribute__")) := looks_findIn X (by k_is)
  have L2 : Looks (model PR w) h (typeLookup (.ref 52) "__getattr__") none := looks_findIn X (by k_is)
  have f3 := PySem.F.attrBase_Exception.ga.bind (.ref e)
  have hx0 : (expr && onTheHeap (Value.builtin "BaseException.__getattribute__")) = false := by cases expr <;> rfl
  have hx2 : (Value.builtin "BaseException.__getattribute__" == Value.builtin "object.__getattribute__") = false := by decide +kernel
  unfold getAttr getAttrBy
  refine wpAny_bind (wpAny_mkText (wpAny_holding (wpAny_bind (L0.at (wpAny_bind (L1.at ?_))))))
  dsimp only
  rw [hx2, Bool.and_false, if_neg Bool.false_ne_true]
  unfold getAttrByItsOwn hookBefore
  rw [if_pos (show onTheHeap (.ref 52) = true from rfl)]
  refine wpAny_bind (L2.at (wpAny_bind (wpAny_attempt (wpAny_holding ?_))))
  unfold callGetattribute
  rw [hx0, if_neg Bool.false_ne_true]
  unfold boundAndCalled
  rw [f3]
  refine wpAny_bind (wpAny_pure ?_)
  dsimp only
  refine wpAny_call (told_call X I hl ?_)
  show wpAny _ _ (handedOut v) _ _ _
  rw [handedOut_of hv]
  exact wpAny_pure hq
theorem told_match {Q : Bool → Shared → Prop} (X : (hd.heap_39 w.params).In h) (he : h.get? e = some oe) (hc : oe.cls = .ref 52) (hq : Q true ⟨h, g, dr, t, os⟩) :
    wpAny (model PR w) A (excMatches (.ref e) (.ref 52)) Q E ⟨h, g, dr, t, os⟩ := by
  have L0 : Looks (model PR w) h (typeOf (.ref e)) (.ref 52) := hc ▸ (Looks.ld he).andThen .now
  have L1 : Looks (model PR w) h (isInstance (.ref 52) (.type "tuple")) false := looks_instIn X (by k_is)
  have L2 : Looks (model PR w) h (isExcClass (.ref 52)) true := Looks.of_peek X (by kernel_rfl)
  have L3 := ps_self X
  unfold excMatches
  refine wpAny_bind (L1.at ?_)
  simp only [Bool.false_eq_true, if_false, pure_bind, List.forIn_cons, List.forIn_nil, bind_assoc]
  refine wpAny_bind (L2.at ?_)
  simp only [Bool.not_true, Bool.false_eq_true, if_false, pure_bind]
  refine wpAny_bind (L0.at (wpAny_bind (L3.at ?_)))
  simp only [if_true, pure_bind]
  exact wpAny_pure hq
end
theorem same_up {g h h' : Heap} {L : Addr} (u : g.UpToSlots h) (hL : g.get? L = none) (hs : Heap.SameBut L h h') : g.UpToSlots h' := fun b o q nf => by
  obtain ⟨sl, q'⟩ := u b o q nf
  exact ⟨sl, (hs.2 b fun z => by rw [z, hL] at q; cases q).trans q'⟩
theorem same_stays {g h h' : Heap} {L : Addr} (u : g.StaysIn h) (hL : g.get? L = none) (hs : Heap.SameBut L h h') : g.StaysIn h' := fun b o q => (hs.2 b fun z => by rw [z, hL] at q; cases q).trans (u b o q)
theorem told_off {h : Heap} {L d : Addr} {m : PySem.Str → Option Value} {w : World} {k : Tok} {v o9 : Value} (n : h.Ns L m) (hm : m (Str.ofString "octets") = some o9) (t : Told h d (toldEs w k v)) : d ≠ L := by
  rintro rfl
  obtain ⟨o, es, ep, ho, hd, _, hf⟩ := n
  obtain ⟨n', sl, hd'⟩ := t
  rw [ho] at hd'
  cases hd'
  have := hf (Str.ofString "octets")
  rw [hm] at this
  cases hd
  rw [show nsFind (toldEs w k v).toArray (Str.ofString "octets") = none from by kernel_rfl] at this
  cases this
section
variable {w : World} {A : Around} {E : Value → Shared → Prop} {s : Shared} {base g : Heap} {outer : List Env} {L a e d : Addr} {m mg mb : PySem.Str → Option Value} {mean : ExcName → Option Value} {name : PySem.Str} {scope : Scope} {cd v o9 : Value} {k : Tok} {Q : Flow → Shared → Prop}
  {p1 p2 p3 p4 p5 pos : Pos} {rest : List ExceptHandler}
theorem catch_ps (R : Flown base (envOf name scope L a cd :: outer) g L m e d (toldEs w k v) s.heap) (hA : A.frames = some (envOf name scope L a cd :: outer))
    (XB : (hd.heap_39 w.params).In base) (TB : Top hd.view_39 Lo mean mg mb base) (ab : base.objs.size ≤ L) (hm : m (Str.ofString "octets") = some o9) (hv : handedIn v = true) (hgL : g.get? L = none)
    (h : ∀ h' tk' x, base.StaysIn h' → g.UpToSlots h' → Fr base L h' (fun y => if y = Str.ofString "e" then x else if y = Str.ofString "found" then some v else if y = Str.ofString "e" then some (.ref e) else m y) → Q .next { s with heap := h', toks := tk' })
    (hk : scope.kind = .function := by rfl) (hP : (envOf name scope L a cd).kindOf (Str.ofString "PsError") = some .globalImplicit := by rfl) (hE : (envOf name scope L a cd).kindOf (Str.ofString "e") = some .local := by rfl) (hF : (envOf name scope L a cd).kindOf (Str.ofString "found") = some .local := by rfl) :
    wpAny (model PR w) A (noteFrame (.ref e) (envOf name scope L a cd)) (fun _ s₂ => wpAny (model PR w) A (setFlight (.ref e) none) (fun _ s₃ => wpAny (model PR w) A (handleBy (.ref e) (envOf name scope L a cd)
      (.ExceptHandler (some (.Name (Str.ofString "PsError") p1)) (some (Str.ofString "e")) [.Assign [.Name (Str.ofString "found") p2] (.Attribute (.Name (Str.ofString "e") p3) (Str.ofString "told") p4) p5] pos :: rest)) Q E s₃) E s₂) E s := by
  have hp : ((envOf name scope L a cd).scope.kind == .class || ((envOf name scope L a cd).scope.kind == .module && (envOf name scope L a cd).locals != (envOf name scope L a cd).globals)) = false := by
    show (scope.kind == .class || (scope.kind == .module && L != mainGlobals)) = false; rw [hk]; rfl
  have hbL : base.get? L = none := Heap.get?_none_of_le ab
  obtain ⟨hh, gg, dr, tk, os⟩ := s
  refine note_ps hA R.frames rfl R.stays R.fresh (.inr R.exc) fun h₂ s2 f2 x2 u2 => ?_
  refine unflight_ps s2 f2 x2 fun h₃ s3 f3 x3 u3 => ?_
  have F3 : Fr base L h₃ m := ⟨(u2.trans u3).ns R.ns, s3, ab⟩
  refine wpAny_handleBy_cons (codeAny_handlers_test ?_) (by intro q; cases q)
  refine name_K F3 XB (topRead_of TB) (by k_is) ?_ hk hP
  obtain ⟨oe3, vs3, T3, oT3, ts3, he3, hcd3, hd3, h13, _⟩ := id x3
  refine told_match (XB.keeps s3) he3 hcd3.1 ?_
  dsimp only
  simp only [if_true]
  refine codeAny_handlers_suite_as ?_
  refine unflight_ps s3 f3 x3 fun h₄ s4 f4 x4 u4 => ?_
  have up4 : g.UpToSlots h₄ := ((R.up.trans u2).trans u3).trans u4
  have n4 : h₄.Ns L m := ((u2.trans u3).trans u4).ns R.ns
  have t4 := (((R.told.up u2).up u3).up u4)
  have doff := told_off n4 hm t4
  obtain ⟨oe, vs, T, oT, ts, he, hcd, hdd, h1, _⟩ := id x4
  have eoff : e ≠ L := by
    rintro rfl
    obtain ⟨o, es, ep, ho, hdo, _⟩ := n4
    rw [ho] at he; cases he
    rw [hdo] at hdd; cases hdd
  refine wpAny_storeName_local hE n4 (fun h₅ n5 sb5 => ?_) hp
  refine wpAny_execs_cons (wpAny_Assign_Name (Attribute_name ?_) rfl)
  have F5 : Fr base L h₅ (fun y => if y = Str.ofString "e" then some (.ref e) else m y) := ⟨n5, same_stays s4 hbL sb5, ab⟩
  refine ld F5 (by rfl) ?_ hk hE
  obtain ⟨nn, sl, hdt⟩ := t4
  have I : InstAt h₅ e oe 52 (some { dictOf (toldEs w k v) nn with slots := sl }) := by
    refine ⟨(sb5.2 e eoff).trans he, hcd.1, ?_, ?_⟩
    · unfold notCls; rw [hdd]
    · rw [hcd.2]; exact (sb5.2 d doff).trans hdt
  refine told_get (XB.keeps F5.keep) I (by kernel_rfl) hv ?_
  refine wpAny_storeName_local hF n5 (fun h₆ n6 sb6 => ?_) hp
  refine wpAny_execs_nil ?_
  refine wpAny_nameGoes_keeps hE n6 hp fun h₇ x n7 sb7 => ?_
  have sb : Heap.SameBut L h₄ h₇ := (sb5.trans sb6).trans sb7
  exact h h₇ _ x (same_stays s4 hbL sb) (same_up up4 hgL sb) ⟨n7, same_stays s4 hbL sb, ab⟩
end
section
variable {prog : Program} {w : World} {A : Around} {E : Value → Shared → Prop} {s : Shared} {h₀ : Heap} {L : Addr} {m : PySem.Str → Option Value} {news : List (Addr × Obj)} {b : Array UInt8} {x : Addr} {value slice : PySem.Expr} {Q : Value → Shared → Prop} {u0 u1 : Tok} {n : Nat}
theorem ba_slice_K (hF : Fr h₀ L s.heap m) (hN : News h₀ L s.heap news) (hm : (x, baObj b) ∈ news) (hn : n = b.size) (hz : b.size ≤ 1001)
    (h : ∀ D h', Fr h₀ L h' m → News h₀ L h' ((D, baObj b) :: news) → (∀ p ∈ news, p.1 < D) → Q (.ref D) { s with heap := h' })
    (hs : subscripted slice false (.ref x) (.ref s.heap.objs.size) = operate [.ref s.heap.objs.size, .ref x] (getItem (.ref x) (.ref s.heap.objs.size)) := by with_unfolding_all rfl)
    (ht : ∀ r, letTemporaryGo value (.ref x) r = pure () := by intro _; with_unfolding_all rfl) :
    wpAny (model prog w) A (subscriptTail value slice (.ref x) (.ref s.heap.objs.size)) Q E { s with heap := s.heap.push { cls := .type "slice", data := .fields #[.int 0 u0, .int n u1, .none] } } := by
  have F1 := hF.push { cls := .type "slice", data := .fields #[.int 0 u0, .int n u1, .none] }
  have N1 : News h₀ L (s.heap.push { cls := .type "slice", data := .fields #[.int 0 u0, .int n u1, .none] }) news := News.pushKeep hN _
  have ho := (N1 _ hm).1
  have hT : ({ s with heap := s.heap.push { cls := .type "slice", data := .fields #[.int 0 u0, .int n u1, .none] } } : Shared).TypeIs (.ref x) "bytearray" := ⟨_, ho, rfl⟩
  refine tail_of_ItemOn ⟨"bytearray", _, F.ba_getitem.lookup, hT, ?_⟩ hs ht
  refine wpAny_getItem_slot hT (by decide) F.ba_getitem ?_
  refine wpAny_call (codeAny_call_builtin F.ba_getitem.plain F.ba_entry_getitem (F.ba_getitem.check _ _ _ _ _ _ _ _ hT (F.ba_args_getitem _ _) ?_))
  refine ba_meets_slice (A := A) (x := x) (R := fun r s' => match r with | .ok (.ret v) => Q v s' | .ok _ => False | .error e => E e s') (s := { s with heap := s.heap.push { cls := .type "slice", data := .fields #[.int 0 u0, .int n u1, .none] } }) s.heap.objs.size hn hz ho (Heap.IsSliceOf.new s.heap _ _ _) ?_
  exact h _ _ (F1.push _) (N1.push F1 _) (fun p hp => Heap.lt_size (N1 p hp).1)
end
local macro_rules | `(tactic| walk_at "subscriptTail") => `(tactic| (k_here; (with_reducible show wpAny _ _ (subscriptTail _ _ (Value.ref _) (Value.ref _)) _ _ _); k_dflt (refine ba_slice_K (by k_asm) (by k_asm) (by k_mem) (by first | rfl | (simp; done) | (simp; omega)) (by assumption) ?_); intro D' h' F' N' l1; (try k_lt l1); (try k_sweep)))
section
variable {w : World} {A : Around} {env : Env} {outer : List Env} {A₀ : Around} {base h₀ : Heap} {L : Addr} {m mg mb : PySem.Str → Option Value} {mean : ExcName → Option Value} {s : Shared} {Q E : Value → Shared → Prop} {kept : List (Addr × Obj)}
  {sp spd tx txd ob : Addr} {r : List UInt8} {d0 d1 d2 d3 b0 b1 b2 t2 t3 : Tok} {v0 v2 v3 : Value}
set_option maxRecDepth 100000 in
set_option maxHeartbeats 8000000 in
theorem ospan (C : Cx 370 300 w A env outer A₀ base h₀ L m mg mb mean s)
  (N : News h₀ L s.heap ((sp, instObj 268 spd) :: (spd, dictOf (spanEs w tx r.length b0 b1 b2 t2 t3) 3) :: (tx, instObj 226 txd) :: (txd, dictOf (textEs w ob d0 d1 d2 d3 v0 v2 v3) 4) :: (ob, baObj r.toArray) :: kept)) (hz : r.toArray.size ≤ 1001)
  (ret : ∀ t h' tk2, Fr h₀ L h' m → News h₀ L h' ((sp, instObj 268 spd) :: (spd, dictOf (spanEs w tx r.length b0 b1 b2 t2 t3) 3) :: (tx, instObj 226 txd) :: (txd, dictOf (textEs w ob d0 d1 d2 d3 v0 v2 v3) 4) :: (ob, baObj r.toArray) :: kept) → Q (.bytes r.toArray t) { s with heap := h', toks := tk2 }) :
  wpAny (model PR w) A (call (.ref 353) [.ref sp]) Q E s := by
  obtain ⟨hh, hf, hdp, hu, hL, hk, B, F, X, T⟩ := C
  refine deepen 370 300 hh hf hdp hu ?_
  have hr9 : (r.length : Int) ≤ 1001 := by rw [List.size_toArray] at hz; omega
  refine wpAny_call ?_
  k_dflt ktr_enter
  k_steps
  all_goals exact ret _ _ _ (by k_asm) (news_tail (by k_asm))
end
/-- a return: the frames below stand as they stood, or what is wanted is shown at once (behind a caught exception) -/
structure LeaveE (h₀ : Heap) (L : Addr) (m : PySem.Str → Option Value) (g : Heap) (R : Result → Shared → Prop) (v : Value) (s' : Shared) : Prop where
  out : LeaveK h₀ L m g R v s' ∨ R (.ok (.ret v)) s'
section
variable {prog : Program} {w : World} {A A₀ : Around} {s : Shared} {h₀ base : Heap} {L : Addr} {m : PySem.Str → Option Value} {news : List (Addr × Obj)} {K : Frag} {p : Program} {loose : List PySem.Str} {mean : ExcName → Option Value} {mg mb : PySem.Str → Option Value}
theorem P_def2 {env : Env} {outer : List Env} {R : Result → Shared → Prop} {name qual : PySem.Str} {params : Arguments} {body : List Stmt} {scope : Scope} {dV kV doc pm cdv ct oc : Value} {an od : Option Addr} {osl : Array (Option Value)} {f : Addr} {args : Args} {binds : List (PySem.Str × Value)}
    (B : Below A₀ base outer h₀) (F : Fr h₀ L s.heap m) (X₀ : K.In h₀) (N : News h₀ L s.heap news) (T : Top p loose mean mg mb h₀) (hA : A.frames = some (env :: outer)) (hf : env.frame = some L) (hke : env.scope.kind = .function)
    (ho : K.lookup f = some ⟨oc, od, .func (fnOf name qual params body scope dV kV doc pm an cdv ct), osl⟩) (hcd : codeIn K cdv qual = true) (hroom : A.depth < recursionLimit)
    (hbind : BindsTo s (fnOf name qual params body scope dV kV doc pm an cdv ct) args binds) (hloc : ∀ y ∈ binds, scope.names.lookup y.1 = some .local)
    (h : ∀ g L' h₁, Fr h₀ L g m → Fr g L' h₁ (fun y => binds.reverse.lookup y) → News g L' h₁ news → Below A base (env :: outer) g → K.In g → Top p loose mean mg mb g →
      wpP (model prog w) (A.deeper (envOf qual scope L' f cdv)) (execs body (envOf qual scope L' f cdv))
        (fun fl s' => LeaveE h₀ L m g R (match fl with | .ret v => v | _ => .none) s')
        (fun e s' => wpAny (model prog w) (A.deeper (envOf qual scope L' f cdv)) (leaving (envOf qual scope L' f cdv) e) (fun _ s'' => R (.error e) s'') (fun e' s'' => R (.error e') s'') s')
        { s with heap := h₁, toks := s.toks + binds.length })
    (hco : scope.isCoroutine = false) (hgen : scope.isGenerator = false) (hk : scope.kind = .function) (hcell : ∀ x ∈ scope.names, x.2 ≠ .cell) : codeP (model prog w) A (.call (.ref f) args) R s := by
  have X := X₀.keeps F.keep
  obtain ⟨FG, BG, st, lv⟩ := groundX (R := R) B F N hA hf hke
  refine P_call_fn hroom (X _ _ ho) rfl hco hgen rfl (codeRec_of X hcd) (hbind _ _ _ _ ?_)
  refine wpAny_newFunctionEnv hcell hloc (fun h₁ hns hsb => ⟨(T.nolimit.keeps F.keep).fresh _ hsb, ?_⟩) hk
  refine P_func (P_mono (h _ s.heap.objs.size h₁ FG ⟨hns, fun b o e => hsb.extBut b o (Nat.ne_of_lt (Heap.lt_size (of_hideAll _ e))) (Heap.get?_push_of_some _ (of_hideAll _ e)), Nat.le_of_eq (hideAll_size _ _)⟩
    (fun q hq => ⟨hsb.extBut _ _ (Nat.ne_of_lt (Heap.lt_size (N q hq).1)) (Heap.get?_push_of_some _ (N q hq).1), Nat.ne_of_lt (Heap.lt_size (N q hq).1), hideAll_none _ (List.mem_map_of_mem hq)⟩) BG (X₀.keeps st) (T.keeps st)) (fun fl s' hl => hl.out.elim (lv _ _) id) fun _ _ y => y)
end
local macro_rules | `(tactic| ktr_rel) => `(tactic| (refine' P_def2 ?k1 ?k2 ?k3 ?k4 ?k5 ?kA ?kF ?kK ?k6 ?k7 ?k8 ?k9 ?kB ?_ ?c2 ?c3 ?c4 ?c5; (case kA => exact rfl); (case kF => first | assumption | exact rfl); (case kK => first | assumption | exact rfl); (case k1 => k_asm); (case k2 => k_asm); (case k3 => k_asm); (case k4 => k_asm); (case k5 => k_asm); (case k6 => k_is); (case k7 => k_is); (case k8 => k_room); (case k9 => first | exact BindsTo.of_eq rfl | exact binds_K (by k_in) rfl (by k_is) rfl rfl rfl); (case c5 => decide); (case kB => exact locs rfl); (case c2 => exact rfl); (case c3 => exact rfl); (case c4 => exact rfl); k_whole; intro g' L' h' FG' F' N' B' X' T'; (try dsimp only); (try k_fold)))
theorem off_low {ld md mdd : Addr} {rest : List (Addr × Obj)} (h : ∀ p ∈ rest, p.1 < ld) (l : @LT.lt Nat _ ld md ∧ @LT.lt Nat _ ld mdd) : OwnOff rest [md, mdd] := by
  intro p hp q hq
  have hl := h p hp
  have hq' : q = md ∨ q = mdd := by simpa using hq
  rcases hq' with rfl | rfl
  · exact Nat.ne_of_lt (Nat.lt_trans hl l.1)
  · exact Nat.ne_of_lt (Nat.lt_trans hl l.2)
theorem ledger_span {h₀ h : Heap} {L : Addr} {z a b c d e f g : Addr × Obj} {rest : List (Addr × Obj)} (N : News h₀ L h (z :: a :: b :: c :: d :: e :: f :: g :: rest)) : News h₀ L h (c :: d :: e :: f :: g :: z :: a :: b :: rest) :=
  news_sub N fun p hp => by
    simp only [List.mem_cons] at hp ⊢
    rcases hp with h | h | h | h | h | h | h | h | h <;> simp [h]
local macro_rules | `(tactic| walk_at "call ref") => `(tactic| (k_here; (with_reducible show wpAny _ _ (call (Value.ref 353) _) _ _ _); k_dflt (refine ospan (Cx.mk rfl rfl (Nat.le_of_ble_eq_true rfl) (Nat.le_of_ble_eq_true rfl) rfl rfl (by k_asm) (by k_asm) (by k_asm) (by k_asm)) (by first | k_asm | exact ledger_span (by k_asm)) (by assumption) ?_); intro t' h' tk2' F' N'; (try k_sweep)))
theorem below_size {base h₀ g h : Heap} {L L' : Addr} {m m' : PySem.Str → Option Value} (hsz : base.objs.size ≤ h₀.objs.size) (F : Fr g L' h m') (FG : Fr h₀ L g m) : base.objs.size ≤ L' :=
  Nat.le_trans hsz (Nat.le_trans FG.above (Nat.le_trans (Nat.le_of_lt FG.ns.lt) F.above))
theorem ledger_mem {h₀ h : Heap} {L : Addr} {f c j : Addr × Obj} {l : List (Addr × Obj)} (N : News h₀ L h (f :: c :: j :: l)) : News h₀ L h (c :: l) :=
  news_sub N fun p hp => by
    rcases List.mem_cons.mp hp with rfl | hp
    · exact .tail _ (.head _)
    · exact .tail _ (.tail _ (.tail _ hp))
section
variable {w : World} {A : Around} {env : Env} {outer : List Env} {A₀ : Around} {base h₀ : Heap} {L : Addr} {m mg mb : PySem.Str → Option Value} {mean : ExcName → Option Value} {s : Shared} {Q E : Value → Shared → Prop} {news : List (Addr × Obj)} {lx : Addr}
set_option maxRecDepth 100000 in
set_option maxHeartbeats 8000000 in
theorem memory_new (C : Cx 360 250 w A env outer A₀ base h₀ L m mg mb mean s) (N : News h₀ L s.heap news)
  (ret : ∀ mx md sv jr mdd fr om h' tk2 n0 n1 n2 n3 n4 n5 n6 n7 n8 n9 t6 t7 t8 t9, Fr h₀ L h' m → News h₀ L h' ((mdd, om) :: (sv, W.listOf #[] 0) :: (mx, instObj 888 md) :: (md, dictOf (memEs w lx sv jr mdd fr n0 n1 n2 n3 n4 n5 n6 n7 n8 n9 t6 t7 t8 t9) 10) :: news) →
    Obj.IsDictOf (strKind PR w) om [] → Obj.IsDictOf (intKind PR w) om [] → (mdd == sysModules) = false → (∀ p ∈ news, p.1 < md) → @LT.lt Nat _ md mx → @LT.lt Nat _ mx sv → @LT.lt Nat _ sv mdd → Q (.ref mx) { s with heap := h', toks := tk2 }) :
  wpAny (model PR w) A (call (.ref 888) [.ref lx]) Q E s := by
  obtain ⟨hh, hf, hdp, hu, hL, hk, B, F, X, T⟩ := C
  refine noE (deepen 360 250 hh hf hdp hu ?_)
  k_dflt (refine' call_cls ?k1 ?k2 ?k3 ?k4 ?k5 ?k6 ?_; (case k1 => k_asm); (case k2 => k_asm); (case k3 => k_asm); (case k4 => k_is); (case k5 => k_is); (case k6 => k_is); k_whole; intro x' d' h' F' N' l1 l2; (have l1' := l1); (try k_lt l1); (try k_lt2 l2); (try k_sweep))
  k_dflt ktr_enter
  k_steps
  all_goals exact ret _ _ _ _ _ _ _ _ _ _ _ _ _ _ _ _ _ _ _ _ _ _ _ (by k_asm) (ledger_mem (by k_asm)) (by assumption) (by assumption) (by assumption) (by assumption) (by walk_at "lts") (by walk_at "lts") (by walk_at "lts")
end
local macro_rules | `(tactic| walk_at "call ref") => `(tactic| (k_here; (with_reducible show wpAny _ _ (call (Value.ref 888) _) _ _ _); k_dflt (refine memory_new (Cx.mk rfl rfl (Nat.le_of_ble_eq_true rfl) (Nat.le_of_ble_eq_true rfl) rfl rfl (by k_asm) (by k_asm) (by k_asm) (by k_asm)) (by k_asm) ?_; intro mx' md' sv' _ dd' _ om' h' tk2' _ _ _ _ _ _ _ _ _ _ _ _ _ _ F' N' hs' hi' lo' l1 l2 l3 l4; (try k_lt l1)); (try k_sweep)))
section
variable {w : World} {A : Around} {env : Env} {outer : List Env} {A₀ : Around} {base h₀ : Heap} {L : Addr} {m mg mb : PySem.Str → Option Value} {mean : ExcName → Option Value} {s : Shared} {Q E : Value → Shared → Prop} {news : List (Addr × Obj)} {bl : List UInt8} {tb : Tok}
set_option maxRecDepth 100000 in
set_option maxHeartbeats 8000000 in
theorem told_P (C : Cx 330 100 w A env outer A₀ base h₀ L m mg mb mean s) (hg : A.guards = some []) (N : News h₀ L s.heap news) (XB : (hd.heap_39 w.params).In base) (TB : Top hd.view_39 Lo mean mg mb base) (hsz : base.objs.size ≤ h₀.objs.size) (hfit : bl.length ≤ 900) (he : bl[0]? = some 40)
  (ret0 : rdK bl (bl.length + 1) 1 [] 1 = none → ∀ t h' tk2, base.StaysIn h' → h'.Ns L m → Q (.bytes synB t) { s with heap := h', toks := tk2 })
  (ret1 : ∀ r e, rdK bl (bl.length + 1) 1 [] 1 = some (r, e) → ∀ tu h' tk2 t0 t1 t2 t3, Fr h₀ L h' m → News h₀ L h' ((tu, tupObj [.str (Str.ofString "string") t0, .bytes r.toArray t1, .bool false, .int 3 t2, .int (e : Nat) t3]) :: news) → Q (.ref tu) { s with heap := h', toks := tk2 }) :
  wpP (model PR w) A (call (.ref 945) [.bytes bl.toArray tb, .bool false]) Q E s := by
  obtain ⟨hh, hf, hdp, hu, hL, hk, B, F, X, T⟩ := C
  refine deepenP 330 100 hh hf hg hdp hu ?_
  refine P_call ?_
  k_dflt ktr_rel
  k_steps
  k_dflt (refine tokin_open (e0 := 0) (rest := news) (Cx.mk rfl rfl (Nat.le_of_ble_eq_true rfl) (Nat.le_of_ble_eq_true rfl) rfl rfl (by k_asm) (by k_asm) (by k_asm) (by k_asm)) rfl (news_tail (by k_asm)) (by assumption) (by assumption) (by assumption) (by refine ⟨?_, ?_, ?_, ?_, ?_, ?_, ?_⟩ <;> first | walk_at "lts" | omega) (off_low (by assumption) (by refine ⟨?_, ?_⟩ <;> first | walk_at "lts" | omega)) hfit (fun j _ h => absurd h (Nat.not_lt_zero _)) he (fun hc' e' d' k' t' h' tk2' R' => ?_) ?_)
  · k_steps
    k_dflt (refine catch_ps (by assumption) rfl XB TB (below_size hsz (by assumption) (by assumption)) (by rfl) rfl (by exact Heap.get?_none_of_le (Fr.above (by assumption))) ?_; intro h' tk' x' st' up' F')
    k_steps
    all_goals exact ⟨.inr (ret0 hc' _ _ _ st' (up'.ns (Fr.ns (by assumption))))⟩
  · intro r' e2' hr' x0 x1 x2 x3 x4 x5 x6 x7 x8 x9 x10 x11 x12 x13 x14 x15 x16 x17 x18 x19 x20 x21 x22 x23 x24 x25 x26 x27 x28 F' N'
    have hlen := rdK_len hr'
    have hz9 : r'.toArray.size ≤ 1001 := by rw [List.size_toArray]; simp at hlen; omega
    k_steps
    all_goals exact ⟨.inl (leaveK_ (by k_asm) (by k_asm) fun kF kN => ret1 _ _ hr' _ _ _ _ _ _ _ kF (news_sub kN (by intro p hp; rcases List.mem_cons.mp hp with rfl | hp; exact List.Mem.head _; repeat (first | exact hp | apply List.mem_cons_of_mem))))⟩
end
theorem picked_from {bl : List UInt8} {e : Nat} (he : e ≤ bl.length) : KBy.picked bl.toArray (some (e : Int)) none = (bl.drop e).toArray := by
  have c1 : clipAt bl.length (e : Int) = e := by unfold clipAt; split <;> omega
  rw [KBc.picked_eq]
  simp only [Option.elim, List.size_toArray, c1]
  rw [List.take_of_length_le (by simp)]
theorem by_from_K {prog : Program} {w : World} {A : Around} {E : Value → Shared → Prop} {s : Shared} {h₀ : Heap} {L : Addr} {m : PySem.Str → Option Value} {news : List (Addr × Obj)} {value slice : PySem.Expr} {Q : Value → Shared → Prop} {t u0 : Tok} {bl : List UInt8} {e : Nat}
    (hF : Fr h₀ L s.heap m) (hN : News h₀ L s.heap news) (hz : bl.length ≤ 1000) (hw : bl.drop e = wb)
    (h : ∀ h' t' k, Fr h₀ L h' m → News h₀ L h' news → Q (.bytes wb.toArray t') { s with heap := h', toks := k })
    (hs : subscripted slice false (.bytes bl.toArray t) (.ref s.heap.objs.size) = operate [.ref s.heap.objs.size, .bytes bl.toArray t] (getItem (.bytes bl.toArray t) (.ref s.heap.objs.size)) := by with_unfolding_all rfl)
    (ht : ∀ r, letTemporaryGo value (.bytes bl.toArray t) r = pure () := by intro _; with_unfolding_all rfl) :
    wpAny (model prog w) A (subscriptTail value slice (.bytes bl.toArray t) (.ref s.heap.objs.size)) Q E { s with heap := s.heap.push { cls := .type "slice", data := .fields #[.int (e : Nat) u0, .none, .none] } } := by
  have hle : e ≤ bl.length := by
    have : (bl.drop e).length = 3 := by rw [hw]; rfl
    rw [List.length_drop] at this
    omega
  refine KBc.slice_K (lo := some (e : Int)) (hi := none) hF hN rfl (by constructor) (by constructor) (by rw [KBw.ints_length, List.size_toArray]; omega) (fun h' t' k F' N' _ => ?_) hs ht
  rw [picked_from hle, hw]
  exact h h' t' k F' N'
theorem zero_of {bl : List UInt8} (h : bl[0]? = some 32) : ∀ j, 0 ≤ j → j < 1 → bl[j]? = some 32 := fun j _ hj => by
  obtain rfl : j = 0 := by omega
  exact h
theorem news_front2 {h₀ h : Heap} {L : Addr} {a b : Addr × Obj} {l : List (Addr × Obj)} (N : News h₀ L h l) (ha : a ∈ l) (hb : b ∈ l) : News h₀ L h (a :: b :: l) :=
  news_sub N fun p hp => by
    rcases List.mem_cons.mp hp with rfl | hp
    · exact ha
    rcases List.mem_cons.mp hp with rfl | hp
    · exact hb
    · exact hp
local macro_rules | `(tactic| walk_at "subscriptTail") => `(tactic| (k_here; (with_reducible show wpAny _ _ (subscriptTail _ (Expr.Slice _ none none _) (Value.bytes _ _) (Value.ref _)) _ _ _); refine Halt.h ?_))
section
variable {w : World} {A : Around} {env : Env} {outer : List Env} {A₀ : Around} {base h₀ : Heap} {L : Addr} {m mg mb : PySem.Str → Option Value} {mean : ExcName → Option Value} {s : Shared} {Q E : Value → Shared → Prop} {news : List (Addr × Obj)} {bl r : List UInt8} {tb : Tok} {e : Nat}
set_option maxRecDepth 100000 in
set_option maxHeartbeats 8000000 in
theorem told1_P (C : Cx 330 100 w A env outer A₀ base h₀ L m mg mb mean s) (hg : A.guards = some []) (N : News h₀ L s.heap news) (hfit : bl.length ≤ 900) (he0 : bl[0]? = some 32) (he : bl[1]? = some 40)
  (hr : rdK bl (bl.length + 1) 2 [] 1 = some (r, e)) (hw : bl.drop e = wb)
  (ret : ∀ tu h' tk2 t0 t1 t2 t3 t4 t5 t6, Fr h₀ L h' m → News h₀ L h' ((tu, tupObj [.str (Str.ofString "string") t0, .bytes r.toArray t1, .bool false, .int 3 t2, .int (e : Nat) t3, .str (Str.ofString "name") t4, .bytes #[97, 98] t5, .int 3 t6]) :: news) → Q (.ref tu) { s with heap := h', toks := tk2 }) :
  wpP (model PR w) A (call (.ref 945) [.bytes bl.toArray tb, .bool true]) Q E s := by
  obtain ⟨hh, hf, hdp, hu, hL, hk, B, F, X, T⟩ := C
  refine deepenP 330 100 hh hf hg hdp hu ?_
  have hfit1 : bl.length ≤ 1000 := by omega
  refine P_call ?_
  k_dflt ktr_rel
  k_steps
  repeat (any_goals ((with_reducible refine Halt.mk ?_; first | (k_here; (with_reducible show wpAny _ _ (subscriptTail _ (Expr.Slice _ none none _) (Value.bytes _ _) (Value.ref _)) _ _ _); k_dflt (refine by_from_K (by k_asm) (by k_asm) (by assumption) (by assumption) ?_); intro h'z t'z k'z F'z N'z; (try k_sweep))); all_goals k_steps))
  k_dflt (refine tokin_open (e0 := 1) (rest := news) (Cx.mk rfl rfl (Nat.le_of_ble_eq_true rfl) (Nat.le_of_ble_eq_true rfl) rfl rfl (by k_asm) (by k_asm) (by k_asm) (by k_asm)) rfl (news_tail (by k_asm)) (by assumption) (by assumption) (by assumption) (by refine ⟨?_, ?_, ?_, ?_, ?_, ?_, ?_⟩ <;> first | walk_at "lts" | omega) (off_low (by assumption) (by refine ⟨?_, ?_⟩ <;> first | walk_at "lts" | omega)) hfit (zero_of he0) he (fun hc' e' d' k' t' h' tk2' R' => ?_) ?_)
  · rw [hr] at hc'; cases hc'
  · intro r' e2' hr' x0 x1 x2 x3 x4 x5 x6 x7 x8 x9 x10 x11 x12 x13 x14 x15 x16 x17 x18 x19 x20 x21 x22 x23 x24 x25 x26 x27 x28 F' N'
    have hlen := rdK_len hr'
    have hz9 : r'.toArray.size ≤ 1001 := by rw [List.size_toArray]; simp at hlen; omega
    rw [hr] at hr'
    cases hr'
    k_steps
    repeat (any_goals ((with_reducible refine Halt.mk ?_; first | (k_here; (with_reducible show wpAny _ _ (subscriptTail _ (Expr.Slice _ none none _) (Value.bytes _ _) (Value.ref _)) _ _ _); k_dflt (refine by_from_K (by k_asm) (by k_asm) (by assumption) (by assumption) ?_); intro h'z t'z k'z F'z N'z; (try k_sweep))); all_goals k_steps))
    k_dflt (refine tokin_name (Cx.mk rfl rfl (Nat.le_of_ble_eq_true rfl) (Nat.le_of_ble_eq_true rfl) rfl rfl (by k_asm) (by k_asm) (by k_asm) (by k_asm)) rfl (news_front2 (by k_asm) (by k_mem) (by k_mem)) (by omega) ?_; intro y0 y1 y2 y3 y4 y5 y6 y7 y8 y9 y10 y11 y12 F' N')
    k_steps
    repeat (any_goals ((with_reducible refine Halt.mk ?_; first | (k_here; (with_reducible show wpAny _ _ (subscriptTail _ (Expr.Slice _ none none _) (Value.bytes _ _) (Value.ref _)) _ _ _); k_dflt (refine by_from_K (by k_asm) (by k_asm) (by assumption) (by assumption) ?_); intro h'z t'z k'z F'z N'z; (try k_sweep))); all_goals k_steps))
    all_goals exact ⟨.inl (leaveK_ (by k_asm) (by k_asm) fun kF kN => ret _ _ _ _ _ _ _ _ _ _ kF (news_sub kN (by intro p hp; rcases List.mem_cons.mp hp with rfl | hp; exact List.Mem.head _; repeat (first | exact hp | apply List.mem_cons_of_mem))))⟩
end
noncomputable def isLF (bl : List UInt8) (j : Nat) : Bool := match bl[j]? with
  | none => false
  | some c => decide (c.toNat = 10)
theorem skip_lf {bl : List UInt8} {j : Nat} : skipK bl j = j + (if isLF bl j = true then 1 else 0) := by
  unfold skipK isLF
  split <;> simp_all
  split <;> simp_all
theorem take1 {bl : List UInt8} {j : Nat} : (bl.drop j).take 1 = match bl[j]? with | none => [] | some c => [c] := by
  rcases h : bl[j]? with _ | c
  · have := List.getElem?_eq_none_iff.mp h
    simp [List.drop_of_length_le this]
  · have hlt := in_bytes h
    rw [List.drop_eq_getElem_cons hlt]
    simp only [List.take_succ_cons, List.take_zero]
    have := List.getElem?_eq_some_iff.mp h
    obtain ⟨_, hc⟩ := this
    rw [hc]
theorem lf_eq {bl : List UInt8} {j : Nat} : (((bl.drop j).take 1).toArray.toList == (#[10] : Array UInt8).toList) = isLF bl j := by
  rw [take1]
  unfold isLF
  rcases bl[j]? with _ | c
  · rfl
  · dsimp only
    by_cases h : c = 10
    · subst h; decide
    · have : c.toNat ≠ 10 := fun e => h (by apply UInt8.toNat_inj.mp; simpa using e)
      simp [this, h]
theorem picked_one {bl : List UInt8} {j : Nat} : KBy.picked bl.toArray (some (j : Int)) (some (j + 1 : Nat)) = ((bl.drop j).take 1).toArray := by
  have c1 : clipAt bl.length (j : Int) = min j bl.length := by unfold clipAt; split <;> omega
  have c2 : clipAt bl.length ((j + 1 : Nat) : Int) = min (j + 1) bl.length := by unfold clipAt; split <;> omega
  rw [KBc.picked_eq]
  simp only [Option.elim, List.size_toArray, c1, c2]
  rcases Nat.lt_or_ge j bl.length with h | h
  · rw [show min (j + 1) bl.length - min j bl.length = 1 by omega, Nat.min_eq_left (Nat.le_of_lt h)]
  · rw [show min (j + 1) bl.length - min j bl.length = 0 by omega, List.take_zero, List.drop_of_length_le h, List.take_nil]
section
variable {prog : Program} {w : World} {A : Around} {E : Value → Shared → Prop} {s : Shared} {h₀ : Heap} {L : Addr} {m : PySem.Str → Option Value} {news : List (Addr × Obj)} {value slice : PySem.Expr} {Q : Value → Shared → Prop} {t u u0 u1 : Tok} {bl : List UInt8} {i i1 : Int}
theorem by_one_K (j : Nat) (hF : Fr h₀ L s.heap m) (hN : News h₀ L s.heap news) (hz : bl.length ≤ 1000) (hi : i = (j : Int)) (hi1 : i1 = i + 1)
    (h : ∀ h' t' k, Fr h₀ L h' m → News h₀ L h' news → Q (.bytes ((bl.drop j).take 1).toArray t') { s with heap := h', toks := k })
    (hs : subscripted slice false (.bytes bl.toArray t) (.ref s.heap.objs.size) = operate [.ref s.heap.objs.size, .bytes bl.toArray t] (getItem (.bytes bl.toArray t) (.ref s.heap.objs.size)) := by with_unfolding_all rfl)
    (ht : ∀ r, letTemporaryGo value (.bytes bl.toArray t) r = pure () := by intro _; with_unfolding_all rfl) :
    wpAny (model prog w) A (subscriptTail value slice (.bytes bl.toArray t) (.ref s.heap.objs.size)) Q E { s with heap := s.heap.push { cls := .type "slice", data := .fields #[.int i u0, .int i1 u1, .none] } } := by
  have e1 : i1 = ((j + 1 : Nat) : Int) := by omega
  subst hi
  subst e1
  refine KBc.slice_K (lo := some (j : Int)) (hi := some ((j + 1 : Nat) : Int)) hF hN rfl (by constructor) (by constructor) (by rw [KBw.ints_length, List.size_toArray]; omega) (fun h' t' k F' N' _ => ?_) hs ht
  rw [picked_one]
  exact h h' t' k F' N'
theorem lf_K {j : Nat} (h : Q (.bool (isLF bl j)) s) : wpAny (model prog w) A (compareOp .Eq (.bytes ((bl.drop j).take 1).toArray t) (.bytes #[10] u)) Q E s := eq_bytes (by rw [lf_eq]; exact h)
end
local macro_rules | `(tactic| walk_at "subscriptTail") => `(tactic| (k_here; (with_reducible show wpAny _ _ (subscriptTail _ (Expr.Slice _ (some _) none _) (Value.bytes _ _) (Value.ref _)) _ _ _); k_dflt (refine by_one_K _ (by k_asm) (by k_asm) (by assumption) (by first | assumption | rfl | (exact (Int.natCast_succ _).symm)) (by omega) ?_); intro h' t' k' F' N'; (try k_sweep)))
local macro_rules | `(tactic| walk_at "compareOp Eq bytes bytes") => `(tactic| (k_here; k_dflt (refine lf_K ?_)))
local macro_rules | `(tactic| walk_at "subscriptTail Name Name bytes int") => `(tactic| (k_here; (refine byte_at (by assumption) (by assumption) (by omega) ?_); (try dsimp only)))
inductive OctI (s₀ : Shared) (g : Heap) (L : Addr) (tb : Tok) (bl : List UInt8) (k : Nat) (news : List (Addr × Obj)) (n : Nat) (s : Shared) : Prop
  | mk (h : Heap) (tk : Nat) (u : PySem.Str → Option Value) (e v : Nat) (ei vi : Int) (ti te tv : Tok) (e0 : s = { s₀ with heap := h, toks := tk }) (e1 : Fr g L h (mL [(Str.ofString "octets", .bytes bl.toArray tb), (Str.ofString "at", .int (k : Int) ti), (Str.ofString "end", .int ei te), (Str.ofString "number", .int vi tv)] u)) (e2 : News g L h news) (e3 : ei = (e : Int)) (e4 : vi = (v : Int)) (e5 : e + n = k + 3) (e6 : ((n = 3 ∧ v = 0) ∨ (n = 2 ∧ v < 8) ∨ (n = 1 ∧ v < 64) ∨ (n = 0 ∧ v < 512))) (e7 : octK bl n e v = octK bl 3 k 0) : OctI s₀ g L tb bl k news n s
theorem octI {s₀ : Shared} {g h : Heap} {L : Addr} {tb ti te tv : Tok} {bl : List UInt8} {k n tk : Nat} {news : List (Addr × Obj)} {u : PySem.Str → Option Value} {ki ei vi : Int} (e v : Nat)
    (F : Fr g L h u) (h1 : u (Str.ofString "octets") = some (.bytes bl.toArray tb)) (h2 : u (Str.ofString "at") = some (.int ki ti)) (h3 : u (Str.ofString "end") = some (.int ei te)) (h4 : u (Str.ofString "number") = some (.int vi tv))
    (N : News g L h news) (hk : ki = (k : Int)) (he : ei = (e : Int)) (hv : vi = (v : Int)) (hn : e + n = k + 3) (hb : (n = 3 ∧ v = 0) ∨ (n = 2 ∧ v < 8) ∨ (n = 1 ∧ v < 64) ∨ (n = 0 ∧ v < 512)) (ho : octK bl n e v = octK bl 3 k 0) : OctI s₀ g L tb bl k news n { s₀ with heap := h, toks := tk } := by
  subst hk
  refine ⟨h, tk, u, e, v, ei, vi, ti, te, tv, rfl, fr_mL F ?_, N, he, hv, hn, hb, ho⟩
  simp only [List.forall_mem_cons, List.not_mem_nil, false_implies, implies_true, and_true]
  exact ⟨h1, h2, h3, h4⟩
theorem octK_step {bl : List UInt8} {n e v : Nat} {c : UInt8} (h : bl[e]? = some c) (h1 : 48 ≤ (c.toNat : Int)) (h2 : (c.toNat : Int) ≤ 55) : octK bl (n + 1) e v = octK bl n (e + 1) (8 * v + c.toNat - 48) := by
  simp only [octK, h]
  rw [if_pos (by omega)]
theorem octK_stop {bl : List UInt8} {n e v : Nat} {c : UInt8} (h : bl[e]? = some c) (h1 : ¬ (48 ≤ (c.toNat : Int) ∧ (c.toNat : Int) ≤ 55)) : octK bl n e v = (v, e) := by
  cases n with
  | zero => rfl
  | succ n => simp only [octK, h]; rw [if_neg (by omega)]
theorem octK_end {bl : List UInt8} {n e v : Nat} (h : bl[e]? = none) : octK bl n e v = (v, e) := by cases n <;> simp [octK, h]
theorem tup_as {h₀ h : Heap} {L tu ls : Addr} {i : Int} {te : Tok} {k' : Nat} {o : Obj} {l : List (Addr × Obj)} (N : News h₀ L h ((tu, tupObj [.ref ls, .int i te]) :: (ls, o) :: l)) (e : i = (k' : Int)) : News h₀ L h ((tu, tupObj [.ref ls, .int (k' : Nat) te]) :: (ls, o) :: l) := by subst e; exact N
theorem ints_one {n : Int} {t : Tok} {c : UInt8} (h : n = (c.toNat : Int)) : IntsAre [Value.int n t] ([c].map fun c => (c.toNat : Int)) := by subst h; exact .cons _ _ .nil
theorem esc_none {bl : List UInt8} {k : Nat} (h : bl[k]? = none) : escK bl k = none := by unfold escK; rw [h]
theorem esc_oct3 {bl : List UInt8} {k e v : Nat} {c : UInt8} (h : bl[k]? = some c) (h1 : 48 ≤ (c.toNat : Int)) (h2 : (c.toNat : Int) ≤ 55) (ho : octK bl 3 k 0 = (v, e)) : escK bl k = some ([UInt8.ofNat (v % 256)], e) := by
  rw [octK_step h h1 h2] at ho
  have e0 : 8 * 0 + c.toNat - 48 = c.toNat - 48 := by rw [Nat.mul_zero, Nat.zero_add]
  rw [e0] at ho
  rw [esc_oct h (isO_iff.mpr (by omega)), ho]
theorem sub3 {h₀ h : Heap} {L : Addr} {a b c : Addr × Obj} {l : List (Addr × Obj)} (N : News h₀ L h (a :: b :: c :: l)) : News h₀ L h (a :: b :: l) := news_sub N fun p hp => by
  simp only [List.mem_cons] at hp ⊢
  rcases hp with h | h | h <;> simp [h]
theorem octB9 {n v : Nat} (h : (n = 3 ∧ v = 0) ∨ (n = 2 ∧ v < 8) ∨ (n = 1 ∧ v < 64) ∨ n = 0 ∧ v < 512) : v < 512 := by
  rcases h with h | h | h | h
  · exact h.2 ▸ (by decide)
  · exact Nat.lt_trans h.2 (by decide)
  · exact Nat.lt_trans h.2 (by decide)
  · exact h.2
theorem octB {n v : Nat} {c : UInt8} (h : (n + 1 = 3 ∧ v = 0) ∨ (n + 1 = 2 ∧ v < 8) ∨ (n + 1 = 1 ∧ v < 64) ∨ n + 1 = 0 ∧ v < 512) (h2 : (c.toNat : Int) ≤ 55) :
    (n = 3 ∧ 8 * v + c.toNat - 48 = 0) ∨ (n = 2 ∧ 8 * v + c.toNat - 48 < 8) ∨ (n = 1 ∧ 8 * v + c.toNat - 48 < 64) ∨ n = 0 ∧ 8 * v + c.toNat - 48 < 512 := by
  have h3 : c.toNat ≤ 55 := by omega
  clear h2
  have up : ∀ b, v < b → 8 * v + c.toNat - 48 < 8 * b := fun b hb => by clear h; omega
  rcases h with ⟨a, b⟩ | ⟨a, b⟩ | ⟨a, b⟩ | ⟨a, _⟩
  · exact .inr (.inl ⟨Nat.succ.inj a, up 1 (b ▸ Nat.zero_lt_one)⟩)
  · exact .inr (.inr (.inl ⟨Nat.succ.inj a, up 8 b⟩))
  · exact .inr (.inr (.inr ⟨Nat.succ.inj a, up 64 b⟩))
  · cases a
theorem mod_byte {v : Nat} {vi : Int} (h : vi = (v : Int)) : Int.fmod vi 256 = ((UInt8.ofNat (v % 256)).toNat : Int) := by
  subst h
  rw [Int.fmod_eq_emod_of_nonneg _ (by decide)]
  simp
theorem meanM {c : UInt8} {d : Nat} (hd : d < 256) (h : UInt8.ofNat d = meanU c) : (d : Int) = ((meanU c).toNat : Int) := by
  rw [← h, UInt8.toNat_ofNat', Nat.mod_eq_of_lt hd]
theorem isO_no {c : UInt8} (h : ¬ (48 ≤ (c.toNat : Int) ∧ (c.toNat : Int) ≤ 55)) : isO c = false := isO_iff'.mpr (by omega)
/-- what a test says, whichever way it was walked -/
structure Both (P : Prop) (s : Shared) (b : Bool) (s' : Shared) : Prop where
  out : (∃ tk, s' = { s with toks := tk }) ∧ (b = true ↔ P)
theorem P_IfO {M : Model} {A : Around} {E : Value → Shared → Prop} {s : Shared} {env : Env} {Q : Flow → Shared → Prop} {test : PySem.Expr} {body orelse rest : List Stmt} {pos : Pos} {bl : List UInt8} {k : Nat} {c : UInt8} (_hc : bl[k]? = some c)
    (h1 : wpAny M A (isTrue test env (eval test env)) (Both (48 ≤ (c.toNat : Int) ∧ (c.toNat : Int) ≤ 55) s) E s)
    (h2 : (48 ≤ (c.toNat : Int) ∧ (c.toNat : Int) ≤ 55) → ∀ tk, wpP M A (execs body env) (fun f s' => match f with | .next => wpP M A (execs rest env) Q E s' | f => Q f s') E { s with toks := tk })
    (h3 : ¬ (48 ≤ (c.toNat : Int) ∧ (c.toNat : Int) ≤ 55) → ∀ tk, wpP M A (execs orelse env) (fun f s' => match f with | .next => wpP M A (execs rest env) Q E s' | f => Q f s') E { s with toks := tk }) :
    wpP M A (execs (.If test body orelse pos :: rest) env) Q E s := by
  refine P_cons (P_If (wpAny_mono h1 (fun b s' hb => ?_) (fun _ _ h => h)))
  obtain ⟨⟨tk, rfl⟩, hp⟩ := hb.out
  cases b with
  | true => exact h2 (hp.mp rfl) tk
  | false => exact h3 (fun z => Bool.false_ne_true (hp.mpr z)) tk
theorem both_d {a b : Prop} [Decidable b] {s : Shared} {tk : Nat} (h : a) : Both (a ∧ b) s (decide b) { s with toks := tk } := ⟨⟨tk, rfl⟩, fun z => ⟨h, of_decide_eq_true z⟩, fun z => decide_eq_true z.2⟩
theorem both_lo {a b : Prop} {s : Shared} {tk : Nat} (h : ¬ a) : Both (a ∧ b) s false { s with toks := tk } := ⟨⟨tk, rfl⟩, iff_of_false Bool.false_ne_true fun z => h z.1⟩
inductive OctX (s₀ : Shared) (g : Heap) (L : Addr) (tb : Tok) (bl : List UInt8) (k : Nat) (news : List (Addr × Obj)) (f : Flow) (s : Shared) : Prop
  | mk (g0 : f = .next) (h : Heap) (tk : Nat) (u : PySem.Str → Option Value) (e v : Nat) (ei vi : Int) (ti te tv : Tok) (e0 : s = { s₀ with heap := h, toks := tk }) (e1 : Fr g L h (mL [(Str.ofString "octets", .bytes bl.toArray tb), (Str.ofString "at", .int (k : Int) ti), (Str.ofString "end", .int ei te), (Str.ofString "number", .int vi tv)] u)) (e2 : News g L h news) (e3 : ei = (e : Int)) (e4 : vi = (v : Int)) (e5 : octK bl 3 k 0 = (v, e)) : OctX s₀ g L tb bl k news f s
theorem octX {s₀ : Shared} {g h : Heap} {L : Addr} {tb ti te tv : Tok} {bl : List UInt8} {k tk : Nat} {news : List (Addr × Obj)} {u : PySem.Str → Option Value} {ki ei vi : Int} (e v : Nat)
    (F : Fr g L h u) (h1 : u (Str.ofString "octets") = some (.bytes bl.toArray tb)) (h2 : u (Str.ofString "at") = some (.int ki ti)) (h3 : u (Str.ofString "end") = some (.int ei te)) (h4 : u (Str.ofString "number") = some (.int vi tv))
    (N : News g L h news) (hk : ki = (k : Int)) (he : ei = (e : Int)) (hv : vi = (v : Int)) (ho : (v, e) = octK bl 3 k 0) : OctX s₀ g L tb bl k news .next { s₀ with heap := h, toks := tk } := by
  subst hk
  refine ⟨rfl, h, tk, u, e, v, ei, vi, ti, te, tv, rfl, fr_mL F ?_, N, he, hv, ho.symm⟩
  simp only [List.forall_mem_cons, List.not_mem_nil, false_implies, implies_true, and_true]
  exact ⟨h1, h2, h3, h4⟩
section
variable {w : World} {A : Around} {env : Env} {outer : List Env} {A₀ : Around} {base h₀ : Heap} {L : Addr} {m mg mb : PySem.Str → Option Value} {mean : ExcName → Option Value} {s : Shared} {Q E : Value → Shared → Prop} {news : List (Addr × Obj)} {bl : List UInt8} {tb ti : Tok} {k : Nat} {ki : Int}
 local macro_rules | `(tactic| walk_at "wpP") => `(tactic| (k_here; (with_reducible show wpP _ _ (execs (Stmt.If (Expr.Compare _ [_, _] _ _) _ _ _ :: _) _) _ _ _); with_reducible refine P_IfO (by assumption) ?_ (fun hP9 tk9 => ?_) (fun hP9 tk9 => ?_)))
set_option maxRecDepth 100000 in
set_option maxHeartbeats 8000000 in
theorem lawesc_P (C : Cx 350 200 w A env outer A₀ base h₀ L m mg mb mean s) (hg : A.guards = some []) (N : News h₀ L s.heap news) (hfit : bl.length ≤ 1000) (hk : ki = (k : Int)) (hle : k ≤ bl.length)
  (ret0 : escK bl k = none → ∀ h' tk2, Fr h₀ L h' m → News h₀ L h' news → Q .none { s with heap := h', toks := tk2 })
  (ret1 : ∀ ev k', escK bl k = some (ev, k') → ∀ tu ls (vs : List Value) n te h' tk2, Fr h₀ L h' m → News h₀ L h' ((tu, tupObj [.ref ls, .int (k' : Nat) te]) :: (ls, W.listOf vs.toArray n) :: news) → IntsAre vs (ev.map fun c => (c.toNat : Int)) → vs.length ≤ 1 → Q (.ref tu) { s with heap := h', toks := tk2 }) :
  wpP (model PR w) A (call (.ref 931) [.bytes bl.toArray tb, .int ki ti]) Q E s := by
  obtain ⟨hh, hf, hdp, hu, hL, hk', B, F, X, T⟩ := C
  refine P_noE (deepenP 350 200 hh hf hg hdp hu ?_)
  subst hk
  rcases hc : bl[k]? with _ | c
  · have hlen : bl.length ≤ k := List.getElem?_eq_none_iff.mp hc
    obtain rfl : k = bl.length := by omega
    have hz := esc_none hc
    refine P_call ?_
    k_dflt ktr_enter
    k_steps
    · exact ret0 hz _ _ (by k_asm) (by k_asm)
    all_goals (exfalso; simp only [List.size_toArray, ne_eq, not_true] at *)
  · have hlen := in_bytes hc
    refine P_call ?_
    k_dflt ktr_enter
    k_steps
    all_goals (try (first | exact both_d (by assumption) | exact both_lo (by assumption)))
    · exfalso; simp only [List.size_toArray] at *; omega
    · refine P_cons (P_mono (Q := OctX s ?g ?L tb bl k ?nw) (P_while (OctI s ?g ?L tb bl k ?nw) ?turn 3 ?init) ?aft (fun _ _ h => h))
      case init => exact octI k 0 (by k_asm) (by exact rfl) (by exact rfl) (by exact rfl) (by exact rfl) (news_tail (by k_asm)) rfl rfl rfl rfl (by omega) rfl
      case turn =>
        intro n s1 I1
        obtain ⟨h1, tk1, u1, e9, v9, ei9, vi9, ti9, te9, tv9, rfl, F1, N1, hei, hvi, hen, hvb, ho⟩ := I1
        dsimp only [mL] at F1
        have hv9 := octB9 hvb
        rcases hc9 : bl[e9]? with _ | c9
        · have hlen9 : bl.length ≤ e9 := List.getElem?_eq_none_iff.mp hc9
          rw [octK_end hc9] at ho
          k_steps
          all_goals exact octX e9 v9 (by k_asm) (by exact rfl) (by exact rfl) (by exact rfl) (by exact rfl) (by k_asm) rfl hei hvi ho
        · have hlen9 := in_bytes hc9
          k_steps
          · obtain ⟨n', rfl⟩ : ∃ n', n = n' + 1 := ⟨n - 1, by omega⟩
            rw [octK_step hc9 (by assumption) (by assumption)] at ho
            exact ⟨⟨n', by omega, octI (e9 + 1) (8 * v9 + c9.toNat - 48) (by k_asm) (by exact rfl) (by exact rfl) (by exact rfl) (by exact rfl) (news_tail (by k_asm)) rfl (by omega) (by omega) (by omega) (octB hvb (by assumption)) ho⟩⟩
          · rw [octK_stop hc9 (by omega)] at ho
            exact octX e9 v9 (by k_asm) (by exact rfl) (by exact rfl) (by exact rfl) (by exact rfl) (by k_asm) rfl hei hvi ho
          · rw [octK_stop hc9 (by omega)] at ho
            exact octX e9 v9 (by k_asm) (by exact rfl) (by exact rfl) (by exact rfl) (by exact rfl) (by k_asm) rfl hei hvi ho
          · obtain rfl : n = 0 := by omega
            exact octX e9 v9 (by k_asm) (by exact rfl) (by exact rfl) (by exact rfl) (by exact rfl) (by k_asm) rfl hei hvi ho
      case aft =>
        intro f9 s9 X9
        obtain ⟨rfl, h1, tk1, u1, e9, v9, ei9, vi9, ti9, te9, tv9, rfl, F1, N1, hei, hvi, ho⟩ := X9
        dsimp only [mL] at F1
        dsimp only
        k_steps
        all_goals exact ret1 _ _ (esc_oct3 hc (And.left (by assumption)) (And.right (by assumption)) ho) _ _ _ _ _ _ _ (by k_asm) (tup_as (by first | k_asm | exact sub3 (by k_asm)) hei) (ints_one (mod_byte hvi)) (by simp)
    all_goals first
      | (exfalso; omega)
      | exact ret1 [] _ (esc_lf hc (by assumption)) _ _ _ _ _ _ _ (by k_asm) (tup_as (by first | k_asm | exact sub3 (by k_asm)) (by omega)) .nil (by simp)
      | (have hs9 := skip_lf (bl := bl) (j := k + 1); rw [if_pos (by assumption)] at hs9; exact ret1 [] _ (esc_cr hc (by assumption)) _ _ _ _ _ _ _ (by k_asm) (tup_as (by first | k_asm | exact sub3 (by k_asm)) (by omega)) .nil (by simp))
      | (have hs9 := skip_lf (bl := bl) (j := k + 1); rw [if_neg (by simp [*])] at hs9; exact ret1 [] _ (esc_cr hc (by assumption)) _ _ _ _ _ _ _ (by k_asm) (tup_as (by first | k_asm | exact sub3 (by k_asm)) (by omega)) .nil (by simp))
      | exact mean_is (by assumption) _ rfl (by decide) rfl
      | exact mean_other (by assumption) (by assumption) (by assumption) (by assumption) (by assumption)
      | exact ret1 [meanU c] _ (esc_mean hc (isO_no (by assumption)) (by assumption) (by assumption)) _ _ _ _ _ _ _ (by k_asm) (tup_as (by first | k_asm | exact sub3 (by k_asm)) (by omega)) (ints_one (meanM (by assumption) (by assumption))) (by simp)
end
section
variable {prog : Program} {w : World} {A : Around} {E : Value → Shared → Prop} {s : Shared} {h₀ : Heap} {L : Addr} {m : PySem.Str → Option Value} {news : List (Addr × Obj)} {l b : Addr} {vs ws : List Value} {n1 n2 : Nat} {Q : Value → Shared → Prop}
theorem add_K (F : Fr h₀ L s.heap m) (N : News h₀ L s.heap news) (h1 : (l, W.listOf vs.toArray n1) ∈ news) (h2 : (b, W.listOf ws.toArray n2) ∈ news) (hz : vs.length ≤ 1100 ∧ ws.length ≤ 10)
    (h : ∀ D h', Fr h₀ L h' m → News h₀ L h' ((D, W.listOf (vs ++ ws).toArray 0) :: news) → (∀ p ∈ news, p.1 < D) → Q (.ref D) { s with heap := h' }) : wpAny (model prog w) A (binaryOp .Add (.ref l) (.ref b)) Q E s :=
  add_arrays (its := vs.toArray) (its2 := ws.toArray) F N ⟨_, (N _ h1).1, rfl, n1, rfl⟩ ⟨_, (N _ h2).1, rfl, n2, rfl⟩ (fun h' F' N' => h _ h' F' N' fun p hp => Heap.lt_size (N p hp).1) (by rw [List.size_toArray, List.size_toArray, sizeLine_eq]; omega)
theorem app_K {x : Value} {g : Obj → List (Addr × Obj)} (F : Fr h₀ L s.heap m) (N : News h₀ L s.heap news) (U : UpdF l (W.listOf vs.toArray n1) news g) (hz : vs.length ≤ 1100)
    (h : ∀ h', Fr h₀ L h' m → News h₀ L h' (g (W.listOf (vs ++ [x]).toArray (n1 + 1))) → Q .none { s with heap := h' }) : wpAny (model prog w) A (call (.builtin "list.append") [.ref l, x]) Q E s := by
  obtain ⟨pre, post, rfl, hg, u1, u2⟩ := U.split
  have ND := N (l, W.listOf vs.toArray n1) (by simp)
  refine append_at (hsz := by rw [List.size_toArray, sizeLine_eq]; omega) ND.1 fun h' hs ho' => ?_
  have e : vs.toArray.push x = (vs ++ [x]).toArray := by simp
  rw [e] at ho'
  refine h h' (F.change hs ND.2.1 ND.2.2) ?_
  rw [hg]
  exact news_set N u1 u2 hs ho'
theorem bytes_list_K {r : List UInt8} (F : Fr h₀ L s.heap m) (N : News h₀ L s.heap news) (h1 : (l, W.listOf vs.toArray n1) ∈ news) (hi : IntsAre vs (r.map fun c => (c.toNat : Int))) (hz : r.length ≤ 1100) (hh : A.handled = none)
    (h : ∀ h' t k, Fr h₀ L h' m → News h₀ L h' news → Q (.bytes r.toArray t) { s with heap := h', toks := k }) : wpAny (model prog w) A (call (.type "bytes") [.ref l]) Q E s := by
  have hlen := hi.length
  rw [List.length_map] at hlen
  refine bytes_K F N ⟨_, (N _ h1).1, rfl, n1, rfl⟩ hi (fun n hn => ?_) (by rw [sizeLine_eq]; omega) hh (fun h' t k F' N' _ => ?_)
  · obtain ⟨c, _, rfl⟩ := List.mem_map.mp hn
    exact byte_in c
  · have e : (r.map fun c => (c.toNat : Int)).map (fun n => n.toNat.toUInt8) = r := by
      rw [List.map_map]
      conv => rhs; rw [← List.map_id r]
      refine List.map_congr_left fun c _ => ?_
      simp [Nat.toUInt8]
    rw [e]
    exact h h' t k F' N'
end
local macro_rules | `(tactic| walk_at "binaryOp Add ref ref") => `(tactic| (k_here; refine Halt.h ?_))
local macro_rules | `(tactic| walk_at "call type:bytes") => `(tactic| (k_here; (with_reducible show wpAny _ _ (call (Value.type "bytes") [Value.ref _]) _ _ _); refine Halt.h ?_))
theorem rd_escN {bl f : List UInt8} {n k d : Nat} {c : UInt8} (h : bl[k]? = some c) (hc : (c.toNat : Int) = 92) (he : escK bl (k + 1) = none) : rdK bl n k f d = none := by
  have h1 : c.toNat = 92 := by omega
  cases n with
  | zero => rfl
  | succ n => simp [rdK, h, h1, he]
theorem ints_app {vs ws : List Value} {ns ms : List Int} (h1 : IntsAre vs ns) (h2 : IntsAre ws ms) : IntsAre (vs ++ ws) (ns ++ ms) := by
  induction h1 with
  | nil => exact h2
  | cons n t _ ih => exact .cons n t ih
theorem ints_map {vs ws : List Value} {f e : List UInt8} (h1 : IntsAre vs (f.map fun c => (c.toNat : Int))) (h2 : IntsAre ws (e.map fun c => (c.toNat : Int))) : IntsAre (vs ++ ws) ((f ++ e).map fun c => (c.toNat : Int)) := by
  rw [List.map_append]; exact ints_app h1 h2
theorem lt_of4 {a b c d : Addr} {l : List (Addr × Obj)} (h : @LT.lt Nat _ a d ∧ @LT.lt Nat _ b d ∧ @LT.lt Nat _ c d ∧ AllLt d l) : ∀ p ∈ l, p.1 < d := by
  obtain ⟨_, _, _, h⟩ := h
  induction l with
  | nil => intro p hp; cases hp
  | cons q l ih =>
    intro p hp
    rcases List.mem_cons.mp hp with rfl | hp
    · exact h.1
    · exact ih h.2 p hp
theorem lf_at {bl : List UInt8} {ai : Int} {kk : Nat} (h : ai + 1 = ((kk + 1 : Nat) : Int)) : ai + 1 + (if isLF bl (kk + 1) = true then 1 else 0) = ((skipK bl (kk + 1) : Nat) : Int) := by
  rw [skip_lf]; split <;> omega
theorem deep0 {c : UInt8} {di : Int} {d : Nat} (h : ((di + if ((c.toNat : Int) == 40) = true then 1 else 0) - if ((c.toNat : Int) == 41) = true then 1 else 0) = 0) (hd : di = (d : Int)) (h0 : 0 < d) : d = 1 ∧ (c.toNat : Int) = 41 := by
  simp only [beq_iff_eq] at h
  split at h <;> split at h <;> omega
theorem deepN {bl f : List UInt8} {n k : Nat} {c : UInt8} {di : Int} {d : Nat} (h : ((di + if ((c.toNat : Int) == 40) = true then 1 else 0) - if ((c.toNat : Int) == 41) = true then 1 else 0) ≠ 0) (hd : di = (d : Int)) (h0 : 0 < d) (hc : bl[k]? = some c) (h92 : (c.toNat : Int) ≠ 92) (h13 : (c.toNat : Int) ≠ 13) :
    ∃ d' : Nat, ((di + if ((c.toNat : Int) == 40) = true then 1 else 0) - if ((c.toNat : Int) == 41) = true then 1 else 0) = (d' : Int) ∧ 0 < d' ∧ rdK bl (n + 1) k f d = rdK bl n (k + 1) (f ++ [c]) d' := by
  simp only [beq_iff_eq] at h ⊢
  by_cases e1 : (c.toNat : Int) = 40
  · refine ⟨d + 1, ?_, by omega, rd_open hc e1⟩
    rw [if_pos e1, if_neg (by omega)]; omega
  · by_cases e2 : (c.toNat : Int) = 41
    · rw [if_neg e1, if_pos e2] at h
      refine ⟨d - 1, ?_, by omega, rd_close hc e2 (by omega)⟩
      rw [if_neg e1, if_pos e2]; omega
    · refine ⟨d, ?_, h0, rd_else hc h92 h13 e1 e2⟩
      rw [if_neg e1, if_neg e2]; omega
theorem tup2_as {h₀ h : Heap} {L tu : Addr} {v : Value} {i : Int} {te : Tok} {k' : Nat} {l : List (Addr × Obj)} (N : News h₀ L h ((tu, tupObj [v, .int i te]) :: l)) (e : i = (k' : Int)) : News h₀ L h ((tu, tupObj [v, .int (k' : Nat) te]) :: l) := by subst e; exact N
theorem ledger_esc {h₀ h : Heap} {L : Addr} {z a b c d : Addr × Obj} {l : List (Addr × Obj)} (N : News h₀ L h (z :: a :: b :: c :: d :: l)) : News h₀ L h (a :: l) := news_sub N fun p hp => by
  simp only [List.mem_cons] at hp ⊢
  rcases hp with h | h <;> simp [h]
theorem ledger_2 {h₀ h : Heap} {L : Addr} {z a : Addr × Obj} {l : List (Addr × Obj)} (N : News h₀ L h (z :: a :: l)) : News h₀ L h (z :: l) := news_sub N fun p hp => by
  simp only [List.mem_cons] at hp ⊢
  rcases hp with h | h <;> simp [h]
inductive RdI (s₀ : Shared) (g : Heap) (L : Addr) (tb : Tok) (bl : List UInt8) (news : List (Addr × Obj)) (R : Option (List UInt8 × Nat)) (n : Nat) (s : Shared) : Prop
  | mk (h : Heap) (tk : Nat) (u : PySem.Str → Option Value) (f : List UInt8) (vs : List Value) (nn k d : Nat) (fl : Addr) (ai di : Int) (ta td : Tok) (e0 : s = { s₀ with heap := h, toks := tk }) (e1 : Fr g L h (mL [(Str.ofString "octets", .bytes bl.toArray tb), (Str.ofString "found", .ref fl), (Str.ofString "at", .int ai ta), (Str.ofString "deep", .int di td)] u)) (e2 : News g L h ((fl, W.listOf vs.toArray nn) :: news)) (e3 : IntsAre vs (f.map fun c => (c.toNat : Int))) (e4 : ai = (k : Int)) (e5 : di = (d : Int)) (e6 : 0 < d) (e7 : bl.length < n + k) (e8 : f.length + n ≤ bl.length + 1) (e9 : rdK bl n k f d = R) (e10 : (∀ p ∈ news, p.1 < fl)) : RdI s₀ g L tb bl news R n s
theorem rdI {s₀ : Shared} {g h : Heap} {L fl : Addr} {tb ta td : Tok} {bl : List UInt8} {n tk nn : Nat} {news : List (Addr × Obj)} {R : Option (List UInt8 × Nat)} {u : PySem.Str → Option Value} {ai di : Int} {vs : List Value} (f : List UInt8) (k d : Nat)
    (F : Fr g L h u) (h1 : u (Str.ofString "octets") = some (.bytes bl.toArray tb)) (h2 : u (Str.ofString "found") = some (.ref fl)) (h3 : u (Str.ofString "at") = some (.int ai ta)) (h4 : u (Str.ofString "deep") = some (.int di td))
    (N : News g L h ((fl, W.listOf vs.toArray nn) :: news)) (hi : IntsAre vs (f.map fun c => (c.toNat : Int))) (ha : ai = (k : Int)) (hd : di = (d : Int)) (hd0 : 0 < d) (hn : bl.length < n + k) (hf : f.length + n ≤ bl.length + 1) (hr : rdK bl n k f d = R) (hl : ∀ p ∈ news, p.1 < fl) :
    RdI s₀ g L tb bl news R n { s₀ with heap := h, toks := tk } := by
  refine ⟨h, tk, u, f, vs, nn, k, d, fl, ai, di, ta, td, rfl, fr_mL F ?_, N, hi, ha, hd, hd0, hn, hf, hr, hl⟩
  simp only [List.forall_mem_cons, List.not_mem_nil, false_implies, implies_true, and_true]
  exact ⟨h1, h2, h3, h4⟩
section
variable {w : World} {A : Around} {env : Env} {outer : List Env} {A₀ : Around} {base h₀ : Heap} {L : Addr} {m mg mb : PySem.Str → Option Value} {mean : ExcName → Option Value} {s : Shared} {Q E : Value → Shared → Prop} {news : List (Addr × Obj)} {bl : List UInt8} {tb : Tok}
set_option maxRecDepth 100000 in
set_option maxHeartbeats 8000000 in
theorem lawread_P (C : Cx 340 150 w A env outer A₀ base h₀ L m mg mb mean s) (hg : A.guards = some []) (N : News h₀ L s.heap news) (hfit : bl.length ≤ 1000)
  (ret0 : rdK bl (bl.length + 1) 1 [] 1 = none → ∀ h' tk2, Fr h₀ L h' m → News h₀ L h' news → Q .none { s with heap := h', toks := tk2 })
  (ret1 : ∀ r e, rdK bl (bl.length + 1) 1 [] 1 = some (r, e) → ∀ tu t te h' tk2, Fr h₀ L h' m → News h₀ L h' ((tu, tupObj [.bytes r.toArray t, .int (e : Nat) te]) :: news) → Q (.ref tu) { s with heap := h', toks := tk2 }) :
  wpP (model PR w) A (call (.ref 938) [.bytes bl.toArray tb]) Q E s := by
  obtain ⟨hh, hf, hdp, hu, hL, hk', B, F, X, T⟩ := C
  refine P_noE (deepenP 340 150 hh hf hg hdp hu ?_)
  refine P_call ?_
  k_dflt ktr_enter
  k_steps
  repeat (any_goals ((first | (with_reducible refine Halt.mk ?_; first | (k_here; k_dflt (refine add_K (by k_asm) (by k_asm) (by k_mem) (by k_mem) (by refine ⟨?_, ?_⟩ <;> first | assumption | omega | (simp; done)) ?_); intro D'z h'z F'z N'z l1; (try k_lt l1); (try k_sweep)) | (k_here; (with_reducible show wpAny _ _ (call (Value.type "bytes") [Value.ref _]) _ _ _); k_dflt (refine bytes_list_K (by k_asm) (by k_asm) (by k_mem) (by assumption) (by assumption) rfl ?_); intro h'z t'z k'z F'z N'z; (try k_sweep))) | ((with_reducible show wpP _ _ (call (Value.builtin "list.append") _) _ _ _); k_dflt (refine P_any (app_K (by k_asm) (by k_asm) (by k_updF) (by first | assumption | omega) ?_)); intro h'z F'z N'z; (try dsimp only at N'z); (try k_sweep)) | ((with_reducible show wpP _ _ (call (Value.ref 931) _) _ _ _); k_dflt (refine lawesc_P (Cx.mk rfl rfl (Nat.le_of_ble_eq_true rfl) (Nat.le_of_ble_eq_true rfl) rfl rfl (by k_asm) (by k_asm) (by k_asm) (by k_asm)) rfl (by k_asm) (by assumption) (by assumption) (by omega) (fun hz'z h'z tk2'z F'z N'z => ?_) (fun ev'z ke'z he'z tu'z ls'z vs'z n'z te'z h'z tk2'z F'z N'z hi'z hv'z => ?_)); (all_goals (try k_sweep)))); all_goals k_steps))
  refine P_cons (P_while (RdI s ?g ?L tb bl news (rdK bl (bl.length + 1) 1 [] 1)) ?turn (bl.length + 1) ?init)
  case init => exact rdI (vs := []) [] 1 1 (by k_asm) (by exact rfl) (by exact rfl) (by exact rfl) (by exact rfl) (news_tail (by k_asm)) .nil rfl rfl (by omega) (by omega) (by simp) rfl (by assumption)
  case turn =>
    intro n s1 I1
    obtain ⟨h1, tk1, u1, f9, vs9, nn9, kk, d9, fl, ai9, di9, ta9, td9, rfl, F1, N1, hi9, ha9, hd9, hd0, hn9, hf9, hr9, hl9⟩ := I1
    dsimp only [mL] at F1
    have hk1 : ai9 + 1 = ((kk + 1 : Nat) : Int) := by omega
    have hln : vs9.length = f9.length := by have := hi9.length; simpa using this
    have l19 := allLt_of hl9
    rcases hc9 : bl[kk]? with _ | c
    · have hlen9 : bl.length ≤ kk := List.getElem?_eq_none_iff.mp hc9
      rw [rd_end hc9] at hr9
      k_steps
      repeat (any_goals ((first | (with_reducible refine Halt.mk ?_; first | (k_here; k_dflt (refine add_K (by k_asm) (by k_asm) (by k_mem) (by k_mem) (by refine ⟨?_, ?_⟩ <;> first | assumption | omega | (simp; done)) ?_); intro D'z h'z F'z N'z l1; (try k_lt l1); (try k_sweep)) | (k_here; (with_reducible show wpAny _ _ (call (Value.type "bytes") [Value.ref _]) _ _ _); k_dflt (refine bytes_list_K (by k_asm) (by k_asm) (by k_mem) (by assumption) (by assumption) rfl ?_); intro h'z t'z k'z F'z N'z; (try k_sweep))) | ((with_reducible show wpP _ _ (call (Value.builtin "list.append") _) _ _ _); k_dflt (refine P_any (app_K (by k_asm) (by k_asm) (by k_updF) (by first | assumption | omega) ?_)); intro h'z F'z N'z; (try dsimp only at N'z); (try k_sweep)) | ((with_reducible show wpP _ _ (call (Value.ref 931) _) _ _ _); k_dflt (refine lawesc_P (Cx.mk rfl rfl (Nat.le_of_ble_eq_true rfl) (Nat.le_of_ble_eq_true rfl) rfl rfl (by k_asm) (by k_asm) (by k_asm) (by k_asm)) rfl (by k_asm) (by assumption) (by assumption) (by omega) (fun hz'z h'z tk2'z F'z N'z => ?_) (fun ev'z ke'z he'z tu'z ls'z vs'z n'z te'z h'z tk2'z F'z N'z hi'z hv'z => ?_)); (all_goals (try k_sweep)))); all_goals k_steps))
      all_goals exact ret0 hr9.symm _ _ (by k_asm) (news_tail (by k_asm))
    · have hlen9 := in_bytes hc9
      have hz9 : vs9.length ≤ 1100 := by omega
      have hz8 : f9.length ≤ 1100 := by omega
      obtain ⟨n', rfl⟩ : ∃ n', n = n' + 1 := ⟨n - 1, by omega⟩
      k_steps
      repeat (any_goals ((first | (with_reducible refine Halt.mk ?_; first | (k_here; k_dflt (refine add_K (by k_asm) (by k_asm) (by k_mem) (by k_mem) (by refine ⟨?_, ?_⟩ <;> first | assumption | omega | (simp; done)) ?_); intro D'z h'z F'z N'z l1; (try k_lt l1); (try k_sweep)) | (k_here; (with_reducible show wpAny _ _ (call (Value.type "bytes") [Value.ref _]) _ _ _); k_dflt (refine bytes_list_K (by k_asm) (by k_asm) (by k_mem) (by assumption) (by assumption) rfl ?_); intro h'z t'z k'z F'z N'z; (try k_sweep))) | ((with_reducible show wpP _ _ (call (Value.builtin "list.append") _) _ _ _); k_dflt (refine P_any (app_K (by k_asm) (by k_asm) (by k_updF) (by first | assumption | omega) ?_)); intro h'z F'z N'z; (try dsimp only at N'z); (try k_sweep)) | ((with_reducible show wpP _ _ (call (Value.ref 931) _) _ _ _); k_dflt (refine lawesc_P (Cx.mk rfl rfl (Nat.le_of_ble_eq_true rfl) (Nat.le_of_ble_eq_true rfl) rfl rfl (by k_asm) (by k_asm) (by k_asm) (by k_asm)) rfl (by k_asm) (by assumption) (by assumption) (by omega) (fun hz'z h'z tk2'z F'z N'z => ?_) (fun ev'z ke'z he'z tu'z ls'z vs'z n'z te'z h'z tk2'z F'z N'z hi'z hv'z => ?_)); (all_goals (try k_sweep)))); all_goals k_steps))
      · exact ret0 (hr9.symm.trans (rd_escN hc9 (by assumption) (by assumption))) _ _ (by k_asm) (news_tail (by k_asm))
      · have e1 := esc_one (by assumption)
        have e2 := escK_ge (by assumption)
        exact ⟨⟨n', by omega, rdI (f9 ++ _) _ d9 (by k_asm) (by exact rfl) (by exact rfl) (by exact rfl) (by exact rfl) (ledger_esc (by k_asm)) (ints_map hi9 (by assumption)) rfl hd9 hd0 (by omega) (by rw [List.length_append]; omega) ((rd_esc hc9 (by assumption) (by assumption)).symm.trans hr9) (lt_of4 (by assumption))⟩⟩
      · have e1 := skipK_ge bl (kk + 1)
        exact ⟨⟨n', by omega, rdI (f9 ++ [10]) _ d9 (by k_asm) (by exact rfl) (by exact rfl) (by exact rfl) (by exact rfl) (by k_asm) (ints_map hi9 (ints_one (by decide))) (lf_at hk1) hd9 hd0 (by omega) (by simp; omega) ((rd_cr hc9 (by assumption)).symm.trans hr9) hl9⟩⟩
      · obtain ⟨rfl, h41⟩ := deep0 (by assumption) hd9 hd0
        exact ret1 _ _ (hr9.symm.trans (rd_close1 hc9 h41)) _ _ _ _ _ (by k_asm) (tup2_as (ledger_2 (by k_asm)) hk1)
      · obtain ⟨d', ed, hd', er⟩ := deepN (n := n') (f := f9) (by assumption) hd9 hd0 hc9 (by assumption) (by assumption)
        exact ⟨⟨n', by omega, rdI (f9 ++ [c]) (kk + 1) d' (by k_asm) (by exact rfl) (by exact rfl) (by exact rfl) (by exact rfl) (by k_asm) (ints_map hi9 (ints_one rfl)) hk1 ed hd' (by omega) (by simp; omega) (er.symm.trans hr9) hl9⟩⟩
end
/-! the reading of the second text: a blank ahead, cut at the end, more behind -/
section
variable {bl cl : List UInt8}
theorem rdK_ge : ∀ {n k d : Nat} {f : List UInt8} {r : List UInt8} {e : Nat}, rdK bl n k f d = some (r, e) → k + 1 ≤ e ∧ e ≤ bl.length := by
  intro n
  induction n with
  | zero => intro k d f r e h; cases h
  | succ n ih =>
    intro k d f r e h
    unfold rdK at h
    split at h
    · cases h
    · rename_i c hc
      have hk : k < bl.length := (List.getElem?_eq_some_iff.mp hc).1
      split at h
      · split at h
        · cases h
        · rename_i ev k' he
          have := escK_ge he
          have := ih h
          omega
      · split at h
        · have := skipK_ge bl (k + 1)
          have := ih h
          omega
        · split at h
          · have := ih h; omega
          · split at h
            · split at h
              · simp only [Option.some.injEq, Prod.mk.injEq] at h; omega
              · have := ih h; omega
            · have := ih h; omega
theorem skipK_on {k e : Nat} (hs : ∀ i, i < e → cl[i + 1]? = bl[i]?) (h : skipK bl k < e) : skipK cl (k + 1) = skipK bl k + 1 := by
  have := skipK_ge bl k
  unfold skipK
  rw [hs k (by omega)]
  split <;> (try split) <;> rfl
theorem octK_on {e : Nat} (hs : ∀ i, i < e → cl[i + 1]? = bl[i]?) : ∀ (n k v : Nat), (octK bl n k v).2 < e → octK cl n (k + 1) v = ((octK bl n k v).1, (octK bl n k v).2 + 1)
  | 0, _, _, _ => rfl
  | n + 1, k, v, h => by
    have hge := octK_ge bl (n + 1) k v
    have hk := hs k (by omega)
    rcases hc : bl[k]? with _ | c
    · simp only [octK, hk, hc]
    · rw [hc] at hk
      by_cases hd : 48 ≤ c.toNat ∧ c.toNat ≤ 55
      · simp only [octK, hc, if_pos hd] at h
        simp only [octK, hk, hc, if_pos hd]; exact octK_on hs n (k + 1) _ h
      · simp only [octK, hk, hc, if_neg hd]
theorem escK_on {k e k' : Nat} {ev : List UInt8} (hs : ∀ i, i < e → cl[i + 1]? = bl[i]?) (h : escK bl k = some (ev, k')) (hk : k' < e) : escK cl (k + 1) = some (ev, k' + 1) := by
  have := escK_ge h
  have hk' := hs k (by omega)
  unfold escK at h ⊢
  rw [hk']
  rcases hc : bl[k]? with _ | c
  · rw [hc] at h; cases h
  · rw [hc] at h
    dsimp only at h ⊢
    split at h <;> rename_i h1
    · rw [if_pos h1]
      simp only [Option.some.injEq, Prod.mk.injEq] at h
      rw [octK_on hs 2 (k + 1) _ (by omega)]
      simp only [h.1, h.2]
    · rw [if_neg h1]
      split at h <;> rename_i h2
      · rw [if_pos h2]
        simp only [Option.some.injEq, Prod.mk.injEq] at h
        rw [skipK_on hs (by omega), h.1, h.2]
      · rw [if_neg h2]
        split at h <;> rename_i h3
        · rw [if_pos h3]; simp only [Option.some.injEq, Prod.mk.injEq] at h; rw [h.1, h.2]
        · rw [if_neg h3]; simp only [Option.some.injEq, Prod.mk.injEq] at h; rw [h.1, h.2]
theorem rdK_on {e : Nat} {r : List UInt8} (hs : ∀ i, i < e → cl[i + 1]? = bl[i]?) : ∀ {n k d : Nat} {f : List UInt8}, rdK bl n k f d = some (r, e) → rdK cl n (k + 1) f d = some (r, e + 1) := by
  intro n
  induction n with
  | zero => intro k d f h; cases h
  | succ n ih =>
    intro k d f h
    have hge := rdK_ge h
    have hk' := hs k (by omega)
    unfold rdK at h ⊢
    rw [hk']
    rcases hc : bl[k]? with _ | c
    · rw [hc] at h; cases h
    · rw [hc] at h
      dsimp only at h ⊢
      split at h <;> rename_i h1
      · rw [if_pos h1]
        split at h <;> rename_i he
        · cases h
        · rename_i ev k'
          have := rdK_ge h
          rw [escK_on hs he (by omega)]
          exact ih h
      · rw [if_neg h1]
        split at h <;> rename_i h2
        · rw [if_pos h2]
          have := rdK_ge h
          rw [skipK_on hs (by omega)]
          exact ih h
        · rw [if_neg h2]
          split at h <;> rename_i h3
          · rw [if_pos h3]; exact ih h
          · rw [if_neg h3]
            split at h <;> rename_i h4
            · rw [if_pos h4]
              split at h <;> rename_i h5
              · rw [if_pos h5]; simp only [Option.some.injEq, Prod.mk.injEq] at h; rw [h.1, ← h.2]
              · rw [if_neg h5]; exact ih h
            · rw [if_neg h4]; exact ih h
theorem again_get {e : Nat} {t : List UInt8} (he : e ≤ bl.length) : ∀ i, i < e → (32 :: bl.take e ++ t)[i + 1]? = bl[i]? := fun i hi => by
  rw [List.cons_append, List.getElem?_cons_succ, List.getElem?_append_left (by rw [List.length_take]; omega), List.getElem?_take_of_lt hi]
theorem rdK_again {n k d e : Nat} {f r t : List UInt8} (h : rdK bl n k f d = some (r, e)) : rdK (32 :: bl.take e ++ t) n (k + 1) f d = some (r, e + 1) :=
  rdK_on (again_get (rdK_ge h).2) h
end
section
variable {prog : Program} {w : World} {s : Shared} {K : Frag} {p : Program} {loose : List PySem.Str} {mean : ExcName → Option Value} {mg mb : PySem.Str → Option Value}
theorem P_topC {R : Result → Shared → Prop} {name qual : PySem.Str} {params : Arguments} {body : List Stmt} {scope : Scope} {dV kV doc pm cdv ct oc : Value} {an od : Option Addr} {osl : Array (Option Value)} {f : Addr} {args : Args} {binds : List (PySem.Str × Value)}
    (X : K.In s.heap) (T : Top p loose mean mg mb s.heap)
    (ho : K.lookup f = some ⟨oc, od, .func (fnOf name qual params body scope dV kV doc pm an cdv ct), osl⟩) (hcd : codeIn K cdv qual = true)
    (hbind : BindsTo s (fnOf name qual params body scope dV kV doc pm an cdv ct) args binds) (hkind : (binds.all fun y => scope.names.lookup y.1 == some .local || scope.names.lookup y.1 == some .cell) = true)
    (hnd : ((cellsFrom 0 scope.names []).map (·.1)).Nodup)
    (h : ∀ L' h₁ tk cells, Fr s.heap L' h₁ (bindL (envOfC qual scope L' f cdv).kindOf binds fun _ => none) → News s.heap L' h₁ cells →
      CellsAre (bindC (envOfC qual scope L' f cdv).kindOf binds fun _ => none) (cellsFrom (L' + 1) scope.names []) cells → Below callerA s.heap [] s.heap → K.In s.heap → Top p loose mean mg mb s.heap →
      wpP (model prog w) (callerA.deeper (envOfC qual scope L' f cdv)) (execs body (envOfC qual scope L' f cdv))
        (fun fl s' => R (.ok (.ret (match fl with | .ret v => v | _ => .none))) s')
        (fun e s' => wpAny (model prog w) (callerA.deeper (envOfC qual scope L' f cdv)) (leaving (envOfC qual scope L' f cdv) e) (fun _ s'' => R (.error e) s'') (fun e' s'' => R (.error e') s'') s')
        { s with heap := h₁, toks := tk })
    (hco : scope.isCoroutine = false) (hgen : scope.isGenerator = false) (hk : scope.kind = .function) : codeP (model prog w) callerA (.call (.ref f) args) R s := by
  refine P_call_fn (by decide) (X _ _ ho) rfl hco hgen rfl (codeRec_of X hcd) (hbind _ _ _ _ ?_)
  refine wpAny_newFunctionEnv_cells hk (kindsX hkind _) fun env' he s' x => ?_
  subst he
  refine ⟨T.nolimit.keeps x.toInCall.keep, P_func ?_⟩
  obtain ⟨h₁, tk, rfl, _⟩ := x.done
  have hk₁ := x.toInCall.keep
  obtain ⟨cells, NC, Y⟩ := Cl.news (h₀ := s.heap) (Nat.le_refl _) fun n c hm => ⟨x.cell n c (lookup_of_mem_nodup (cellsFrom_names scope.names 0 (s.heap.objs.size + 1) [] [] rfl ▸ hnd) hm), x.above n c hm⟩
  exact h s.heap.objs.size h₁ tk cells ⟨x.toInCall.ns, hk₁, Nat.le_refl _⟩ NC Y (below_caller _) X T
end
inductive BytesAre : List Value → List (List UInt8) → Prop
  | nil : BytesAre [] []
  | cons (b : List UInt8) (t : Tok) {vs bs} : BytesAre vs bs → BytesAre (.bytes b.toArray t :: vs) (b :: bs)
theorem BytesAre.length {vs : List Value} {bs : List (List UInt8)} (h : BytesAre vs bs) : vs.length = bs.length := by
  induction h with
  | nil => rfl
  | cons b t _ ih => simp [ih]
theorem BytesAre.app {vs ws : List Value} {bs cs : List (List UInt8)} (h1 : BytesAre vs bs) (h2 : BytesAre ws cs) : BytesAre (vs ++ ws) (bs ++ cs) := by
  induction h1 with
  | nil => exact h2
  | cons b t _ ih => exact .cons b t ih
theorem BytesAre.at {vs : List Value} {bs : List (List UInt8)} (h : BytesAre vs bs) : ∀ {i : Nat} {b : List UInt8}, bs[i]? = some b → ∃ t, vs[i]? = some (.bytes b.toArray t) := by
  induction h with
  | nil => intro i b e; simp at e
  | cons c t _ ih =>
    intro i b e
    cases i with
    | zero => simp at e; subst e; exact ⟨t, rfl⟩
    | succ i => simp at e; exact ih e
theorem BytesAre.off {vs : List Value} {bs : List (List UInt8)} (h : BytesAre vs bs) : ∀ v ∈ vs, Value.onHeap v = false := by
  induction h with
  | nil => intro v hv; cases hv
  | cons b t _ ih =>
    intro v hv
    rcases List.mem_cons.mp hv with rfl | hv
    · rfl
    · exact ih v hv
namespace F
theorem by_join : Slot "bytes" "join" "bytes.join" :=
  .of (owner := "bytes") (n := "join") (by rw [typeLookup_type, builtinLookup_eq_fast]; kernel_rfl) (by decide +kernel) (by decide +kernel) (by decide +kernel)
    (by first | exact .inl (by decide +kernel) | exact .inr (by decide +kernel)) (by rw [isSubtype_type]; kernel_rfl)
theorem by_entry_join : entryFor table "bytes.join" = some Builtin.«bytes.join» := by first | exact entryFor_of_fast (by kernel_rfl) | exact entryFor_of_tree (by kernel_rfl)
theorem by_type_join : typeOf (.builtin "bytes.join") = pure (.type "method_descriptor") := by show builtinType _ = _; rw [builtinType_eq_fast]; kernel_rfl
theorem by_args_join (a b : Value) : argsOk "bytes.join" ⟨[a, b], []⟩ := by
  unfold argsOk; rw [signature?_of (id := "bytes.join") (n := ['n', 'i', 'o', 'j']) (o := ['s', 'e', 't', 'y', 'b']) (by kernel_rfl) FB.owner_bytes]; kernel_rfl
end F
section
variable {prog : Program} {w : World} {A : Around} {E : Value → Shared → Prop} {s : Shared}
theorem by_take {b : Array UInt8} {t : Tok} {h : Heap} {id : String} : Looks (model prog w) h (Builtin.Bytes.takeBufferQuiet? id (.bytes b t) 0) (some (b, none)) :=
  Looks.of_peek (K := []) (fun _ _ e => nomatch e) (by kernel_rfl)
theorem joinLetGo_any {Q : Unit → Shared → Prop} : ∀ (taken : List (Value × Option Value)) (keep : List Value), (∀ p ∈ taken, p.2 = none) → Q () s → wpAny (model prog w) A (Builtin.Bytes.joinLetGo taken keep) Q E s
  | [], _, _, h => wpAny_pure h
  | (x, wn) :: rest, keep, hn, h => by
    obtain rfl : wn = none := hn (x, wn) (.head _)
    unfold Builtin.Bytes.joinLetGo
    refine wpAny_bind ?_
    dsimp only
    first | exact wpAny_letGo (joinLetGo_any rest keep (fun p hp => hn p (.tail _ hp)) h) | exact wpAny_pure (wpAny_bind (wpAny_letGo (joinLetGo_any rest keep (fun p hp => hn p (.tail _ hp)) h)))
theorem joined_nil : ∀ (l : List (Array UInt8)) (k : Nat) (acc : Array UInt8), ((l.zipIdx k).foldl (fun out (p, i) => (if i > 0 then out ++ #[] else out) ++ p) acc) = acc ++ (l.map (·.toList)).flatten.toArray
  | [], _, acc => by simp
  | p :: l, k, acc => by
    rw [List.zipIdx_cons, List.foldl_cons, joined_nil l (k + 1)]
    dsimp only
    have : (if k > 0 then acc ++ (#[] : Array UInt8) else acc) = acc := by split <;> simp
    rw [this]
    simp
    rw [← List.append_toArray]
theorem size_fold : ∀ (l : List (List UInt8)) (a : Nat), (l.map (·.toArray)).foldl (fun x p => x + p.size) a = a + l.flatten.length
  | [], a => by simp
  | p :: l, a => by
    rw [List.map_cons, List.foldl_cons, size_fold l]
    simp; omega
theorem join_entry {l : Addr} {vs : List Value} {bs : List (List UInt8)} {n : Nat} {u : Tok} {Q : PySem.Fin → Shared → Prop} (hl : s.heap.get? l = some (W.listOf vs.toArray n)) (hv : BytesAre vs bs) (hz : bs.flatten.length ≤ 1000)
    (h : ∀ t k, Q (.done (.ret (.bytes bs.flatten.toArray t))) { s with toks := k }) : wpAny (model prog w) A (Builtin.«bytes.join» ⟨[.bytes #[] u, .ref l], []⟩) Q E s := by
  have hT : s.TypeIs (.ref l) "list" := ⟨_, hl, rfl⟩
  show wpAny _ _ (Builtin.Bytes.joinM .bytes _) _ _ _
  unfold Builtin.Bytes.joinM
  refine wpAny_bind (wpAny_of_eq (a := (.bytes #[] u, .ref l)) rfl ?_)
  dsimp only
  rw [if_pos (by decide)]
  unfold Builtin.Bytes.joinItems
  refine wpAny_bind (wpAny_bind (wpAny_typeOf hT ?_))
  refine wpAny_pure ?_
  have hit : ∀ {Q' : Option (Array Value) → Shared → Prop}, Q' (some vs.toArray) s → wpAny (model prog w) A (seqItems? (.ref l)) Q' E s := fun hq => wpAny_seqItems hl rfl hq
  refine wpAny_bind (hit ?_)
  dsimp only
  rw [if_pos (by decide)]
  have hlen := hv.length
  by_cases h1 : ∃ x, vs = [x]
  · obtain ⟨x, rfl⟩ := h1
    cases hv with
    | cons b t hv' =>
      cases hv'
      refine wpAny_bind (wpAny_typeOf (PySem.W.typeIs_bytes _ _ _) ?_)
      rw [if_pos (by decide)]
      refine wpAny_bind (wpAny_rule (wpAny_pure ?_))
      have e9 : ([b] : List (List UInt8)).flatten = b := by simp
      have := h t s.toks
      rw [e9] at this
      exact this
  · have hb : ∀ (a : Value → Sem PySem.Fin) (c : Unit → Sem PySem.Fin), wpAny (model prog w) A (c ()) Q E s → wpAny (model prog w) A (match vs.toArray with | #[x] => a x | _ => c ()) Q E s := by
      intro a c hc
      rcases vs with _ | ⟨x, _ | ⟨y, rest⟩⟩
      · exact hc
      · exact absurd ⟨x, rfl⟩ h1
      · exact hc
    refine hb _ (fun _ => _) ?_
    refine wpAny_bind ?_
    rw [Std.Legacy.Range.forIn_eq_forIn_range']
    refine wpAny_forIn_list _ (fun rest (b : Array (Array UInt8) × List (Value × Option Value)) s' => ∃ i, rest = List.range' i (vs.length - i) ∧ i ≤ vs.length ∧ s' = s ∧ b = (((bs.take i).map (·.toArray)).toArray, (vs.take i).map fun v => (v, (none : Option Value)))) _ (fun x rest b s' hI => ?_) (fun b s' hI => ?_) _ _ ⟨0, by simp [Std.Legacy.Range.size], by omega, rfl, by simp⟩
    · obtain ⟨i, Z⟩ := hI
      have hlt : i < vs.length := by
        have hr := Z.1
        rcases Nat.lt_or_ge i vs.length with h | h
        · exact h
        · rw [Nat.sub_eq_zero_of_le h] at hr; cases hr
      have hk : vs.length - i = (vs.length - (i + 1)) + 1 := by omega
      have hr := Z.1
      rw [hk, List.range'_succ] at hr
      obtain rfl := (List.cons.inj hr).1
      obtain rfl := Z.2.2.1
      obtain rfl := Z.2.2.2
      have hc := List.getElem?_eq_getElem (show x < bs.length by omega)
      obtain ⟨t, ht⟩ := hv.at hc
      have hx : vs.toArray.getD x Value.none = .bytes (bs[x]'(by omega)).toArray t := by
        rw [Array.getD_eq_getD_getElem?]
        simp [ht]
      refine wpAny_bind (hit ?_)
      dsimp only
      rw [if_neg (by
        have z : (List.any ((vs.take x).map fun v => (v, (none : Option Value))) fun x => Value.onHeap x.fst) = false := by
          rw [List.any_eq_false]
          intro p hp
          obtain ⟨v, hv1, rfl⟩ := List.mem_map.mp hp
          rw [hv.off v (List.mem_of_mem_take hv1)]
          exact Bool.false_ne_true
        rw [z]
        decide)]
      rw [hx]
      refine wpAny_bind (wpAny_holding (by_take.here ?_))
      dsimp only
      refine wpAny_bind (hit ?_)
      dsimp only
      rw [if_neg (by simp)]
      refine wpAny_pure ⟨x + 1, (List.cons.inj hr).2, hlt, rfl, ?_⟩
      · rw [List.take_add_one, hc, List.take_add_one, ht]
        simp
        rw [List.take_add_one, List.getElem?_map, hc]
        rfl
    · obtain ⟨i, Z⟩ := hI
      have hil : i = vs.length := by
        have := congrArg List.length Z.1
        have hi := Z.2.1
        simp at this
        omega
      subst hil
      obtain rfl := Z.2.2.1
      obtain rfl := Z.2.2.2
      rw [List.take_of_length_le (Nat.le_refl _), show bs.take vs.length = bs from List.take_of_length_le (by omega)]
      refine wpAny_bind (wpAny_of_eq (a := #[]) rfl ?_)
      have hsz : Builtin.Bytes.tooLong (Array.foldl (fun x1 x2 => x1 + Array.size x2) (Array.size (#[] : Array UInt8) * (Array.size (List.map (fun x => List.toArray x) bs).toArray - 1)) (List.map (fun x => List.toArray x) bs).toArray) = false := by
        unfold Builtin.Bytes.tooLong
        rw [List.foldl_toArray', size_fold, sizeLine_eq]
        rw [List.length_flatten] at hz
        simp; omega
        rfl
      dsimp only
      rw [hsz]
      simp only [Bool.false_eq_true, if_false]
      have hj : Builtin.Bytes.joined #[] (List.map (fun x => List.toArray x) bs) = bs.flatten.toArray := by
        unfold Builtin.Bytes.joined
        rw [joined_nil, List.map_map]
        have e9 : (fun x : Array UInt8 => x.toList) ∘ (fun x : List UInt8 => x.toArray) = id := by funext x; rfl
        rw [e9, List.map_id]
        simp
      rw [hj]
      refine wpAny_bind (wpAny_mkBytes ?_ (by rw [List.size_toArray, sizeLine_eq]; omega))
      refine wpAny_bind (wpAny_holding (wpAny_point ?_))
      refine wpAny_bind (joinLetGo_any _ _ (fun p hp => ?_) ?_)
      · obtain ⟨v, _, rfl⟩ := List.mem_map.mp hp; rfl
      · exact wpAny_pure (h _ _)
theorem join_K {h₀ : Heap} {L : Addr} {news : List (Addr × Obj)} {l : Addr} {vs : List Value} {bs : List (List UInt8)} {u : Tok} {Q : Value → Shared → Prop} (N : News h₀ L s.heap news) (hm : (l, LCg.lst vs) ∈ news) (hv : BytesAre vs bs) (hz : bs.flatten.length ≤ 1000)
    (h : ∀ t k, Q (.bytes bs.flatten.toArray t) { s with toks := k }) : wpAny (model prog w) A (call (.builtin "bytes.join") [.bytes #[] u, .ref l]) Q E s :=
  wpAny_call (codeAny_call_builtin F.by_join.plain F.by_entry_join (F.by_join.check _ _ _ _ _ _ _ _ (PySem.W.typeIs_bytes _ _ _) (F.by_args_join _ _) (join_entry (n := vs.length) (N _ hm).1 hv hz h)))
theorem join_meth {pl : Sem Bool} {Q : Value × List Value → Shared → Prop} {b : Array UInt8} {t : Tok} (h : Q (.builtin "bytes.join", [.bytes b t]) s) : wpAny (model prog w) A (getMethod (.bytes b t) (Str.ofString "join") pl) Q E s :=
  getMethod_builtin (PySem.W.typeIs_bytes _ _ _) FB.plainAttrs_bytes F.by_join F.by_type_join (fun _ e => nomatch e) h
end
local macro_rules | `(tactic| walk_at "getMethod bytes") => `(tactic| (k_here; (with_reducible show wpAny _ _ (getMethod (Value.bytes _ _) (Str.ofString "join") _) _ _ _); refine Halt.h ?_))
local macro_rules | `(tactic| walk_at "call builtin:bytes.join") => `(tactic| (k_here; refine Halt.h ?_))
theorem len60 {α β : Type} {f : α → β} {l : List α} : ((l.take 60).map f).length ≤ 63 := by
  rw [List.length_map, List.length_take]; exact Nat.le_trans (Nat.min_le_left _ _) (by decide)
theorem draw_b {d : List UInt8} {c : UInt8} {n : Nat} (h : d[0]? = some c) (hl : d.length ≤ n) (hn : n ≤ 2000) : 0 < (d.toArray.size : Int) ∧ (d.toArray.size : Int) ≤ 2000 := by
  have := (List.getElem?_eq_some_iff.mp h).1
  rw [List.size_toArray]; omega
section
variable {w : World} {A : Around} {env : Env} {outer : List Env} {A₀ : Around} {base h₀ : Heap} {L : Addr} {m mg mb : PySem.Str → Option Value} {mean : ExcName → Option Value} {s : Shared} {Q E : Value → Shared → Prop} {news : List (Addr × Obj)} {g : Obj → List (Addr × Obj)}
  {dk cl : Addr} {od : Obj} {ys : List Value} {ns : List Int} {a b : Int} {ta tb : Tok}
noncomputable abbrev deckKv (cl : Addr) (a : Int) (ta : Tok) : List (PySem.Str × Value) := [(Str.ofString "cells", .ref cl), (Str.ofString "at", .int a ta)]
theorem fm_in {x b : Int} (hb : 0 < b) : 0 ≤ Int.fmod x b ∧ Int.fmod x b < b := by
  rw [Int.fmod_eq_emod_of_nonneg _ (Int.le_of_lt hb)]
  exact ⟨Int.emod_nonneg _ (by omega), Int.emod_lt_of_pos _ hb⟩
set_option maxRecDepth 100000 in
set_option maxHeartbeats 8000000 in
theorem draw_any (C : Cx 350 300 w A env outer A₀ base h₀ L m mg mb mean s) (N : News h₀ L s.heap news) (U : UpdF dk od news g) (hd' : Obj.IsDictOf (strKind PR w) od (deckKv cl a ta)) (hc : (cl, LCg.lst ys) ∈ news) (hne : @Ne Nat cl dk)
  (hi : IntsAre ys ns) (hlen : ns.length ≤ 63) (ha : 0 ≤ a ∧ a ≤ 100) (hb : 0 < b ∧ b ≤ 2000)
  (ret : ∀ r t h' od' ta' tk2, 0 ≤ r → r < b → Fr h₀ L h' m → News h₀ L h' (g od') → Obj.IsDictOf (strKind PR w) od' (deckKv cl (a + 1) ta') → Q (.int r t) { s with heap := h', toks := tk2 }) :
  wpAny (model PR w) A (call (.ref 924) [.ref dk, .int b tb]) Q E s := by
  obtain ⟨hh, hf, hdp, hu, hL, hk, B, F, X, T⟩ := C
  refine noE (deepen 350 300 hh hf hdp hu ?_)
  obtain ⟨rest, Nc, hoff, back⟩ := canon N hc U
  clear N hc U
  have hly := hi.length
  obtain ⟨an, ha, han⟩ : ∃ an : Nat, a = (an : Int) ∧ an ≤ 100 := ⟨a.toNat, by omega, by omega⟩
  refine wpAny_call ?_
  k_dflt ktr_enter
  k_steps
  all_goals first
    | exact ret _ _ _ _ _ _ (fm_in hb.1).1 (fm_in hb.1).2 (by k_asm) (back _ _ (by first | k_asm | exact news_tail (by k_asm) | exact news_tail (news_tail (by k_asm)))) (by assumption)
    | (exfalso
       have e9 : ns = [] := List.length_eq_zero_iff.mp (by omega)
       exact absurd (decide_eq_true e9) (by rw [show decide (ns = []) = false by assumption]; exact Bool.false_ne_true))
end
local macro_rules | `(tactic| walk_at "call ref") => `(tactic| (k_here; (with_reducible show wpAny _ _ (call (Value.ref 924) _) _ _ _); refine Halt.h ?_))
noncomputable def pieceOk : Value → Bool
  | .bytes b _ => Nat.ble b.size 4
  | _ => false
theorem pieces_are (P : Params) : ∃ vs n, List.lookup (905 : Addr) (hd.heap_39 P) = some { cls := .type "list", data := .seq vs n } ∧ vs.size = 25 ∧ vs.toList.all pieceOk = true := ⟨_, _, by k_is, rfl, rfl⟩
theorem piece_of {v : Value} (h : pieceOk v = true) : ∃ (b : List UInt8) (t : Tok), v = .bytes b.toArray t ∧ b.length ≤ 4 := by
  cases v with
  | bytes b t => exact ⟨b.toList, t, by simp, by simpa [pieceOk] using h⟩
  | _ => cases h
section
variable {prog : Program} {w : World} {A : Around} {E : Value → Shared → Prop} {s : Shared} {h₀ : Heap} {L : Addr} {m : PySem.Str → Option Value} {P : Params}
theorem piece_any {r : Int} {t : Tok} {Q : Value → Shared → Prop} (X : Frag.In (hd.heap_39 P) h₀) (F : Fr h₀ L s.heap m) (h0 : 0 ≤ r) (h1 : r < 25)
    (h : ∀ (b : List UInt8) (t' : Tok), b.length ≤ 4 → Q (.bytes b.toArray t') s) : wpAny (model prog w) A (getItem (.ref 905) (.int r t)) Q E s := by
  obtain ⟨vs, n, e, hz, hok⟩ := pieces_are P
  have hl : s.heap.IsList 905 vs := ⟨_, F.keep _ _ (X _ _ e), rfl, n, rfl⟩
  obtain ⟨i, rfl⟩ : ∃ i : Nat, r = (i : Int) := ⟨r.toNat, by omega⟩
  have hi : i < vs.size := by omega
  obtain ⟨b, t', hv, hb⟩ := piece_of (List.all_eq_true.mp hok vs[i] (by simp))
  refine wpAny_getItem_list (x := .bytes b.toArray t') hl h0 (by omega) ?_ (h b t' hb)
  rw [← hv]
  simp [hi]
theorem piece_tail {value slice : PySem.Expr} {r : Int} {t : Tok} {Q : Value → Shared → Prop} (X : Frag.In (hd.heap_39 P) h₀) (F : Fr h₀ L s.heap m) (h0 : 0 ≤ r) (h1 : r < 25)
    (h : ∀ (b : List UInt8) (t' : Tok), b.length ≤ 4 → Q (.bytes b.toArray t') s)
    (hs : subscripted slice false (.ref 905) (.int r t) = operate [.ref 905, .int r t] (getItem (.ref 905) (.int r t)) := by with_unfolding_all rfl)
    (ht : ∀ r', letTemporaryGo value (.ref 905) r' = pure () := by intro _; with_unfolding_all rfl) :
    wpAny (model prog w) A (subscriptTail value slice (.ref 905) (.int r t)) Q E s := by
  obtain ⟨vs, n, e, _, _⟩ := pieces_are P
  have hl : s.heap.IsList 905 vs := ⟨_, F.keep _ _ (X _ _ e), rfl, n, rfl⟩
  exact subscriptTail_builtin hl.typeIs slot_list_getitem.lookup (piece_any X F h0 h1 h) hs ht
def PieceEl (prog : Program) (w : World) (g : Obj → List (Addr × Obj)) (cl : Addr) (a : Int) (y : Value) (news' : List (Addr × Obj)) : Prop :=
  ∃ od' ta' b t, news' = g od' ∧ Obj.IsDictOf (strKind prog w) od' (deckKv cl (a + 1) ta') ∧ y = .bytes (List.toArray b) t ∧ b.length ≤ 4
theorem pieces_rest {env : Env} {elt : PySem.Expr} {x : PySem.Str} {scope : Scope} {cls : List (PySem.Str × Addr)} {P : Nat → Value → Prop} {Fin : List Value → List (Addr × Obj) → Prop} {g : Obj → List (Addr × Obj)} {cl : Addr} {od₀ : Obj} {a₀ : Int} {ta₀ : Tok} {n : Nat} (hn : n ≤ 8)
    (hd₀ : Obj.IsDictOf (strKind prog w) od₀ (deckKv cl a₀ ta₀)) (ha₀ : 0 ≤ a₀ ∧ a₀ ≤ 10)
    (turn : ∀ od a ta v I oI C oC D m₂ ys h tk (E' : Value → Shared → Prop), 0 ≤ a → a ≤ 20 → Obj.IsDictOf (strKind prog w) od (deckKv cl a ta) → P ys.length v → LCg.NsObj oC m₂ → m₂ x = some v → Fr h₀ L h m → News h₀ L h ((I, oI) :: (C, oC) :: (D, LCg.lst ys) :: g od) → LCg.Off3 I C D (g od) → ((@Ne Nat I C) ∧ (@Ne Nat I D) ∧ (@Ne Nat C D)) →
      wpAny (model prog w) A (eval elt (compEnvC scope cls C env)) (LCg.CompEnd h₀ L m { s with heap := h, toks := tk } I oI C oC D (LCg.lst ys) (fun _ => True) (fun y news' => PieceEl prog w g cl a y news')) E' { s with heap := h, toks := tk })
    (fin : ∀ ys bs od a ta, BytesAre ys bs → bs.flatten.length ≤ 32 → 0 ≤ a → a ≤ 20 → Obj.IsDictOf (strKind prog w) od (deckKv cl a ta) → Fin ys (g od)) :
    LCg.CompRest prog w A h₀ L m env elt x scope cls s (fun _ => True) P Fin n 0 [] (g od₀) := by
  have key : ∀ (j i : Nat) ys bs od (a : Int) ta, i + j = n → ys.length = i → BytesAre ys bs → bs.flatten.length ≤ 4 * i → 0 ≤ a → a ≤ 10 + i → Obj.IsDictOf (strKind prog w) od (deckKv cl a ta) → LCg.CompRest prog w A h₀ L m env elt x scope cls s (fun _ => True) P Fin j i ys (g od) := by
    intro j
    induction j with
    | zero =>
      intro i ys bs od a ta hi hl hb hf h0 h1 hd'
      exact LCg.CompRest.zero (fin ys bs od a ta hb (by omega) h0 (by omega) hd')
    | succ j ih =>
      intro i ys bs od a ta hi hl hb hf h0 h1 hd'
      refine LCg.CompRest.succ ?_
      intro v I oI C oC D m₂ h tk E' hv hC hx F N off ne
      subst hl
      refine wpAny_mono (turn od a ta v I oI C oC D m₂ ys h tk E' h0 (by omega) hd' hv hC hx F N off ne) (fun y s₂ hq => ?_) fun _ _ e => e
      obtain ⟨h', tk', nw, e, F', N', off', hS, od', ta', b, t, hn', hdd, hy, hbl⟩ := hq
      subst hn' hy
      refine ⟨h', tk', g od', e, F', N', off', hS, ?_⟩
      refine ih (ys.length + 1) _ (bs ++ [b]) od' (a + 1) ta' (by omega) (by simp) (hb.app (.cons b t .nil)) ?_ (by omega) (by omega) hdd
      rw [List.flatten_append, List.length_append]
      simp
      rw [List.length_flatten] at hf
      omega
  exact key n 0 [] [] od₀ a₀ ta₀ (by omega) rfl .nil (by simp) ha₀.1 (by omega) hd₀
theorem src_pieces {env : Env} {elt : PySem.Expr} {x : PySem.Str} {scope : Scope} {cls : List (PySem.Str × Addr)} {Fin : Shared → List Value → List (Addr × Obj) → Prop} {dk cl a1 a2 a3 r : Addr} {od₀ o1 o2 o3 : Obj} {a₀ b₀ : Int} {ta₀ t u v : Tok}
    (hh : A.handled = none) (F : Fr h₀ L s.heap m) (N : News h₀ L s.heap [(a1, o1), (a2, o2), (dk, od₀), (a3, o3)]) (hr : IsRange s.heap r 0 b₀ 1 t u v) (hb : 0 ≤ b₀ ∧ b₀ < 9)
    (hd₀ : Obj.IsDictOf (strKind prog w) od₀ (deckKv cl a₀ ta₀)) (ha₀ : 0 ≤ a₀ ∧ a₀ ≤ 10)
    (turn : ∀ g' od a ta I oI C oC D ys h tk (E' : Value → Shared → Prop), 0 ≤ a → a ≤ 20 → Obj.IsDictOf (strKind prog w) od (deckKv cl a ta) → Fr h₀ L h m → News h₀ L h ((I, oI) :: (C, oC) :: (D, LCg.lst ys) :: [(a1, o1), (a2, o2), (dk, od), (a3, o3)]) → LCg.Off3 I C D [(a1, o1), (a2, o2), (dk, od), (a3, o3)] → ((@Ne Nat I C) ∧ (@Ne Nat I D) ∧ (@Ne Nat C D)) →
      wpAny (model prog w) A (eval elt (compEnvC scope cls C env)) (LCg.CompEnd h₀ L m { s with heap := h, toks := tk } I oI C oC D (LCg.lst ys) (fun _ => True) (fun y news' => PieceEl prog w (fun z => [(a1, o1), (a2, o2), (dk, z), (a3, o3)]) cl a y news')) E' { { s with heap := g' } with heap := h, toks := tk })
    (fin : ∀ g' ys bs od a ta, BytesAre ys bs → bs.flatten.length ≤ 32 → 0 ≤ a → a ≤ 20 → Obj.IsDictOf (strKind prog w) od (deckKv cl a ta) → Fin { s with heap := g' } ys [(a1, o1), (a2, o2), (dk, od), (a3, o3)]) :
    LCg.CompSrc prog w A h₀ L m env elt x scope cls Fin (.ref r) s := by
  obtain ⟨n, rfl⟩ : ∃ n : Nat, b₀ = (n : Int) := ⟨b₀.toNat, by omega⟩
  refine LCg.CompSrc.range (n := n) hh F N hr (small_one (by omega) (by omega) (by omega) (by omega)) (by rw [rangeSize_one]; split <;> omega) (by rw [PySem.sizeLine_eq]; omega) fun g' => ?_
  exact pieces_rest (g := fun z => [(a1, o1), (a2, o2), (dk, z), (a3, o3)]) (by omega) hd₀ ha₀ (fun od a ta v I oI C oC D m₂ ys h tk E' h0 h1 hd' _ _ _ F N off ne => turn g' od a ta I oI C oC D ys h tk E' h0 h1 hd' F N off ne)
    fun ys bs od a ta => fin g' ys bs od a ta
end
local macro_rules | `(tactic| walk_at "CompSrc") => `(tactic| (k_here; goal_has PySem.NameKind.free; refine Halt.h ?_))
local macro_rules | `(tactic| walk_at "CompEnd") => `(tactic| (goal_has PieceEl; refine Halt.h ?_))
local macro_rules | `(tactic| walk_at "subscriptTail") => `(tactic| (k_here; (with_reducible show wpAny _ _ (subscriptTail _ _ (Value.ref 905) (Value.int _ _)) _ _ _); refine Halt.h ?_))
theorem picked_to {bl : List UInt8} {i : Int} (hi : 0 ≤ i) : KBy.picked bl.toArray none (some i) = (bl.take i.toNat).toArray := by
  obtain ⟨j, rfl⟩ : ∃ j : Nat, i = (j : Int) := ⟨i.toNat, by omega⟩
  have c1 : clipAt bl.length (j : Int) = min j bl.length := by unfold clipAt; split <;> omega
  rw [KBc.picked_eq]
  simp only [Option.elim, List.size_toArray, c1, List.drop_zero, Nat.sub_zero, Int.toNat_natCast]
  rcases Nat.le_total j bl.length with h | h
  · rw [Nat.min_eq_left h]
  · rw [Nat.min_eq_right h, List.take_of_length_le (Nat.le_refl _), List.take_of_length_le h]
inductive ItEq : Value → Value → Prop
  | int (i j : Int) (t u : Tok) (h : i = j) : ItEq (.int i t) (.int j u)
  | str (x : PySem.Str) (t u : Tok) : ItEq (.str x t) (.str x u)
  | bytes (x : Array UInt8) (t u : Tok) : ItEq (.bytes x t) (.bytes x u)
  | same (v : Value) : ItEq v v
theorem ItEq.at {A : Around} {s : Shared} {v u : Value} (h : ItEq v u) : SeqAt.EqAt A s v u true := by
  cases h with
  | int i j t u h => subst h; exact fun prog w E Q hq => wpAny_eqBool_int (by rw [beq_self_eq_true]; exact hq)
  | str x t u => exact fun prog w E Q hq => eqBool_str (by rw [beq_self_eq_true]; exact hq)
  | bytes x t u => exact fun prog w E Q hq => eqBool_bytes (by rw [decide_eq_true rfl]; exact hq)
  | same v => exact SeqAt.EqAt.same v
inductive ItEqs : List Value → List Value → Prop
  | nil : ItEqs [] []
  | cons {a b : Value} {xs ys : List Value} : ItEq a b → ItEqs xs ys → ItEqs (a :: xs) (b :: ys)
theorem ItEqs.len {xs ys : List Value} (h : ItEqs xs ys) : xs.length = ys.length := by
  induction h with
  | nil => rfl
  | cons _ _ ih => simp [ih]
theorem ItEqs.get {xs ys : List Value} (h : ItEqs xs ys) : ∀ j (h1 : j < xs.length) (h2 : j < ys.length), ItEq xs[j] ys[j] := by
  induction h with
  | nil => intro j h1; cases h1
  | cons ha _ ih =>
    intro j h1 h2
    cases j with
    | zero => exact ha
    | succ j => exact ih j (Nat.lt_of_succ_lt_succ h1) (Nat.lt_of_succ_lt_succ h2)
section
variable {prog : Program} {w : World} {A : Around} {E : Value → Shared → Prop} {s : Shared} {h₀ : Heap} {L a b : Addr} {m : PySem.Str → Option Value} {news : List (Addr × Obj)} {oa ob : Obj} {xs ys : List Value} {ka kb : Nat} {Q : Value → Shared → Prop} {value slice : PySem.Expr} {t u0 u : Tok} {bl c : List UInt8} {i : Int}
theorem by_to_K (hF : Fr h₀ L s.heap m) (hN : News h₀ L s.heap news) (hz : bl.length ≤ 1000) (hi : 0 ≤ i)
    (h : ∀ h' t' k d, d = bl.take i.toNat → Fr h₀ L h' m → News h₀ L h' news → Q (.bytes (List.toArray d) t') { s with heap := h', toks := k })
    (hs : subscripted slice false (.bytes bl.toArray t) (.ref s.heap.objs.size) = operate [.ref s.heap.objs.size, .bytes bl.toArray t] (getItem (.bytes bl.toArray t) (.ref s.heap.objs.size)) := by with_unfolding_all rfl)
    (ht : ∀ r, letTemporaryGo value (.bytes bl.toArray t) r = pure () := by intro _; with_unfolding_all rfl) :
    wpAny (model prog w) A (subscriptTail value slice (.bytes bl.toArray t) (.ref s.heap.objs.size)) Q E { s with heap := s.heap.push { cls := .type "slice", data := .fields #[.none, .int i u0, .none] } } := by
  refine KBc.slice_K (lo := none) (hi := some i) hF hN rfl (by constructor) (by constructor) (by rw [KBw.ints_length, List.size_toArray]; omega) (fun h' t' k F' N' _ => ?_) hs ht
  rw [picked_to hi]
  exact h h' t' k _ rfl F' N'
theorem by_add {n k : Nat} (hz : bl.length ≤ n) (hy : c.length ≤ k) (hn : n + k ≤ 1000) (h : ∀ t' k' d, d = bl ++ c → d.length ≤ n + k → Q (.bytes (List.toArray d) t') { s with toks := k' }) :
    wpAny (model prog w) A (binaryOp .Add (.bytes bl.toArray t) (.bytes c.toArray u)) Q E s :=
  bytes_add_K (by simp; omega) rfl fun t' k => h t' k _ rfl (by rw [List.length_append]; exact Nat.add_le_add hz hy)
theorem tup_eq_K (N : News h₀ L s.heap news) (ma : (a, oa) ∈ news) (ca : oa.cls = .type "tuple") (da : oa.data = .seq xs.toArray ka) (mb : (b, ob) ∈ news) (cb : ob.cls = .type "tuple") (db : ob.data = .seq ys.toArray kb) (he : ItEqs xs ys) (hu : A.units < cLine)
    (h : Q (.bool true) s) : wpAny (model prog w) A (compareOp .Eq (.ref a) (.ref b)) Q E s := by
  refine SeqAt.RcAt.tuples (e := fun _ => true) ⟨_, (N _ ma).1, ca, _, da⟩ ⟨_, (N _ mb).1, cb, _, db⟩ hu (fun j h1 h2 => (he.get j (by simpa using h1) (by simpa using h2)).at) prog w E Q ?_
  have e9 := he.len
  have e8 : ∀ n, (List.range n).all (fun _ => true) = true := fun n => List.all_eq_true.mpr fun _ _ => rfl
  rw [e8, List.size_toArray, List.size_toArray, e9, beq_self_eq_true]
  exact h
theorem tup_ne_K (N : News h₀ L s.heap news) (ma : (a, oa) ∈ news) (ca : oa.cls = .type "tuple") (da : oa.data = .seq xs.toArray ka) (mb : (b, ob) ∈ news) (cb : ob.cls = .type "tuple") (db : ob.data = .seq ys.toArray kb) (he : ItEqs xs ys) (hu : A.units < cLine)
    (h : Q (.bool false) s) : wpAny (model prog w) A (compareOp .NotEq (.ref a) (.ref b)) Q E s := by
  refine SeqAt.RcNeAt.tuples (e := fun _ => true) ⟨_, (N _ ma).1, ca, _, da⟩ ⟨_, (N _ mb).1, cb, _, db⟩ hu (fun j h1 h2 => (he.get j (by simpa using h1) (by simpa using h2)).at) prog w E Q ?_
  have e9 := he.len
  have e8 : ∀ n, (List.range n).all (fun _ => true) = true := fun n => List.all_eq_true.mpr fun _ _ => rfl
  rw [e8, List.size_toArray, List.size_toArray, e9, beq_self_eq_true]
  exact h
theorem syn_eq {x : Array UInt8} (h : Q (.bool true) s) : wpAny (model prog w) A (compareOp .Eq (.bytes x t) (.bytes x u)) Q E s := eq_bytes (by rw [beq_self_eq_true]; exact h)
end
theorem le_via {a n m : Nat} (h : a ≤ n) (k : n ≤ m) : a ≤ m := Nat.le_trans h k
theorem le_take {d l : List UInt8} {i n : Nat} (e : d = l.take i) (h : l.length ≤ n) : d.length ≤ n := by
  subst e; exact Nat.le_trans (by rw [List.length_take]; exact Nat.min_le_right _ _) h
theorem fst_add {d b c : List UInt8} (e : d = b ++ c) (h : b[0]? = some 40) : d[0]? = some 40 := by
  subst e
  cases b with
  | nil => cases h
  | cons x b => exact h
theorem fst_take {d l : List UInt8} {i : Int} (e : d = l.take i.toNat) (hi : 1 ≤ i) (h : l[0]? = some 40) : d[0]? = some 40 := by
  subst e
  obtain ⟨k, hk⟩ : ∃ k, i.toNat = k + 1 := ⟨i.toNat - 1, by omega⟩
  rw [hk, List.getElem?_take_of_lt (by omega)]
  exact h
/-- so many steps as octets are read are enough -/
theorem rdK_few {bl : List UInt8} : ∀ {n k d : Nat} {f r : List UInt8} {e : Nat}, rdK bl n k f d = some (r, e) → ∀ m, e ≤ k + m → rdK bl m k f d = some (r, e) := by
  intro n
  induction n with
  | zero => intro k d f r e h; cases h
  | succ n ih =>
    intro k d f r e h m hm
    have hge := rdK_ge h
    obtain ⟨m, rfl⟩ : ∃ j, m = j + 1 := ⟨m - 1, by omega⟩
    unfold rdK at h ⊢
    rcases hc : bl[k]? with _ | c
    · rw [hc] at h; cases h
    · rw [hc] at h
      dsimp only at h ⊢
      split at h <;> rename_i h1
      · rw [if_pos h1]
        rcases he : escK bl (k + 1) with _ | ⟨ev, k'⟩
        · rw [he] at h; cases h
        · rw [he] at h
          have := escK_ge he
          exact ih h m (by omega)
      · rw [if_neg h1]
        split at h <;> rename_i h2
        · rw [if_pos h2]
          have := skipK_ge bl (k + 1)
          exact ih h m (by omega)
        · rw [if_neg h2]
          split at h <;> rename_i h3
          · rw [if_pos h3]; exact ih h m (by omega)
          · rw [if_neg h3]
            split at h <;> rename_i h4
            · rw [if_pos h4]
              split at h <;> rename_i h5
              · rw [if_pos h5]; exact h
              · rw [if_neg h5]; exact ih h m (by omega)
            · rw [if_neg h4]; exact ih h m (by omega)
theorem again_all {bl d4 d5 d6 r : List UInt8} {e : Nat} (hr : rdK bl (bl.length + 1) 1 [] 1 = some (r, e)) (hb : bl[0]? = some 40) (h4 : d4 = bl.take (e : Int).toNat) (h5 : d5 = [32] ++ d4) (h6 : d6 = d5 ++ [47, 97, 98]) :
    d6[0]? = some 32 ∧ d6[1]? = some 40 ∧ rdK d6 (d6.length + 1) 2 [] 1 = some (r, e + 1) ∧ d6.drop (e + 1) = wb := by
  have hge := rdK_ge hr
  rw [Int.toNat_natCast] at h4
  subst h4 h5 h6
  have hl : (bl.take e).length = e := by rw [List.length_take]; omega
  refine ⟨rfl, ?_, ?_, ?_⟩
  · have := again_get (bl := bl) (t := [47, 97, 98]) hge.2 0 (by omega)
    rw [hb] at this
    exact this
  · have h1 := rdK_again (t := [47, 97, 98]) hr
    refine rdK_few h1 _ ?_
    simp
    omega
  · show (32 :: bl.take e ++ [47, 97, 98]).drop (e + 1) = wb
    rw [List.cons_append, List.drop_succ_cons, List.drop_append_of_le_length (by omega), List.drop_of_length_le (by omega)]
    rfl
section
variable {w : World} {A : Around} {env : Env} {outer : List Env} {A₀ : Around} {h₀ : Heap} {L : Addr} {m mg mb : PySem.Str → Option Value} {mean : ExcName → Option Value} {s : Shared} {Q E : Value → Shared → Prop} {news : List (Addr × Obj)} {bl r : List UInt8} {e : Nat} {tb : Tok}
theorem told_none (C : Cx 330 100 w A env outer A₀ h₀ h₀ L m mg mb mean s) (hg : A.guards = some []) (N : News h₀ L s.heap news) (hfit : bl.length ≤ 900) (he : bl[0]? = some 40) (hr : rdK bl (bl.length + 1) 1 [] 1 = none)
    (ret0 : ∀ t h' tk2, Fr h₀ L h' m → News h₀ L h' [] → Q (.bytes synB t) { s with heap := h', toks := tk2 }) : wpP (model PR w) A (call (.ref 945) [.bytes bl.toArray tb, .bool false]) Q E s :=
  told_P C hg N C.X C.T (Nat.le_refl _) hfit he (fun _ t h' tk2 st ns => ret0 t h' tk2 ⟨ns, st, Fr.above C.F⟩ (fun _ hp => nomatch hp)) fun r e h => by rw [hr] at h; cases h
theorem told_some (C : Cx 330 100 w A env outer A₀ h₀ h₀ L m mg mb mean s) (hg : A.guards = some []) (N : News h₀ L s.heap news) (hfit : bl.length ≤ 900) (he : bl[0]? = some 40) (hr : rdK bl (bl.length + 1) 1 [] 1 = some (r, e))
    (ret1 : ∀ tu h' tk2 t0 t1 t2 t3, Fr h₀ L h' m → News h₀ L h' ((tu, tupObj [.str (Str.ofString "string") t0, .bytes r.toArray t1, .bool false, .int 3 t2, .int (e : Nat) t3]) :: news) → Q (.ref tu) { s with heap := h', toks := tk2 }) : wpP (model PR w) A (call (.ref 945) [.bytes bl.toArray tb, .bool false]) Q E s :=
  told_P C hg N C.X C.T (Nat.le_refl _) hfit he (fun h => by rw [hr] at h; cases h) fun r' e' h => by rw [hr] at h; cases h; exact ret1
end
local macro_rules | `(tactic| walk_at "compareOp Eq ref ref") => `(tactic| (k_here; (with_reducible show wpAny _ _ (compareOp CmpOp.Eq (Value.ref _) (Value.ref _)) _ _ _); refine Halt.h ?_))
local macro_rules | `(tactic| walk_at "compareOp NotEq ref ref") => `(tactic| (k_here; (with_reducible show wpAny _ _ (compareOp CmpOp.NotEq (Value.ref _) (Value.ref _)) _ _ _); refine Halt.h ?_))
local macro_rules | `(tactic| walk_at "compareOp Eq bytes bytes") => `(tactic| (k_here; k_dflt (refine syn_eq ?_)))
local macro_rules | `(tactic| walk_at "binaryOp Add bytes bytes") => `(tactic| (k_here; (with_reducible show wpAny _ _ (binaryOp Operator.Add (Value.bytes (List.toArray _) _) (Value.bytes (List.toArray _) _)) _ _ _); refine Halt.h ?_))
local macro_rules | `(tactic| walk_at "subscriptTail") => `(tactic| (k_here; (with_reducible show wpAny _ _ (subscriptTail _ (Expr.Slice none _ none _) (Value.bytes _ _) (Value.ref _)) _ _ _); refine Halt.h ?_))
theorem post_true (xs : List Int) : (RowW.claim (OpenLaw.row PySem.Challenge.rw_nt0532_01).toRowW).post [ofPy (PyData.list (List.map PyData.int xs))] (WData.bool true) [ofPy (PyData.list (List.map PyData.int xs))] = true := by
  first | rfl | wrow_post
section
 local macro_rules | `(tactic| walk_at "lts") => `(tactic| with_reducible first | exact at3 (in4 (by assumption)) | exact And.left (in4 (in4 (by assumption))) | exact at1 (in4 (in4 (by assumption))) | exact at2 (in4 (in4 (by assumption))) | exact And.right (by assumption) | exact And.right (And.right (by assumption)) | exact And.right (And.right (And.right (by assumption))))
 local macro_rules | `(tactic| k_ne) => `(tactic| (refine neN ?_; (try dsimp only); with_reducible first | walk_at "lts" | (apply Ne.symm; walk_at "lts")))
set_option maxRecDepth 100000 in
set_option maxHeartbeats 8000000 in
theorem law_holds : PySem.Challenge.rw_nt0532_01.Holds := by
  refine hd.go (by rfl) (by rfl) (by rfl) ?_
  k_fill
  intro w s₀ s₁ mg mb G Y fa o pm cd doc dV kV ho hd' hcd hD hmg hg args vals as hpre hlay hrd hwl hlo
  have KX := kIn_of Y
  have X := (Ground.X G).1
  have V := (Ground.X G).2
  have GL := glob_more (Ground.glob G hd.names_ hd.imp_) V
  refine Ground.open G ?_
  intro T B D TE TW
  try (refine guard_noD D (by decide +kernel) ?_; clear D)
  obtain ⟨_, _, M⟩ := bmod_of_top T
  wrow_args hpre hlay hrd hwl hlo
  have e950 := mg_of (n := Str.ofString "law") KX T.g (by k_is)
  obtain rfl : fa = 950 := by
    have z := hmg.symm.trans e950
    cases z
    rfl
  clear hmg ho hd' hcd hD
  refine P_call ?_
  k_dflt (refine' P_topC (K := hd.heap_39 w.params) ?k1 ?k2 ?k6 ?k7 ?k9 ?kB ?kD ?_ ?c2 ?c3 ?c4; (case k1 => exact KX); (case k2 => exact T); (case k6 => k_is); (case k7 => k_is); (case k9 => exact BindsTo.of_eq rfl); (case kB => exact rfl); (case kD => decide +kernel); (case c2 => exact rfl); (case c3 => exact rfl); (case c4 => exact rfl))
  intro L' h' tk' cells' F' N' Y' B' X' T'
  k_cells Y'
  (try simp only [List.cons_append, List.nil_append] at N')
  (try dsimp only)
  refine P_cons (P_any ?_)
  k_steps
  repeat (any_goals ((first | (with_reducible refine Halt.mk ?_; first | (k_here; (with_reducible show wpAny _ _ (compareOp CmpOp.Eq (Value.ref _) (Value.ref _)) _ _ _); k_dflt (refine tup_eq_K (by k_asm) (by k_mem) (by exact rfl) (by exact rfl) (by k_mem) (by exact rfl) (by exact rfl) (by repeat (first | exact ItEqs.nil | refine ItEqs.cons (by first | exact ItEq.same _ | exact ItEq.str _ _ _ | exact ItEq.bytes _ _ _ | exact ItEq.int _ _ _ _ (by omega)) ?_)) (by ke_room) ?_)) | (k_here; (with_reducible show wpAny _ _ (compareOp CmpOp.NotEq (Value.ref _) (Value.ref _)) _ _ _); k_dflt (refine tup_ne_K (by k_asm) (by k_mem) (by exact rfl) (by exact rfl) (by k_mem) (by exact rfl) (by exact rfl) (by repeat (first | exact ItEqs.nil | refine ItEqs.cons (by first | exact ItEq.same _ | exact ItEq.str _ _ _ | exact ItEq.bytes _ _ _ | exact ItEq.int _ _ _ _ (by omega)) ?_)) (by ke_room) ?_)) | (k_here; (with_reducible show wpAny _ _ (binaryOp Operator.Add (Value.bytes (List.toArray _) _) (Value.bytes (List.toArray _) _)) _ _ _); k_dflt (refine by_add (by first | assumption | exact Nat.le_refl _) (by first | assumption | exact Nat.le_refl _) (by decide) ?_); intro t'z k'z d'z hd'z hl'z; (try simp only [List.length_cons, List.length_nil] at hl'z); (first | k_dflt (have hz'z := fst_add hd'z (by first | with_reducible assumption | exact rfl)) | skip)) | (k_here; (with_reducible show wpAny _ _ (getMethod (Value.bytes _ _) (Str.ofString "join") _) _ _ _); k_dflt (refine join_meth ?_)) | (k_here; k_dflt (refine join_K (by k_asm) (by k_mem) (by assumption) (by omega) ?_); intro t'z k'z) | (k_here; (with_reducible show wpAny _ _ (call (Value.ref 924) _) _ _ _); k_dflt (refine draw_any (Cx.mk rfl rfl (Nat.le_of_ble_eq_true rfl) (Nat.le_of_ble_eq_true rfl) rfl rfl (by k_asm) (by k_asm) (by k_asm) (by k_asm)) (by k_asm) (by k_updF) (by assumption) (by k_mem) (by k_ne) (by assumption) (by first | assumption | exact len60 | (simp only [List.length_map, List.length_take]; omega)) (by refine ⟨?_, ?_⟩ <;> omega) (by first | exact draw_b (by assumption) (by assumption) (by decide) | (refine ⟨?_, ?_⟩ <;> omega)) ?_); intro r'z t'z h'z od'z ta'z tk2'z hr0'z hr1'z F'z N'z hd'z; (try dsimp only at N'z); (try k_sweep)) | (k_here; goal_has PySem.NameKind.free; k_dflt (refine' src_pieces (by rfl) (by assumption) (by assumption) (by assumption) (by refine ⟨?_, ?_⟩ <;> omega) (by assumption) (by refine ⟨?_, ?_⟩ <;> omega) (fun g'z od'z a'z ta'z I'z oI'z C'z oC'z D'z ys'z h'z tk'z E'z ha0'z ha1'z hd'z F'z N'z off'z ne'z => ?_) (fun g'z ys'z bs'z od'z a'z ta'z hB'z hf'z ha0'z ha1'z hd'z => ?_)); (all_goals (try simp only [LCg.Off3, and_true, and_assoc] at off'z))) | (goal_has PieceEl; k_dflt (refine LCg.CompEnd.intro (by assumption) (by assumption) _ (fun p hp => hp) (by first | assumption | (simp only [LCg.Off3, and_true, and_assoc]; assumption)) True.intro ⟨_, _, _, _, rfl, by assumption, rfl, by assumption⟩)) | (k_here; (with_reducible show wpAny _ _ (subscriptTail _ _ (Value.ref 905) (Value.int _ _)) _ _ _); k_dflt (refine piece_tail (by assumption) (by assumption) (by omega) (by omega) ?_); intro b'z t'z hb'z) | (k_here; (with_reducible show wpAny _ _ (subscriptTail _ (Expr.Slice none _ none _) (Value.bytes _ _) (Value.ref _)) _ _ _); k_dflt (refine by_to_K (by k_asm) (by k_asm) (le_via (by assumption) (by decide)) (by omega) ?_); intro h'z t'z k'z d'z hd'z F'z N'z; (have hl'z := le_take hd'z (by assumption)); (first | (have hz'z := fst_take hd'z (by omega) (by with_reducible assumption)) | skip); (try k_sweep))) | ((with_reducible show wpP _ _ (call (Value.ref 938) _) _ _ _); k_dflt (refine lawread_P (Cx.mk rfl rfl (Nat.le_of_ble_eq_true rfl) (Nat.le_of_ble_eq_true rfl) rfl rfl (by k_asm) (by k_asm) (by k_asm) (by k_asm)) rfl (by k_asm) (le_via (by assumption) (by decide)) (fun hr'z h'z tk2'z F'z N'z => ?_) (fun r'z e'z hr'z tu'z t'z te'z h'z tk2'z F'z N'z => ?_)); (all_goals (try k_sweep))) | ((with_reducible show wpP _ _ (call (Value.ref 945) [_, Value.bool false]) _ _ _); k_dflt (first | refine told_none (Cx.mk rfl rfl (Nat.le_of_ble_eq_true rfl) (Nat.le_of_ble_eq_true rfl) rfl rfl (by k_asm) (by k_asm) (by k_asm) (by k_asm)) rfl (by k_asm) (le_via (by assumption) (by decide)) (by with_reducible assumption) (by with_reducible assumption) (fun t'z h'z tk2'z F'z N'z => ?_) | refine told_some (Cx.mk rfl rfl (Nat.le_of_ble_eq_true rfl) (Nat.le_of_ble_eq_true rfl) rfl rfl (by k_asm) (by k_asm) (by k_asm) (by k_asm)) rfl (by k_asm) (le_via (by assumption) (by decide)) (by with_reducible assumption) (by with_reducible assumption) (fun tu'z h'z tk2'z t0'z t1'z t2'z t3'z F'z N'z => ?_)); (try k_sweep)) | ((with_reducible show wpP _ _ (call (Value.ref 945) [_, Value.bool true]) _ _ _); (have hAgz := again_all (by with_reducible assumption) (by with_reducible assumption) (by with_reducible assumption) (by with_reducible assumption) (by with_reducible assumption)); k_dflt (refine told1_P (Cx.mk rfl rfl (Nat.le_of_ble_eq_true rfl) (Nat.le_of_ble_eq_true rfl) rfl rfl (by k_asm) (by k_asm) (by k_asm) (by k_asm)) rfl (by k_asm) (le_via (by assumption) (by decide)) hAgz.1 hAgz.2.1 hAgz.2.2.1 hAgz.2.2.2 (fun tu'z h'z tk2'z t0'z t1'z t2'z t3'z t4'z t5'z t6'z F'z N'z => ?_)); (try k_sweep))); all_goals k_steps))
  all_goals first
    | exact hg
    | exact GoodW.toG (goodW_bool (by with_reducible assumption) hg (fun _ => rfl) (by first | exact post_true _ | wrow_post))
end
end Mine
set_option maxRecDepth 100000 in
set_option maxHeartbeats 8000000 in
theorem PySem.Challenge.cw_nt0532_01_holds : PySem.Challenge.rw_nt0532_01.Holds :=
  Mine.law_holds
