import PyProof.Rows.All
import Wide.All
import OpenK.AllK
import Wide.FinOn
import PySem.Challenge.RW_nt0532_01
open PySem PySem.W PySem.Calls PyProof.Rows
set_option Elab.async false
namespace Mine
/-! A logic beside wpAny: over the contexts on whose stack no decoder stands.
  bytearray.append and bytearray.__init__ ask the stack for such a holder; Around does not bound them. -/
def decodes (c : Code) : Bool := match c with
  | .builtin id _ => Builtin.Bytes.decodersThatHold.contains id
  | _ => false
def FreeB (Γ : Ctx) : Prop := ∀ x ∈ Γ.below, decodes x.1 = false
def FreeC (Γ : Ctx) : Prop := decodes Γ.code = false ∧ FreeB Γ

structure wpP {α : Type} (M : Model) (A : Around) (t : Sem α) (Q : α → Shared → Prop) (E : Value → Shared → Prop) (s : Shared) : Prop where
  run : ∀ Γ p, Γ.In A → FreeC Γ → Sem.wp M Γ t (fun a _ s' => Q a s') (fun e _ s' => E e s') p s
structure codeP (M : Model) (A : Around) (c : Code) (R : Result → Shared → Prop) (s : Shared) : Prop where
  run : ∀ Γ p, Γ.code = c → Γ.Below A → FreeB Γ → wpCode M Γ R p s

section
variable {α β : Type} {M : Model} {A : Around} {E : Value → Shared → Prop} {s : Shared}
theorem P_any {t : Sem α} {Q : α → Shared → Prop} (h : wpAny M A t Q E s) : wpP M A t Q E s := ⟨fun Γ p i _ => h Γ p i⟩
theorem P_codeAny {c : Code} {R : Result → Shared → Prop} (h : codeAny M A c R s) : codeP M A c R s := ⟨fun Γ p e b _ => h Γ p e b⟩
theorem P_pure {a : α} {Q : α → Shared → Prop} (h : Q a s) : wpP M A (pure a) Q E s := ⟨fun _ _ _ _ => h⟩
theorem P_mono {t : Sem α} {Q Q' : α → Shared → Prop} {E' : Value → Shared → Prop} (h : wpP M A t Q E s) (hQ : ∀ a s, Q a s → Q' a s) (hE : ∀ e s, E e s → E' e s) : wpP M A t Q' E' s :=
  ⟨fun Γ p i f => Sem.wp_mono M Γ t (fun a _ s => hQ a s) (fun e _ s => hE e s) p s (h.run Γ p i f)⟩
theorem P_bind {m : Sem α} {k : α → Sem β} {Q : β → Shared → Prop} (h : wpP M A m (fun a s' => wpP M A (k a) Q E s') E s) : wpP M A (m >>= k) Q E s := ⟨fun Γ p i f => by
  rw [Sem.wp_bind']
  exact Sem.wp_mono M Γ m (fun _ p' _ h' => h'.run Γ p' i f) (fun _ _ _ h' => h') p s (h.run Γ p i f)⟩
theorem P_onRaise {m : Sem α} {k : Value → Sem Unit} {Q : α → Shared → Prop} (h : wpP M A m Q (fun e s' => wpP M A (k e) (fun _ s'' => E e s'') E s') s) : wpP M A (m.onRaise k) Q E s := ⟨fun Γ p i f => by
  rw [Sem.wp_onRaise]
  exact Sem.wp_mono M Γ m (fun _ _ _ h' => h') (fun _ p' _ h' => h'.run Γ p' i f) p s (h.run Γ p i f)⟩
theorem P_tryCatch {m : Sem α} {k : Value → Sem α} {Q : α → Shared → Prop} (h : wpP M A m Q (fun e s' => wpP M A (k e) Q E s') s) : wpP M A (tryCatch m k) Q E s := ⟨fun Γ p i f => by
  rw [Sem.wp_tryCatch']
  exact Sem.wp_mono M Γ m (fun _ _ _ h' => h') (fun _ p' _ h' => h'.run Γ p' i f) p s (h.run Γ p i f)⟩
theorem P_attempt {m : Sem α} {Q : Except Value α → Shared → Prop} (h : wpP M A m (fun a => Q (.ok a)) (fun e => Q (.error e)) s) : wpP M A m.attempt Q E s := ⟨fun Γ p i f => by
  rw [Sem.wp_attempt]; exact h.run Γ p i f⟩
theorem P_holding {vs : List Value} {m : Sem α} {Q : α → Shared → Prop} (h : wpP M A m Q E s) : wpP M A (holding vs m) Q E s := ⟨fun Γ p i f => by
  rw [Sem.wp_holding]; exact h.run Γ p i f⟩
theorem P_operate {vs : List Value} {m : Sem Value} {Q : Value → Shared → Prop} (h : wpP M A m Q E s) : wpP M A (operate vs m) Q E s := ⟨fun Γ p i f => by
  rw [Sem.wp_operate]; exact h.run Γ p i f⟩
theorem P_standAt {pos : Pos} {Q : Unit → Shared → Prop} (h : Q () s) : wpP M A (standAt pos) Q E s := ⟨fun _ _ _ _ => h⟩
theorem P_point {Q : Unit → Shared → Prop} (h : Q () s) : wpP M A point Q E s := ⟨fun _ _ _ _ => h⟩

theorem P_codeMono {c : Code} {R R' : Result → Shared → Prop} (h : codeP M A c R s) (hR : ∀ r s, R r s → R' r s) : codeP M A c R' s :=
  ⟨fun Γ p e b f => wpCode_mono hR (h.run Γ p e b f)⟩
theorem P_run {c : Code} {h : Option Value} {Q : Flow → Shared → Prop}
    (hc : codeP M (A.mark h) c (fun r s' => match r with | .ok f => Q f s' | .error e => E e s') s) (hnb : h ≠ some byPass := by intro x; cases x) : wpP M A (run c h) Q E s :=
  ⟨fun Γ p i f => by rw [Sem.wp_run]; exact hc.run _ p rfl (i.enter c h p hnb) (List.forall_mem_cons.mpr f)⟩
theorem P_runValue {c : Code} {Q : Value → Shared → Prop}
    (hc : codeP M A c (fun r s' => match r with | .ok (.ret v) => Q v s' | .ok _ => False | .error e => E e s') s) : wpP M A (runValue c) Q E s :=
  ⟨fun Γ p i f => by rw [Sem.wp_runValue]; exact hc.run _ p rfl (i.enter c none p (by intro x; cases x)) (List.forall_mem_cons.mpr f)⟩
theorem P_call {f : Value} {pos : List Value} {kw : List (Str × Value)} {Q : Value → Shared → Prop}
    (hc : codeP M A (.call f ⟨pos, kw⟩) (fun r s' => match r with | .ok (.ret v) => Q v s' | .ok _ => False | .error e => E e s') s) : wpP M A (call f pos kw) Q E s := P_runValue hc
theorem P_tree {c : Code} {R : Result → Shared → Prop} (hd : decodes c = false)
    (h : wpP M (A.under c) (M.den c) (fun fin s' => match fin with | .done f => R (.ok f) s' | .again c' => c'.quiet = true ∧ codeP M A c' R s') (fun e s' => R (.error e) s') s) : codeP M A c R s := ⟨fun Γ p hc b f => by
  rw [wpCode_iff_wp, hc]
  refine Sem.wp_mono M Γ _ (fun fin p' s' h' => ?_) (fun _ _ _ h' => h') p s (h.run Γ p (hc ▸ b.in) ⟨hc ▸ hd, f⟩)
  cases fin with
  | done f => exact h'
  | again c' => exact ⟨h'.1, h'.2.run (Γ.goto c') p' rfl (b.goto c') f⟩⟩
/-- What a bytearray asks of the stack before it grows: nobody holds it. -/
theorem P_stack {Q : List (Code × Pos) → Shared → Prop}
    (h : ∀ st : List (Code × Pos), (∀ g, A.guards = some g → guardsOf st = g) → (∀ x ∈ st, decodes x.1 = false) → Q st s) : wpP M A stack Q E s := ⟨fun Γ p i f => by
  show Q ((Γ.code, p) :: Γ.below) s
  exact h _ (fun g hg => by rw [guardsOf_cons]; exact i.2.2.2.1 g hg) (List.forall_mem_cons.mpr f)⟩
end

/-! The head over this logic. -/
def callerC : Ctx := ⟨.builtin "claim.caller" {}, none, none, [], none⟩
theorem callerC_free : FreeC callerC := ⟨by decide +kernel, by intro x hx; cases hx⟩

theorem ends_gensP {prog : Program} {w : World} {t : Sem Fin} {s : Shared} {R : Result → Shared → Prop} (hreg : s.asleep) (hG : leftWithCleanup s.gens = false)
    (h : wpP (model prog w) callerA t (fun fin s' => ∃ f, fin = .done f ∧ (R (.ok f) s' ∧ s'.gens = #[])) (fun e s' => R (.error e) s' ∧ s'.gens = #[]) { s with gens := #[] }) :
    ∃ n r s', schedN (denote table) prog w n (.single s ⟨t, .builtin "claim.caller" {}, default, []⟩) = .halted (outcomeOf r) { s' with gens := s.gens } ∧ s'.heap.life = s.heap.life ∧ R r s' := by
  have ho : Sem.wp (model prog w) callerC t (Sem.finPost (model prog w) callerC fun r s' => (R r s' ∧ s'.gens = #[]) ∧ leftWithCleanup s'.gens = false)
      (fun e _ s' => (R (.error e) s' ∧ s'.gens = #[]) ∧ leftWithCleanup s'.gens = false) default { s with gens := #[] } := by
    refine Sem.wp_mono _ _ t (fun fin _ s' x => ?_) (fun e _ s' x => ⟨x, by rw [x.2]; simp [leftWithCleanup]⟩) _ _ (h.run callerC default caller_in callerC_free)
    obtain ⟨f, rfl, a, b⟩ := x
    exact ⟨⟨a, b⟩, by rw [b]; simp [leftWithCleanup]⟩
  obtain ⟨n, r, s₁, hn, hR, hg⟩ := (wp_iff_halts (M := model prog w) (R := fun r s' => R r s' ∧ s'.gens = #[]) ..).mp ho
  obtain ⟨s₂, hr, hf, hc⟩ := runNI_real _ _ _ hn (outcomeOf_ends r)
  obtain rfl : s₂ = s₁ := Shared.eq_of_forget_eq hf hg
  exact ⟨n, r, s₂, sched_gens (s := { s with gens := #[] }) hG hr (outcomeOf_ends r) hg rfl hc hreg, runN_life (s := { s with gens := #[] }) _ _ _ hr, hR⟩

theorem callFromP {c : ClaimW} {tree : List Value → Sem Fin} {w : World} {s : Shared} {free : Addr → Prop} {gens : Prop} {kept : Heap → Prop} (hz : s.asleep)
    (hspec : ∀ args, c.pre args = true → WData.layableAll args = true → ∀ ord : List DictEntry → List DictEntry, (∀ l, (ord l).Perm l) →
      ∃ vs s₁, layAllW c.records (classAt s.heap) w.params ord args s = some (vs, s₁) ∧ s₁.gens = #[] ∧
        wpP (model c.prog w) callerA (tree vs) (fun fin s' => ∃ f, fin = .done f ∧ (c.Ends s args vs s₁ (.ok f) s' ∧ s'.os = s.os ∧ s'.gens = #[] ∧ kept s'.heap))
          (fun e s' => c.Ends s args vs s₁ (.error e) s' ∧ s'.os = s.os ∧ s'.gens = #[] ∧ kept s'.heap) s₁) :
    c.CallFrom (fun vs => ⟨tree vs, .builtin "claim.caller" {}, default, []⟩) w free gens kept s := by
  intro args hpre hlay ord hord
  obtain ⟨vs, s₁, hlaid, hg₁, hcode⟩ := hspec args hpre hlay ord hord
  have hal := layAllW_rest _ _ _ hlaid
  have he : ({ s₁ with gens := #[] } : Shared) = s₁ := by rw [← hg₁]
  obtain ⟨k, r, s', hsched, hlife, hcase, hos, hkp⟩ := ends_gensP (prog := c.prog) (w := w) (t := tree vs) (s := s₁) (R := fun r s' => c.Ends s args vs s₁ r s' ∧ s'.os = s.os ∧ kept s'.heap)
    (Shared.asleep_of_life hal.2.2.2 hz) (by rw [hg₁]; simp [leftWithCleanup])
    (he.symm ▸ P_mono hcode (fun _ _ ⟨f, e, a, b, d, k⟩ => ⟨f, e, ⟨a, b, k⟩, d⟩) fun _ _ ⟨a, b, d, k⟩ => ⟨⟨a, b, k⟩, d⟩)
  refine ⟨vs, s₁, hlaid, k, _, _, hsched, ?_, (fun _ i x hx => by rw [← hx]; exact congrArg (·[i]?) hal.1), hkp, congrArg Life.seen (hlife.trans hal.2.2.2), Shared.rest_eq hos⟩
  rcases hcase with ⟨v, rfl, d1, d2, d3, d4, d5⟩ | ⟨e, ob, cls, rfl, d1, d2, d3, d4, d5⟩
  · exact .inl ⟨v, rfl, d1, d2, d3, fun b o y _ => d4 b o y, d5⟩
  · exact .inr ⟨e, ob, cls, rfl, d1, d2, d3, d4, fun b o y _ => d5 b o y⟩

abbrev WalkP (q : Program) (loose : List Str) (XP : (Str → Option Value) → Heap → Prop) (YP : World → Heap → Prop) (r : RowW) (d : DefRec) (kwd : List (Str × Expr)) : Prop :=
  ∀ (w : World) (s₀ s₁ : Shared) (mg mb : Str → Option Value), Ground q loose r.records XP w s₀ mg mb s₁.heap → YP w s₁.heap → ∀ (a : Addr) (o : Obj) (pm cd doc dV kV : Value), s₁.heap.get? a = some o →
    o.data = .func { docDef d.name d.params d.body d.scope pm cd doc with defaults := dV, kwdefaults := kV } → s₁.heap.CodeRec cd d.name → Dflts mg s₁.heap d.params kwd dV kV → mg d.name = some (.ref a) → s₁.gens = #[] →
    ∀ (args : List WData) (vals : List Value) (as : List Addr), r.claim.pre args = true → WData.layableAll args = true → ReadsAllW r.records (classAt s₀.heap) s₁.heap vals args as → WellAll w.params s₁.heap vals args → (∀ a ∈ as, (a == sysModules) = false) →
      wpP (model r.prog w) callerA (PySem.call (.ref a) vals) (fun v s' => GoodWG r.claim (classAt s₀.heap) (ExcName.means s₀.heap) args s₁ (.ok (.ret v)) s' ∧ s'.gens = #[]) (fun _ _ => False) s₁

/-- The library's head of the same last name, with the call owed over free stacks alone: «o_head» finds this one first inside this namespace. -/
theorem PySem.W.holds_open {r : OpenRow} {q : Program} {loose : List Str} {Xt : Shared → Bool} {XP : (Str → Option Value) → Heap → Prop} {α : Type} {Yf : Shared → α} {Ya : World → α} {YP : World → Heap → Prop} {d : DefRec} {kwd : List (Str × Expr)} {N : Nat}
    (left : LeftO r.prog q loose Xt Yf Ya N) (hY : ∀ w s, Yf s = Ya w → YP w s.heap) (hYk : ∀ w h h', YP w h → (∀ b o, h.get? b = some o → h'.get? b = some o) → YP w h')
    (hX : ∀ s, Xt s = true → XP (s.heap.nsMap mainGlobals) s.heap) (hXk : ∀ mg h h', XP mg h → (∀ b o, h.get? b = some o → h'.get? b = some o) → XP mg h')
    (hdef : defOf q r.name = some (d, kwd)) (hp : r.prog.theDef r.name = some (d.params, d.body, d.scope)) (hk : kwWritten? d.params.kwonlyargs d.params.kw_defaults = some kwd) (hRf : ∀ s, Xt s = true → RecFacts r.records s.heap) (hwr : (!r.writes || r.records.isEmpty) = true)
    (k1 : r.wellSaid = true) (ok : (chainsOk q && opensWell r.prog && (frees r.toRowW && r.within.isEmpty)) = true) (hb : r.prog.bare) (hw : r.toRowW.promised)
    (call : WalkP q loose XP YP r.toRowW d kwd) : r.Holds := by
  refine ⟨k1, hw, ?_⟩
  obtain ⟨ok, k5⟩ := Bool.and_eq_true_iff.mp ok
  obtain ⟨hch, o1⟩ := Bool.and_eq_true_iff.mp ok
  obtain ⟨k5, k6⟩ := Bool.and_eq_true_iff.mp k5
  obtain ⟨hsame, hu, ha, hap, hm⟩ := frees_parts k5
  refine ⟨⟨hb, o1, by show r.toRowW.makers.map _ = []; rw [hm]; rfl⟩, hw.witness, fun w => ⟨(left.behind hX hch w).1, fun s' hs' => ?_⟩⟩
  obtain ⟨s₀, hf, hg0, s, hT, hz, hgens, hg, G00, y⟩ := (left.behind (XP := fun mg h => XP mg h ∧ RecFacts r.records h) (fun s hs => ⟨hX s hs, hRf s hs⟩) hch w).2 s' hs'
  have G0 : Ground q loose [] XP w s (s.heap.nsMap mainGlobals) (s.heap.nsMap builtinsNs) s.heap := ⟨G00.T, G00.B, G00.D, G00.TE, G00.TD, G00.W, G00.X.1, G00.cls, G00.has, G00.apart, G00.once, G00.K⟩
  have RF := G00.X.2
  have hT' := hT
  refine ⟨s₀, hf, hg0, s, hT, fun n hn => ?_, RF.1, RF.2.1, ?_⟩
  · obtain rfl : n = r.name := by split at hn <;> simp_all
    exact pinned_of_view hg G0 hdef hp hk
  have hgens : s.gens = #[] := Array.eq_empty_of_size_eq_zero (beq_iff_eq.mp hgens)
  have G : Ground q loose r.records XP w s _ _ s.heap := RF.ground G0
  refine callFromP (c := r.toRowW.claim) hz fun args hpre hlay ord hord => ?_
  obtain ⟨⟨vs, s₁⟩, hlaid⟩ := Option.isSome_iff_exists.mp (layAllW_isSome (P := w.params) (ord := ord) G.has args r.args s (pre_splitW hpre).1)
  have keeps := layAllW_keeps _ _ _ hlaid
  have hal := layAllW_rest _ _ _ hlaid
  obtain ⟨as, hrd, hin, hold⟩ := reads_layAllW hord _ _ _ hlaid hlay s₁.heap (fun _ _ e => e)
  have L : Laid r.records w s s₁ args vs as := ⟨⟨ord, hord, hlaid⟩, hrd, hin, hold, keeps, hal.1.trans hgens, hal.2.2.1⟩
  have G₁ := G.keeps hXk keeps
  obtain ⟨a, o, pm, cd, doc, dV, kV, h1, h2, h3, h4, h5⟩ := G₁.fn hdef
  have hc := call w s s₁ _ _ G₁ (hYk _ _ _ (hY w s y) keeps) a o pm cd doc dV kV h2 h3 h4 h5 (defOf_name hdef ▸ h1) L.gens args vs as hpre hlay L.reads L.well (L.low G.low)
  have hi := ident_freeW hu ha hap
  have hwi : r.toRowW.claim.within = [] := List.isEmpty_iff.mp k6
  refine ⟨vs, s₁, hlaid, L.gens, P_bind (P_any (wpAny_nsGet G₁.T.g ?_))⟩
  show wpP _ _ (match (Heap.nsMap s.heap mainGlobals) r.name with | some f => _ | none => _) _ _ _
  rw [h1]
  refine P_bind (P_mono hc (fun v s' g => P_pure ⟨_, rfl, ?_⟩) fun e s' g => g.elim)
  have z := g.1.laid (c := r.toRowW.claim) hsame hwi hi L
  exact ⟨z.1, z.2.1, g.2, fun q => ⟨namesKept_of hT' hg _ keeps g.1.2.1.old, noTable hwr q⟩⟩
set_option maxRecDepth 100000 in
set_option maxHeartbeats 8000000 in
open_top hd for PySem.Challenge.rw_nt0532_01
theorem fillJ : PySem.Challenge.rw_nt0532_01 = PySem.Challenge.rw_nt0532_01 ∧ hd.heap_39 = hd.heap_39 := by k_fill; w_top off; exact ⟨rfl, rfl⟩
noncomputable abbrev PR : PySem.Program := PySem.Challenge.rw_nt0532_01.row.prog
noncomputable abbrev Lo : List PySem.Str := looseW hd.view_39
      [Str.ofString "LEAST_INT", Str.ofString "MOST_INT", Str.ofString "PostError", Str.ofString "MOST_REAL",
        Str.ofString "WORD_SIZE", Str.ofString "Thing", Str.ofString "name", Str.ofString "of_string",
        Str.ofString "of_row", Str.ofString "of_packed", Str.ofString "OctetSource", Str.ofString "MOST_COST",
        Str.ofString "Limits", Str.ofString "BodyMaker", Str.ofString "Memory", Str.ofString "_law_pieces"]
/-- the source's dict -/
abbrev srcD (w : World) (k1 k2 : Tok) (bl : List UInt8) (tb : Tok) (p : Int) (tk : Tok) : Obj :=
  dictOf [{ hash := PyData.keyHash w.params (Str.ofString "octets"), key := .str (Str.ofString "octets") k1, val := .bytes bl.toArray tb },
    { hash := PyData.keyHash w.params (Str.ofString "at"), key := .str (Str.ofString "at") k2, val := .int p tk }] 2

/-- what a call of the text's own finds around it -/
structure Cx (D U : Nat) (w : World) (A : Around) (env : Env) (outer : List Env) (A₀ : Around) (base h₀ : Heap) (L : Addr) (m mg mb : PySem.Str → Option Value) (mean : ExcName → Option Value) (s : Shared) : Prop where
  hh : A.handled = none
  hf : A.frames = some (env :: outer)
  hdp : A.depth ≤ D
  hu : A.units ≤ U
  hL : env.frame = some L
  hk : env.scope.kind = .function
  B : Below A₀ base outer h₀
  F : Fr h₀ L s.heap m
  X : (hd.heap_39 w.params).In h₀
  T : Top hd.view_39 Lo mean mg mb h₀

theorem deepen {α : Type} {M : Model} {A : Around} {t : Sem α} {Q : α → Shared → Prop} {E : Value → Shared → Prop} {s : Shared} {env : Env} {outer : List Env} (D U : Nat)
    (hh : A.handled = none) (hf : A.frames = some (env :: outer)) (hd : A.depth ≤ D) (hu : A.units ≤ U)
    (h : wpAny M { handled := none, depth := D, frames := some (env :: outer), guards := A.guards, units := U } t Q E s) : wpAny M A t Q E s := by
  intro Γ p hΓ
  exact h Γ p ⟨hΓ.1.trans hh, Nat.le_trans hΓ.2.1 hd, fun l hl => hΓ.2.2.1 l (hf.trans hl), hΓ.2.2.2.1, Nat.le_trans hΓ.2.2.2.2 hu⟩

/-- a ledger with one object d that a call changes, another x that it reads: in the order in which the contracts are shown -/
theorem canon {h₀ h : Heap} {L x d : Addr} {news : List (Addr × Obj)} {g : Obj → List (Addr × Obj)} {ox od : Obj} (N : News h₀ L h news) (hx : (x, ox) ∈ news) (U : UpdF d od news g) :
    ∃ rest, News h₀ L h ((x, ox) :: (d, od) :: rest) ∧ OwnOff rest [x, d] ∧ ∀ h' o', News h₀ L h' ((x, ox) :: (d, o') :: rest) → News h₀ L h' (g o') := by
  obtain ⟨pre, post, rfl, hg, a, b⟩ := U.split
  refine ⟨(pre ++ post).filter (fun p => decide (p.1 ≠ x)), fun p hp => ?_, fun p hp q hq => ?_, fun h' o' N' p hp => ?_⟩
  · rcases List.mem_cons.mp hp with rfl | hp
    · exact N _ hx
    rcases List.mem_cons.mp hp with rfl | hp
    · exact N _ (by simp)
    have := (List.mem_filter.mp hp).1
    exact N p (by rcases List.mem_append.mp this with h | h <;> simp [h])
  · have hp' := List.mem_filter.mp hp
    rcases List.mem_cons.mp hq with rfl | hq
    · simpa using hp'.2
    · rw [List.mem_singleton.mp hq]
      rcases List.mem_append.mp hp'.1 with h | h
      · exact a p h
      · exact b p h
  · rw [hg] at hp
    have key : ∀ q, q ∈ pre ++ post → News h₀ L h (pre ++ (d, od) :: post) → h'.get? q.1 = some q.2 ∧ q.1 ≠ L ∧ h₀.get? q.1 = none := by
      intro q hq N
      by_cases e : q.1 = x
      · have h1 : h.get? q.1 = some q.2 := (N q (by rcases List.mem_append.mp hq with h | h <;> simp [h])).1
        have h2 := (N _ hx).1
        rw [e] at h1
        have e2 : q.2 = ox := Option.some.inj (h1.symm.trans h2)
        have e3 : q = (x, ox) := Prod.ext e e2
        rw [e3]
        exact N' _ (.head _)
      · exact N' q (.tail _ (.tail _ (List.mem_filter.mpr ⟨hq, by simpa using e⟩)))
    rcases List.mem_append.mp hp with hp | hp
    · exact key p (List.mem_append.mpr (.inl hp)) N
    rcases List.mem_cons.mp hp with rfl | hp
    · exact N' _ (.tail _ (.head _))
    · exact key p (List.mem_append.mpr (.inr hp)) N

theorem src_ne {h₀ h : Heap} {L x d : Addr} {r : List (Addr × Obj)} {c dx : Addr} {es : List DictEntry} {n : Nat} (N : News h₀ L h ((x, instObj c dx) :: (d, dictOf es n) :: r)) : @Ne Nat x d := by
  intro e
  have h1 := (N _ (.head _)).1
  have h2 := (N _ (.tail _ (.head _))).1
  dsimp only at h1 h2
  rw [e, h2] at h1
  cases h1

theorem byte_at {prog : Program} {w : World} {A : Around} {E : Value → Shared → Prop} {s : Shared} {value slice : PySem.Expr} {t : Tok} {Q : Value → Shared → Prop} {bl : List UInt8} {k : Nat} {c : UInt8} {i : Int} {ui : Tok}
    (hc : bl[k]? = some c) (hfit : bl.length ≤ 1000) (hi : i = (k : Int)) (h : Q (.int c.toNat s.toks) { s with toks := s.toks + 1 })
    (hs : subscripted slice false (.bytes bl.toArray t) (.int i ui) = operate [.bytes bl.toArray t, .int i ui] (getItem (.bytes bl.toArray t) (.int i ui)) := by with_unfolding_all rfl)
    (ht : ∀ r, letTemporaryGo value (.bytes bl.toArray t) r = pure () := by intro _; with_unfolding_all rfl) :
    wpAny (model prog w) A (subscriptTail value slice (.bytes bl.toArray t) (.int i ui)) Q E s := by
  subst hi
  have hk : k < bl.length := (List.getElem?_eq_some_iff.mp hc).1
  refine KBy.item_N (by omega) (by omega) (by omega) ?_ hs ht
  have e : bl.getD ((k : Int)).toNat 0 = c := by
    rw [Int.toNat_natCast, List.getD_eq_getElem?_getD, hc]; rfl
  rw [e]; exact h
local macro_rules | `(tactic| ktr_enter) => `(tactic| (refine' code_def ?k1 ?k2 ?k3 ?k4 ?k5 ?kA ?kF ?kK ?k6 ?k7 ?k8 ?k9 ?kB ?_ ?c2 ?c3 ?c4 ?c5; (case kA => exact rfl); (case kF => first | assumption | exact rfl); (case kK => first | assumption | exact rfl); (case k1 => k_asm); (case k2 => k_asm); (case k3 => k_asm); (case k4 => k_asm); (case k5 => k_asm); (case k6 => k_is); (case k7 => k_is); (case k8 => k_room); (case k9 => first | exact BindsTo.of_eq rfl | exact binds_K (by k_in) rfl (by k_is) rfl rfl rfl); (case c5 => decide); (case kB => exact locs rfl); (case c2 => exact rfl); (case c3 => exact rfl); (case c4 => exact rfl); k_whole; intro g' L' h' FG' F' N' B' X' T'; (try dsimp only); (try k_fold)))
local macro_rules | `(tactic| walk_at "subscriptTail Attribute Name BinOp bytes int") => `(tactic| (k_here; (refine byte_at (by assumption) (by assumption) (by omega) ?_); (try dsimp only)))
section
variable {w : World} {A : Around} {env : Env} {outer : List Env} {A₀ : Around} {base h₀ : Heap} {L : Addr} {m mg mb : PySem.Str → Option Value} {mean : ExcName → Option Value} {s : Shared} {Q E : Value → Shared → Prop} {news : List (Addr × Obj)} {g : Obj → List (Addr × Obj)}
  {x dx : Addr} {k1 k2 tb : Tok} {bl : List UInt8} {p : Int} {tk : Tok} {k : Nat} {c : UInt8}
set_option maxRecDepth 100000 in
set_option maxHeartbeats 8000000 in
theorem next_byte (C : Cx 410 500 w A env outer A₀ base h₀ L m mg mb mean s) (N : News h₀ L s.heap news) (hx : (x, instObj 393 dx) ∈ news) (U : UpdF dx (srcD w k1 k2 bl tb p tk) news g)
  (hp : p = (k : Int)) (hc : bl[k]? = some c) (hfit : bl.length ≤ 1000)
  (ret : ∀ t h' tk' tk2 p', Fr h₀ L h' m → News h₀ L h' (g (srcD w k1 k2 bl tb p' tk')) → p' = ((k + 1 : Nat) : Int) → Q (.int c.toNat t) { s with heap := h', toks := tk2 }) :
  wpAny (model PR w) A (call (.ref 383) [.ref x]) Q E s := by
  obtain ⟨hh, hf, hdp, hu, hL, hk, B, F, X, T⟩ := C
  refine deepen 410 500 hh hf hdp hu ?_
  obtain ⟨rest, Nc, hoff, back⟩ := canon N hx U
  have hne := src_ne Nc
  clear N hx U
  have hk' : k < bl.length := (List.getElem?_eq_some_iff.mp hc).1
  refine wpAny_call ?_
  k_dflt ktr_enter
  k_steps
  all_goals exact ret _ _ _ _ _ (by k_asm) (back _ _ (by k_asm)) (by first | assumption | omega)
set_option maxRecDepth 100000 in
set_option maxHeartbeats 8000000 in
theorem next_end (C : Cx 410 500 w A env outer A₀ base h₀ L m mg mb mean s) (N : News h₀ L s.heap news) (hx : (x, instObj 393 dx) ∈ news) (U : UpdF dx (srcD w k1 k2 bl tb p tk) news g)
  (hp : p = (k : Int)) (hc : bl[k]? = none) (hfit : bl.length ≤ 1000)
  (ret : ∀ h' tk2, Fr h₀ L h' m → News h₀ L h' (g (srcD w k1 k2 bl tb p tk)) → Q .none { s with heap := h', toks := tk2 }) :
  wpAny (model PR w) A (call (.ref 383) [.ref x]) Q E s := by
  obtain ⟨hh, hf, hdp, hu, hL, hk, B, F, X, T⟩ := C
  refine deepen 410 500 hh hf hdp hu ?_
  obtain ⟨rest, Nc, hoff, back⟩ := canon N hx U
  have hne := src_ne Nc
  clear N hx U
  have hk' : bl.length ≤ k := List.getElem?_eq_none_iff.mp hc
  refine wpAny_call ?_
  k_dflt ktr_enter
  k_steps
  all_goals exact ret _ _ (by k_asm) (back _ _ (by k_asm))
theorem next_any (C : Cx 410 500 w A env outer A₀ base h₀ L m mg mb mean s) (N : News h₀ L s.heap news) (hx : (x, instObj 393 dx) ∈ news) (U : UpdF dx (srcD w k1 k2 bl tb p tk) news g)
  (hp : p = (k : Int)) (hfit : bl.length ≤ 1000)
  (retN : bl[k]? = none → ∀ h' tk2, Fr h₀ L h' m → News h₀ L h' (g (srcD w k1 k2 bl tb p tk)) → Q .none { s with heap := h', toks := tk2 })
  (retB : ∀ c, bl[k]? = some c → ∀ t h' tk' tk2 p', Fr h₀ L h' m → News h₀ L h' (g (srcD w k1 k2 bl tb p' tk')) → p' = ((k + 1 : Nat) : Int) → Q (.int c.toNat t) { s with heap := h', toks := tk2 }) :
  wpAny (model PR w) A (call (.ref 383) [.ref x]) Q E s := by
  rcases hc : bl[k]? with _ | c
  · exact next_end C N hx U hp hc hfit (retN hc)
  · exact next_byte C N hx U hp hc hfit (retB c hc)
end
theorem news_tail {h₀ h : Heap} {L : Addr} {q : Addr × Obj} {l : List (Addr × Obj)} (N : News h₀ L h (q :: l)) : News h₀ L h l := fun p hp => N p (.tail _ hp)
/-! the plain reading -/
def isO (c : UInt8) : Bool := decide (48 ≤ c.toNat) && decide (c.toNat ≤ 55)
theorem isO_iff {c : UInt8} : isO c = true ↔ 48 ≤ c.toNat ∧ c.toNat ≤ 55 := by simp [isO]
theorem isO_iff' {c : UInt8} : isO c = false ↔ ¬ (48 ≤ c.toNat ∧ c.toNat ≤ 55) := by rw [← isO_iff]; simp
def skipK (bl : List UInt8) (k : Nat) : Nat := match bl[k]? with
  | none => k
  | some c => if c.toNat = 10 then k + 1 else k
def octK (bl : List UInt8) : Nat → Nat → Nat → Nat × Nat
  | 0, k, v => (v, k)
  | n + 1, k, v => match bl[k]? with
    | none => (v, k)
    | some c => if 48 ≤ c.toNat ∧ c.toNat ≤ 55 then octK bl n (k + 1) (8 * v + c.toNat - 48) else (v, k)
def meanU (c : UInt8) : UInt8 := if c.toNat = 110 then 10 else if c.toNat = 114 then 13 else if c.toNat = 116 then 9 else if c.toNat = 98 then 8 else if c.toNat = 102 then 12 else c
def escK (bl : List UInt8) (k : Nat) : Option (List UInt8 × Nat) := match bl[k]? with
  | none => none
  | some c =>
    if 48 ≤ c.toNat ∧ c.toNat ≤ 55 then some ([UInt8.ofNat ((octK bl 2 (k + 1) (c.toNat - 48)).1 % 256)], (octK bl 2 (k + 1) (c.toNat - 48)).2)
    else if c.toNat = 13 then some ([], skipK bl (k + 1))
    else if c.toNat = 10 then some ([], k + 1)
    else some ([meanU c], k + 1)
def rdK (bl : List UInt8) : Nat → Nat → List UInt8 → Nat → Option (List UInt8 × Nat)
  | 0, _, _, _ => none
  | n + 1, k, f, d => match bl[k]? with
    | none => none
    | some c =>
      if c.toNat = 92 then (match escK bl (k + 1) with
        | none => none
        | some (e, k') => rdK bl n k' (f ++ e) d)
      else if c.toNat = 13 then rdK bl n (skipK bl (k + 1)) (f ++ [10]) d
      else if c.toNat = 40 then rdK bl n (k + 1) (f ++ [c]) (d + 1)
      else if c.toNat = 41 then (if d = 1 then some (f, k + 1) else rdK bl n (k + 1) (f ++ [c]) (d - 1))
      else rdK bl n (k + 1) (f ++ [c]) d

theorem skipK_ge (bl : List UInt8) (k : Nat) : k ≤ skipK bl k := by unfold skipK; split <;> (try split) <;> omega
theorem octK_ge (bl : List UInt8) : ∀ n k v, k ≤ (octK bl n k v).2
  | 0, _, _ => Nat.le_refl _
  | n + 1, k, v => by
    unfold octK
    split
    · exact Nat.le_refl _
    · split
      · exact Nat.le_of_succ_le (octK_ge bl n (k + 1) _)
      · exact Nat.le_refl _
theorem escK_ge {bl : List UInt8} {k k' : Nat} {e : List UInt8} (h : escK bl k = some (e, k')) : k + 1 ≤ k' := by
  unfold escK at h
  split at h
  · cases h
  · split at h
    · cases h; exact octK_ge bl 2 (k + 1) _
    · split at h
      · cases h; exact skipK_ge bl (k + 1)
      · split at h <;> (cases h; exact Nat.le_refl _)
theorem oct_end {bl : List UInt8} {k v n : Nat} (h : bl[k]? = none) : octK bl n k v = (v, k) := by cases n <;> simp [octK, h]
theorem oct_no {bl : List UInt8} {k v n : Nat} {c : UInt8} (h : bl[k]? = some c) (ho : isO c = false) : octK bl n k v = (v, k) := by
  have := isO_iff'.mp ho
  cases n <;> simp [octK, h, this]
theorem oct_yes {bl : List UInt8} {k v n : Nat} {c : UInt8} (h : bl[k]? = some c) (ho : isO c = true) : octK bl (n + 1) k v = octK bl n (k + 1) (8 * v + c.toNat - 48) ∧ 48 ≤ c.toNat ∧ c.toNat ≤ 55 := by
  have := isO_iff.mp ho
  exact ⟨by simp [octK, h, this], this⟩
theorem oct_yn {bl : List UInt8} {k v : Nat} {c : UInt8} (h : bl[k]? = some c) (ho : isO c = true) (h2 : bl[k + 1]? = none) : octK bl 2 k v = (8 * v + c.toNat - 48, k + 1) ∧ 48 ≤ c.toNat ∧ c.toNat ≤ 55 := by
  rw [(oct_yes h ho).1, oct_end h2]; exact ⟨rfl, (oct_yes (n := 0) (v := 0) h ho).2⟩
theorem oct_yo {bl : List UInt8} {k v : Nat} {c d : UInt8} (h : bl[k]? = some c) (ho : isO c = true) (h2 : bl[k + 1]? = some d) (hd : isO d = false) : octK bl 2 k v = (8 * v + c.toNat - 48, k + 1) ∧ 48 ≤ c.toNat ∧ c.toNat ≤ 55 := by
  rw [(oct_yes h ho).1, oct_no h2 hd]; exact ⟨rfl, (oct_yes (n := 0) (v := 0) h ho).2⟩
theorem oct_yy {bl : List UInt8} {k v : Nat} {c d : UInt8} (h : bl[k]? = some c) (ho : isO c = true) (h2 : bl[k + 1]? = some d) (hd : isO d = true) :
    octK bl 2 k v = (8 * (8 * v + c.toNat - 48) + d.toNat - 48, k + 1 + 1) ∧ (48 ≤ c.toNat ∧ c.toNat ≤ 55) ∧ 48 ≤ d.toNat ∧ d.toNat ≤ 55 := by
  rw [(oct_yes h ho).1, (oct_yes h2 hd).1]; exact ⟨rfl, (oct_yes (n := 0) (v := 0) h ho).2, (oct_yes (n := 0) (v := 0) h2 hd).2⟩
local macro_rules | `(tactic| walk_at "call ref") => `(tactic| (k_here; (with_reducible show wpAny _ _ (call (Value.ref 383) _) _ _ _); k_dflt (first | (refine next_byte (Cx.mk rfl rfl (Nat.le_of_ble_eq_true rfl) (Nat.le_of_ble_eq_true rfl) rfl rfl (by k_asm) (by k_asm) (by k_asm) (by k_asm)) (by k_asm) (by k_mem) (by k_updF) (by first | assumption | rfl) (by assumption) (by assumption) ?_; intro t' h' tk' tk2' p' F' N' hp') | (refine next_end (Cx.mk rfl rfl (Nat.le_of_ble_eq_true rfl) (Nat.le_of_ble_eq_true rfl) rfl rfl (by k_asm) (by k_asm) (by k_asm) (by k_asm)) (by k_asm) (by k_mem) (by k_updF) (by first | assumption | rfl) (by assumption) (by assumption) ?_; intro h' tk2' F' N') | (refine next_any (Cx.mk rfl rfl (Nat.le_of_ble_eq_true rfl) (Nat.le_of_ble_eq_true rfl) rfl rfl (by k_asm) (by k_asm) (by k_asm) (by k_asm)) (by k_asm) (by k_mem) (by k_updF) (by first | assumption | rfl) (by assumption) (fun hc' h' tk2' F' N' => ?_) (fun c' hc' t' h' tk' tk2' p' F' N' hp' => ?_))); (all_goals (try dsimp only at N' ⊢)); (all_goals (try k_sweep))))
section
variable {w : World} {A : Around} {env : Env} {outer : List Env} {A₀ : Around} {base h₀ : Heap} {L : Addr} {m mg mb : PySem.Str → Option Value} {mean : ExcName → Option Value} {s : Shared} {Q E : Value → Shared → Prop} {news : List (Addr × Obj)} {g : Obj → List (Addr × Obj)}
  {x dx : Addr} {k1 k2 tb : Tok} {bl : List UInt8} {p : Int} {tk : Tok} {k : Nat} {c : UInt8}
set_option maxRecDepth 100000 in
set_option maxHeartbeats 8000000 in
theorem sure_byte (C : Cx 400 450 w A env outer A₀ base h₀ L m mg mb mean s) (N : News h₀ L s.heap news) (hx : (x, instObj 393 dx) ∈ news) (U : UpdF dx (srcD w k1 k2 bl tb p tk) news g)
  (hp : p = (k : Int)) (hc : bl[k]? = some c) (hfit : bl.length ≤ 1000)
  (ret : ∀ t h' tk' tk2 p', Fr h₀ L h' m → News h₀ L h' (g (srcD w k1 k2 bl tb p' tk')) → p' = ((k + 1 : Nat) : Int) → Q (.int c.toNat t) { s with heap := h', toks := tk2 }) :
  wpAny (model PR w) A (call (.ref 439) [.ref x]) Q E s := by
  obtain ⟨hh, hf, hdp, hu, hL, hk, B, F, X, T⟩ := C
  refine deepen 400 450 hh hf hdp hu ?_
  obtain ⟨rest, Nc, hoff, back⟩ := canon N hx U
  have hne := src_ne Nc
  clear N hx U
  refine wpAny_call ?_
  k_dflt ktr_enter
  k_steps
  all_goals exact ret _ _ _ _ _ (by k_asm) (back _ _ (by k_asm)) (by first | assumption | omega)
set_option maxRecDepth 100000 in
set_option maxHeartbeats 8000000 in
theorem skip_feed (C : Cx 400 450 w A env outer A₀ base h₀ L m mg mb mean s) (N : News h₀ L s.heap news) (hx : (x, instObj 393 dx) ∈ news) (U : UpdF dx (srcD w k1 k2 bl tb p tk) news g)
  (hp : p = (k : Int)) (hfit : bl.length ≤ 1000)
  (ret : ∀ h' tk' tk2 p', Fr h₀ L h' m → News h₀ L h' (g (srcD w k1 k2 bl tb p' tk')) → p' = ((skipK bl k : Nat) : Int) → Q .none { s with heap := h', toks := tk2 }) :
  wpAny (model PR w) A (call (.ref 411) [.ref x]) Q E s := by
  obtain ⟨hh, hf, hdp, hu, hL, hk, B, F, X, T⟩ := C
  refine deepen 400 450 hh hf hdp hu ?_
  obtain ⟨rest, Nc, hoff, back⟩ := canon N hx U
  have hne := src_ne Nc
  clear N hx U
  refine wpAny_call ?_
  k_dflt ktr_enter
  k_steps
  all_goals exact ret _ _ _ _ (by k_asm) (back _ _ (by k_asm)) (by (simp only [skipK, *]; try ((try split) <;> omega)))
end
theorem and_elim {P Q R : Prop} (h : P ∧ Q) (m : P → Q → R) : R := m h.1 h.2
theorem allLt_ne {d : Addr} : ∀ {l : List (Addr × Obj)}, AllLt d l → ∀ p ∈ l, p.1 ≠ d
  | [], _, _, h => nomatch h
  | q :: l, h, p, hp => by
    rcases List.mem_cons.mp hp with rfl | hp
    · exact Nat.ne_of_lt h.1
    · exact allLt_ne h.2 p hp
theorem unr_end {h₀ h' : Heap} {L I : Addr} {it : Obj} {R : (PySem.Str → Option Value) → List (Addr × Obj) → Prop} {s₁ : Shared} {tk : Nat} {m' : PySem.Str → Option Value} {a b : Addr × Obj} {l : List (Addr × Obj)}
    (F : Fr h₀ L h' m') (N : News h₀ L h' ((I, it) :: a :: b :: l)) (hl : @LT.lt Nat _ a.1 I ∧ @LT.lt Nat _ b.1 I ∧ AllLt I l) (r : R m' (a :: b :: l)) : UnrEnd h₀ L s₁ I it R { s₁ with heap := h', toks := tk } :=
  UnrEnd.intro F N (a :: b :: l) (fun _ hp => hp) (fun p hp => by
    rcases List.mem_cons.mp hp with rfl | hp
    · exact Nat.ne_of_lt hl.1
    rcases List.mem_cons.mp hp with rfl | hp
    · exact Nat.ne_of_lt hl.2.1
    · exact allLt_ne hl.2.2 p hp) r
local macro_rules | `(tactic| walk_at "UnrEnd") => `(tactic| (k_dflt (refine unr_end (by k_asm) (by k_asm) (by assumption) ?_)))
local macro_rules | `(tactic| walk_at "call ref") => `(tactic| (k_here; (with_reducible show wpAny _ _ (call (Value.ref 411) _) _ _ _); k_dflt ( (refine skip_feed (Cx.mk rfl rfl (Nat.le_of_ble_eq_true rfl) (Nat.le_of_ble_eq_true rfl) rfl rfl (by k_asm) (by k_asm) (by k_asm) (by k_asm)) (by k_asm) (by k_mem) (by k_updF) (by first | assumption | rfl) (by assumption) ?_; intro h' tk' tk2' p' F' N' hp')); (try dsimp only at N' ⊢); (try k_sweep)))
section
variable {w : World} {A : Around} {env : Env} {outer : List Env} {A₀ : Around} {base h₀ : Heap} {L : Addr} {m mg mb : PySem.Str → Option Value} {mean : ExcName → Option Value} {s : Shared} {Q E : Value → Shared → Prop} {news : List (Addr × Obj)} {g : Obj → List (Addr × Obj)}
  {x dx : Addr} {k1 k2 tb : Tok} {bl : List UInt8} {p : Int} {tk : Tok} {k : Nat} {c : UInt8}
set_option maxRecDepth 100000 in
set_option maxHeartbeats 8000000 in
theorem is_octal_c (C : Cx 410 500 w A env outer A₀ base h₀ L m mg mb mean s) (N : News h₀ L s.heap news) {o : Int} {to : Tok} (ho : o = (c.toNat : Int))
  (ret : ∀ h' tk2, Fr h₀ L h' m → News h₀ L h' news → Q (.bool (isO c)) { s with heap := h', toks := tk2 }) :
  wpAny (model PR w) A (call (.ref 82) [.int o to]) Q E s := by
  obtain ⟨hh, hf, hdp, hu, hL, hk, B, F, X, T⟩ := C
  refine deepen 410 500 hh hf hdp hu ?_
  refine wpAny_call ?_
  by_cases h1 : 48 ≤ c.toNat
  · have hs : isO c = decide (o ≤ 55) := by simp [isO, h1, ho]; omega
    rw [hs] at ret
    k_dflt ktr_enter
    k_steps
    all_goals exact ret _ _ (by k_asm) (by k_asm)
  · have hs : isO c = decide (48 ≤ o) := by simp [isO, h1, ho]; omega
    rw [hs] at ret
    k_dflt ktr_enter
    k_steps
    all_goals exact ret _ _ (by k_asm) (by k_asm)
end

local macro_rules | `(tactic| walk_at "call ref") => `(tactic| (k_here; (with_reducible show wpAny _ _ (call (Value.ref 82) _) _ _ _); k_dflt (refine is_octal_c (Cx.mk rfl rfl (Nat.le_of_ble_eq_true rfl) (Nat.le_of_ble_eq_true rfl) rfl rfl (by k_asm) (by k_asm) (by k_asm) (by k_asm)) (by k_asm) (by first | assumption | rfl) ?_; intro h' tk2' F' N'); (try dsimp only at N' ⊢); (try simp only [*]); (try k_sweep)))
section
variable {w : World} {A : Around} {env : Env} {outer : List Env} {A₀ : Around} {base h₀ : Heap} {L : Addr} {m mg mb : PySem.Str → Option Value} {mean : ExcName → Option Value} {s : Shared} {Q E : Value → Shared → Prop} {news : List (Addr × Obj)} {g : Obj → List (Addr × Obj)}
  {x dx : Addr} {k1 k2 tb : Tok} {bl : List UInt8} {p : Int} {tk : Tok} {k : Nat} {c : UInt8}
set_option maxRecDepth 100000 in
set_option maxHeartbeats 8000000 in
theorem octal_c (C : Cx 390 400 w A env outer A₀ base h₀ L m mg mb mean s) (N : News h₀ L s.heap news) (hx : (x, instObj 393 dx) ∈ news) (U : UpdF dx (srcD w k1 k2 bl tb p tk) news g)
  (hp : p = (k : Int)) (hfit : bl.length ≤ 1000) {o : Int} {to : Tok} (ho : o = (c.toNat : Int)) (hO : isO c = true)
  (ret : ∀ t h' tk' tk2 p' v, Fr h₀ L h' m → News h₀ L h' (g (srcD w k1 k2 bl tb p' tk')) → v = (((octK bl 2 k (c.toNat - 48)).1 % 256 : Nat) : Int) → p' = ((octK bl 2 k (c.toNat - 48)).2 : Int) → Q (.int v t) { s with heap := h', toks := tk2 }) :
  wpAny (model PR w) A (call (.ref 446) [.ref x, .int o to]) Q E s := by
  obtain ⟨hh, hf, hdp, hu, hL, hk, B, F, X, T⟩ := C
  refine deepen 390 400 hh hf hdp hu ?_
  obtain ⟨rest, Nc, hoff, back⟩ := canon N hx U
  have hne := src_ne Nc
  clear N hx U
  refine wpAny_call ?_
  k_dflt ktr_enter
  k_steps
  · have e9 := oct_end (bl := bl) (k := k) (n := 2) (v := c.toNat - 48) (by assumption)
    (have b0 := isO_iff.mp hO; rw [e9] at ret; dsimp only at ret; exact ret _ _ _ _ _ _ (by k_asm) (back _ _ (by first | k_asm | exact news_tail (by k_asm))) (by rw [bitAnd_m8]; omega) (by omega))
  · obtain ⟨e9, b9⟩ := oct_yn (bl := bl) (k := k) (v := c.toNat - 48) (by assumption) (by assumption) (by assumption)
    (have b0 := isO_iff.mp hO; rw [e9] at ret; dsimp only at ret; exact ret _ _ _ _ _ _ (by k_asm) (back _ _ (by first | k_asm | exact news_tail (by k_asm))) (by rw [bitAnd_m8]; omega) (by omega))
  · obtain ⟨e9, b9⟩ := oct_yy (bl := bl) (k := k) (v := c.toNat - 48) (by assumption) (by assumption) (by assumption) (by assumption)
    (have b0 := isO_iff.mp hO; rw [e9] at ret; dsimp only at ret; exact ret _ _ _ _ _ _ (by k_asm) (back _ _ (by first | k_asm | exact news_tail (by k_asm))) (by rw [bitAnd_m8]; omega) (by omega))
  · obtain ⟨e9, b9⟩ := oct_yo (bl := bl) (k := k) (v := c.toNat - 48) (by assumption) (by assumption) (by assumption) (by assumption)
    (have b0 := isO_iff.mp hO; rw [e9] at ret; dsimp only at ret; exact ret _ _ _ _ _ _ (by k_asm) (back _ _ (by first | k_asm | exact news_tail (by k_asm))) (by rw [bitAnd_m8]; omega) (by omega))
  · have e9 := oct_no (bl := bl) (k := k) (n := 2) (v := c.toNat - 48) (by assumption) (by assumption)
    (have b0 := isO_iff.mp hO; rw [e9] at ret; dsimp only at ret; exact ret _ _ _ _ _ _ (by k_asm) (back _ _ (by first | k_asm | exact news_tail (by k_asm))) (by rw [bitAnd_m8]; omega) (by omega))
end
/-! the text's own exception PsError(told): made, flying out of frames -/
section
variable {M : Model} {A : Around} {E : Value → Shared → Prop} {s : Shared}
/-- e is a PsError with its dict d and a traceback whose flight is fl -/
def Ex (base h : Heap) (e d : Addr) (fl : Value) : Prop :=
  ∃ oe vs T oT ts, h.get? e = some oe ∧ (oe.cls = .ref 52 ∧ oe.dict = some d) ∧ oe.data = .fields vs ∧ vs[1]? = some (.ref T) ∧ base.get? T = none ∧ T ≠ e ∧ h.get? T = some oT ∧ oT.data = .fields ts ∧ ts[3]? = some fl
def Ex0 (h : Heap) (e d : Addr) : Prop :=
  ∃ oe vs, h.get? e = some oe ∧ (oe.cls = .ref 52 ∧ oe.dict = some d) ∧ oe.data = .fields vs ∧ vs[1]? = some .none
def Told (h : Heap) (d : Addr) (es : List DictEntry) : Prop := ∃ n sl, h.get? d = some { dictOf es n with slots := sl }
theorem Told.up {h h' : Heap} {d : Addr} {es : List DictEntry} (x : Told h d es) (k : h.UpToSlots h') : Told h' d es := by
  obtain ⟨n, sl, e⟩ := x
  obtain ⟨sl', e'⟩ := k d _ e (fun vs q => by cases q)
  exact ⟨n, sl', e'⟩
theorem dict_mapFields (f : Array Value → Array Value) (o : Obj) : (Obj.mapFields f o).dict = o.dict := by
  obtain ⟨c, d, dt, sl⟩ := o
  cases dt <;> rfl

theorem entry_ps {base : Heap} {env : Env} {outer : List Env} {L e d : Addr} {oe : Obj} {vs : Array Value} {head : Value} {hadNext : Bool} {Q : Unit → Shared → Prop}
    (hfr : A.frames = some (env :: outer)) (hl : s.heap.FunFrames base (env :: outer)) (hf : env.frame = some L)
    (he : s.heap.get? e = some oe) (hkb : base.StaysIn s.heap) (hen : base.get? e = none) (hcd : oe.cls = .ref 52 ∧ oe.dict = some d) (hd : oe.data = .fields vs) (hsz : 1 < vs.size)
    (h : ∀ h', base.StaysIn h' → h'.FunFrames base (env :: outer) → Ex base h' e d (rawInt L) → s.heap.UpToSlots h' → Q () { s with heap := h' }) :
    wpAny M A (do let a ← frameOf env; let pl ← entryPlaceOf L hadNext; let b ← EntryCells.newEntry head a .none (rawInt L) .none pl; setField (.ref e) 1 b) Q E s := by
  have off : e ∉ (env :: outer).filterMap (·.frame) := fun hm => by
    obtain ⟨_, o, ho, hnf⟩ := hl.mem hm
    rw [he] at ho
    exact hnf vs (Option.some.inj ho ▸ hd)
  refine wpAny_bind (wpAny_frameOf_fun hfr hl hf fun h₁ hs => wpAny_bind (wpAny_entryPlaceOf fun pl hpl => ?_))
  have e1 : h₁.get? e = some oe := (hs.2.1 e off).trans he
  have st1 : base.StaysIn h₁ := fun b o q => (hs.2.1 b fun hm => by have := (hl.mem hm).1; rw [this] at q; cases q).trans (hkb b o q)
  have up1 : s.heap.UpToSlots h₁ := fun b o q _ => hs.2.2 b o q
  unfold EntryCells.newEntry newFields
  refine wpAny_bind (wpAny_newObj_type ?_ (hpl.sizeOk5 _ _ _ _ _))
  generalize hT : ({ cls := .type "traceback", dict := none, data := .fields ([head, .ref L, .none, rawInt L, .none] ++ (if pl.isEmpty then List.replicate 6 Value.none else pl)).toArray } : Obj) = oT
  have dT : oT.data = .fields ([head, .ref L, .none, rawInt L, .none] ++ (if pl.isEmpty then List.replicate 6 Value.none else pl)).toArray := by rw [← hT]
  have fT : oT.isFreed = false := by rw [← hT]; rfl
  have e2 := Heap.get?_push_of_some oT e1
  refine wpAny_setField e2 hd hsz ?_
  have ne : h₁.objs.size ≠ e := Nat.ne_of_gt (Heap.lt_size e1)
  have de := Obj.data_mapFields hd (·.setIfInBounds 1 (Value.ref h₁.objs.size))
  have e3 := Heap.get?_update_self (Obj.mapFields (·.setIfInBounds 1 (Value.ref h₁.objs.size))) e2 (Obj.isFreed_of_fields de)
  have T3 := (Heap.get?_update_other (h₁.push oT) (Obj.mapFields (·.setIfInBounds 1 (Value.ref h₁.objs.size))) (Ne.symm ne)).trans (Heap.get?_push_size h₁ fT)
  have old : ∀ b o, b ≠ e → h₁.get? b = some o → ((h₁.push oT).update e (Obj.mapFields (·.setIfInBounds 1 (Value.ref h₁.objs.size)))).get? b = some o :=
    fun b o hb q => (Heap.get?_update_other _ _ (Ne.symm hb)).trans (Heap.get?_push_of_some _ q)
  have noE : ∀ b o, h₁.get? b = some o → (∀ vs, o.data ≠ .fields vs) → b ≠ e := fun b o q nf z => by
    rw [z, e1] at q
    exact nf vs (Option.some.inj q ▸ hd)
  have up2 : h₁.UpToSlots ((h₁.push oT).update e (Obj.mapFields (·.setIfInBounds 1 (Value.ref h₁.objs.size)))) := fun b o q nf => ⟨o.slots, old b o (noE b o q nf) q⟩
  refine h _ (fun b o q => old b o (fun z => by rw [z, hen] at q; cases q) (st1 b o q)) (hl.of_keeps fun b o q nf => ?_) ?_ (up1.trans up2)
  · obtain ⟨sl, q1⟩ := (up1.trans up2) b o q nf
    exact ⟨_, q1, rfl⟩
  · refine ⟨_, _, h₁.objs.size, oT, _, e3, ⟨(Obj.cls_mapFields _ _).trans hcd.1, (dict_mapFields _ _).trans hcd.2⟩, de, by simp [hsz], st1.fresh, ne, T3, dT, ?_⟩
    rcases hpl with rfl | ⟨_, _, _, _, _, _, _, rfl⟩ <;> simp

theorem note_ps {base : Heap} {env : Env} {outer : List Env} {L e d : Addr} {Q : Unit → Shared → Prop}
    (hfr : A.frames = some (env :: outer)) (hl : s.heap.FunFrames base (env :: outer)) (hf : env.frame = some L) (hkb : base.StaysIn s.heap) (hen : base.get? e = none) (hx : Ex0 s.heap e d ∨ Ex base s.heap e d .none)
    (h : ∀ h', base.StaysIn h' → h'.FunFrames base (env :: outer) → Ex base h' e d (rawInt L) → s.heap.UpToSlots h' → Q () { s with heap := h' }) :
    wpAny M A (noteFrame (.ref e) env) Q E s := by
  unfold noteFrame
  simp only [hf]
  rcases hx with ⟨oe, vs, he, hcd, hd, h1⟩ | ⟨oe, vs, T, oT, ts, he, hcd, hd, h1, hnT, hTe, hT, hdT, h3⟩
  · refine wpAny_bind (wpAny_field he hd h1 ?_)
    rw [if_neg (by decide)]
    exact entry_ps hfr hl hf he hkb hen hcd hd (Array.getElem?_eq_some_iff.mp h1).1 h
  · refine wpAny_bind (wpAny_field he hd h1 ?_)
    rw [if_pos (show (Value.ref T != Value.none) = true from by simp)]
    refine wpAny_bind (wpAny_field hT hdT h3 ?_)
    rw [if_neg (show ¬ ((Value.none == rawInt L) = true) from by simp [rawInt])]
    refine wpAny_bind (wpAny_setField hT hdT (Array.getElem?_eq_some_iff.mp h3).1 ?_)
    have other : ∀ b, b ≠ T → (s.heap.update T (Obj.mapFields (·.setIfInBounds 3 Value.none))).get? b = s.heap.get? b := fun b hb => Heap.get?_update_other _ _ (Ne.symm hb)
    have noT : ∀ b o, s.heap.get? b = some o → (∀ vs, o.data ≠ .fields vs) → b ≠ T := fun b o q nf z => by
      rw [z, hT] at q
      exact nf ts (Option.some.inj q ▸ hdT)
    have up : s.heap.UpToSlots (s.heap.update T (Obj.mapFields (·.setIfInBounds 3 Value.none))) := fun b o q nf => ⟨o.slots, (other b (noT b o q nf)).trans q⟩
    exact entry_ps (s := { s with heap := _ }) hfr (hl.of_keeps fun b o q nf => ⟨o, (other b (noT b o q nf)).trans q, rfl⟩) hf ((other e (Ne.symm hTe)).trans he)
      (fun b o q => (other b fun z => by rw [z, hnT] at q; cases q).trans (hkb b o q)) hen hcd hd (Array.getElem?_eq_some_iff.mp h1).1
      fun h' x1 x2 x3 x4 => h h' x1 x2 x3 (up.trans x4)

theorem note_again {base : Heap} {env : Env} {L e d : Addr} {Q : Unit → Shared → Prop} (hf : env.frame = some L) (hx : Ex base s.heap e d (rawInt L)) (h : Q () s) : wpAny M A (noteFrame (.ref e) env) Q E s := by
  obtain ⟨oe, vs, T, oT, ts, he, hcd, hd, h1, hnT, hTe, hT, hdT, h3⟩ := hx
  unfold noteFrame
  simp only [hf]
  refine wpAny_bind (wpAny_field he hd h1 ?_)
  rw [if_pos (show (Value.ref T != Value.none) = true from by simp)]
  refine wpAny_bind (wpAny_field hT hdT h3 ?_)
  rw [if_pos (by simp)]
  exact wpAny_pure h

theorem unflight_ps {base : Heap} {l : List Env} {e d : Addr} {fl : Value} {Q : Unit → Shared → Prop} (hkb : base.StaysIn s.heap) (hl : s.heap.FunFrames base l) (hx : Ex base s.heap e d fl)
    (h : ∀ h', base.StaysIn h' → h'.FunFrames base l → Ex base h' e d .none → s.heap.UpToSlots h' → Q () { s with heap := h' }) : wpAny M A (setFlight (.ref e) none) Q E s := by
  obtain ⟨oe, vs, T, oT, ts, he, hcd, hd, h1, hnT, hTe, hT, hdT, h3⟩ := hx
  have h3s : 3 < ts.size := (Array.getElem?_eq_some_iff.mp h3).1
  have other : ∀ b, b ≠ T → (s.heap.update T (Obj.mapFields (·.setIfInBounds 3 ((none : Option Addr).elim Value.none fun f => rawInt f)))).get? b = s.heap.get? b := fun b hb => Heap.get?_update_other _ _ (Ne.symm hb)
  have noT : ∀ b o, s.heap.get? b = some o → (∀ vs, o.data ≠ .fields vs) → b ≠ T := fun b o q nf z => by
    rw [z, hT] at q
    exact nf ts (Option.some.inj q ▸ hdT)
  unfold setFlight
  refine wpAny_bind (wpAny_field he hd h1 ?_)
  rw [if_pos (show (Value.ref T != Value.none) = true from by simp)]
  refine wpAny_setField hT hdT h3s (h _ (fun b o q => (other b fun z => by rw [z, hnT] at q; cases q).trans (hkb b o q))
    (hl.of_keeps fun b o q nf => ⟨o, (other b (noT b o q nf)).trans q, rfl⟩) ?_ fun b o q nf => ⟨o.slots, (other b (noT b o q nf)).trans q⟩)
  exact ⟨oe, vs, T, _, _, (other e (Ne.symm hTe)).trans he, hcd, hd, h1, hnT, hTe, Heap.get?_update_self _ hT (Obj.isFreed_of_fields (Obj.data_mapFields hdT _)), Obj.data_mapFields hdT _, by simp [h3s]⟩

/-- the exception flies over the frames l; the frame at hand there stands with its names m -/
structure Flown (base : Heap) (l : List Env) (h₀ : Heap) (L : Addr) (m : PySem.Str → Option Value) (e d : Addr) (es : List DictEntry) (h : Heap) : Prop where
  stays : base.StaysIn h
  fresh : base.get? e = none
  frames : h.FunFrames base l
  exc : Ex base h e d .none
  told : Told h d es
  up : h₀.UpToSlots h
  ns : h.Ns L m

theorem leave_ps {base g h₁ h₀ : Heap} {env : Env} {outer : List Env} {A₁ : Around} {L L' e d a : Addr} {m m' : PySem.Str → Option Value} {es : List DictEntry} {name : PySem.Str} {scope : Scope} {cd : Value} {Q : Unit → Shared → Prop}
    (K : Below A₁ base (env :: outer) g) (FG : Fr h₀ L g m) (F : Fr g L' h₁ m') (hk : h₁.UpToSlots s.heap) (hst : base.StaysIn s.heap) (hx : Ex0 s.heap e d) (hen : base.get? e = none) (ht : Told s.heap d es)
    (hQ : ∀ h', Flown base (env :: outer) h₀ L m e d es h' → Q () { s with heap := h' }) (hkf : scope.kind = .function := by rfl) :
    wpAny M (A₁.deeper (envOf name scope L' a cd)) (leaving (envOf name scope L' a cd) (.ref e)) Q E s := by
  have K' := K.push (name := name) (a := a) (cd := cd) F hkf
  have fr : s.heap.FunFrames base (envOf name scope L' a cd :: env :: outer) := K'.frames.of_keeps fun b o q nf => by
    obtain ⟨sl, q'⟩ := hk b o q nf
    exact ⟨_, q', rfl⟩
  unfold leaving
  refine wpAny_bind (note_ps K'.stack fr rfl hst hen (.inl hx) fun h₂ s2 f2 x2 u2 => ?_)
  refine unflight_ps (s := { s with heap := h₂ }) s2 f2 x2 fun h₃ s3 f3 x3 u3 => ?_
  have ug : g.UpToSlots h₃ := (Heap.UpToSlots.of_keeps F.keep).trans ((hk.trans u2).trans u3)
  exact hQ h₃ ⟨s3, hen, f3.2.2, x3, (ht.up u2).up u3, (Heap.UpToSlots.of_keeps FG.keep).trans ug, ug.ns FG.ns⟩

theorem leave_on {base g h₀ : Heap} {env : Env} {outer : List Env} {A₁ : Around} {L L' e d a : Addr} {m m' : PySem.Str → Option Value} {es : List DictEntry} {name : PySem.Str} {scope : Scope} {cd : Value} {Q : Unit → Shared → Prop}
    (K : Below A₁ base (env :: outer) g) (FG : Fr h₀ L g m) (R : Flown base (envOf name scope L' a cd :: env :: outer) g L' m' e d es s.heap)
    (hQ : ∀ h', Flown base (env :: outer) h₀ L m e d es h' → Q () { s with heap := h' }) :
    wpAny M (A₁.deeper (envOf name scope L' a cd)) (leaving (envOf name scope L' a cd) (.ref e)) Q E s := by
  unfold leaving
  refine wpAny_bind (note_ps (Around.frames_deeper K.stack) R.frames rfl R.stays R.fresh (.inr R.exc) fun h₂ s2 f2 x2 u2 => ?_)
  refine unflight_ps (s := { s with heap := h₂ }) s2 f2 x2 fun h₃ s3 f3 x3 u3 => ?_
  have ug : g.UpToSlots h₃ := (R.up.trans u2).trans u3
  exact hQ h₃ ⟨s3, R.fresh, f3.2.2, x3, (R.told.up u2).up u3, (Heap.UpToSlots.of_keeps FG.keep).trans ug, ug.ns FG.ns⟩
end
section
variable {w : World} {A : Around} {R : Result → Shared → Prop} {h : Heap} {g : Array GenState} {dr : Drawn} {t : Nat} {os : OsState}
abbrev psObj (ta : Addr) : Obj := { cls := .ref 52, data := .fields #[.ref ta, .none, .none, .none, .bool false, .none] }
abbrev tupObj (vs : List Value) : Obj := { cls := .type "tuple", data := .seq vs.toArray }
theorem ps_sub (X : (hd.heap_39 w.params).In h) : Looks (model PR w) h (isSubtype (.ref 52) (.type "Exception")) true := looks_subIn X (by k_is)
theorem ps_subA (X : (hd.heap_39 w.params).In h) : Looks (model PR w) h (isSubtype (.ref 52) (.type "AttributeError")) false := looks_subIn X (by k_is)
theorem ps_subN (X : (hd.heap_39 w.params).In h) : Looks (model PR w) h (isSubtype (.ref 52) (.type "NameError")) false := looks_subIn X (by k_is)
theorem ps_subB (X : (hd.heap_39 w.params).In h) : Looks (model PR w) h (isSubtype (.ref 52) (.type "BaseException")) true := looks_subIn X (by k_is)
theorem ps_self (X : (hd.heap_39 w.params).In h) : Looks (model PR w) h (isSubtype (.ref 52) (.ref 52)) true := looks_subIn X (by k_is)
theorem ps_isType (X : (hd.heap_39 w.params).In h) : Looks (model PR w) h (isType (.ref 52)) true := Looks.of_peek X (by kernel_rfl)
theorem ps_madeBy (X : (hd.heap_39 w.params).In h) : Looks (model PR w) h (Bind.madeBy (.ref 52)) (some "Exception.__new__") := Looks.of_peek X (by kernel_rfl)
theorem ps_madeHere (X : (hd.heap_39 w.params).In h) : Looks (model PR w) h (Bind.madeHere "BaseException.__new__" (.ref 52)) () := Looks.of_peek X (by kernel_rfl)
theorem ps_mro (X : (hd.heap_39 w.params).In h) : Looks (model PR w) h (mroOf (.ref 52)) [.ref 52, .ref 39, .type "Exception", .type "BaseException", .type "object"] := Looks.of_peek X (by kernel_rfl)
theorem ps_init (X : (hd.heap_39 w.params).In h) : Looks (model PR w) h (typeLookup (.ref 52) "__init__") (some (.ref 36)) := looks_findIn X (by k_is)
theorem ps_fn (X : (hd.heap_39 w.params).In h) (v : Value) : Looks (model PR w) h (bindSpecial (.ref 36) v) (.ref 36, [v]) := bind_fn X v (by k_is)
theorem ps_callSlot (X : (hd.heap_39 w.params).In h) : Looks (model PR w) h (specialOf (.ref 52) "__call__") (some (.builtin "type.__call__")) := looks_specialIn X (by k_is)
theorem ps_typ (X : (hd.heap_39 w.params).In h) : Looks (model PR w) h (isInstance (.ref 52) (.type "type")) true := looks_instIn X (by k_is)
theorem ps_newCheck (X : (hd.heap_39 w.params).In h) (rest : List Value) : Looks (model PR w) h (checkBuiltinCall "Exception.__new__" ⟨.ref 52 :: rest, []⟩) () := Looks.of_peek X (by kernel_rfl)
theorem ps_new (X : (hd.heap_39 w.params).In h) {rest : List Value} (hrest : rest.length ≤ 10)
    (hq : R (.ok (.ret (.ref (h.objs.size + 1)))) ⟨(h.push (tupObj rest)).push (psObj h.objs.size), g, dr, t, os⟩) :
    codeAny (model PR w) A (.builtin "Exception.__new__" ⟨.ref 52 :: rest, []⟩) R ⟨h, g, dr, t, os⟩ := by
  have F := PySem.F.excBase_Exception
  have hends := F.ends
  have L1 := ps_sub X
  have L2 := ps_subA X
  have L3 := ps_subN X
  have L4 := ps_isType X
  have L5 := ps_madeHere X
  have hrest' : rest.length ≤ sizeLine := by rw [sizeLine_eq]; omega
  refine codeAny_builtinAt F.entry ?_
  unfold Builtin.«BaseException.__new__»
  refine PySem.wpAt_bind ?_
  show PySem.wpAt _ _ _ (stack >>= _) _ _ _
  refine PySem.wpAt_bind (PySem.wpAt_stack fun p below => PySem.wpAt_of_wpAny ?_)
  wp_walk
  refine PySem.wpAt_of_wpAny ?_
  rw [F.owner]
  repeat lk
  have hz : ¬ (rest.toArray.size > sizeLine) := by rw [List.size_toArray]; omega
  rw [if_neg hz]
  repeat wp_step
  have hC := X 52 _ (by k_is)
  refine wpAny_load (Heap.get?_push_of_some _ (Heap.get?_push_of_some _ hC)) ?_
  repeat wp_step
  show R _ _
  rw [Heap.size_push]
  exact hq
theorem ps_core (X : (hd.heap_39 w.params).In h) {rest : List Value} (hrest : rest.length ≤ 10)
    (hq : codeAny (model PR w) (A.under (.builtin "type.__call__" ⟨.ref 52 :: rest, []⟩)) (.call (.ref 36) ⟨.ref (h.objs.size + 1) :: rest, []⟩) (InitBack (h.objs.size + 1) R) ⟨(h.push (tupObj rest)).push (psObj h.objs.size), g, dr, t, os⟩) :
    codeAny (model PR w) A (.call (.ref 52) ⟨rest, []⟩) R ⟨h, g, dr, t, os⟩ := by
  have hC := X 52 _ (by k_is)
  have call := ps_callSlot X
  have typ := ps_typ X
  have hm := ps_mro X
  have made := ps_madeBy X
  refine codeAny_of_tree ?_
  show wpAny _ _ (callAny (.ref 52) _) _ _ _
  refine nd_load hC ?_
  show wpAny _ _ (callAny.viaDunder (.ref 52) _) _ _ _
  unfold callAny.viaDunder
  refine wpAny_bind (call.at ?_)
  dsimp only
  rw [tc_bind]
  refine wpAny_bind (wpAny_pure (wpAny_bind (wpAny_pure ?_)))
  refine wpAny_pure (a := Fin.again (.call (.builtin "type.__call__") ⟨.ref 52 :: rest, []⟩)) (And.intro rfl ?_)
  refine codeAny_call_builtin_at (Code.quiet_builtin _ (by decide +kernel)) entry_typeCall (check_slot tc_kind tc_split typ (tc_args _ _ _) ?_)
  unfold Builtin.«type.__call__»
  repeat (first | simp only [List.isEmpty_cons, Bool.false_eq_true, if_false] | with_reducible refine wpAny_call ?_ | lk)
  refine codeAny_call_builtin_code (Code.quiet_builtin _ PySem.F.excBase_Exception.quiet) ((ps_newCheck X rest).at ?_)
  refine ps_new X hrest ?_
  have k : ∀ b o, h.get? b = some o → ((h.push (tupObj rest)).push (psObj h.objs.size)).get? b = some o := fun b o e => Heap.get?_push_of_some _ (Heap.get?_push_of_some _ e)
  have hx : ((h.push (tupObj rest)).push (psObj h.objs.size)).get? (h.objs.size + 1) = some (psObj h.objs.size) := by heap_get
  have t1 : Looks (model PR w) ((h.push (tupObj rest)).push (psObj h.objs.size)) (typeOf (.ref (h.objs.size + 1))) (.ref 52) := (Looks.ld hx).andThen .now
  have s1 := (ps_self X).keeps k
  have i1 := (ps_init X).keeps k
  have b1 := (ps_fn X (.ref (h.objs.size + 1))).keeps k
  unfold isInstance callSpecial? specialOf
  repeat (first | with_reducible refine wpAny_call ?_ | lk)
  refine codeAny_mono hq fun r s' z => ?_
  rcases r with e | (v | _ | _ | _) <;> first | exact z | exact z.elim | skip
  obtain ⟨rfl, z⟩ := z
  exact wpAny_pure (wpAny_pure z)
end
section
variable {w : World} {A : Around} {s : Shared} {h₀ : Heap} {L : Addr} {m : PySem.Str → Option Value} {news : List (Addr × Obj)} {Q E : Value → Shared → Prop}
theorem call_ps (F : Fr h₀ L s.heap m) (N : News h₀ L s.heap news) (X : (hd.heap_39 w.params).In h₀) {rest : List Value} (hrest : rest.length ≤ 10)
    (h : ∀ e te h', Fr h₀ L h' m → News h₀ L h' ((e, psObj te) :: (te, tupObj rest) :: news) → (∀ p ∈ news, p.1 < te) → te < e →
      codeAny (model PR w) (A.under (.builtin "type.__call__" ⟨.ref 52 :: rest, []⟩)) (.call (.ref 36) ⟨.ref e :: rest, []⟩) (InitBack e fun r s' => match r with | .ok (.ret v) => Q v s' | .ok _ => False | .error e => E e s') { s with heap := h' }) :
    wpAny (model PR w) A (call (.ref 52) rest) Q E s := by
  refine wpAny_call ?_
  obtain ⟨hh, g, d, t, os⟩ := s
  refine ps_core (X.keeps F.keep) hrest (h _ hh.objs.size _ ((F.push _).push _) ?_ (fun p hp => Heap.lt_size (N p hp).1) (Nat.lt_succ_self _))
  have := (N.push F (tupObj rest)).push (F.push _) (psObj hh.objs.size)
  rwa [Heap.size_push] at this
end
section
variable {w : World} {A : Around} {s : Shared} {h₀ : Heap} {L : Addr} {m : PySem.Str → Option Value} {news : List (Addr × Obj)} {Q : Unit → Shared → Prop} {E : Value → Shared → Prop}
abbrev toldEs (w : World) (k : Tok) (v : Value) : List DictEntry := [{ hash := PyData.keyHash w.params (Str.ofString "told"), key := .str (Str.ofString "told") k, val := v }]
abbrev psObjD (ta d : Addr) : Obj := { cls := .ref 52, dict := some d, data := .fields #[.ref ta, .none, .none, .none, .bool false, .none] }
open PySem.Builtin PySem.Builtin.ObjectAttr in
theorem set_told {e ta : Addr} {v : Value} (F : Fr h₀ L s.heap m) (N : News h₀ L s.heap ((e, psObj ta) :: news)) (X₀ : (hd.heap_39 w.params).In h₀) (off : ∀ p ∈ news, p.1 ≠ e)
    (h : ∀ d h' k tk', Fr h₀ L h' m → News h₀ L h' ((d, dictOf (toldEs w k v) 1) :: (e, psObjD ta d) :: news) → @LT.lt Nat _ e d → (∀ p ∈ news, p.1 < d) → Q () { s with heap := h', toks := tk' }) :
    wpAny (model PR w) A (setAttr (.ref e) (Str.ofString "told") v) Q E s := by
  have X := X₀.keeps F.keep
  have SF := PySem.F.store_Exception
  have he := (N _ (.head _)).1
  have I : InstAt s.heap e (psObj ta) 52 none := ⟨he, rfl, rfl, True.intro⟩
  refine set_plain X I (by k_is) ?_
  have L1 : Looks (model PR w) s.heap (typeOf (.ref e)) (.ref 52) := I.type
  have L2 := ps_mro X
  have L3 : Looks (model PR w) s.heap (typeLookup (.ref 52) (Str.ofString "told")) none := looks_findIn X (by k_is)
  have sub : Looks (model PR w) s.heap (isInstance (.ref e) (.type "object")) true := L1.andThen (looks_subIn X (by k_is))
  refine codeAny_call_builtin SF.slot.plain SF.entry (@check_slot (model PR w) _ _ _ "object.__setattr__" "object" "__setattr__" (.ref e) [.str (Str.ofString "told") s.toks, v] [] _ SF.kind SF.split sub (SF.args (.ref e) (.str (Str.ofString "told") s.toks) v) ?_)
  rw [osa_eq, refuse_eq]
  refine wpAny_bind (wpAny_bind (L1.at (wpAny_bind (L2.at ?_))))
  rw [refuseLoop_ref, refuseLoop_ref, SF.passes]
  refine wpAny_pure (wpAny_bind (L1.at (wpAny_bind (L3.at (wpAny_bind (wpAny_pure ?_))))))
  dsimp only
  unfold storeInOwnDict ownStreamTells ownDictForStores instanceDict
  obtain ⟨hh, g, dr, t, os⟩ := s
  have hC := X 52 _ (by k_is)
  dsimp only at he hC
  repeat (first | with_reducible refine wpAny_loadPart_at he ?_ | with_reducible refine wpAny_load hC ?_ | wp_step)
  have lt : e < hh.objs.size := Heap.lt_size he
  have N1 := N.push F emptyDict
  have F1 := F.push emptyDict
  dsimp only at N1 F1 N F
  obtain ⟨F2, N2⟩ := news_upd (pre := [(hh.objs.size, emptyDict)]) (post := news) (d := e) (o := psObj ta) (o' := psObjD ta hh.objs.size) (f := fun o => { o with dict := some hh.objs.size }) F1 N1
    (fun p hp => by rw [List.mem_singleton.mp hp]; exact Nat.ne_of_gt lt) off rfl rfl
  generalize (hh.push emptyDict).update e (fun o => { o with dict := some hh.objs.size }) = h2 at F2 N2 ⊢
  refine wpAny_askSetting (wpAny_pure (wpAny_bind (wpAny_mkText (wpAny_bind (wpAny_loadPart (N2 (hh.objs.size, emptyDict) (.head _)).1 ?_)))))
  dsimp only
  rw [if_neg (by rw [show aRefKeyMayBeTheName (Str.ofString "told") #[] = false from by kernel_rfl]; decide)]
  refine wpAny_updatePart (N2 (hh.objs.size, emptyDict) (.head _)).1 ?_
  have ep : Obj.putName (Str.ofString "told") (PyData.keyHash w.params (Str.ofString "told")) (.str (Str.ofString "told") (t + 1)) v emptyDict = dictOf (toldEs w (t + 1) v) 1 := putName_dict _ _ _ _ [] 0
  obtain ⟨F3, N3⟩ := news_upd (pre := []) (post := (e, psObjD ta hh.objs.size) :: news) (d := hh.objs.size) (o := emptyDict) (o' := dictOf (toldEs w (t + 1) v) 1) (f := Obj.putName (Str.ofString "told") (PyData.keyHash w.params (Str.ofString "told")) (.str (Str.ofString "told") (t + 1)) v) F2 N2
    (fun p hp => nomatch hp) (fun p hp => by
      rcases List.mem_cons.mp hp with rfl | hp
      · exact Nat.ne_of_lt lt
      · exact Nat.ne_of_lt (Heap.lt_size (N p (.tail _ hp)).1)) ep rfl
  refine wpAny_bind (wpAny_lookBehind (N3 _ (.head _)).1 (pastItsLine_dict (by rw [sizeLine_eq]; exact Nat.le_of_ble_eq_true rfl)) (wpAny_pure ?_))
  exact h _ _ _ _ F3 N3 lt fun p hp => Heap.lt_size (N p (.tail _ hp)).1
end
section
def PsUp (E : Value → Shared → Prop) (v : Value) (s₁ : Shared) : Prop :=
  ∃ e oe vs, v = .ref e ∧ s₁.heap.get? e = some oe ∧ oe.cls = .ref 52 ∧ oe.data = .fields vs ∧ vs[1]? = some .none ∧ E (.ref e) s₁
theorem psUp_intro {E : Value → Shared → Prop} {h₀ : Heap} {L e d te : Addr} {es : List DictEntry} {n : Nat} {rest : List (Addr × Obj)} {s₁ : Shared} (N : News h₀ L s₁.heap ((d, dictOf es n) :: (e, psObjD te d) :: rest)) (h : E (.ref e) s₁) : PsUp E (.ref e) s₁ :=
  ⟨e, _, _, rfl, (N _ (.tail _ (.head _))).1, rfl, rfl, rfl, h⟩
variable {w : World} {A : Around} {E : Value → Shared → Prop} {s : Shared} {env : Env} {h₀ : Heap} {L : Addr} {m : PySem.Str → Option Value}
theorem raise_own {x : Expr} {pos : Pos} {Q : Flow → Shared → Prop} (hh : A.handled = none) (X : (hd.heap_39 w.params).In h₀)
    (h : wpAny (model PR w) A (eval x env) (fun v s₁ => h₀.StaysIn s₁.heap ∧ PsUp E v s₁) E s) : wpAny (model PR w) A (exec (.Raise (some x) none pos) env) Q E s := by
  show wpAny _ A (do standAt pos; raiseStmt env (some (do let v ← eval x env; standAt pos; pure v)) none) Q E s
  refine wpAny_bind (wpAny_standAt ?_)
  unfold raiseStmt
  dsimp only
  refine wpAny_bind (wpAny_bind (wpAny_mono h (fun v s₁ h₁ => wpAny_bind (wpAny_standAt (wpAny_pure ?_))) fun _ _ x => x))
  obtain ⟨st, e, oe, vs, rfl, he, hc, hdt, h1, hE⟩ := h₁
  have X₁ : (hd.heap_39 w.params).In s₁.heap := X.keeps st
  have hT : Looks (model PR w) s₁.heap (typeOf (.ref e)) (.ref 52) := by
    refine (Looks.ld (part := some headPart) he).andThen ?_
    rw [hc]; exact .now
  have hnt : Looks (model PR w) s₁.heap (isType (.ref e)) false := by
    refine (Looks.ld (part := some headPart) he).andThen ?_
    rw [hdt]; exact .now
  have hb : Looks (model PR w) s₁.heap (isInstance (.ref e) (.type "BaseException")) true := hT.andThen (ps_subB X₁)
  have hm : Looks (model PR w) s₁.heap (typeOf (.ref 52)) (.type "type") := looks_typeIn X₁ (by k_is)
  refine wpAny_bind (wpAny_pure ?_)
  dsimp only
  refine wpAny_bind (wpAny_holding ?_)
  unfold excFromValue isExcClass
  refine wpAny_bind (wpAny_bind (hnt.here ?_))
  simp only [Bool.false_eq_true, if_false]
  refine wpAny_pure ?_
  simp only [Bool.false_eq_true, if_false]
  refine wpAny_bind (hb.here ?_)
  simp only [if_true]
  refine wpAny_pure (wpAny_bind (hnt.here ?_))
  simp only [Bool.false_eq_true, if_false]
  unfold raisedInstance
  refine wpAny_bind (wpAny_bind (hT.here (wpAny_bind (hm.here ?_))))
  rw [if_pos (by decide)]
  refine wpAny_pure ?_
  unfold setFlight raiseNew
  refine wpAny_bind (wpAny_bind (wpAny_field he hdt h1 ?_))
  rw [if_neg (by decide)]
  refine wpAny_pure (wpAny_bind (wpAny_handled ?_))
  rw [hh]
  exact wpAny_bind (wpAny_pure (wpAny_throw hE))
theorem leave_new {base g : Heap} {outer : List Env} {A₁ : Around} {L' e d te a : Addr} {m' : PySem.Str → Option Value} {es : List DictEntry} {n : Nat} {name : PySem.Str} {scope : Scope} {cd : Value} {M : Model} {rest : List (Addr × Obj)} {Q : Unit → Shared → Prop}
    (K : Below A₁ base (env :: outer) g) (FG : Fr h₀ L g m) (F : Fr g L' s.heap m') (N : News g L' s.heap ((d, dictOf es n) :: (e, psObjD te d) :: rest))
    (hQ : ∀ h', Flown base (env :: outer) h₀ L m e d es h' → Q () { s with heap := h' }) (hkf : scope.kind = .function := by rfl) :
    wpAny M (A₁.deeper (envOf name scope L' a cd)) (leaving (envOf name scope L' a cd) (.ref e)) Q E s := by
  have Ne := N _ (.tail _ (.head _))
  exact leave_ps K FG F (Heap.UpToSlots.refl _) (fun b o q => F.keep b o (K.stays b o q)) ⟨_, _, Ne.1, ⟨rfl, rfl⟩, rfl, rfl⟩ (fresh_of_stays K.stays Ne.2.2) ⟨n, #[], (N _ (.head _)).1⟩ hQ hkf
end
theorem allLt_off {d e : Addr} {l : List (Addr × Obj)} (h : AllLt d l) (hde : @LE.le Nat _ d e) : ∀ p ∈ l, p.1 ≠ e := fun p hp => by
  have : ∀ {l : List (Addr × Obj)}, AllLt d l → ∀ p ∈ l, @LT.lt Nat _ p.1 d := by
    intro l
    induction l with
    | nil => intro _ p hp; cases hp
    | cons q l ih =>
      intro h p hp
      rcases List.mem_cons.mp hp with rfl | hp
      · exact h.1
      · exact ih h.2 p hp
  exact Nat.ne_of_lt (Nat.lt_of_lt_of_le (this h p hp) hde)
local macro_rules | `(tactic| k_all) => `(tactic| first | exact allLt_off (And.right (And.right (by assumption))) (by omega) | exact allLt_off (And.right (And.right (And.right (by assumption)))) (by omega) | exact allLt_off (And.right (And.right (And.right (And.right (by assumption))))) (by omega))
local macro_rules | `(tactic| walk_at "exec Raise some none") => `(tactic| (k_here; k_dflt (refine raise_own rfl (by k_asm) ?_)))
local macro_rules | `(tactic| walk_at "call ref") => `(tactic| (k_here; (with_reducible show wpAny _ _ (call (Value.ref 52) _) _ _ _); k_dflt (refine call_ps (by k_asm) (by k_asm) (by k_asm) (Nat.le_of_ble_eq_true rfl) ?_; intro e' te' h' F' N' l1 l2; (try k_lt l1); (try k_lt2 l2); (try k_sweep); k_enter)))
local macro_rules | `(tactic| walk_at "setAttr ref") => `(tactic| (k_here; (with_reducible show wpAny _ _ (setAttr (Value.ref _) (Str.ofString "told") _) _ _ _); k_dflt (refine set_told (by k_asm) (by k_asm) (by k_asm) (by k_all) ?_; intro d' h' k' tk' F' N' l1 l2; (try k_lt l2); (try k_sweep))))
local macro_rules | `(tactic| walk_at "And") => `(tactic| ((with_reducible show Heap.StaysIn _ _ ∧ _); k_dflt (refine And.intro (Fr.keep (by k_asm)) (psUp_intro (by k_asm) ?_))))
local macro_rules | `(tactic| walk_at "leaving ref") => `(tactic| (k_here; k_dflt (first | (refine leave_new (by k_asm) (by k_asm) (by k_asm) (by k_asm) ?_; intro h' R'; (try dsimp only)) | (refine leave_on (by k_asm) (by k_asm) (by assumption) ?_; intro h' R'; (try dsimp only)))))
section
variable {w : World} {A : Around} {env : Env} {outer : List Env} {A₀ : Around} {base h₀ : Heap} {L : Addr} {m mg mb : PySem.Str → Option Value} {mean : ExcName → Option Value} {s : Shared} {Q E : Value → Shared → Prop} {news : List (Addr × Obj)} {g : Obj → List (Addr × Obj)}
  {x dx : Addr} {k1 k2 tb : Tok} {bl : List UInt8} {p : Int} {tk : Tok} {k : Nat} {c : UInt8}
abbrev synB : Array UInt8 := #[115, 121, 110, 116, 97, 120, 101, 114, 114, 111, 114]
set_option maxRecDepth 100000 in
set_option maxHeartbeats 8000000 in
theorem sure_end (C : Cx 400 450 w A env outer A₀ base h₀ L m mg mb mean s) (N : News h₀ L s.heap news) (hx : (x, instObj 393 dx) ∈ news) (U : UpdF dx (srcD w k1 k2 bl tb p tk) news g)
  (hp : p = (k : Int)) (hc : bl[k]? = none) (hfit : bl.length ≤ 1000)
  (rz : ∀ e d k' t' h' tk2, Flown base (env :: outer) h₀ L m e d (toldEs w k' (.bytes synB t')) h' → E (.ref e) { s with heap := h', toks := tk2 }) :
  wpAny (model PR w) A (call (.ref 439) [.ref x]) Q E s := by
  obtain ⟨hh, hf, hdp, hu, hL, hk, B, F, X, T⟩ := C
  refine deepen 400 450 hh hf hdp hu ?_
  obtain ⟨rest, Nc, hoff, back⟩ := canon N hx U
  have hne := src_ne Nc
  clear N hx U
  refine wpAny_call ?_
  k_dflt ktr_enter
  k_steps
  all_goals exact rz _ _ _ _ _ _ (by assumption)
theorem sure_any (C : Cx 400 450 w A env outer A₀ base h₀ L m mg mb mean s) (N : News h₀ L s.heap news) (hx : (x, instObj 393 dx) ∈ news) (U : UpdF dx (srcD w k1 k2 bl tb p tk) news g)
  (hp : p = (k : Int)) (hfit : bl.length ≤ 1000)
  (rz : bl[k]? = none → ∀ e d k' t' h' tk2, Flown base (env :: outer) h₀ L m e d (toldEs w k' (.bytes synB t')) h' → E (.ref e) { s with heap := h', toks := tk2 })
  (retB : ∀ c, bl[k]? = some c → ∀ t h' tk' tk2 p', Fr h₀ L h' m → News h₀ L h' (g (srcD w k1 k2 bl tb p' tk')) → p' = ((k + 1 : Nat) : Int) → Q (.int c.toNat t) { s with heap := h', toks := tk2 }) :
  wpAny (model PR w) A (call (.ref 439) [.ref x]) Q E s := by
  rcases hc : bl[k]? with _ | c
  · exact sure_end C N hx U hp hc hfit (rz hc)
  · exact sure_byte C N hx U hp hc hfit (retB c hc)
end
section
variable {α : Type} {M : Model} {A : Around} {E : Value → Shared → Prop} {s : Shared} {env : Env}
theorem P_look {t : Sem α} {r : α} {Q : α → Shared → Prop} (x : Looks M s.heap t r) (q : Q r s) : wpP M A t Q E s := P_any (x.here q)
theorem P_nil {Q : Flow → Shared → Prop} (h : Q .next s) : wpP M A (execs [] env) Q E s := P_pure h
theorem P_cons {st : Stmt} {rest : List Stmt} {Q : Flow → Shared → Prop} (h : wpP M A (exec st env) (fun f s' => match f with | .next => wpP M A (execs rest env) Q E s' | f => Q f s') E s) : wpP M A (execs (st :: rest) env) Q E s := by
  rw [execs_cons]
  refine P_bind (P_mono h (fun f s' h' => ?_) fun _ _ x => x)
  cases f <;> first | exact h' | exact P_pure h'
theorem P_Expr {e : PySem.Expr} {pos : Pos} {Q : Flow → Shared → Prop} (h : wpP M A (eval e env) (fun v s' => match v with | .ref _ => False | _ => Q .next s') E s)
    (hi : interactive env = false := by rfl) (hs : swapsWith e none pos.line env = pure false := by rfl) : wpP M A (exec (.Expr e pos) env) Q E s := by
  rw [exec_Expr env e pos hi hs]
  refine P_bind (P_standAt (P_bind (P_mono h (fun v s' h' => ?_) fun _ _ x => x)))
  have hv : ∀ a, v ≠ .ref a := fun a hva => by subst hva; exact h'
  rw [dropValue_plain hv]
  refine P_pure ?_
  cases v <;> first | exact h' | exact (hv _ rfl).elim
theorem P_Assign {x : PySem.Str} {pos' pos : Pos} {value : PySem.Expr} {Q : Flow → Shared → Prop} (h : wpP M A (eval value env) (fun v s₁ => wpAny M A (storeName env x v) (fun _ => Q .next) E s₁) E s)
    (hs : swapsWith value (some (.Name x pos')) pos.line env = pure false := by rfl) : wpP M A (exec (.Assign [.Name x pos'] value pos) env) Q E s := by
  rw [exec_Assign_Name env x pos' value pos hs]
  refine P_bind (P_standAt (P_bind (P_mono h (fun v s₁ h₁ => ?_) fun _ _ x => x)))
  exact P_bind (P_standAt (P_bind (P_mono (P_any (wpAny_bindName h₁)) (fun _ _ q => P_pure q) fun _ _ x => x)))
theorem P_Return {e : PySem.Expr} {pos : Pos} {Q : Flow → Shared → Prop} (h : wpP M A (eval e env) (fun v => Q (.ret v)) E s) : wpP M A (exec (.Return (some e) pos) env) Q E s := by
  rw [exec_Return_some]
  exact P_bind (P_standAt (P_bind (P_mono h (fun _ _ q => P_pure q) fun _ _ x => x)))
theorem P_If {test : PySem.Expr} {body orelse : List Stmt} {pos : Pos} {Q : Flow → Shared → Prop}
    (h : wpAny M A (isTrue test env (eval test env)) (fun b s₂ => if b then wpP M A (execs body env) Q E s₂ else wpP M A (execs orelse env) Q E s₂) E s) : wpP M A (exec (.If test body orelse pos) env) Q E s := by
  rw [exec_If]
  refine P_bind (P_standAt (P_bind (P_mono (P_any h) (fun b s₂ h₂ => ?_) fun _ _ x => x)))
  cases b <;> exact h₂
theorem P_While {test : PySem.Expr} {body orelse : List Stmt} {pos : Pos} {Q : Flow → Shared → Prop}
    (h : codeP M A (.whileLoop test body orelse env) (fun r s' => match r with | .ok f => Q f s' | .error e => cameBackBy M A env E e s') s) : wpP M A (exec (.While test body orelse pos) env) Q E s := by
  rw [exec_While]
  refine P_bind (P_standAt ?_)
  unfold runOwn
  exact P_onRaise (P_mono (P_run (Q := Q) (E := cameBackBy M A env E) h) (fun _ _ x => x) fun _ _ x => P_any x)

theorem P_spliced_nil {Q : List Value → Shared → Prop} (h : Q [] s) : wpP M A (spliced []) Q E s := P_pure h
theorem P_spliced {x : Sem Value} {rest : List (Bool × Sem Value)} {Q : List Value → Shared → Prop}
    (h : wpP M A x (fun v s₁ => wpP M A (spliced rest) (fun vs s₂ => Q (v :: vs) s₂) E s₁) E s) : wpP M A (spliced ((false, x) :: rest)) Q E s := by
  rw [spliced]
  refine P_bind (P_mono h (fun v s₁ h₁ => ?_) fun _ _ x => x)
  simp only [Bool.false_eq_true, if_false]
  exact P_bind (P_pure (P_bind (P_holding (P_mono h₁ (fun vs s₂ h₂ => P_pure h₂) fun _ _ x => x))))
theorem P_args {f : Value} {x : Sem Value} {rest : List (Bool × Sem Value)} {Q : Args → Shared → Prop}
    (h : wpP M A (spliced ((false, x) :: rest)) (fun vs s' => Q ⟨vs, []⟩ s') E s) : wpP M A (evalArgs f true ((false, x) :: rest) []) Q E s := by
  unfold evalArgs
  show wpP M A (spliced ((false, x) :: rest) >>= _) Q E s
  refine P_bind (P_mono h (fun vs s' h' => ?_) fun _ _ x => x)
  refine P_holding ?_
  exact P_bind (P_pure (P_bind (P_pure (P_pure h'))))
theorem P_args0 {f : Value} {Q : Args → Shared → Prop} (h : Q ⟨[], []⟩ s) : wpP M A (evalArgs f true [] []) Q E s := P_any (evalArgs_nil3 h)
theorem P_callWith {pos : Pos} {f : Value} {first : List Value} {trees : List (Bool × Sem Value)} {Q : Value → Shared → Prop} (hplain : trees.any (·.1) = false)
    (h : wpP M A (evalArgs f true trees []) (fun a s₁ => (∃ k, Looks M s₁.heap (keeperOf f) k) ∧ wpP M A (call f (first ++ a.pos) a.kw) Q E s₁) E s) : wpP M A (callWith pos f first trees []) Q E s := by
  unfold callWith
  refine P_bind (P_holding (P_mono h (fun a s₁ h₁ => P_bind (P_standAt ?_)) fun _ _ x => x))
  obtain ⟨⟨k, L⟩, hc⟩ := h₁
  simp only [hplain, List.any_nil, Bool.or_false]
  refine P_bind (P_look L ?_)
  have tail : ∀ {t : Sem Value}, wpP M A t Q E s₁ → wpP M A (t >>= fun r => holding [r] point >>= fun _ => pure r) Q E s₁ :=
    fun ht => P_bind (P_mono ht (fun r s₂ hr => P_bind (P_holding (P_point (P_pure hr)))) fun _ _ x => x)
  have marked (mk : Value) : wpP M A (callMarked mk f (first ++ a.pos) a.kw) Q E s₁ := by
    unfold callMarked
    refine ⟨fun Γ p i fr => ?_⟩
    rw [Sem.wp_keep]
    exact hc.run Γ p i fr
  cases k <;> dsimp only <;> first | exact tail hc | (split <;> first | exact tail hc | exact tail (marked _)) | exact tail (P_operate hc)
theorem P_Call_Name {x : PySem.Str} {np pos : Pos} {args : List PySem.Expr} {keywords : List Keyword} {Q : Value → Shared → Prop}
    (h : wpP M A (eval (.Name x np) env) (fun f s₁ => wpP M A (callWith pos f [] (backTo pos (starEach args env)) (backToKw pos (keywordEach keywords env))) Q E s₁) E s) :
    wpP M A (eval (.Call (.Name x np) args keywords pos) env) Q E s := by
  show wpP M A (do callWith pos (← eval (.Name x np) env) [] (backTo pos (starEach args env)) (backToKw pos (keywordEach keywords env))) Q E s
  exact P_bind h
theorem P_Call_Meth {o : PySem.Expr} {name : PySem.Str} {apos pos : Pos} {args : List PySem.Expr} {Q : Value → Shared → Prop}
    (h : wpP M A (eval o env) (fun ov s₁ => wpAny M A (getMethod ov name (do return (← importBound o env).getD true)) (fun fm s₂ => wpP M A (callWith pos fm.1 fm.2 (backTo pos (starEach args env)) []) Q E s₂) E s₁) E s)
    (hbase : attributeBase o name env (eval o env) = eval o env := by rfl)
    (hfew : methodCallForm (args.length + ([] : List Keyword).length) (backTo pos (starEach args env)) (backToKw pos (keywordEach [] env)) = true := by rfl) (hline : (apos.endLine == pos.line) = true := by rfl) :
    wpP M A (eval (.Call (.Attribute o name apos) args [] pos) env) Q E s := by
  rw [arm_eval_Call, hbase]
  refine P_bind (P_mono h (fun ov s₁ h₁ => ?_) fun _ _ x => x)
  refine P_bind (P_standAt ?_)
  have hpos : methodCallPos true o env apos pos = pure pos := by unfold methodCallPos; simp [hline]
  unfold methodCall
  rw [hfew, hpos]
  refine P_bind (P_holding (P_mono (P_any h₁) (fun fm s₂ h₂ => ?_) fun _ _ x => x))
  exact P_bind (P_pure h₂)
end

section
variable {prog : Program} {w : World} {A : Around} {E : Value → Shared → Prop} {R : Result → Shared → Prop} {s : Shared}
theorem P_func {body : List Stmt} {env : Env}
    (h : wpP (model prog w) (A.deeper env) (execs body env) (fun f s' => R (.ok (.ret (match f with | .ret v => v | _ => .none))) s')
      (fun e s' => wpAny (model prog w) (A.deeper env) (leaving env e) (fun _ s'' => R (.error e) s'') (fun e' s'' => R (.error e') s'') s') s) : codeP (model prog w) A (.func body env) R s := by
  refine P_tree rfl ?_
  show wpP _ (A.deeper env) (do point; match ← (execs body env).onRaise (leaving env) with | .ret v => ret v | _ => ret .none) _ _ s
  refine P_bind (P_point (P_bind (P_onRaise (P_mono h (fun f s' h' => ?_) fun _ _ h' => P_any h'))))
  cases f <;> exact P_pure h'
theorem P_loop {test : PySem.Expr} {body orelse : List Stmt} {env : Env} (I : Nat → Shared → Prop)
    (turn : ∀ n s, I n s → wpAny (model prog w) A (isTrue test env (eval test env)) (fun b s₂ =>
        if b then wpP (model prog w) A (execs body env) (fun f s₃ => match f with
            | .next | .cont => ∃ m, m < n ∧ I m s₃
            | .brk => R (.ok .next) s₃
            | .ret v => R (.ok (.ret v)) s₃) (notedBy (model prog w) A env fun e s' => R (.error e) s') s₂
        else wpP (model prog w) A (execs orelse env) (fun f s₃ => R (.ok f) s₃) (notedBy (model prog w) A env fun e s' => R (.error e) s') s₂)
        (notedBy (model prog w) A env fun e s' => R (.error e) s') s)
    (n : Nat) (h : I n s) : codeP (model prog w) A (.whileLoop test body orelse env) R s := by
  induction n using Nat.strongRecOn generalizing s with
  | ind n ih =>
    refine P_tree rfl ?_
    show wpP _ A ((whileTurn test body orelse env).onRaise (fun x => do noteFrame x env; theTreesLotGoes x)) _ _ s
    refine P_onRaise (P_mono (Q := fun fin s' => match fin with | .done f => R (.ok f) s' | .again c' => c'.quiet = true ∧ codeP (model prog w) A c' R s') (E := notedBy (model prog w) A env fun e s' => R (.error e) s') ?_ (fun _ _ q => q) fun _ _ x => P_any (wpAny_bind (wpAny_mono x (fun _ _ e => wpAny_theTreesLotGoes e) fun _ _ e => e)))
    simp only [whileTurn]
    refine P_bind (P_mono (P_any (turn n s h)) (fun b s₂ h₂ => ?_) fun _ _ h' => h')
    cases b with
    | false =>
      simp only [Bool.false_eq_true, if_false] at h₂ ⊢
      exact P_bind (P_mono h₂ (fun f s₃ h₃ => P_pure h₃) fun _ _ h' => h')
    | true =>
      simp only [if_true] at h₂ ⊢
      refine P_bind (P_mono h₂ (fun f s₃ h₃ => ?_) fun _ _ h' => h')
      cases f with
      | next => obtain ⟨m, hm, hI⟩ := h₃; exact P_pure ⟨rfl, ih m hm hI⟩
      | cont => obtain ⟨m, hm, hI⟩ := h₃; exact P_pure ⟨rfl, ih m hm hI⟩
      | brk => exact P_pure h₃
      | ret v => exact P_pure h₃
theorem P_call_fn {a : Addr} {args : Args} {o : Obj} {fd : FuncData} {body : List Stmt} (hroom : A.depth < recursionLimit) (ho : s.heap.get? a = some o)
    (hd' : o.data = .func fd) (hco : fd.scope.isCoroutine = false) (hgen : fd.scope.isGenerator = false) (hbody : fd.body = .stmts body) (hcd : s.heap.CodeRec fd.code fd.qualname)
    (h : wpAny (model prog w) A.in1 (bindArgs fd args) (fun binds s₁ =>
      wpAny (model prog w) A.in1 (newFunctionEnv fd.scope fd.globals fd.closure binds (fd.qualname ++ ".<locals>.") (some a) fd.code none fd.builtins)
        (fun env s₂ => s₂.heap.NoLimit ∧ codeP (model prog w) A (.func body env) R s₂) (fun e s' => R (.error e) s') s₁) (fun e s' => R (.error e) s') s) :
    codeP (model prog w) A (.call (.ref a) args) R s := by
  refine P_tree rfl (P_any ?_)
  show wpAny _ A.in1 (callAny (.ref a) args) _ _ s
  simp only [callAny]
  refine wpAny_bind (wpAny_load ho ?_)
  obtain ⟨c, oc, vs, tq, hc, hoc, hdc, hq⟩ := hcd
  simp only [hd', callFunction, hco, hgen, hbody, hc]
  rw [hc] at h
  refine wpAny_bind (m := field (.ref c) 1) (wpAny_field hoc hdc hq (wpAny_bind (wpAny_pure ?_)))
  exact wpAny_bind (wpAny_mono h (fun binds s₁ h₁ => wpAny_bind (wpAny_mono h₁ (fun env s₂ h₂ => wpAny_bind (wpAny_enterFrame h₂.1 hroom
    (wpAny_pure (And.intro rfl h₂.2)))) fun _ _ h' => h')) fun _ _ h' => h')
theorem P_builtin {id : String} {args : Args} {b : Builtin} (hq : (Code.builtin id args).quiet = true) (hd : decodes (.builtin id args) = false) (hb : entryFor table id = some b)
    (h : wpAny (model prog w) A.in1 (checkBuiltinCall id args) (fun _ s₁ => wpP (model prog w) (A.under (.builtin id args)) (b args)
      (fun fin s' => match fin with | .done f => R (.ok f) s' | .again c' => c'.quiet = true ∧ codeP (model prog w) A c' R s') (fun e s' => R (.error e) s') s₁)
      (fun e s' => R (.error e) s') s) : codeP (model prog w) A (.call (.builtin id) args) R s := by
  refine P_tree rfl (P_any ?_)
  show wpAny _ A.in1 (do checkBuiltinCall id args; again (.builtin id args)) _ _ s
  refine wpAny_bind (wpAny_mono h (fun _ s₁ h₁ => wpAny_pure (And.intro hq (P_tree hd ?_))) fun _ _ h' => h')
  show wpP _ _ (match entryFor table id with | some b => b args | none => unsupported ((withoutEnding? id "#data").getD id)) _ _ s₁
  rw [hb]; exact h₁
end

section
variable {prog : Program} {w : World} {A A₀ : Around} {s : Shared} {h₀ base : Heap} {L : Addr} {m : PySem.Str → Option Value} {news : List (Addr × Obj)} {K : Frag} {p : Program} {loose : List PySem.Str} {mean : ExcName → Option Value} {mg mb : PySem.Str → Option Value}
theorem P_def {env : Env} {outer : List Env} {R : Result → Shared → Prop} {name qual : PySem.Str} {params : Arguments} {body : List Stmt} {scope : Scope} {dV kV doc pm cdv ct oc : Value} {an od : Option Addr} {osl : Array (Option Value)} {f : Addr} {args : Args} {binds : List (PySem.Str × Value)}
    (B : Below A₀ base outer h₀) (F : Fr h₀ L s.heap m) (X₀ : K.In h₀) (N : News h₀ L s.heap news) (T : Top p loose mean mg mb h₀) (hA : A.frames = some (env :: outer)) (hf : env.frame = some L) (hke : env.scope.kind = .function)
    (ho : K.lookup f = some ⟨oc, od, .func (fnOf name qual params body scope dV kV doc pm an cdv ct), osl⟩) (hcd : codeIn K cdv qual = true) (hroom : A.depth < recursionLimit)
    (hbind : BindsTo s (fnOf name qual params body scope dV kV doc pm an cdv ct) args binds) (hloc : ∀ y ∈ binds, scope.names.lookup y.1 = some .local)
    (h : ∀ g L' h₁, Fr h₀ L g m → Fr g L' h₁ (fun y => binds.reverse.lookup y) → News g L' h₁ news → Below A base (env :: outer) g → K.In g → Top p loose mean mg mb g →
      wpP (model prog w) (A.deeper (envOf qual scope L' f cdv)) (execs body (envOf qual scope L' f cdv))
        (fun fl s' => LeaveK h₀ L m g R (match fl with | .ret v => v | _ => .none) s')
        (fun e s' => wpAny (model prog w) (A.deeper (envOf qual scope L' f cdv)) (leaving (envOf qual scope L' f cdv) e) (fun _ s'' => R (.error e) s'') (fun e' s'' => R (.error e') s'') s')
        { s with heap := h₁, toks := s.toks + binds.length })
    (hco : scope.isCoroutine = false) (hgen : scope.isGenerator = false) (hk : scope.kind = .function) (hcell : ∀ x ∈ scope.names, x.2 ≠ .cell) : codeP (model prog w) A (.call (.ref f) args) R s := by
  have X := X₀.keeps F.keep
  obtain ⟨FG, BG, st, lv⟩ := groundX (R := R) B F N hA hf hke
  refine P_call_fn hroom (X _ _ ho) rfl hco hgen rfl (codeRec_of X hcd) (hbind _ _ _ _ ?_)
  refine wpAny_newFunctionEnv hcell hloc (fun h₁ hns hsb => ⟨(T.nolimit.keeps F.keep).fresh _ hsb, ?_⟩) hk
  refine P_func (P_mono (h _ s.heap.objs.size h₁ FG ⟨hns, fun b o e => hsb.extBut b o (Nat.ne_of_lt (Heap.lt_size (of_hideAll _ e))) (Heap.get?_push_of_some _ (of_hideAll _ e)), Nat.le_of_eq (hideAll_size _ _)⟩
    (fun q hq => ⟨hsb.extBut _ _ (Nat.ne_of_lt (Heap.lt_size (N q hq).1)) (Heap.get?_push_of_some _ (N q hq).1), Nat.ne_of_lt (Heap.lt_size (N q hq).1), hideAll_none _ (List.mem_map_of_mem hq)⟩) BG (X₀.keeps st) (T.keeps st)) (fun fl s' hl => lv _ _ hl) fun _ _ y => y)
end
abbrev baObj (b : Array UInt8) : Obj := { cls := .type "bytearray", data := .bytearray b }
namespace F
theorem ba_append : Slot "bytearray" "append" "bytearray.append" :=
  .of (owner := "bytearray") (n := "append") (by rw [typeLookup_type, builtinLookup_eq_fast]; kernel_rfl) (by decide +kernel) (by decide +kernel) (by decide +kernel)
    (by first | exact .inl (by decide +kernel) | exact .inr (by decide +kernel)) (by rw [isSubtype_type]; kernel_rfl)
theorem ba_len : Slot "bytearray" "__len__" "bytearray.__len__" :=
  .of (owner := "bytearray") (n := "__len__") (by rw [typeLookup_type, builtinLookup_eq_fast]; kernel_rfl) (by decide +kernel) (by decide +kernel) (by decide +kernel)
    (by first | exact .inl (by decide +kernel) | exact .inr (by decide +kernel)) (by rw [isSubtype_type]; kernel_rfl)
theorem ba_getitem : Slot "bytearray" "__getitem__" "bytearray.__getitem__" :=
  .of (owner := "bytearray") (n := "__getitem__") (by rw [typeLookup_type, builtinLookup_eq_fast]; kernel_rfl) (by decide +kernel) (by decide +kernel) (by decide +kernel)
    (by first | exact .inl (by decide +kernel) | exact .inr (by decide +kernel)) (by rw [isSubtype_type]; kernel_rfl)
theorem ba_init : Slot "bytearray" "__init__" "bytearray.__init__" :=
  .of (owner := "bytearray") (n := "__init__") (by rw [typeLookup_type, builtinLookup_eq_fast]; kernel_rfl) (by decide +kernel) (by decide +kernel) (by decide +kernel)
    (by first | exact .inl (by decide +kernel) | exact .inr (by decide +kernel)) (by rw [isSubtype_type]; kernel_rfl)
theorem ba_mro : mroOf (.type "bytearray") = pure [.type "bytearray", .type "object"] := by rw [mroOf_type]; kernel_rfl
theorem ba_entry_append : entryFor table "bytearray.append" = some Builtin.«bytearray.append» := by first | exact entryFor_of_fast (by kernel_rfl) | exact entryFor_of_tree (by kernel_rfl)
theorem ba_entry_init : entryFor table "bytearray.__init__" = some Builtin.«bytearray.__init__» := by first | exact entryFor_of_fast (by kernel_rfl) | exact entryFor_of_tree (by kernel_rfl)
theorem ba_entry_new : entryFor table "bytearray.__new__" = some Builtin.«list.__new__» := entryFor_alias (id' := "list.__new__") (by kernel_rfl) (by first | rfl | decide +kernel) (by decide +kernel) (by kernel_rfl)
theorem ba_sub : isSubtype (.type "bytearray") (.type "bytearray") = pure true := by rw [isSubtype_type]; kernel_rfl
set_option maxRecDepth 1000000 in
set_option maxHeartbeats 4000000 in
theorem ba_owner : ("bytearray.__new__".splitOn ".__new__").headD "" = "bytearray" := by simp +decide [String.splitOn, String.splitOnAux]
theorem ba_lookup_new : typeLookup (.type "bytearray") "__new__" = pure (some (.builtin "bytearray.__new__")) := by rw [typeLookup_type, builtinLookup_eq_fast]; kernel_rfl
theorem ba_called : TypeCalled "bytearray" "bytearray.__new__" "bytearray.__init__" :=
  ⟨by decide +kernel, by decide +kernel, ⟨_, _, ba_mro⟩, madeBy_type ba_mro ba_lookup_new (by decide +kernel), by decide +kernel, by rw [isSubtype_type]; kernel_rfl, ba_init⟩
theorem ba_typeCall0 : checkTypeCall "bytearray" ⟨[], []⟩ = pure () := by kernel_rfl
theorem ba_typeCall1 (a : Value) : checkTypeCall "bytearray" ⟨[a], []⟩ = pure () := by kernel_rfl
theorem ba_newCall0 : checkBuiltinCall "bytearray.__new__" ⟨[.type "bytearray"], []⟩ = pure () := by kernel_rfl
theorem ba_newCall1 (a : Value) : checkBuiltinCall "bytearray.__new__" ⟨[.type "bytearray", a], []⟩ = pure () := by kernel_rfl
theorem ba_bind0 : Builtin.Bytes.bindOptional "bytearray.__init__" "bytearray" ["source", "encoding", "errors"] [] [] = pure [none, none, none] := by kernel_rfl
theorem ba_bind1 (v : Value) : Builtin.Bytes.bindOptional "bytearray.__init__" "bytearray" ["source", "encoding", "errors"] [v] [] = pure [some v, none, none] := by kernel_rfl
theorem ba_args (a x : Value) : argsOk "bytearray.append" ⟨[a, x], []⟩ := by unfold argsOk; kernel_rfl
theorem ba_args_init0 (a : Value) : argsOk "bytearray.__init__" ⟨[a], []⟩ := by unfold argsOk; kernel_rfl
theorem ba_args_init1 (a x : Value) : argsOk "bytearray.__init__" ⟨[a, x], []⟩ := by unfold argsOk; kernel_rfl
end F
section
variable {prog : Program} {w : World} {A : Around} {E : Value → Shared → Prop} {s : Shared}
theorem free_of {f : Code × Pos → Bool} {st : List (Code × Pos)} (hf : ∀ x, x.1.isGuard = false → decodes x.1 = false → f x = false) (hg : guardsOf st = []) (hd : ∀ x ∈ st, decodes x.1 = false) : st.any f = false := by
  refine List.any_eq_false.mpr fun x hx => ?_
  have h1 : x.1.isGuard = false := by
    cases h : x.1.isGuard with
    | false => rfl
    | true =>
      have : x.1 ∈ guardsOf st := List.mem_filter.mpr ⟨List.mem_map_of_mem hx, h⟩
      rw [hg] at this; cases this
  rw [hf x h1 (hd x hx)]
  exact Bool.false_ne_true
theorem P_exported {a : Addr} {Q : Bool → Shared → Prop} (hg : A.guards = some []) (h : Q false s) : wpP (model prog w) A (Builtin.Bytes.exported (.ref a)) Q E s := by
  unfold Builtin.Bytes.exported
  refine P_bind (P_stack fun st hs hd => P_pure ?_)
  rw [free_of (fun x h1 h2 => ?_) (hs [] hg) hd]
  · exact h
  · split <;> first | rfl | simp_all only [Code.isGuard, guardIds, decodes, Bool.and_false, List.contains_cons, BEq.rfl, Bool.true_or, Bool.or_true, Bool.true_eq_false]
end
theorem decodes_builtin (id : String) (args : Args) : decodes (.builtin id args) = Builtin.Bytes.decodersThatHold.contains id := rfl
section
variable {prog : Program} {w : World} {A : Around} {E : Value → Shared → Prop} {s : Shared}
theorem past_ba {b : Array UInt8} (hz : b.size ≤ 1001) : (baObj b).data.pastItsLine = none := by
  have : b.size ≤ sizeLine := by rw [sizeLine_eq]; omega
  simp [Data.pastItsLine, Nat.not_lt.mpr this]
theorem ba_write {a : Addr} {b : Array UInt8} {f : Array UInt8 → Array UInt8} {Q : Unit → Shared → Prop} (ho : s.heap.get? a = some (baObj b)) (hz : (f b).size ≤ 1001)
    (h : ∀ h', Heap.SameBut a s.heap h' → h'.get? a = some (baObj (f b)) → Q () { s with heap := h' }) : wpAny (model prog w) A (Builtin.Bytes.write (.ref a) f) Q E s := by
  show wpAny _ _ (updateBytearray a f) _ _ _
  unfold updateBytearray
  refine wpAny_bind (wpAny_load ho ?_)
  have hu : (s.heap.update a (Obj.mapBytearray f)).get? a = some (baObj (f b)) := Heap.get?_update_self _ ho rfl
  exact wpAny_bind (wpAny_update ho (wpAny_lookBehind hu (past_ba hz) (h _ (Heap.SameBut.update ..) hu)))
theorem ba_noResize {a : Addr} {b : Array UInt8} {Q : Unit → Shared → Prop} (hg : A.guards = some []) (ho : s.heap.get? a = some (baObj b)) (h : Q () s) : wpP (model prog w) A (Builtin.Bytes.checkResize (.ref a)) Q E s := by
  unfold Builtin.Bytes.checkResize
  refine P_bind (P_bind (P_exported hg ?_))
  refine P_any ?_
  unfold Builtin.Bytes.exportsOf
  wp_walk
  refine P_pure ?_
  exact h
theorem P_append {a : Addr} {b : Array UInt8} {c : Int} {t : Tok} {Q : Value → Shared → Prop} (hg : A.guards = some []) (ho : s.heap.get? a = some (baObj b)) (hc : 0 ≤ c ∧ c < 256) (hz : b.size ≤ 1000)
    (h : ∀ h', Heap.SameBut a s.heap h' → h'.get? a = some (baObj (b.push c.toNat.toUInt8)) → Q .none { s with heap := h' }) :
    wpP (model prog w) A (call (.builtin "bytearray.append") [.ref a, .int c t]) Q E s := by
  refine P_call (P_builtin (plainId_quiet F.ba_append.plain _) ((decodes_builtin _ _).trans (by decide +kernel)) F.ba_entry_append (F.ba_append.check _ _ _ _ _ _ _ _ ⟨_, ho, rfl⟩ (F.ba_args _ _) ?_))
  rw [Around.under_plainId F.ba_append.plain _]
  unfold Builtin.«bytearray.append»
  refine P_bind (P_any ?_)
  wp_walk
  refine P_bind (P_any ?_)
  unfold Builtin.Bytes.byteValue
  wp_walk
  refine P_bind (ba_noResize hg ho ?_)
  refine P_bind (P_any (ba_write ho (by simp; omega) fun h' hs ho' => ?_))
  exact P_pure (h h' hs ho')
theorem ba_new {args : List Value} (hc : checkBuiltinCall "bytearray.__new__" ⟨.type "bytearray" :: args, []⟩ = pure ()) {Q₁ : Value → Shared → Prop} (h : Q₁ (.ref s.heap.objs.size) { s with heap := s.heap.push (baObj #[]) }) :
    codeAny (model prog w) A (.call (.builtin "bytearray.__new__") ⟨.type "bytearray" :: args, []⟩) (wants Q₁ E) s := by
  refine codeAny_of_tree ?_
  show wpAny _ A.in1 (do checkBuiltinCall "bytearray.__new__" ⟨.type "bytearray" :: args, []⟩; again (.builtin "bytearray.__new__" ⟨.type "bytearray" :: args, []⟩)) _ _ s
  refine wpAny_bind (wpAny_of_eq hc (wpAny_pure ⟨plainId_quiet (by decide +kernel) _, ?_⟩))
  refine codeAny_builtin_stack F.ba_entry_new rfl fun p st => ?_
  rw [Around.under_plainId (by decide +kernel) _]
  have hsub := F.ba_sub
  have hown := F.ba_owner
  obtain ⟨hp, g, d, tk, os⟩ := s
  simp only [hown]
  wp_walk
  exact h
theorem P_builtinAt {id : String} {args : Args} {b : Builtin} {R : Result → Shared → Prop} (hd : decodes (.builtin id args) = false) (hb : entryFor table id = some b)
    (h : wpP (model prog w) (A.under (.builtin id args)) (b args) (fun fin s' => match fin with | .done f => R (.ok f) s' | .again c' => c'.quiet = true ∧ codeP (model prog w) A c' R s') (fun e s' => R (.error e) s') s) : codeP (model prog w) A (.builtin id args) R s := by
  refine P_tree hd ?_
  show wpP _ _ (match entryFor table id with | some b => b args | none => unsupported ((withoutEnding? id "#data").getD id)) _ _ s
  rw [hb]; exact h
theorem P_callBa {args : List Value} {Q : Value → Shared → Prop} (hct : checkTypeCall "bytearray" ⟨args, []⟩ = pure ()) (hnc : checkBuiltinCall "bytearray.__new__" ⟨.type "bytearray" :: args, []⟩ = pure ())
    (hia : ∀ obj, argsOk "bytearray.__init__" ⟨obj :: args, []⟩)
    (hinit : wpP (model prog w) A.in1.in1 (Builtin.«bytearray.__init__» ⟨.ref s.heap.objs.size :: args, []⟩) (fun fin s' => fin = .done (.ret .none) ∧ Q (.ref s.heap.objs.size) s') E { s with heap := s.heap.push (baObj #[]) }) :
    wpP (model prog w) A (call (.type "bytearray") args) Q E s := by
  have ft := F.ba_called
  obtain ⟨c, tl, hmro⟩ := ft.mro
  have hmade := ft.made
  have hsub := ft.sub
  refine P_call (P_tree rfl (P_any ?_))
  show wpAny _ _ (callAny (.type "bytearray") _) _ _ _
  refine wpAny_pure ⟨Code.quiet_builtin _ (by decide +kernel), P_builtinAt ((decodes_builtin _ _).trans (by decide +kernel)) PySem.F.entry_type_call ?_⟩
  rw [Around.under_plain (weight_type_call_type "bytearray" args []) rfl]
  have h1 := ft.notType
  have h2 := ft.canCreate
  unfold Builtin.«type.__call__»
  dsimp only
  simp only [h1, h2, hct, hmro, hmade, Bool.false_eq_true, if_false]
  refine P_bind (P_pure ?_)
  refine P_bind (P_pure ?_)
  simp only [List.isEmpty_cons, Bool.false_eq_true, if_false]
  refine P_bind (P_pure ?_)
  refine P_bind (P_pure ?_)
  refine P_bind (P_holding (P_call (P_codeAny (codeAny_mono (ba_new (E := E) (Q₁ := fun obj s₁ => obj = .ref s.heap.objs.size ∧ s₁ = { s with heap := s.heap.push (baObj #[]) }) hnc ⟨rfl, rfl⟩) fun r s₁ hr => ?_))))
  cases r with
  | error e => exact hr
  | ok fl =>
    cases fl with
    | ret obj =>
      obtain ⟨rfl, rfl⟩ := hr
      have hT : ({ s with heap := s.heap.push (baObj #[]) } : Shared).TypeIs (.ref s.heap.objs.size) "bytearray" := ⟨_, Heap.get?_push_size _ rfl, rfl⟩
      have hli := ft.init.lookup
      have hbi := ft.init.bind (.ref s.heap.objs.size)
      refine P_bind (P_any ?_)
      repeat (any_goals (first | assumption | wp_step))
      simp only [Bool.not_true, Bool.false_eq_true, if_false]
      refine P_bind (P_holding ?_)
      unfold callSpecial?
      refine P_bind (P_any ?_)
      unfold specialOf
      repeat (any_goals (first | assumption | wp_step))
      dsimp only
      rw [hbi]
      refine P_holding (P_bind (P_pure ?_))
      dsimp only
      refine P_bind (P_call (P_builtin (plainId_quiet ft.init.plain _) ((decodes_builtin _ _).trans (by decide +kernel)) F.ba_entry_init (ft.init.check _ _ _ _ _ _ _ _ hT (hia _) ?_)))
      rw [Around.under_plainId ft.init.plain _]
      refine P_mono hinit (fun fin s' hf => ?_) fun _ _ x => x
      obtain ⟨rfl, hq⟩ := hf
      dsimp only
      refine P_pure ?_
      dsimp only
      exact P_pure hq
    | _ => exact hr.elim
end
namespace F
theorem ba_rel : typeLookup (.type "bytearray") "__release_buffer__" = pure (some (.builtin "bytearray.__release_buffer__")) := by rw [typeLookup_type, builtinLookup_eq_fast]; kernel_rfl
theorem ba_ends : ("bytearray.__release_buffer__".endsWith ("." ++ "__release_buffer__")) = true := by decide +kernel
theorem ba_drop : ("bytearray.__release_buffer__".dropRight ("__release_buffer__".length + 1)) = "bytearray" := by decide +kernel
end F
section
variable {prog : Program} {w : World} {A : Around} {E : Value → Shared → Prop} {s : Shared}
theorem ba_ownRelease {x : Addr} {b : Array UInt8} {Q : Bool → Shared → Prop} (ho : s.heap.get? x = some (baObj b)) (h : Q false s) : wpAny (model prog w) A (Builtin.Bytes.ownRelease (.ref x)) Q E s := by
  unfold Builtin.Bytes.ownRelease
  have f1 := F.ba_rel
  have f2 := F.ba_sub
  wp_walk
  rw [F.ba_ends, F.ba_drop]
  simp only [Bool.not_true, Bool.false_eq_true, if_false]
  wp_walk
  exact h
theorem ba_unheld {x : Addr} {b : Array UInt8} {α : Type} {k : Bool → Sem α} {Q : α → Shared → Prop} (hg : A.guards = some []) (ho : s.heap.get? x = some (baObj b)) (h : wpP (model prog w) A (k false) Q E s) :
    wpP (model prog w) A ((Builtin.Bytes.exported (.ref x) <||> (do return (← Builtin.Bytes.exportsOf (.ref x)) > 0)) >>= k) Q E s := by
  refine P_bind (P_bind (P_exported hg ?_))
  refine P_any ?_
  unfold Builtin.Bytes.exportsOf
  wp_walk
  exact h
theorem ba_init0 {x : Addr} {Q : PySem.Fin → Shared → Prop} (hg : A.guards = some []) (ho : s.heap.get? x = some (baObj #[]))
    (h : ∀ h', Heap.SameBut x s.heap h' → h'.get? x = some (baObj #[]) → Q (.done (.ret .none)) { s with heap := h' }) : wpP (model prog w) A (Builtin.«bytearray.__init__» ⟨[.ref x], []⟩) Q E s := by
  unfold Builtin.«bytearray.__init__»
  dsimp only
  refine P_bind (P_any (ba_ownRelease ho ?_))
  simp only [Bool.false_eq_true, if_false]
  rw [F.ba_bind0]
  refine P_bind (P_pure ?_)
  dsimp only
  refine P_bind (P_pure ?_)
  refine P_bind (P_pure ?_)
  refine ba_unheld hg ho ?_
  simp only [Bool.false_eq_true, if_false, Option.isSome_none]
  refine P_bind (P_any (ba_write ho (by decide) fun h' hs ho' => ?_))
  exact P_bind (P_pure (P_pure (h h' hs ho')))
theorem by_buf {b : Array UInt8} {t : Tok} {Q : Option (Array UInt8) → Shared → Prop} (h : Q (some b) s) : wpAny (model prog w) A (Builtin.Bytes.buffer? "bytearray.__init__" (.bytes b t) true) Q E s := by
  exact (Looks.of_peek (M := model prog w) (h := s.heap) (K := []) (fun _ _ e => nomatch e) (by kernel_rfl)).here h
theorem by_noIndex {b : Array UInt8} {t : Tok} {Q : Option Value → Shared → Prop} (h : Q none s) : wpAny (model prog w) A (specialOf (.bytes b t) "__index__") Q E s := by
  exact (Looks.of_peek (M := model prog w) (h := s.heap) (K := []) (fun _ _ e => nomatch e) (by kernel_rfl)).here h
theorem ba_init1 {x : Addr} {b : Array UInt8} {t : Tok} {Q : PySem.Fin → Shared → Prop} (hg : A.guards = some []) (ho : s.heap.get? x = some (baObj #[])) (hz1 : b.size ≤ 1001)
    (h : ∀ h', Heap.SameBut x s.heap h' → h'.get? x = some (baObj b) → Q (.done (.ret .none)) { s with heap := h' }) : wpP (model prog w) A (Builtin.«bytearray.__init__» ⟨[.ref x, .bytes b t], []⟩) Q E s := by
  unfold Builtin.«bytearray.__init__»
  dsimp only
  refine P_bind (P_any (ba_ownRelease ho ?_))
  simp only [Bool.false_eq_true, if_false]
  rw [F.ba_bind1]
  refine P_bind (P_pure ?_)
  dsimp only
  refine P_bind (P_pure ?_)
  refine P_bind (P_pure ?_)
  refine ba_unheld hg ho ?_
  simp only [Bool.false_eq_true, if_false, Option.isSome_none]
  refine P_bind (P_any (ba_write ho (by decide) fun h' hs ho' => ?_))
  refine P_any ?_
  refine wpAny_bind (wpAny_pure ?_)
  simp only [Bool.false_eq_true, if_false, Option.isSome_none]
  refine wpAny_bind (wpAny_pure ?_)
  refine wpAny_bind (by_noIndex ?_)
  simp only [Bool.false_eq_true, if_false, Option.isSome_none]
  refine wpAny_bind (by_buf ?_)
  dsimp only
  refine wpAny_bind (wpAny_rule ?_)
  refine wpAny_bind (ba_write ho' hz1 fun h2 hs2 ho2 => ?_)
  exact wpAny_pure (h h2 (hs.trans hs2) ho2)
theorem P_ba0 {Q : Value → Shared → Prop} (hg : A.guards = some []) (h : ∀ h', Heap.SameBut s.heap.objs.size (s.heap.push (baObj #[])) h' → h'.get? s.heap.objs.size = some (baObj #[]) → Q (.ref s.heap.objs.size) { s with heap := h' }) :
    wpP (model prog w) A (call (.type "bytearray") []) Q E s :=
  P_callBa F.ba_typeCall0 F.ba_newCall0 F.ba_args_init0 (ba_init0 (A := A.in1.in1) hg (Heap.get?_push_size _ rfl) fun h' hs ho => ⟨rfl, h h' hs ho⟩)
theorem P_ba1 {b : Array UInt8} {t : Tok} {Q : Value → Shared → Prop} (hg : A.guards = some []) (hz : b.size ≤ 1001) (h : ∀ h', Heap.SameBut s.heap.objs.size (s.heap.push (baObj #[])) h' → h'.get? s.heap.objs.size = some (baObj b) → Q (.ref s.heap.objs.size) { s with heap := h' }) :
    wpP (model prog w) A (call (.type "bytearray") [.bytes b t]) Q E s :=
  P_callBa (F.ba_typeCall1 _) (F.ba_newCall1 _) (fun o => F.ba_args_init1 o _) (ba_init1 (A := A.in1.in1) hg (Heap.get?_push_size _ rfl) hz fun h' hs ho => ⟨rfl, h h' hs ho⟩)
end
local macro_rules | `(tactic| ktr_enter) => `(tactic| (refine' P_def ?k1 ?k2 ?k3 ?k4 ?k5 ?kA ?kF ?kK ?k6 ?k7 ?k8 ?k9 ?kB ?_ ?c2 ?c3 ?c4 ?c5; (case kA => exact rfl); (case kF => first | assumption | exact rfl); (case kK => first | assumption | exact rfl); (case k1 => k_asm); (case k2 => k_asm); (case k3 => k_asm); (case k4 => k_asm); (case k5 => k_asm); (case k6 => k_is); (case k7 => k_is); (case k8 => k_room); (case k9 => first | exact BindsTo.of_eq rfl | exact binds_K (by k_in) rfl (by k_is) rfl rfl rfl); (case c5 => decide); (case kB => exact locs rfl); (case c2 => exact rfl); (case c3 => exact rfl); (case c4 => exact rfl); k_whole; intro g' L' h' FG' F' N' B' X' T'; (try dsimp only); (try k_fold)))
theorem byte_in (c : UInt8) : 0 ≤ (c.toNat : Int) ∧ (c.toNat : Int) < 256 := by have := c.toNat_lt; omega
theorem deepenP {α : Type} {M : Model} {A : Around} {t : Sem α} {Q : α → Shared → Prop} {E : Value → Shared → Prop} {s : Shared} {env : Env} {outer : List Env} (D U : Nat)
    (hh : A.handled = none) (hf : A.frames = some (env :: outer)) (hg : A.guards = some []) (hd : A.depth ≤ D) (hu : A.units ≤ U)
    (h : wpP M { handled := none, depth := D, frames := some (env :: outer), guards := some [], units := U } t Q E s) : wpP M A t Q E s := by
  refine ⟨fun Γ p hΓ hc => ?_⟩
  exact h.run Γ p ⟨hΓ.1.trans hh, Nat.le_trans hΓ.2.1 hd, fun l hl => hΓ.2.2.1 l (hf.trans hl), fun l hl => hΓ.2.2.2.1 l (hg.trans hl), Nat.le_trans hΓ.2.2.2.2 hu⟩ hc
namespace F
theorem ba_attrs : PlainAttrs "bytearray" :=
  ⟨⟨"bytearray.__getattribute__", by rw [typeLookup_type, builtinLookup_eq_fast]; kernel_rfl, by decide +kernel⟩, by rw [typeLookup_type, builtinLookup_eq_fast]; kernel_rfl⟩
theorem ba_type_append : typeOf (.builtin "bytearray.append") = pure (.type "method_descriptor") := by show builtinType _ = _; rw [builtinType_eq_fast]; kernel_rfl
end F
section
variable {α : Type} {M : Model} {prog : Program} {w : World} {A : Around} {E : Value → Shared → Prop} {s : Shared} {env : Env} {h₀ : Heap} {L : Addr} {m : PySem.Str → Option Value} {news : List (Addr × Obj)} {g : Obj → List (Addr × Obj)} {D : Addr} {b : Array UInt8} {pos : Pos}
theorem ba_method {name : PySem.Str} {id : String} {pl : Sem Bool} {Q : Value × List Value → Shared → Prop} (N : News h₀ L s.heap news) (hm : (D, baObj b) ∈ news) (slot : Slot "bytearray" name id) (hty : typeOf (.builtin id) = pure (.type "method_descriptor"))
    (h : Q (.builtin id, [.ref D]) s) : wpAny (model prog w) A (getMethod (.ref D) name pl) Q E s :=
  getMethod_builtin ⟨_, (N _ hm).1, rfl⟩ F.ba_attrs slot hty (fun a e => by cases e; exact ⟨_, (N _ hm).1, rfl⟩) h
theorem append_P {c : Int} {t : Tok} {Q : Value → Shared → Prop} (hg : A.guards = some []) (F : Fr h₀ L s.heap m) (N : News h₀ L s.heap news) (U : UpdF D (baObj b) news g) (hc : 0 ≤ c ∧ c < 256) (hz : b.size ≤ 1000)
    (h : ∀ h', Fr h₀ L h' m → News h₀ L h' (g (baObj (b.push c.toNat.toUInt8))) → Q .none { s with heap := h' }) : wpP (model prog w) A (call (.builtin "bytearray.append") [.ref D, .int c t]) Q E s := by
  obtain ⟨pre, post, rfl, hgo, u1, u2⟩ := U.split
  have ND := N (D, baObj b) (by simp)
  refine P_append hg ND.1 hc hz fun h' hs ho => ?_
  have hne : L ≠ D := Ne.symm ND.2.1
  refine h h' ⟨?_, fun a o e => ?_, F.above⟩ ?_
  · obtain ⟨o, es, ep, z1, z2⟩ := F.ns
    exact ⟨o, es, ep, (hs.2 L hne).trans z1, z2⟩
  · refine (hs.2 a fun z => ?_).trans (F.keep a o e)
    rw [z, ND.2.2] at e; cases e
  · rw [hgo]
    intro q hq
    rcases List.mem_append.mp hq with hq | hq
    · have := N q (List.mem_append.mpr (.inl hq)); exact ⟨(hs.2 q.1 (u1 q hq)).trans this.1, this.2⟩
    rcases List.mem_cons.mp hq with rfl | hq
    · exact ⟨ho, ND.2⟩
    · have := N q (List.mem_append.mpr (.inr (.tail _ hq))); exact ⟨(hs.2 q.1 (u2 q hq)).trans this.1, this.2⟩
theorem made_news {h h' : Heap} {o o' : Obj} (F : Fr h₀ L h m) (N : News h₀ L h news) (hs : Heap.SameBut h.objs.size (h.push o) h') (ho : h'.get? h.objs.size = some o') (hfr : o.isFreed = false := by rfl) :
    Fr h₀ L h' m ∧ News h₀ L h' ((h.objs.size, o') :: news) ∧ ∀ p ∈ news, p.1 < h.objs.size := by
  have F1 := F.push o
  have N1 := N.push F o hfr
  have hne : L ≠ h.objs.size := Ne.symm (N1 _ (.head _)).2.1
  refine ⟨⟨?_, fun a q e => ?_, F.above⟩, fun q hq => ?_, fun p hp => Heap.lt_size (N p hp).1⟩
  · obtain ⟨x, es, ep, z1, z2⟩ := F1.ns
    exact ⟨x, es, ep, (hs.2 L hne).trans z1, z2⟩
  · refine (hs.2 a fun z => ?_).trans (F1.keep a q e)
    have := (N1 _ (.head _)).2.2
    rw [z] at e; rw [this] at e; cases e
  · rcases List.mem_cons.mp hq with rfl | hq
    · exact ⟨ho, (N1 _ (.head _)).2⟩
    · have := N1 q (.tail _ hq)
      exact ⟨(hs.2 q.1 (Nat.ne_of_lt (Heap.lt_size (N q hq).1))).trans this.1, this.2⟩
theorem ba0_P {Q : Value → Shared → Prop} (hg : A.guards = some []) (F : Fr h₀ L s.heap m) (N : News h₀ L s.heap news)
    (h : ∀ D h', Fr h₀ L h' m → News h₀ L h' ((D, baObj #[]) :: news) → (∀ p ∈ news, p.1 < D) → Q (.ref D) { s with heap := h' }) : wpP (model prog w) A (call (.type "bytearray") []) Q E s := by
  refine P_ba0 hg fun h' hs ho => ?_
  obtain ⟨a, b, c⟩ := made_news F N hs ho
  exact h _ h' a b c
theorem ba1_P {Q : Value → Shared → Prop} {t : Tok} (hg : A.guards = some []) (hz : b.size ≤ 1001) (F : Fr h₀ L s.heap m) (N : News h₀ L s.heap news)
    (h : ∀ D h', Fr h₀ L h' m → News h₀ L h' ((D, baObj b) :: news) → (∀ p ∈ news, p.1 < D) → Q (.ref D) { s with heap := h' }) : wpP (model prog w) A (call (.type "bytearray") [.bytes b t]) Q E s := by
  refine P_ba1 hg hz fun h' hs ho => ?_
  obtain ⟨a, b, c⟩ := made_news F N hs ho
  exact h _ h' a b c
theorem P_sp0 {Q : List Value → Shared → Prop} (h : Q [] s) : wpP M A (spliced (backTo pos (starEach [] env))) Q E s := P_pure h
theorem P_sp1 {e : PySem.Expr} {rest : List PySem.Expr} {Q : List Value → Shared → Prop}
    (h : wpP M A (eval e env) (fun v s₁ => wpP M A (spliced (backTo pos (starEach rest env))) (fun vs s₂ => Q (v :: vs) s₂) E s₁) E s)
    (hs : backTo pos (starEach (e :: rest) env) = (false, eval e env) :: backTo pos (starEach rest env) := by rfl) : wpP M A (spliced (backTo pos (starEach (e :: rest) env))) Q E s := by
  rw [hs]; exact P_spliced h
theorem P_ar0 {f : Value} {Q : Args → Shared → Prop} (h : Q ⟨[], []⟩ s) : wpP M A (evalArgs f true (backTo pos (starEach [] env)) []) Q E s := P_args0 h
theorem P_ar1 {f : Value} {e : PySem.Expr} {rest : List PySem.Expr} {Q : Args → Shared → Prop}
    (h : wpP M A (spliced (backTo pos (starEach (e :: rest) env))) (fun vs s' => Q ⟨vs, []⟩ s') E s)
    (hs : backTo pos (starEach (e :: rest) env) = (false, eval e env) :: backTo pos (starEach rest env) := by rfl) : wpP M A (evalArgs f true (backTo pos (starEach (e :: rest) env)) []) Q E s := by
  rw [hs] at h ⊢; exact P_args h
theorem keeper_K {K : Frag} {h : Heap} {f : Value} (X : K.In h) (hk : keepIn K f = true) : ∃ k, Looks M h (keeperOf f) k := let ⟨k, _, b⟩ := looks_keep hk X; ⟨k, b⟩
theorem keeper_F {K : Frag} {h : Heap} {f : Value} {h₀ : Heap} {L : Addr} {m : PySem.Str → Option Value} (F : Fr h₀ L h m) (X : K.In h₀) (hk : keepIn K f = true) : ∃ k, Looks M h (keeperOf f) k := keeper_K (X.keeps F.keep) hk
theorem keeper_b {h : Heap} {id : String} : ∃ k, Looks M h (keeperOf (.builtin id)) k := ⟨.machine, Looks.of_pure rfl⟩
theorem keeper_t {h : Heap} {id : String} : ∃ k, Looks M h (keeperOf (.type id)) k := ⟨.machine, Looks.of_pure rfl⟩
end
local macro_rules | `(tactic| walk_at "getMethod ref") => `(tactic| (k_here; (with_reducible show wpAny _ _ (getMethod (Value.ref _) (PySem.Str.ofString "append") _) _ _ _); k_dflt (refine' ba_method ?N ?m F.ba_append F.ba_type_append ?_; (case N => k_asm); (case m => k_mem))))
local macro_rules | `(tactic| walk_at "call ref") => `(tactic| (k_here; (with_reducible show wpAny _ _ (call (Value.ref 439) _) _ _ _); k_dflt (first | (refine sure_byte (Cx.mk rfl rfl (Nat.le_of_ble_eq_true rfl) (Nat.le_of_ble_eq_true rfl) rfl rfl (by k_asm) (by k_asm) (by k_asm) (by k_asm)) (by k_asm) (by k_mem) (by k_updF) (by first | assumption | rfl) (by assumption) (by assumption) ?_; intro t' h' tk' tk2' p' F' N' hp') | (refine sure_any (Cx.mk rfl rfl (Nat.le_of_ble_eq_true rfl) (Nat.le_of_ble_eq_true rfl) rfl rfl (by k_asm) (by k_asm) (by k_asm) (by k_asm)) (by k_asm) (by k_mem) (by k_updF) (by first | assumption | rfl) (by assumption) (fun hc' e' d' k' t' h' tk2' R' => ?_) (fun c' hc' t' h' tk' tk2' p' F' N' hp' => ?_))); (all_goals (try dsimp only at N' ⊢)); (all_goals (try k_sweep))))
local macro_rules | `(tactic| walk_at "call ref") => `(tactic| (k_here; (with_reducible show wpAny _ _ (call (Value.ref 446) _) _ _ _); k_dflt (refine octal_c (Cx.mk rfl rfl (Nat.le_of_ble_eq_true rfl) (Nat.le_of_ble_eq_true rfl) rfl rfl (by k_asm) (by k_asm) (by k_asm) (by k_asm)) (by k_asm) (by k_mem) (by k_updF) (by first | assumption | rfl) (by assumption) (by first | assumption | rfl) (by assumption) ?_; intro t' h' tk' tk2' p' v' F' N' hv' hp'); (try dsimp only at N' ⊢); (try k_sweep)))
local macro_rules | `(tactic| walk_at "wpP") => `(tactic| (k_here; first | ((with_reducible show wpP _ _ (execs [] _) _ _ _); k_dflt (refine P_nil ?_); (try dsimp only)) | ((with_reducible show wpP _ _ (execs (Stmt.If _ _ _ _ :: _) _) _ _ _); k_dflt (refine P_cons (P_If ?_))) | ((with_reducible show wpP _ _ (execs (Stmt.Expr (Expr.Call (Expr.Name (Str.ofString "scan_escape") _) _ _ _) _ :: _) _) _ _ _); k_dflt (refine P_cons (P_Expr (P_Call_Name (P_any ?_))))) | ((with_reducible show wpP _ _ (execs (Stmt.Expr (Expr.Call (Expr.Attribute _ (Str.ofString "append") _) _ _ _) _ :: _) _) _ _ _); k_dflt (refine P_cons (P_Expr (P_Call_Meth (P_any ?_))))) | ((with_reducible show wpP _ _ (callWith _ (Value.builtin _) _ _ _) _ _ _); k_dflt (refine P_callWith rfl ?_)) | ((with_reducible show wpP _ _ (callWith _ (Value.type _) _ _ _) _ _ _); k_dflt (refine P_callWith rfl ?_)) | ((with_reducible show wpP _ _ (callWith _ (Value.ref _) _ _ _) _ _ _); k_dflt (refine P_callWith rfl ?_)) | ((with_reducible show wpP _ _ (evalArgs _ _ _ _) _ _ _); k_dflt (first | refine P_ar1 ?_ | refine P_ar0 ?_)) | ((with_reducible show wpP _ _ (spliced _) _ _ _); k_dflt (first | refine P_sp1 (P_any ?_) | refine P_sp0 ?_); (try dsimp only)) | ((with_reducible show wpP _ _ (call (Value.builtin "bytearray.append") _) _ _ _); k_dflt (refine append_P rfl (by k_asm) (by k_asm) (by k_updF) (by first | omega | exact byte_in _) (by first | omega | assumption) ?_); intro h' F' N'; (try dsimp only at N'); (try k_sweep)) | ((with_reducible show wpP _ _ (call (Value.type "bytearray") []) _ _ _); k_dflt (refine ba0_P rfl (by k_asm) (by k_asm) ?_); intro D' h' F' N' l1; (try k_lt l1); (try k_sweep)) | ((with_reducible show wpP _ _ (execs (Stmt.Assign _ _ _ :: _) _) _ _ _); k_dflt (refine P_cons (P_any ?_))) | ((with_reducible show wpP _ _ (execs (Stmt.Expr _ _ :: _) _) _ _ _); k_dflt (refine P_cons (P_any ?_))) | ((with_reducible show wpP _ _ (execs (Stmt.Return _ _ :: _) _) _ _ _); k_dflt (refine P_cons (P_any ?_))) | ((with_reducible show wpP _ _ (execs (Stmt.Raise _ _ _ :: _) _) _ _ _); k_dflt (refine P_cons (P_any ?_))) | ((with_reducible show wpP _ _ (execs (Stmt.Continue _ :: _) _) _ _ _); k_dflt (refine P_cons (P_any ?_)))))
local macro_rules | `(tactic| walk_at "And") => `(tactic| (first | ((with_reducible show (∃ k, Looks _ _ (keeperOf (Value.builtin _)) k) ∧ _); (with_reducible refine And.intro keeper_b ?_)) | ((with_reducible show (∃ k, Looks _ _ (keeperOf (Value.type _)) k) ∧ _); (with_reducible refine And.intro keeper_t ?_)) | ((with_reducible show (∃ k, Looks _ _ (keeperOf (Value.ref _)) k) ∧ _); (refine And.intro (keeper_F (by with_reducible assumption) (by with_reducible assumption) (by k_is)) ?_))); (try dsimp only [List.nil_append, List.cons_append]))
section
variable {M : Model} {A : Around} {E : Value → Shared → Prop} {s : Shared} {env : Env}
theorem P_Assign_At {t value pos} {Q : Flow → Shared → Prop}
    (h : wpP M A (eval value env) (fun v s₁ => wpAny M A (assign t env v) (fun _ => Q .next) E s₁) E s)
    (hs : swapsWithSole [t] value pos.line env = pure false := by rfl) (hw : swappedStores [t] value env = pure none := by rfl) (ha : (assignEach [t] env).map (·.2) = [assign t env] := by rfl) : wpP M A (exec (.Assign [t] value pos) env) Q E s := by
  rw [exec_Assign]
  refine P_bind (P_standAt ?_)
  rw [hs]
  refine P_bind (P_pure ?_)
  rw [if_neg (by decide)]
  refine P_bind (P_mono h (fun v s₁ h₁ => ?_) fun _ _ x => x)
  rw [hw]
  refine P_bind (P_pure ?_)
  show wpP M A (do assignAll v ((assignEach [t] env).map (·.2)); pure .next) Q E s₁
  rw [ha]
  exact P_bind (P_mono (P_any h₁) (fun _ _ x => P_pure x) fun _ _ x => x)
theorem P_Assign_Swapped {elts k tpos value pos} {names : List PySem.Str} {Q : Flow → Shared → Prop}
    (h : wpP M A (eval value env) (fun v s₁ => wpAny M A (unpackItems v names.length none) (fun items s₂ =>
      wpAny M A (assignInOrder (names.reverse.map fun n => bindName env n) items.reverse) (fun _ => Q .next) E s₂) E s₁) E s)
    (hs : swapsWithSole [.Tuple elts k tpos] value pos.line env = pure false := by rfl) (hw : swappedStores [.Tuple elts k tpos] value env = pure (some names) := by rfl) : wpP M A (exec (.Assign [.Tuple elts k tpos] value pos) env) Q E s := by
  rw [exec_Assign]
  refine P_bind (P_standAt ?_)
  rw [hs]
  refine P_bind (P_pure ?_)
  rw [if_neg (by decide)]
  refine P_bind (P_mono h (fun v s₁ h₁ => ?_) fun _ _ x => x)
  rw [hw]
  refine P_bind (P_pure ?_)
  show wpP M A (do rule "assign.swapped-stores"; let items ← unpackItems v names.length none; assignInOrder (names.reverse.map fun n => bindName env n) items.reverse; pure .next) Q E s₁
  refine P_bind (P_any (wpAny_rule ?_))
  exact P_bind (P_mono (P_any h₁) (fun items s₂ h₂ => P_bind (P_mono (P_any h₂) (fun _ _ x => P_pure x) fun _ _ x => x)) fun _ _ x => x)
theorem P_Tup {elts x1 pos} {Q : Value → Shared → Prop} (h : wpP M A (spliced (backTo pos (starEach elts env))) (fun vs s₁ => wpAny M A (newTuple vs) Q E s₁) E s) : wpP M A (eval (.Tuple elts x1 pos) env) Q E s := by
  rw [arm_eval_Tuple]
  exact P_bind (P_standAt (P_bind (P_mono h (fun _ _ x => P_any x) fun _ _ x => x)))
theorem P_Compare {l op r pos} {Q : Value → Shared → Prop}
    (h : wpP M A (eval l env) (fun a s₁ => wpAny M A (eval r env) (fun b s₂ => wpAny M A (compareOp op a b) Q E s₂) E s₁) E s)
    (hm : behindInMarks op r = false := by with_unfolding_all rfl) : wpP M A (eval (.Compare l [op] [r] pos) env) Q E s := by
  rw [eval_Compare1, markedBehindIn_of_false hm]
  refine P_bind (P_mono h (fun a s₁ h₁ => ?_) fun _ _ x => x)
  refine P_bind (P_holding (P_mono (P_any h₁) (fun b s₂ h₂ => ?_) fun _ _ x => x))
  refine P_bind (P_standAt ?_)
  exact P_operate (P_any h₂)
end
section
variable {prog : Program} {w : World} {A : Around} {E : Value → Shared → Prop} {s : Shared} {env : Env}
theorem P_Try {body orelse : List Stmt} {hd₀ : ExceptHandler} {hs : List ExceptHandler} {pos : Pos} {Q : Flow → Shared → Prop}
    (h : wpP (model prog w) A (execs body env) (fun f s₁ => match f with | .next => wpP (model prog w) A (execs orelse env) Q E s₁ | f => Q f s₁)
      (fun e s₁ => wpAny (model prog w) A (noteFrame e env) (fun _ s₂ => wpAny (model prog w) A (setFlight e none) (fun _ s₃ => wpAny (model prog w) A (handleBy e env (hd₀ :: hs)) Q E s₃) E s₂) E s₁) s) :
    wpP (model prog w) A (exec (.Try body (hd₀ :: hs) orelse [] pos) env) Q E s := by
  rw [arm_exec_Try]
  refine P_bind (P_standAt ?_)
  unfold tryStmt
  simp only [List.isEmpty_nil, if_true, List.isEmpty_cons, Bool.false_and, Bool.false_eq_true, if_false]
  refine P_bind (P_attempt (P_mono h (fun f s₁ h₁ => ?_) fun e s₁ h₁ => ?_))
  · cases f <;> first | exact h₁ | exact P_pure h₁
  · exact P_any (wpAny_bind (wpAny_mono h₁ (fun _ _ h₂ => wpAny_bind h₂) fun _ _ x => x))
end
section
variable {prog : Program} {w : World} {A : Around} {K : Frag} {C : Addr} {R : Result → Shared → Prop} {h : Heap} {g : Array GenState} {d : Drawn} {t : Nat} {os : OsState}
theorem P_make_core {rest : List Value} {init : Value} (Y : Makes (model prog w) h C) (hi : Looks (model prog w) h (typeLookup (.ref C) "__init__") (some init))
    (hb : ∀ self, Looks (model prog w) h (bindSpecial init self) (init, [self])) (hne : (some init != some (Value.builtin "object.__init__")) = true)
    (hq : codeP (model prog w) (A.under (.builtin "type.__call__" ⟨.ref C :: rest, []⟩)) (.call init ⟨.ref (h.objs.size + 1) :: rest, []⟩) (InitBack (h.objs.size + 1) R) ⟨(h.push emptyDict).push (instObj C h.objs.size), g, d, t, os⟩) :
    codeP (model prog w) A (.call (.ref C) ⟨rest, []⟩) R ⟨h, g, d, t, os⟩ := by
  have Y' := Y
  obtain ⟨⟨oc, od, cd, sl, hC, e1, e2, e4⟩, made, base, self, top, call, typ⟩ := Y
  refine P_tree rfl (P_any ?_)
  show wpAny _ _ (callAny (.ref C) _) _ _ _
  refine nd_load hC ?_
  show wpAny _ _ (callAny.viaDunder (.ref C) _) _ _ _
  unfold callAny.viaDunder
  refine wpAny_bind (call.at ?_)
  dsimp only
  rw [tc_bind]
  refine wpAny_bind (wpAny_pure (wpAny_bind (wpAny_pure ?_)))
  refine wpAny_pure (a := Fin.again (.call (.builtin "type.__call__") ⟨.ref C :: rest, []⟩)) (And.intro rfl ?_)
  refine P_builtin (Code.quiet_builtin _ (by decide +kernel)) ((decodes_builtin _ _).trans (by decide +kernel)) entry_typeCall (check_slot tc_kind tc_split typ (tc_args _ _ _) ?_)
  unfold Builtin.«type.__call__»
  have hm : Looks (model prog w) h (mroOf (.ref C)) cd.mro := ((Looks.ld (part := none) hC).andThen .now).andThen .now
  dsimp only
  rw [show (Value.ref C == Value.type "type") = false from rfl]
  simp only [Bool.false_eq_true, if_false]
  refine P_bind (P_any (hm.at ?_))
  simp only [e4, Bool.false_eq_true, if_false]
  refine P_bind (P_any (made.at ?_))
  dsimp only
  refine P_bind (P_pure ?_)
  refine P_bind (P_holding (P_call (P_codeAny (new_K (init := init) Y' hi (.inl hne) ?_))))
  dsimp only
  have k : ∀ b o, h.get? b = some o → ((h.push emptyDict).push (instObj C h.objs.size)).get? b = some o := fun b o e => Heap.get?_push_of_some _ (Heap.get?_push_of_some _ e)
  have hx : ((h.push emptyDict).push (instObj C h.objs.size)).get? (h.objs.size + 1) = some (instObj C h.objs.size) := by heap_get
  have t1 : Looks (model prog w) ((h.push emptyDict).push (instObj C h.objs.size)) (typeOf (.ref (h.objs.size + 1))) (.ref C) := (Looks.ld hx).andThen .now
  have s1 := self.keeps k
  have i1 := hi.keeps k
  have b1 := (hb (.ref (h.objs.size + 1))).keeps k
  have isI : Looks (model prog w) ((h.push emptyDict).push (instObj C h.objs.size)) (isInstance (.ref (h.objs.size + 1)) (.ref C)) true := t1.andThen s1
  refine P_bind (P_any (isI.at ?_))
  simp only [Bool.not_true, Bool.false_eq_true, if_false]
  refine P_bind (P_holding ?_)
  unfold callSpecial?
  have sp : Looks (model prog w) ((h.push emptyDict).push (instObj C h.objs.size)) (specialOf (.ref (h.objs.size + 1)) "__init__") (some init) := t1.andThen i1
  refine P_bind (P_any (sp.at ?_))
  dsimp only
  refine P_holding (P_bind (P_any (b1.at ?_)))
  dsimp only
  refine P_bind (P_call (P_codeMono hq fun r s' z => ?_))
  rcases r with e | (v | _ | _ | _) <;> first | exact z | exact z.elim | skip
  obtain ⟨rfl, z⟩ := z
  refine P_pure ?_
  dsimp only
  exact P_pure z
end
section
variable {prog : Program} {w : World} {A : Around} {K : Frag} {C x : Addr} {s : Shared} {h₀ : Heap} {L : Addr} {m : PySem.Str → Option Value} {news : List (Addr × Obj)} {R : Result → Shared → Prop}
theorem P_make {rest : List Value} {fI : Addr} (F : Fr h₀ L s.heap m) (N : News h₀ L s.heap news) (X : K.In s.heap) (hm : makesIn K C = true)
    (hi : findIn K (.ref C) "__init__" = some (some (.ref fI))) (hf : typeIn K (.ref fI) = some (.type "function"))
    (h : ∀ x dx h', Fr h₀ L h' m → News h₀ L h' ((x, instObj C dx) :: (dx, emptyDict) :: news) → (∀ p ∈ news, p.1 < dx) → dx < x →
      codeP (model prog w) (A.under (.builtin "type.__call__" ⟨.ref C :: rest, []⟩)) (.call (.ref fI) ⟨.ref x :: rest, []⟩) (InitBack x R) { s with heap := h' }) :
    codeP (model prog w) A (.call (.ref C) ⟨rest, []⟩) R s := by
  obtain ⟨hh, g, d, t, os⟩ := s
  refine P_make_core (makes_of X hm) (looks_findIn X hi) (fun self => bind_fn X self hf) rfl (h _ hh.objs.size _ ((F.push _).push _) ?_ (fun p hp => Heap.lt_size (N p hp).1) (Nat.lt_succ_self _))
  have := (N.push F emptyDict).push (F.push _) (instObj C hh.objs.size)
  rwa [Heap.size_push] at this
end
theorem esc_oct {bl : List UInt8} {k : Nat} {c : UInt8} (h : bl[k]? = some c) (ho : isO c = true) : escK bl k = some ([UInt8.ofNat ((octK bl 2 (k + 1) (c.toNat - 48)).1 % 256)], (octK bl 2 (k + 1) (c.toNat - 48)).2) := by
  simp only [escK, h, if_pos (isO_iff.mp ho)]
theorem esc_cr {bl : List UInt8} {k : Nat} {c : UInt8} (h : bl[k]? = some c) (hc : (c.toNat : Int) = 13) : escK bl k = some ([], skipK bl (k + 1)) := by
  have h1 : c.toNat = 13 := by omega
  simp only [escK, h, h1]; rfl
theorem esc_lf {bl : List UInt8} {k : Nat} {c : UInt8} (h : bl[k]? = some c) (hc : (c.toNat : Int) = 10) : escK bl k = some ([], k + 1) := by
  have h1 : c.toNat = 10 := by omega
  simp only [escK, h, h1]; rfl
theorem esc_mean {bl : List UInt8} {k : Nat} {c : UInt8} (h : bl[k]? = some c) (ho : isO c = false) (h13 : (c.toNat : Int) ≠ 13) (h10 : (c.toNat : Int) ≠ 10) : escK bl k = some ([meanU c], k + 1) := by
  have := isO_iff'.mp ho
  simp only [escK, h, if_neg this, if_neg (show ¬ c.toNat = 13 by omega), if_neg (show ¬ c.toNat = 10 by omega)]
theorem news_as {h₀ h : Heap} {L fb : Addr} {q : Addr × Obj} {b b' : Array UInt8} {l : List (Addr × Obj)} (N : News h₀ L h (q :: (fb, baObj b) :: l)) (e : b = b') : News h₀ L h ((fb, baObj b') :: l) := e ▸ news_tail N
theorem push_is {b : Array UInt8} {v : Int} {n : Nat} {c : UInt8} (hv : v = (n : Int)) (hc : UInt8.ofNat n = c) : b.push v.toNat.toUInt8 = b ++ [c].toArray := by
  subst hv hc; simp [Nat.toUInt8]
theorem u8_of {c : UInt8} {n : Nat} (h : c.toNat = n) : UInt8.ofNat n = c := by subst h; simp
theorem meanU_is {c : UInt8} {n : Int} {d : Nat} (h : (c.toNat : Int) = n) (e : (if n.toNat = 110 then 10 else if n.toNat = 114 then 13 else if n.toNat = 116 then 9 else if n.toNat = 98 then 8 else if n.toNat = 102 then 12 else n.toNat) = d) : UInt8.ofNat d = meanU c := by
  have h1 : c.toNat = n.toNat := by omega
  unfold meanU
  rw [h1]
  subst e
  repeat' split
  all_goals first | rfl | (rw [← h1]; simp)
theorem meanU_other {c : UInt8} (h1 : ¬ (c.toNat : Int) = 110) (h2 : ¬ (c.toNat : Int) = 114) (h3 : ¬ (c.toNat : Int) = 116) (h4 : ¬ (c.toNat : Int) = 98) (h5 : ¬ (c.toNat : Int) = 102) : UInt8.ofNat c.toNat = meanU c := by
  unfold meanU
  rw [if_neg (by omega), if_neg (by omega), if_neg (by omega), if_neg (by omega), if_neg (by omega)]; simp
section
variable {w : World} {A : Around} {env : Env} {outer : List Env} {A₀ : Around} {base h₀ : Heap} {L : Addr} {m mg mb : PySem.Str → Option Value} {mean : ExcName → Option Value} {s : Shared} {Q E : Value → Shared → Prop} {rest : List (Addr × Obj)}
  {x dx fb : Addr} {k1 k2 tb : Tok} {bl : List UInt8} {p : Int} {tk : Tok} {k : Nat} {c : UInt8} {b : Array UInt8}
set_option maxRecDepth 100000 in
set_option maxHeartbeats 8000000 in
theorem escape_P (C : Cx 380 350 w A env outer A₀ base h₀ L m mg mb mean s) (hg : A.guards = some [])
  (N : News h₀ L s.heap ((fb, baObj b) :: (x, instObj 393 dx) :: (dx, srcD w k1 k2 bl tb p tk) :: rest)) (hne : @Ne Nat x dx ∧ @Ne Nat fb x ∧ @Ne Nat fb dx) (hoff : OwnOff rest [fb, x, dx])
  (hp : p = (k : Int)) (hfit : bl.length ≤ 1000) (hz : b.size ≤ 999)
  (rz : bl[k]? = none → ∀ e d k' t' h' tk2, Flown base (env :: outer) h₀ L m e d (toldEs w k' (.bytes synB t')) h' → E (.ref e) { s with heap := h', toks := tk2 })
  (ret : ∀ ev k', escK bl k = some (ev, k') → ∀ h' p' tk' tk2, Fr h₀ L h' m → News h₀ L h' ((fb, baObj (b ++ ev.toArray)) :: (x, instObj 393 dx) :: (dx, srcD w k1 k2 bl tb p' tk') :: rest) → p' = (k' : Int) → Q .none { s with heap := h', toks := tk2 }) :
  wpP (model PR w) A (call (.ref 453) [.ref x, .ref fb]) Q E s := by
  obtain ⟨hh, hf, hdp, hu, hL, hk, B, F, X, T⟩ := C
  obtain ⟨hne, hne1, hne2⟩ := hne
  refine deepenP 380 350 hh hf hg hdp hu ?_
  refine P_call ?_
  k_dflt ktr_enter
  k_steps
  · exact rz (by assumption) _ _ _ _ _ _ (by assumption)
  · exact ret _ _ (esc_oct (by assumption) (by assumption)) _ _ _ _ (by k_asm) (news_as (by k_asm) (push_is (by assumption) rfl)) (by assumption)
  · exact ret _ _ (esc_cr (by assumption) (by assumption)) _ _ _ _ (by k_asm) (news_as (by k_asm) (by simp)) (by assumption)
  iterate 5 exact ret _ _ (esc_mean (by assumption) (by assumption) (by assumption) (by assumption)) _ _ _ _ (by k_asm) (news_as (by k_asm) (push_is (n := _) (Int.ofNat_eq_natCast _).symm (meanU_is (by assumption) (by decide)))) (by assumption)
  · exact ret _ _ (esc_mean (by assumption) (by assumption) (by assumption) (by assumption)) _ _ _ _ (by k_asm) (news_as (by k_asm) (push_is rfl (meanU_other (by assumption) (by assumption) (by assumption) (by assumption) (by assumption)))) (by assumption)
  · exact ret _ _ (esc_lf (by assumption) (by assumption)) _ _ _ _ (by k_asm) (news_as (by k_asm) (by simp)) (by assumption)
end
local macro_rules | `(tactic| walk_at "wpP") => `(tactic| (k_here; (with_reducible show wpP _ _ (call (Value.ref 453) _) _ _ _); k_dflt (refine escape_P (Cx.mk rfl rfl (Nat.le_of_ble_eq_true rfl) (Nat.le_of_ble_eq_true rfl) rfl rfl (by k_asm) (by k_asm) (by k_asm) (by k_asm)) rfl (by k_asm) (by refine ⟨?_, ?_, ?_⟩ <;> omega) (by assumption) (by first | assumption | rfl) (by assumption) (by assumption) (fun hc' e' d' k' t' h' tk2' R' => ?_) (fun ev' ke' he' h' p' tk' tk2' F' N' hp' => ?_)); (all_goals (try k_sweep))))
namespace F
theorem ba_no_bytes : typeLookup (.type "bytearray") "__bytes__" = pure none := by rw [typeLookup_type, builtinLookup_eq_fast]; kernel_rfl
theorem ba_no_index : typeLookup (.type "bytearray") "__index__" = pure none := by rw [typeLookup_type, builtinLookup_eq_fast]; kernel_rfl
theorem ba_buffer : typeLookup (.type "bytearray") "__buffer__" = pure (some (.builtin "bytearray.__buffer__")) := by rw [typeLookup_type, builtinLookup_eq_fast]; kernel_rfl
theorem ba_bends : ("bytearray.__buffer__".endsWith ("." ++ "__buffer__")) = true := by decide +kernel
theorem ba_bdrop : ("bytearray.__buffer__".dropRight ("__buffer__".length + 1)) = "bytearray" := by decide +kernel
theorem ba_entry_len : entryFor table "bytearray.__len__" = some Builtin.«bytearray.__len__» := by first | exact entryFor_of_fast (by kernel_rfl) | exact entryFor_of_tree (by kernel_rfl)
theorem ba_entry_getitem : entryFor table "bytearray.__getitem__" = some Builtin.«bytearray.__getitem__» := by first | exact entryFor_of_fast (by kernel_rfl) | exact entryFor_of_tree (by kernel_rfl)
theorem ba_owner_sig : Manifest.owners.lookup (String.ofList ['y', 'a', 'r', 'r', 'a', 'e', 't', 'y', 'b'].reverse) = some Manifest.sig_bytearray := by kernel_rfl
theorem ba_args_len (a : Value) : argsOk "bytearray.__len__" ⟨[a], []⟩ := by
  unfold argsOk; rw [signature?_of (id := "bytearray.__len__") (n := ['_', '_', 'n', 'e', 'l', '_', '_']) (o := ['y', 'a', 'r', 'r', 'a', 'e', 't', 'y', 'b']) (by kernel_rfl) ba_owner_sig]; kernel_rfl
theorem ba_args_getitem (a b : Value) : argsOk "bytearray.__getitem__" ⟨[a, b], []⟩ := by
  unfold argsOk; rw [signature?_of (id := "bytearray.__getitem__") (n := ['_', '_', 'm', 'e', 't', 'i', 't', 'e', 'g', '_', '_']) (o := ['y', 'a', 'r', 'r', 'a', 'e', 't', 'y', 'b']) (by kernel_rfl) ba_owner_sig]; kernel_rfl
end F
section
variable {prog : Program} {w : World} {A : Around} {E : Value → Shared → Prop} {s : Shared}
theorem ba_payload {x : Addr} {b : Array UInt8} {Q : Array UInt8 → Shared → Prop} (ho : s.heap.get? x = some (baObj b)) (h : Q b s) : wpAny (model prog w) A (Builtin.Bytes.payload (.ref x)) Q E s := by
  unfold Builtin.Bytes.payload Builtin.Bytes.payload?
  exact wpAny_bind (wpAny_bind (wpAny_load ho (wpAny_pure (wpAny_pure h))))
theorem ba_buf {x : Addr} {b : Array UInt8} {id : String} {Q : Option (Array UInt8) → Shared → Prop} (ho : s.heap.get? x = some (baObj b)) (h : Q (some b) s) : wpAny (model prog w) A (Builtin.Bytes.buffer? id (.ref x) true) Q E s := by
  have hT : s.TypeIs (.ref x) "bytearray" := ⟨_, ho, rfl⟩
  unfold Builtin.Bytes.buffer?
  refine wpAny_bind (wpAny_specialOf hT F.ba_buffer ?_)
  dsimp only
  refine wpAny_bind (m := Builtin.Bytes.slotIsOwn (.ref x) "__buffer__") ?_
  unfold Builtin.Bytes.slotIsOwn
  refine wpAny_bind (wpAny_specialOf hT F.ba_buffer ?_)
  dsimp only
  rw [F.ba_bends, F.ba_bdrop]
  simp only [Bool.not_true, Bool.false_eq_true, if_false]
  refine wpAny_isInstance hT F.ba_sub ?_
  simp only [Bool.not_true, Bool.false_eq_true, if_false]
  refine wpAny_bind (wpAny_specialOf hT F.ba_buffer ?_)
  refine wpAny_bind (ba_ownRelease ho ?_)
  simp only [Bool.false_eq_true, if_false]
  exact wpAny_bind (ba_payload ho (wpAny_pure h))
theorem by_of_ba_new {x : Addr} {b : Array UInt8} {Q : Value → Shared → Prop} (ho : s.heap.get? x = some (baObj b)) (hz : b.size ≤ 1001) (hQ : ∀ t k, Q (.bytes b t) { s with toks := k }) :
    codeAny (model prog w) A (.call (.builtin "bytes.__new__") ⟨[.type "bytes", .ref x], []⟩) (wants Q E) s := by
  refine codeAny_of_tree ?_
  show wpAny _ A.in1 (do checkBuiltinCall "bytes.__new__" ⟨[.type "bytes", .ref x], []⟩; again (.builtin "bytes.__new__" ⟨[.type "bytes", .ref x], []⟩)) _ _ s
  refine wpAny_bind (wpAny_of_eq (PySem.F.bm_newCall _) (wpAny_pure ⟨plainId_quiet PySem.F.bm_plain _, codeAny_builtin PySem.F.bm_entry ?_⟩))
  rw [Around.under_plainId PySem.F.bm_plain _]
  have hT : s.TypeIs (.ref x) "bytearray" := ⟨_, ho, rfl⟩
  unfold Builtin.«bytes.__new__»
  refine wpAny_bind (wpAny_of_eq (a := true) rfl ?_)
  refine bm_if_false rfl ?_
  refine wpAny_bind (wpAny_of_eq PySem.F.bm_sub ?_)
  refine bm_if_false rfl ?_
  refine wpAny_bind (wpAny_of_eq (PySem.F.bm_bind _) ?_)
  refine wpAny_bind (wpAny_of_eq (a := ()) rfl ?_)
  refine wpAny_bind (wpAny_of_eq (a := ()) rfl ?_)
  refine bm_if_false rfl ?_
  refine wpAny_bind (wpAny_specialOf hT F.ba_no_bytes ?_)
  refine wpAny_bind (wpAny_bind ?_)
  show wpAny _ _ (load x >>= _) _ _ _
  refine wpAny_bind (wpAny_load ho ?_)
  refine wpAny_pure (wpAny_pure ?_)
  refine bm_if_false rfl ?_
  refine wpAny_bind (wpAny_specialOf hT F.ba_no_index ?_)
  refine bm_if_true rfl ?_
  first
    | show wpAny _ _ (Builtin.Bytes.buffer? "bytes.__new__" (.ref x) true >>= _) _ _ _
    | (refine wpAny_bind ?_; show wpAny _ _ (Builtin.Bytes.buffer? "bytes.__new__" (.ref x) true >>= _) _ _ _)
  refine wpAny_bind (ba_buf ho ?_)
  refine wpAny_bind (wpAny_rule ?_)
  refine wpAny_bind (wpAny_mkBytes ?_ (by rw [sizeLine_eq]; omega))
  show wpAny _ _ (if (Value.type "bytes" == Value.type "bytes") = true then _ else _) _ _ _
  refine bm_if_true (by decide) ?_
  first
    | exact wpAny_pure (hQ _ _)
    | exact wpAny_bind (wpAny_pure (wpAny_pure (hQ _ _)))
theorem by_of_ba {x : Addr} {b : Array UInt8} {Q : Value → Shared → Prop} (ho : s.heap.get? x = some (baObj b)) (hz : b.size ≤ 1001) (hQ : ∀ t k, Q (.bytes b t) { s with toks := k }) :
    wpAny (model prog w) A (call (.type "bytes") [.ref x]) Q E s := by
  refine callType_codes (Q₁ := fun obj s₁ => s₁.TypeIs obj "bytes" ∧ Q obj s₁) PySem.F.bm_called (PySem.F.bm_typeCall _) PySem.F.entry_object_init
    (by_of_ba_new ho hz fun t k => ⟨PySem.W.typeIs_bytes _ _ _, hQ t k⟩) fun obj s₁ h₁ => ?_
  exact ⟨h₁.1, PySem.F.args_object_init_2 obj _, object_init_meets PySem.F.bm_called.init.lookup PySem.F.bm_called.made (by decide) prog w A.in1 _ s₁ ⟨h₁.1, rfl, h₁.2⟩⟩
theorem ba_len_call {x : Addr} {b : Array UInt8} {Q : Value → Shared → Prop} (ho : s.heap.get? x = some (baObj b)) (hz : b.size ≤ 1001) (h : Q (.int b.size (s.toks + 1)) { s with toks := s.toks + 1 + 1 }) :
    wpAny (model prog w) A (call (.builtin "len") [.ref x]) Q E s := by
  have hT : s.TypeIs (.ref x) "bytearray" := ⟨_, ho, rfl⟩
  refine call_len_slot (n := (b.size : Int)) hT F.ba_len (fun Q' hq => ?_) (by omega) (by omega) h
  refine wpAny_call (codeAny_call_builtin F.ba_len.plain F.ba_entry_len (F.ba_len.check _ _ _ _ _ _ _ _ hT (F.ba_args_len _) ?_))
  show wpAny _ _ (Builtin.Bytes.payload (.ref x) >>= fun r => _) _ _ s
  refine wpAny_bind (ba_payload ho ?_)
  exact wpAny_bind (wpAny_mkInt (wpAny_pure hq))
end
section
variable {prog : Program} {w : World} {A : Around} {E : Value → Shared → Prop} {s : Shared} {h₀ : Heap} {L : Addr} {m : PySem.Str → Option Value} {news : List (Addr × Obj)} {b : Array UInt8} {D : Addr}
theorem ba_meets_slice (a : Addr) {n : Nat} {u0 u1 : Tok} {x : Addr} (hn : n = b.size) (hz : b.size ≤ 1001) {R : Result → Shared → Prop} (ho : s.heap.get? x = some (baObj b)) (hS : s.heap.IsSliceOf a (.int 0 u0) (.int (n : Int) u1) .none)
    (h : R (.ok (.ret (.ref s.heap.objs.size))) { s with heap := s.heap.push (baObj b) }) :
    wpAny (model prog w) A.in1 (Builtin.«bytearray.__getitem__» ⟨[.ref x, .ref a], []⟩) (fun fin s' => match fin with | .done f => R (.ok f) s' | .again c' => c'.quiet = true ∧ codeAny (model prog w) A c' R s') (fun e s' => R (.error e) s') s := by
  obtain ⟨o, hoa, hc, hd⟩ := hS
  have hT : s.TypeIs (.ref a) "slice" := ⟨o, hoa, hc⟩
  show wpAny _ _ (Builtin.Bytes.subscript? (.ref a) >>= fun r => _) _ _ s
  refine wpAny_bind ?_
  unfold Builtin.Bytes.subscript?
  refine wpAny_bind (wpAny_specialOf hT slice_no_index (wpAny_pure ?_))
  refine wpAny_bind (wpAny_typeOf hT ?_)
  show wpAny _ _ (Builtin.Bytes.sliceParts (.ref a) >>= fun r => _) _ _ s
  refine wpAny_bind ?_
  unfold Builtin.Bytes.sliceParts
  refine wpAny_bind (wpAny_field (x := .none) hoa hd rfl ?_)
  kby_none
  refine wpAny_ite (KBy.ite_no (show ¬ ((Value.none == rawInt 0) = true) from Bool.false_ne_true) ?_)
  refine wpAny_bind (wpAny_field (x := .int _ _) hoa hd rfl ?_)
  kby_int
  refine wpAny_bind (wpAny_field (x := .int _ _) hoa hd rfl ?_)
  kby_int
  refine wpAny_pure ?_
  refine wpAny_bind (ba_payload ho ?_)
  have go : wpAny (model prog w) A.in1 (sliceIndices (rawPart (some 0)) (rawPart (some (n : Int))) (rawPart none) b.size) (fun r s' => r = sliceBounds (some 0) (some (n : Int)) none b.size ∧ s' = s) (fun _ _ => False) s :=
    wpAny_of_eq (sliceIndices_raw (some 0) (some (n : Int)) none b.size (fun e => nomatch e)) ⟨rfl, rfl⟩
  refine wpAny_bind (wpAny_mono go (fun r s' hr => ?_) fun _ _ e => e.elim)
  obtain ⟨rfl, rfl⟩ := hr
  unfold Builtin.Bytes.newBytearray
  have es : Builtin.Bytes.sliced b (sliceBounds (some 0) (some (n : Int)) none b.size).1 (sliceBounds (some 0) (some (n : Int)) none b.size).2.1 (sliceBounds (some 0) (some (n : Int)) none b.size).2.2 = b := by
    have e := KBc.picked_eq b (some 0) (some (n : Int))
    unfold KBy.picked at e
    rw [e]
    have c0 : clipAt b.size 0 = 0 := by unfold clipAt; omega
    have c1 : clipAt b.size (n : Int) = b.size := by unfold clipAt; split <;> omega
    simp only [Option.elim, c0, c1, List.drop_zero, Nat.sub_zero]
    rw [List.take_of_length_le (by simp), Array.toArray_toList]
  dsimp only
  rw [es]
  refine wpAny_bind (wpAny_newObj_type (wpAny_pure ?_) ?_)
  · exact h
  · show b.size ≤ sizeLine
    rw [sizeLine_eq]; omega
end
/-- the exception has left the tree of the frame at hand (a loop's own activation): its flight is that frame -/
structure FlownL (base : Heap) (l : List Env) (h₀ : Heap) (L : Addr) (m : PySem.Str → Option Value) (e d : Addr) (es : List DictEntry) (h : Heap) : Prop where
  stays : base.StaysIn h
  fresh : base.get? e = none
  frames : h.FunFrames base l
  exc : Ex base h e d (rawInt L)
  told : Told h d es
  up : h₀.UpToSlots h
  ns : h.Ns L m
section
variable {M : Model} {A : Around} {E : Value → Shared → Prop} {s : Shared} {env : Env} {outer : List Env} {base h₀ : Heap} {L e d : Addr} {m : PySem.Str → Option Value} {es : List DictEntry}
theorem set_flight {fl : Value} {f : Addr} {l : List Env} {Q : Unit → Shared → Prop} (hkb : base.StaysIn s.heap) (hl : s.heap.FunFrames base l) (hx : Ex base s.heap e d fl)
    (h : ∀ h', base.StaysIn h' → h'.FunFrames base l → Ex base h' e d (rawInt f) → s.heap.UpToSlots h' → Q () { s with heap := h' }) : wpAny M A (setFlight (.ref e) (some f)) Q E s := by
  obtain ⟨oe, vs, T, oT, ts, he, hcd, hd, h1, hnT, hTe, hT, hdT, h3⟩ := hx
  have h3s : 3 < ts.size := (Array.getElem?_eq_some_iff.mp h3).1
  have other : ∀ b, b ≠ T → (s.heap.update T (Obj.mapFields (·.setIfInBounds 3 ((some f : Option Addr).elim Value.none fun f => rawInt f)))).get? b = s.heap.get? b := fun b hb => Heap.get?_update_other _ _ (Ne.symm hb)
  have noT : ∀ b o, s.heap.get? b = some o → (∀ vs, o.data ≠ .fields vs) → b ≠ T := fun b o q nf z => by
    rw [z, hT] at q
    exact nf ts (Option.some.inj q ▸ hdT)
  unfold setFlight
  refine wpAny_bind (wpAny_field he hd h1 ?_)
  rw [if_pos (show (Value.ref T != Value.none) = true from by simp)]
  refine wpAny_setField hT hdT h3s (h _ (fun b o q => (other b fun z => by rw [z, hnT] at q; cases q).trans (hkb b o q))
    (hl.of_keeps fun b o q nf => ⟨o, (other b (noT b o q nf)).trans q, rfl⟩) ?_ fun b o q nf => ⟨o.slots, (other b (noT b o q nf)).trans q⟩)
  exact ⟨oe, vs, T, _, _, (other e (Ne.symm hTe)).trans he, hcd, hd, h1, hnT, hTe, Heap.get?_update_self _ hT (Obj.isFreed_of_fields (Obj.data_mapFields hdT _)), Obj.data_mapFields hdT _, by simp [h3s]⟩
theorem loop_flown (hA : A.frames = some (env :: outer)) (hL : env.frame = some L) (R : Flown base (env :: outer) h₀ L m e d es s.heap) (h : ∀ h', FlownL base (env :: outer) h₀ L m e d es h' → E (.ref e) { s with heap := h' }) :
    notedBy M A env (fun e' s' => cameBackBy M A env E e' s') (.ref e) s := by
  unfold notedBy
  refine note_ps hA R.frames hL R.stays R.fresh (.inr R.exc) fun h₂ s2 f2 x2 u2 => ?_
  show cameBackBy M A env E (.ref e) _
  unfold cameBackBy
  obtain ⟨oe, vs, T, oT, ts, he, hcd, hd, h1, _⟩ := id x2
  refine wpAny_bind (wpAny_field he hd h1 ?_)
  rw [if_neg (show ¬ ((Value.ref T == Value.none) = true) from by simp)]
  rw [hL]
  refine set_flight (s := { s with heap := h₂ }) s2 f2 x2 fun h₃ s3 f3 x3 u3 => ?_
  exact h h₃ ⟨s3, R.fresh, f3, x3, (R.told.up u2).up u3, (R.up.trans u2).trans u3, (u2.trans u3).ns R.ns⟩
theorem leave_loop {g : Heap} {A₁ : Around} {L' a : Addr} {m' : PySem.Str → Option Value} {name : PySem.Str} {scope : Scope} {cd : Value} {Q : Unit → Shared → Prop}
    (R : FlownL base (envOf name scope L' a cd :: env :: outer) g L' m' e d es s.heap) (FG : Fr h₀ L g m)
    (hQ : ∀ h', Flown base (env :: outer) h₀ L m e d es h' → Q () { s with heap := h' }) :
    wpAny M (A₁.deeper (envOf name scope L' a cd)) (leaving (envOf name scope L' a cd) (.ref e)) Q E s := by
  unfold leaving
  refine wpAny_bind (note_again rfl R.exc ?_)
  refine unflight_ps R.stays R.frames R.exc fun h₃ s3 f3 x3 u3 => ?_
  have ug : g.UpToSlots h₃ := R.up.trans u3
  exact hQ h₃ ⟨s3, R.fresh, f3.2.2, x3, R.told.up u3, (Heap.UpToSlots.of_keeps FG.keep).trans ug, ug.ns FG.ns⟩
end
/-- one turn more -/
structure Again (I : Nat → Shared → Prop) (n : Nat) (s : Shared) : Prop where
  out : ∃ m, m < n ∧ I m s
section
variable {prog : Program} {w : World} {A : Around} {E : Value → Shared → Prop} {s : Shared}
theorem P_while {test : PySem.Expr} {body : List Stmt} {pos : Pos} {env : Env} {Q : Flow → Shared → Prop} (I : Nat → Shared → Prop)
    (turn : ∀ n s, I n s → wpAny (model prog w) A (isTrue test env (eval test env)) (fun b s₂ =>
        if b = true then wpP (model prog w) A (execs body env) (fun f s₃ => match f with
            | .next => Again I n s₃ | .cont => Again I n s₃
            | .brk => Q .next s₃
            | .ret v => Q (.ret v) s₃) (notedBy (model prog w) A env fun e s' => cameBackBy (model prog w) A env E e s') s₂
        else Q .next s₂)
        (notedBy (model prog w) A env fun e s' => cameBackBy (model prog w) A env E e s') s)
    (n : Nat) (h : I n s) : wpP (model prog w) A (exec (.While test body [] pos) env) Q E s := by
  refine P_While (P_loop I (fun n s hI => ?_) n h)
  refine wpAny_mono (turn n s hI) (fun b s₂ h₂ => ?_) fun _ _ x => x
  cases b with
  | false => exact P_nil h₂
  | true =>
    refine P_mono h₂ (fun f s₃ h₃ => ?_) fun _ _ x => x
    cases f with
    | next => exact h₃.out
    | cont => exact h₃.out
    | brk => exact h₃
    | ret v => exact h₃
end
local macro_rules | `(tactic| walk_at "leaving ref") => `(tactic| (k_here; k_dflt (refine leave_loop (by assumption) (by k_asm) ?_; intro h' R'; (try dsimp only))))
/-- the frame's names written out: those of ps, and the rest as they lie -/
def mL (ps : List (PySem.Str × Value)) (u : PySem.Str → Option Value) : PySem.Str → Option Value := match ps with
  | [] => u
  | p :: r => fun y => if y = p.1 then some p.2 else mL r u y
theorem mL_self : ∀ {ps : List (PySem.Str × Value)} {u : PySem.Str → Option Value}, (∀ p ∈ ps, u p.1 = some p.2) → mL ps u = u
  | [], _, _ => rfl
  | p :: r, u, h => by
    funext y
    show (if y = p.1 then some p.2 else mL r u y) = u y
    by_cases e : y = p.1
    · rw [if_pos e, e]; exact (h p (.head _)).symm
    · rw [if_neg e, mL_self fun q hq => h q (.tail _ hq)]
theorem fr_mL {h₀ h : Heap} {L : Addr} {u : PySem.Str → Option Value} {ps : List (PySem.Str × Value)} (F : Fr h₀ L h u) (hp : ∀ p ∈ ps, u p.1 = some p.2) : Fr h₀ L h (mL ps u) := by rw [mL_self hp]; exact F
local macro_rules | `(tactic| walk_at "notedBy") => `(tactic| (k_here; k_dflt (refine loop_flown rfl rfl (by assumption) ?_; intro h' R'; (try dsimp only))))
section
variable {bl f e : List UInt8} {n k k' d : Nat} {c : UInt8} {R : Option (List UInt8 × Nat)}
theorem rd_end (h : bl[k]? = none) : rdK bl n k f d = none := by cases n <;> simp [rdK, h]
theorem rd_esc0 (h : bl[k]? = some c) (hc : (c.toNat : Int) = 92) (he : bl[k + 1]? = none) : rdK bl n k f d = none := by
  have h1 : c.toNat = 92 := by omega
  cases n with
  | zero => rfl
  | succ n => simp [rdK, h, h1, escK, he]
theorem rd_esc (h : bl[k]? = some c) (hc : (c.toNat : Int) = 92) (he : escK bl (k + 1) = some (e, k')) : rdK bl (n + 1) k f d = rdK bl n k' (f ++ e) d := by
  have h1 : c.toNat = 92 := by omega
  simp [rdK, h, h1, he]
theorem rd_cr (h : bl[k]? = some c) (hc : (c.toNat : Int) = 13) : rdK bl (n + 1) k f d = rdK bl n (skipK bl (k + 1)) (f ++ [10]) d := by
  have h1 : c.toNat = 13 := by omega
  simp [rdK, h, h1]
theorem rd_open (h : bl[k]? = some c) (hc : (c.toNat : Int) = 40) : rdK bl (n + 1) k f d = rdK bl n (k + 1) (f ++ [c]) (d + 1) := by
  have h1 : c.toNat = 40 := by omega
  simp [rdK, h, h1]
theorem rd_close1 (h : bl[k]? = some c) (hc : (c.toNat : Int) = 41) : rdK bl (n + 1) k f 1 = some (f, k + 1) := by
  have h1 : c.toNat = 41 := by omega
  simp [rdK, h, h1]
theorem rd_close (h : bl[k]? = some c) (hc : (c.toNat : Int) = 41) (hd : d ≠ 1) : rdK bl (n + 1) k f d = rdK bl n (k + 1) (f ++ [c]) (d - 1) := by
  have h1 : c.toNat = 41 := by omega
  simp [rdK, h, h1, hd]
theorem rd_else (h : bl[k]? = some c) (h1 : (c.toNat : Int) ≠ 92) (h2 : (c.toNat : Int) ≠ 13) (h3 : (c.toNat : Int) ≠ 40) (h4 : (c.toNat : Int) ≠ 41) : rdK bl (n + 1) k f d = rdK bl n (k + 1) (f ++ [c]) d := by
  have h1 : ¬ c.toNat = 92 := by omega
  have h2 : ¬ c.toNat = 13 := by omega
  have h3 : ¬ c.toNat = 40 := by omega
  have h4 : ¬ c.toNat = 41 := by omega
  simp [rdK, h, h1, h2, h3, h4]
theorem esc_one (h : escK bl k = some (e, k')) : e.length ≤ 1 := by
  unfold escK at h
  split at h
  · cases h
  · split at h
    · cases h; simp
    · split at h
      · cases h; simp
      · split at h <;> (cases h; simp)
end
theorem in_bytes {bl : List UInt8} {k : Nat} {c : UInt8} (h : bl[k]? = some c) : k < bl.length := (List.getElem?_eq_some_iff.mp h).1
structure StrI (w : World) (s₀ : Shared) (g : Heap) (L x dx fb : Addr) (k1 k2 tb : Tok) (bl : List UInt8) (rest : List (Addr × Obj)) (R : Option (List UInt8 × Nat)) (n : Nat) (s : Shared) : Prop where
  out : ∃ (h : Heap) (tk : Nat) (u : PySem.Str → Option Value) (f : List UInt8) (k d : Nat) (td : Tok) (p dep : Int) (tkp : Tok), s = { s₀ with heap := h, toks := tk } ∧
    Fr g L h (mL [(Str.ofString "source", .ref x), (Str.ofString "found", .ref fb), (Str.ofString "depth", .int dep td)] u) ∧
    News g L h ((fb, baObj f.toArray) :: (x, instObj 393 dx) :: (dx, srcD w k1 k2 bl tb p tkp) :: rest) ∧ p = (k : Int) ∧ dep = (d : Int) ∧ bl.length < n + k ∧ f.length + n ≤ bl.length + 1 ∧
    ((0 < d ∧ rdK bl n k f d = R) ∨ (d = 0 ∧ R = some (f, k)))
theorem strI {w : World} {s₀ : Shared} {g : Heap} {L x dx fb : Addr} {k1 k2 tb : Tok} {bl : List UInt8} {rest : List (Addr × Obj)} {R : Option (List UInt8 × Nat)} {n : Nat} {h : Heap} {tk : Nat} {u : PySem.Str → Option Value} {b : Array UInt8} {p dep : Int} {td tkp : Tok} (f : List UInt8) (k d : Nat)
    (F : Fr g L h u) (h1 : u (Str.ofString "source") = some (.ref x)) (h2 : u (Str.ofString "found") = some (.ref fb)) (h3 : u (Str.ofString "depth") = some (.int dep td))
    (N : News g L h ((fb, baObj b) :: (x, instObj 393 dx) :: (dx, srcD w k1 k2 bl tb p tkp) :: rest)) (hb : b = f.toArray) (hp : p = (k : Int)) (hd : dep = (d : Int)) (hk : bl.length < n + k) (hf : f.length + n ≤ bl.length + 1)
    (hr : (0 < d ∧ rdK bl n k f d = R) ∨ (d = 0 ∧ R = some (f, k))) : StrI w s₀ g L x dx fb k1 k2 tb bl rest R n { s₀ with heap := h, toks := tk } := by
  subst hb
  refine ⟨⟨h, tk, u, f, k, d, td, p, dep, tkp, rfl, fr_mL F ?_, N, hp, hd, hk, hf, hr⟩⟩
  simp only [List.forall_mem_cons, List.not_mem_nil, false_implies, implies_true, and_true]
  exact ⟨h1, h2, h3⟩
theorem off3 {g h : Heap} {L fb x dx : Addr} {o ox od : Obj} {rest : List (Addr × Obj)} (_N : News g L h ((fb, o) :: (x, ox) :: (dx, od) :: rest)) (h : OwnOff rest [x, dx]) (l : @LT.lt Nat _ x fb ∧ @LT.lt Nat _ dx fb ∧ AllLt fb rest) :
    OwnOff rest [fb, x, dx] ∧ @Ne Nat fb x ∧ @Ne Nat fb dx := by
  refine ⟨fun p hp q hq => ?_, Ne.symm (Nat.ne_of_lt l.1), Ne.symm (Nat.ne_of_lt l.2.1)⟩
  rcases List.mem_cons.mp hq with rfl | hq
  · exact allLt_ne l.2.2 p hp
  · exact h p hp q hq
theorem str_turn {w : World} {s₀ : Shared} {g : Heap} {L x dx fb : Addr} {k1 k2 tb : Tok} {bl : List UInt8} {rest : List (Addr × Obj)} {R : Option (List UInt8 × Nat)} {n : Nat} {h : Heap} {tk : Nat} {u : PySem.Str → Option Value} {b : Array UInt8} {p dep : Int} {td tkp : Tok} {f1 : List UInt8} {kk d1 : Nat} {c : UInt8} (f : List UInt8) (k d : Nat)
    (F : Fr g L h u) (h1 : u (Str.ofString "source") = some (.ref x)) (h2 : u (Str.ofString "found") = some (.ref fb)) (h3 : u (Str.ofString "depth") = some (.int dep td))
    (N : News g L h ((fb, baObj b) :: (x, instObj 393 dx) :: (dx, srcD w k1 k2 bl tb p tkp) :: rest)) (hb : b = f.toArray) (hp : p = (k : Int)) (hd : dep = (d : Int))
    (hc : bl[kk]? = some c) (hn : bl.length < n + kk) (hf1 : f1.length + n ≤ bl.length + 1) (hd1 : 0 < d1) (hr : (0 < d1 ∧ rdK bl n kk f1 d1 = R) ∨ (d1 = 0 ∧ R = some (f1, kk)))
    (hk : kk + 1 ≤ k) (hf : f.length ≤ f1.length + 1) (hs : ∀ n', (0 < d ∧ rdK bl (n' + 1) kk f1 d1 = rdK bl n' k f d) ∨ (d = 0 ∧ rdK bl (n' + 1) kk f1 d1 = some (f, k))) :
    Again (StrI w s₀ g L x dx fb k1 k2 tb bl rest R) n { s₀ with heap := h, toks := tk } := by
  have hlt := in_bytes hc
  obtain ⟨n', rfl⟩ : ∃ n', n = n' + 1 := ⟨n - 1, by omega⟩
  have hr' : rdK bl (n' + 1) kk f1 d1 = R := by
    rcases hr with hr | hr
    · exact hr.2
    · omega
  refine ⟨⟨n', by omega, strI f k d F h1 h2 h3 N hb hp hd (by omega) (by omega) ?_⟩⟩
  rcases hs n' with z | z
  · exact .inl ⟨z.1, z.2.symm.trans hr'⟩
  · exact .inr ⟨z.1, hr'.symm.trans z.2⟩
theorem ba_push {f : List UInt8} {c : UInt8} : f.toArray.push (Nat.toUInt8 (Int.toNat (c.toNat : Int))) = (f ++ [c]).toArray := by simp [Nat.toUInt8]
theorem ba_pushLF {f : List UInt8} : f.toArray.push (Nat.toUInt8 (Int.toNat 10)) = (f ++ [10]).toArray := by simp
theorem ba_cat {f e : List UInt8} : f.toArray ++ e.toArray = (f ++ e).toArray := by simp
theorem bytes_ba_K {prog : Program} {w : World} {A : Around} {E : Value → Shared → Prop} {s : Shared} {g : Heap} {L fb : Addr} {b : Array UInt8} {news : List (Addr × Obj)} {Q : Value → Shared → Prop} (N : News g L s.heap news) (hm : (fb, baObj b) ∈ news) (hz : b.size ≤ 1001)
    (h : ∀ t k, Q (.bytes b t) { s with toks := k }) : wpAny (model prog w) A (call (.type "bytes") [.ref fb]) Q E s := by_of_ba (N _ hm).1 hz h
theorem len_ba_K {prog : Program} {w : World} {A : Around} {E : Value → Shared → Prop} {s : Shared} {g : Heap} {L fb : Addr} {r : List UInt8} {news : List (Addr × Obj)} {Q : Value → Shared → Prop} (N : News g L s.heap news) (hm : (fb, baObj r.toArray) ∈ news) (hz : r.toArray.size ≤ 1001)
    (h : Q (.int (r.length : Nat) (s.toks + 1)) { s with toks := s.toks + 1 + 1 }) : wpAny (model prog w) A (call (.builtin "len") [.ref fb]) Q E s := by
  refine ba_len_call (N _ hm).1 hz ?_
  rw [List.size_toArray]; exact h
local macro_rules | `(tactic| walk_at "call builtin:len") => `(tactic| (k_here; (with_reducible show wpAny _ _ (call (Value.builtin "len") [Value.ref _]) _ _ _); k_dflt (refine len_ba_K (by k_asm) (by k_mem) (by first | assumption | omega) ?_)))
local macro_rules | `(tactic| walk_at "call type:bytes") => `(tactic| (k_here; (with_reducible show wpAny _ _ (call (Value.type "bytes") [Value.ref _]) _ _ _); k_dflt (refine bytes_ba_K (by k_asm) (by k_mem) (by first | assumption | omega) ?_); intro t' k'))
theorem rdK_len {bl : List UInt8} : ∀ {n k d : Nat} {f r : List UInt8} {e : Nat}, rdK bl n k f d = some (r, e) → r.length ≤ f.length + n := by
  intro n
  induction n with
  | zero => intro k d f r e h; cases h
  | succ n ih =>
    intro k d f r e h
    unfold rdK at h
    split at h
    · cases h
    · rename_i c hc
      split at h
      · split at h
        · cases h
        · rename_i ev k' he
          have h1 := esc_one he
          have h2 := ih h
          rw [List.length_append] at h2
          omega
      · split at h
        · have h2 := ih h
          rw [List.length_append] at h2
          simp at h2; omega
        · split at h
          · have h2 := ih h
            rw [List.length_append] at h2
            simp at h2; omega
          · split at h
            · split at h
              · simp only [Option.some.injEq, Prod.mk.injEq] at h; rw [← h.1]; omega
              · have h2 := ih h
                rw [List.length_append] at h2
                simp at h2; omega
            · have h2 := ih h
              rw [List.length_append] at h2
              simp at h2; omega
section
variable {w : World} {A : Around} {env : Env} {outer : List Env} {A₀ : Around} {base h₀ : Heap} {L : Addr} {m mg mb : PySem.Str → Option Value} {mean : ExcName → Option Value} {s : Shared} {Q E : Value → Shared → Prop} {news : List (Addr × Obj)} {g : Obj → List (Addr × Obj)}
  {x dx : Addr} {k1 k2 tb : Tok} {bl : List UInt8} {p : Int} {tk : Tok} {k : Nat}
set_option maxRecDepth 100000 in
set_option maxHeartbeats 8000000 in
theorem string_P (C : Cx 370 300 w A env outer A₀ base h₀ L m mg mb mean s) (hg : A.guards = some []) (N : News h₀ L s.heap news) (hx : (x, instObj 393 dx) ∈ news) (U : UpdF dx (srcD w k1 k2 bl tb p tk) news g)
  (hp : p = (k : Int)) (hfit : bl.length ≤ 900)
  (rz : rdK bl (bl.length + 1) k [] 1 = none → ∀ e d k' t' h' tk2, Flown base (env :: outer) h₀ L m e d (toldEs w k' (.bytes synB t')) h' → E (.ref e) { s with heap := h', toks := tk2 })
  (ret : ∀ r e, rdK bl (bl.length + 1) k [] 1 = some (r, e) → ∀ t h' p' tk' tk2, Fr h₀ L h' m → News h₀ L h' (g (srcD w k1 k2 bl tb p' tk')) → p' = (e : Int) → Q (.bytes r.toArray t) { s with heap := h', toks := tk2 }) :
  wpP (model PR w) A (call (.ref 460) [.ref x]) Q E s := by
  obtain ⟨hh, hf, hdp, hu, hL, hk, B, F, X, T⟩ := C
  refine deepenP 370 300 hh hf hg hdp hu ?_
  obtain ⟨rest, Nc, hoff, back⟩ := canon N hx U
  have hne := src_ne Nc
  clear N hx U
  refine P_call ?_
  k_dflt ktr_enter
  refine P_cons (P_Assign_Swapped (P_Tup (P_sp1 (P_Call_Name (P_any ?_)))))
  k_steps
  refine P_cons (P_while (StrI w s ?g ?L x dx ?D k1 k2 tb bl rest (rdK bl (bl.length + 1) k [] 1)) ?turn (bl.length + 1) ?init)
  case init =>
    exact strI [] k 1 (by k_asm) (by exact rfl) (by exact rfl) (by exact rfl) (news_tail (by k_asm)) rfl hp rfl (by omega) (by simp) (.inl ⟨by omega, rfl⟩)
  case turn =>
    intro n s1 I1
    obtain ⟨h1, tk1, u1, f1, kk, d1, td1, p1, dep1, tkp1, rfl, F1, N1, hp1, hd1, hn1, hf1, hr1⟩ := I1.out
    clear I1
    dsimp only [mL] at F1
    obtain ⟨hoffb, hne1, hne2⟩ := off3 N1 hoff (by assumption)
    have hfit1 : bl.length ≤ 1000 := by omega
    have hz1 : f1.toArray.size ≤ 999 := by rw [List.size_toArray]; omega
    have hz2 : f1.toArray.size ≤ 1001 := by omega
    k_steps
    · exact rz (by rcases hr1 with z | z; exact z.2 ▸ rd_end (by assumption); omega) _ _ _ _ _ _ (by assumption)
    · exact rz (by rcases hr1 with z | z; exact z.2 ▸ rd_esc0 (by assumption) (by assumption) (by assumption); omega) _ _ _ _ _ _ (by assumption)
    · have e1 := esc_one (by assumption)
      have e2 := escK_ge (by assumption)
      exact str_turn (f1 ++ _) _ d1 (by k_asm) (by exact rfl) (by exact rfl) (by exact rfl) (by k_asm) ba_cat (by assumption) hd1 (by assumption) hn1 hf1 (by omega) hr1 (by omega) (by rw [List.length_append]; omega) (fun n' => .inl ⟨by omega, rd_esc (by assumption) (by assumption) (by assumption)⟩)
    · have e1 := skipK_ge bl (kk + 1)
      exact str_turn (f1 ++ [10]) _ d1 (by k_asm) (by exact rfl) (by exact rfl) (by exact rfl) (by k_asm) ba_pushLF (by assumption) hd1 (by assumption) hn1 hf1 (by omega) hr1 (by omega) (by simp) (fun n' => .inl ⟨by omega, rd_cr (by assumption) (by assumption)⟩)
    · exfalso; omega
    · exact str_turn (f1 ++ [_]) (kk + 1) (d1 + 1) (by k_asm) (by exact rfl) (by exact rfl) (by exact rfl) (by k_asm) ba_push (by assumption) (by omega) (by assumption) hn1 hf1 (by omega) hr1 (by omega) (by simp) (fun n' => .inl ⟨by omega, rd_open (by assumption) (by assumption)⟩)
    · exact str_turn (f1 ++ [_]) (kk + 1) (d1 - 1) (by k_asm) (by exact rfl) (by exact rfl) (by exact rfl) (by k_asm) ba_push (by assumption) (by omega) (by assumption) hn1 hf1 (by omega) hr1 (by omega) (by simp) (fun n' => .inl ⟨by omega, rd_close (by assumption) (by assumption) (by omega)⟩)
    · obtain rfl : d1 = 1 := by omega
      exact str_turn f1 (kk + 1) 0 (by k_asm) (by exact rfl) (by exact rfl) (by exact rfl) (by k_asm) rfl (by assumption) (by omega) (by assumption) hn1 hf1 (by omega) hr1 (by omega) (by omega) (fun n' => .inr ⟨rfl, rd_close1 (by assumption) (by assumption)⟩)
    · exact str_turn (f1 ++ [_]) (kk + 1) d1 (by k_asm) (by exact rfl) (by exact rfl) (by exact rfl) (by k_asm) ba_push (by assumption) (by omega) (by assumption) hn1 hf1 (by omega) hr1 (by omega) (by simp) (fun n' => .inl ⟨by omega, rd_else (by assumption) (by assumption) (by assumption) (by assumption) (by assumption)⟩)
    · exact ret f1 kk (by rcases hr1 with z | z; omega; exact z.2) _ _ _ _ _ (by k_asm) (back _ _ (news_tail (by k_asm))) hp1
end
theorem binds_peek {K : Frag} {s : Shared} {fd : FuncData} {args : Args} {binds : List (PySem.Str × Value)} (X : K.In s.heap) (e : ∀ M : Model, peek K ⟨M.prog, M.w.params⟩ (bindArgs fd args) = some binds) : BindsTo s fd args binds :=
  fun M _ _ _ hq => (Looks.of_peek (M := M) X (e M)).here hq
abbrev limBinds (x : Addr) : List (PySem.Str × Value) := [(Str.ofString "self", .ref x), (Str.ofString "operands", .int 500 1041), (Str.ofString "dicts", .int 20 1042), (Str.ofString "frames", .int 250 1043), (Str.ofString "saves", .int 15 1044), (Str.ofString "gstates", .int 31 1045), (Str.ofString "text", .int 65535 1046), (Str.ofString "row", .int 65535 1047), (Str.ofString "entries", .int 65535 1048), (Str.ofString "word", .int 127 1049), (Str.ofString "path", .int 1500 1050), (Str.ofString "dash", .int 11 1051), (Str.ofString "files", .int 15 1052), (Str.ofString "system", .int 600 1053), (Str.ofString "vm", .int 16777216 1027)]
abbrev ent (w : World) (n : PySem.Str) (k : Tok) (v : Value) : DictEntry := { hash := PyData.keyHash w.params n, key := .str n k, val := v }
abbrev limEs (w : World) (k0 k1 k2 k3 k4 k5 k6 k7 k8 k9 k10 k11 k12 k13 : Tok) : List DictEntry := [ent w (Str.ofString "operands") k0 (.int 500 1041), ent w (Str.ofString "dicts") k1 (.int 20 1042), ent w (Str.ofString "frames") k2 (.int 250 1043), ent w (Str.ofString "saves") k3 (.int 15 1044), ent w (Str.ofString "gstates") k4 (.int 31 1045), ent w (Str.ofString "text") k5 (.int 65535 1046), ent w (Str.ofString "row") k6 (.int 65535 1047), ent w (Str.ofString "entries") k7 (.int 65535 1048), ent w (Str.ofString "word") k8 (.int 127 1049), ent w (Str.ofString "path") k9 (.int 1500 1050), ent w (Str.ofString "dash") k10 (.int 11 1051), ent w (Str.ofString "files") k11 (.int 15 1052), ent w (Str.ofString "system") k12 (.int 600 1053), ent w (Str.ofString "vm") k13 (.int 16777216 1027)]
section
variable {w : World} {A : Around} {env : Env} {outer : List Env} {A₀ : Around} {base h₀ : Heap} {L : Addr} {m mg mb : PySem.Str → Option Value} {mean : ExcName → Option Value} {s : Shared} {Q E : Value → Shared → Prop} {news : List (Addr × Obj)}
set_option maxRecDepth 100000 in
set_option maxHeartbeats 8000000 in
theorem limits_new (C : Cx 370 300 w A env outer A₀ base h₀ L m mg mb mean s) (N : News h₀ L s.heap news)
  (ret : ∀ l d h' tk2 k0 k1 k2 k3 k4 k5 k6 k7 k8 k9 k10 k11 k12 k13, Fr h₀ L h' m → News h₀ L h' ((l, instObj 607 d) :: (d, dictOf (limEs w k0 k1 k2 k3 k4 k5 k6 k7 k8 k9 k10 k11 k12 k13) 14) :: news) → (∀ p ∈ news, p.1 < d) → @LT.lt Nat _ d l → Q (.ref l) { s with heap := h', toks := tk2 }) :
  wpAny (model PR w) A (call (.ref 607) []) Q E s := by
  obtain ⟨hh, hf, hdp, hu, hL, hk, B, F, X, T⟩ := C
  refine deepen 370 300 hh hf hdp hu ?_
  k_dflt (refine' call_cls ?k1 ?k2 ?k3 ?k4 ?k5 ?k6 ?_; (case k1 => k_asm); (case k2 => k_asm); (case k3 => k_asm); (case k4 => k_is); (case k5 => k_is); (case k6 => k_is); k_whole; intro x' d' h' F' N' l1 l2; (try k_lt l1); (try k_lt2 l2); (try k_sweep))
  k_dflt (refine' code_def (binds := limBinds x') ?k1 ?k2 ?k3 ?k4 ?k5 ?kA ?kF ?kK ?k6 ?k7 ?k8 ?k9 ?kB ?_ ?c2 ?c3 ?c4 ?c5; (case kA => exact rfl); (case kF => first | assumption | exact rfl); (case kK => first | assumption | exact rfl); (case k1 => k_asm); (case k2 => k_asm); (case k3 => k_asm); (case k4 => k_asm); (case k5 => k_asm); (case k6 => k_is); (case k7 => k_is); (case k8 => k_room); (case k9 => exact binds_peek (by k_in) (fun _ => by kernel_rfl)); (case c5 => decide); (case kB => exact locs rfl); (case c2 => exact rfl); (case c3 => exact rfl); (case c4 => exact rfl); k_whole; intro g' L' h' FG' F' N' B' X' T'; (try dsimp only); (try k_fold))
  k_steps
  all_goals exact ret _ _ _ _ _ _ _ _ _ _ _ _ _ _ _ _ _ _ (by k_asm) (by k_asm) (by assumption) (by assumption)
end
local macro_rules | `(tactic| walk_at "call ref") => `(tactic| (k_here; (with_reducible show wpAny _ _ (call (Value.ref 607) _) _ _ _); k_dflt (refine limits_new (Cx.mk rfl rfl (Nat.le_of_ble_eq_true rfl) (Nat.le_of_ble_eq_true rfl) rfl rfl (by k_asm) (by k_asm) (by k_asm) (by k_asm)) (by k_asm) ?_; intro l' d' h' tk2' _ _ _ _ _ _ _ _ _ _ _ _ _ _ F' N' l1 l2; (try k_lt l1); (try k_lt2 l2)); (try k_sweep)))
abbrev thingEs (w : World) (sp : Addr) (a0 a1 a2 a3 t0 t1 : Tok) : List DictEntry := [ent w (Str.ofString "kind") a0 (.str (Str.ofString "string") t0), ent w (Str.ofString "value") a1 (.ref sp), ent w (Str.ofString "is_exec") a2 (.bool false), ent w (Str.ofString "access") a3 (.int 3 t1)]
abbrev spanEs (w : World) (tx : Addr) (n : Nat) (b0 b1 b2 t2 t3 : Tok) : List DictEntry := [ent w (Str.ofString "body") b0 (.ref tx), ent w (Str.ofString "start") b1 (.int 0 t2), ent w (Str.ofString "many") b2 (.int n t3)]
abbrev textEs (w : World) (ob : Addr) (d0 d1 d2 d3 : Tok) (v0 v2 v3 : Value) : List DictEntry := [ent w (Str.ofString "number") d0 v0, ent w (Str.ofString "octets") d1 (.ref ob), ent w (Str.ofString "is_global") d2 v2, ent w (Str.ofString "level") d3 v3]
theorem news_sub {h₀ h : Heap} {L : Addr} {l l' : List (Addr × Obj)} (N : News h₀ L h l) (k : ∀ p ∈ l', p ∈ l) : News h₀ L h l' := fun p hp => N p (k p hp)
section
variable {w : World} {A : Around} {env : Env} {outer : List Env} {A₀ : Around} {base h₀ : Heap} {L : Addr} {m mg mb : PySem.Str → Option Value} {mean : ExcName → Option Value} {s : Shared} {Q E : Value → Shared → Prop} {kept : List (Addr × Obj)}
  {tx txd ob : Addr} {r : List UInt8} {d0 d1 d2 d3 : Tok} {v0 v2 v3 : Value}
set_option maxRecDepth 100000 in
set_option maxHeartbeats 8000000 in
theorem ofstr_new (C : Cx 370 300 w A env outer A₀ base h₀ L m mg mb mean s)
  (N : News h₀ L s.heap ((tx, instObj 226 txd) :: (txd, dictOf (textEs w ob d0 d1 d2 d3 v0 v2 v3) 4) :: (ob, baObj r.toArray) :: kept)) (hfit : r.toArray.size ≤ 1001)
  (ret : ∀ th td sp spd h' tk2 a0 a1 a2 a3 b0 b1 b2 t0 t1 t2 t3, Fr h₀ L h' m → News h₀ L h' ((th, instObj 205 td) :: (td, dictOf (thingEs w sp a0 a1 a2 a3 t0 t1) 4) ::
      (sp, instObj 268 spd) :: (spd, dictOf (spanEs w tx r.length b0 b1 b2 t2 t3) 3) :: (tx, instObj 226 txd) :: (txd, dictOf (textEs w ob d0 d1 d2 d3 v0 v2 v3) 4) :: (ob, baObj r.toArray) :: kept) → Q (.ref th) { s with heap := h', toks := tk2 }) :
  wpAny (model PR w) A (call (.ref 309) [.ref tx]) Q E s := by
  obtain ⟨hh, hf, hdp, hu, hL, hk, B, F, X, T⟩ := C
  refine deepen 370 300 hh hf hdp hu ?_
  refine wpAny_call ?_
  k_dflt ktr_enter
  k_steps
  all_goals exact ret _ _ _ _ _ _ _ _ _ _ _ _ _ _ _ _ _ (by k_asm) (by k_asm)
end
theorem pick3 {h₀ h : Heap} {L : Addr} {a b c : Addr × Obj} {l kept : List (Addr × Obj)} (N : News h₀ L h (a :: b :: c :: l)) (k : ∀ p ∈ kept, p ∈ l) : News h₀ L h (b :: c :: a :: kept) := fun p hp => by
  rcases List.mem_cons.mp hp with rfl | hp
  · exact N _ (.tail _ (.head _))
  rcases List.mem_cons.mp hp with rfl | hp
  · exact N _ (.tail _ (.tail _ (.head _)))
  rcases List.mem_cons.mp hp with rfl | hp
  · exact N _ (.head _)
  · exact N _ (.tail _ (.tail _ (.tail _ (k p hp))))
theorem gives_in {b : Array UInt8} {t u : Tok} {i : Int} (h0 : 0 ≤ i ∧ i < 256) : Gives (Builtin.«bytes.__contains__» ⟨[.bytes b t, .int i u], []⟩) (.val (.bool (b.contains i.toNat.toUInt8))) := by
  refine .of_wp fun M A E s Q hq => ?_
  show wpAny M A (Builtin.Bytes.containsIn "bytes.__contains__" (.bytes b t) (.int i u) >>= fun r => _) _ E s
  refine wpAny_bind ?_
  unfold Builtin.Bytes.containsIn
  refine wpAny_bind (wpAny_of_eq (a := Except.ok i) rfl ?_)
  refine wpAny_bind (wpAny_of_eq KBy.buffer_eq ?_)
  dsimp only
  rw [if_neg (by simp only [Bool.or_eq_true, decide_eq_true_eq]; omega)]
  exact wpAny_pure (wpAny_pure ⟨_, rfl, hq⟩)
theorem in_by {prog : Program} {w : World} {A : Around} {E : Value → Shared → Prop} {s : Shared} {Q : Value → Shared → Prop} {b : Array UInt8} {t u : Tok} {i : Int} (r : Bool) (h0 : 0 ≤ i ∧ i < 256) (hr : b.contains i.toNat.toUInt8 = r) (h : Q (.bool r) s) :
    wpAny (model prog w) A (compareOp .In (.int i u) (.bytes b t)) Q E s :=
  in_gives (PySem.W.typeIs_bytes _ _ _) FB.slot_bytes_contains FB.entry_bytes_contains (FB.args_bytes_contains_2 _ _) (hr ▸ gives_in h0) h
theorem cont_of {b : Array UInt8} {c : UInt8} {n : Int} {r : Bool} (h : (c.toNat : Int) = n) (e : b.contains n.toNat.toUInt8 = r) : b.contains (Int.toNat (c.toNat : Int)).toUInt8 = r := by rw [h]; exact e
local macro_rules | `(tactic| walk_at "compareOp In int bytes") => `(tactic| (k_here; k_dflt (first | refine in_by false (by omega) (by decide +kernel) ?_ | refine in_by true (by omega) (by decide +kernel) ?_)))
structure FirI (w : World) (s₀ : Shared) (g : Heap) (L x dx : Addr) (k1 k2 tb : Tok) (bl : List UInt8) (rest : List (Addr × Obj)) (k e : Nat) (n : Nat) (s : Shared) : Prop where
  out : ∃ (h : Heap) (tk : Nat) (u : PySem.Str → Option Value) (j : Nat) (c : UInt8) (to : Tok) (p : Int) (tkp : Tok), s = { s₀ with heap := h, toks := tk } ∧
    Fr g L h (mL [(Str.ofString "source", .ref x), (Str.ofString "octet", .int c.toNat to)] u) ∧
    News g L h ((x, instObj 393 dx) :: (dx, srcD w k1 k2 bl tb p tkp) :: rest) ∧ p = ((j + 1 : Nat) : Int) ∧ j + n = e ∧ k ≤ j ∧ bl[j]? = some c
theorem firI {w : World} {s₀ : Shared} {g : Heap} {L x dx : Addr} {k1 k2 tb : Tok} {bl : List UInt8} {rest : List (Addr × Obj)} {k e n : Nat} {h : Heap} {tk : Nat} {u : PySem.Str → Option Value} {p : Int} {to tkp : Tok} {c : UInt8} (j : Nat)
    (F : Fr g L h u) (h1 : u (Str.ofString "source") = some (.ref x)) (h2 : u (Str.ofString "octet") = some (.int c.toNat to)) (N : News g L h ((x, instObj 393 dx) :: (dx, srcD w k1 k2 bl tb p tkp) :: rest))
    (hp : p = ((j + 1 : Nat) : Int)) (hn : j + n = e) (hk : k ≤ j) (hc : bl[j]? = some c) : FirI w s₀ g L x dx k1 k2 tb bl rest k e n { s₀ with heap := h, toks := tk } := by
  refine ⟨⟨h, tk, u, j, c, to, p, tkp, rfl, fr_mL F ?_, N, hp, hn, hk, hc⟩⟩
  simp only [List.forall_mem_cons, List.not_mem_nil, false_implies, implies_true, and_true]
  exact ⟨h1, h2⟩
section
variable {w : World} {A : Around} {env : Env} {outer : List Env} {A₀ : Around} {base h₀ : Heap} {L : Addr} {m mg mb : PySem.Str → Option Value} {mean : ExcName → Option Value} {s : Shared} {Q E : Value → Shared → Prop} {news : List (Addr × Obj)} {g : Obj → List (Addr × Obj)}
  {x dx : Addr} {k1 k2 tb : Tok} {bl : List UInt8} {p : Int} {tk : Tok} {k e : Nat} {c : UInt8}
set_option maxRecDepth 100000 in
set_option maxHeartbeats 8000000 in
theorem first_P (C : Cx 370 300 w A env outer A₀ base h₀ L m mg mb mean s) (hg : A.guards = some []) (N : News h₀ L s.heap news) (hx : (x, instObj 393 dx) ∈ news) (U : UpdF dx (srcD w k1 k2 bl tb p tk) news g)
  (hp : p = (k : Int)) (hfit : bl.length ≤ 1000) (hke : k ≤ e) (hb : ∀ j, k ≤ j → j < e → bl[j]? = some 32) (he : bl[e]? = some c) (hc : c.toNat = 40 ∨ c.toNat = 47)
  (ret : ∀ t h' tk' tk2 p', Fr h₀ L h' m → News h₀ L h' (g (srcD w k1 k2 bl tb p' tk')) → p' = ((e + 1 : Nat) : Int) → Q (.int c.toNat t) { s with heap := h', toks := tk2 }) :
  wpP (model PR w) A (call (.ref 425) [.ref x]) Q E s := by
  obtain ⟨hh, hf, hdp, hu, hL, hk, B, F, X, T⟩ := C
  refine deepenP 370 300 hh hf hg hdp hu ?_
  obtain ⟨rest, Nc, hoff, back⟩ := canon N hx U
  have hne := src_ne Nc
  clear N hx U
  obtain ⟨c0, hc0⟩ : ∃ c0, bl[k]? = some c0 := by
    rcases Nat.lt_or_ge k e with h | h
    · exact ⟨_, hb k (Nat.le_refl _) h⟩
    · obtain rfl : k = e := by omega
      exact ⟨_, he⟩
  refine P_call ?_
  k_dflt ktr_enter
  refine P_cons (P_any ?_)
  k_steps
  refine P_cons (P_while (FirI w s ?g ?L x dx k1 k2 tb bl rest k e) ?turn (e - k) ?init)
  case init =>
    exact firI k (by k_asm) (by exact rfl) (by exact rfl) (by k_asm) (by assumption) (by omega) (by omega) hc0
  case turn =>
    intro n s1 I1
    obtain ⟨h1, tk1, u1, j, cj, to, p1, tkp1, rfl, F1, N1, hp1, hn1, hk1, hj⟩ := I1.out
    clear I1
    dsimp only [mL] at F1
    cases n with
    | zero =>
      obtain rfl : j = e := by omega
      obtain rfl : cj = c := by rw [hj] at he; cases he; rfl
      rcases hc with hc | hc
      · have hc9 : (cj.toNat : Int) = 40 := by omega
        rw [hc9] at F1
        simp only [hc9] at ret
        k_steps
        all_goals exact ret _ _ _ _ _ (by k_asm) (back _ _ (by k_asm)) (by assumption)
      · have hc9 : (cj.toNat : Int) = 47 := by omega
        rw [hc9] at F1
        simp only [hc9] at ret
        k_steps
        all_goals exact ret _ _ _ _ _ (by k_asm) (back _ _ (by k_asm)) (by assumption)
    | succ n =>
      have hj2 := hb j hk1 (by omega)
      obtain rfl : cj = 32 := by rw [hj] at hj2; cases hj2; rfl
      have hc9 : ((32 : UInt8).toNat : Int) = 32 := by decide
      rw [hc9] at F1
      obtain ⟨c2, hc2⟩ : ∃ c2, bl[j + 1]? = some c2 := by
        rcases Nat.lt_or_ge (j + 1) e with h | h
        · exact ⟨_, hb (j + 1) (by omega) h⟩
        · obtain rfl : j + 1 = e := by omega
          exact ⟨_, he⟩
      k_steps
      all_goals exact ⟨⟨n, by omega, firI (j + 1) (by k_asm) (by exact rfl) (by exact rfl) (by k_asm) (by assumption) (by omega) (by omega) hc2⟩⟩
end
local macro_rules | `(tactic| walk_at "wpP") => `(tactic| (k_here; first | ((with_reducible show wpP _ _ (execs (Stmt.Return (some (Expr.Call (Expr.Name (Str.ofString "Text") _) _ _ _)) _ :: _) _) _ _ _); k_dflt (refine P_cons (P_Return (P_Call_Name (P_any ?_))))) | ((with_reducible show wpP _ _ (callWith _ (Value.ref 226) _ _ _) _ _ _); k_dflt (refine P_callWith rfl ?_)) | ((with_reducible show wpP _ _ (execs (Stmt.Assign [Expr.Attribute _ (Str.ofString "octets") _] (Expr.Call (Expr.Name (Str.ofString "bytearray") _) _ _ _) _ :: _) _) _ _ _); k_dflt (refine P_cons (P_Assign_At (P_Call_Name (P_any ?_))))) | ((with_reducible show wpP _ _ (call (Value.type "bytearray") [Value.bytes _ _]) _ _ _); k_dflt (refine ba1_P rfl (by assumption) (by k_asm) (by k_asm) ?_); intro D' h' F' N' l1; (try k_lt l1); (try k_sweep))))
abbrev memEs (w : World) (lx sv jr mdd fr : Addr) (n0 n1 n2 n3 n4 n5 n6 n7 n8 n9 t6 t7 t8 t9 : Tok) : List DictEntry := [ent w (Str.ofString "limits") n0 (.ref lx), ent w (Str.ofString "is_global") n1 (.bool false), ent w (Str.ofString "saves") n2 (.ref sv), ent w (Str.ofString "journal") n3 (.ref jr), ent w (Str.ofString "made") n4 (.ref mdd), ent w (Str.ofString "freed") n5 (.ref fr), ent w (Str.ofString "used") n6 (.int 0 t6), ent w (Str.ofString "used_global") n7 (.int 0 t7), ent w (Str.ofString "last_body") n8 (.int 0 t8), ent w (Str.ofString "last_save") n9 (.int 0 t9)]
section
variable {w : World} {A : Around} {env : Env} {outer : List Env} {A₀ : Around} {base h₀ : Heap} {L : Addr} {m mg mb : PySem.Str → Option Value} {mean : ExcName → Option Value} {s : Shared} {Q E : Value → Shared → Prop} {kept : List (Addr × Obj)}
  {sx sd mx md lx ld sv jr mdd fr : Addr} {om : Obj} {kM tr : Tok} {c0 c1 c2 c3 c4 c5 c6 c7 c8 c9 c10 c11 c12 c13 n0 n1 n2 n3 n4 n5 n6 n7 n8 n9 t6 t7 t8 t9 : Tok} {r : List UInt8}
set_option maxRecDepth 100000 in
set_option maxHeartbeats 8000000 in
theorem text_P (C : Cx 350 200 w A env outer A₀ base h₀ L m mg mb mean s) (hg : A.guards = some [])
  (N : News h₀ L s.heap ((sx, instObj 585 sd) :: (sd, dictOf [ent w (Str.ofString "memory") kM (.ref mx)] 1) :: (mdd, om) :: (sv, W.listOf #[] 0) :: (mx, instObj 888 md) :: (md, dictOf (memEs w lx sv jr mdd fr n0 n1 n2 n3 n4 n5 n6 n7 n8 n9 t6 t7 t8 t9) 10) :: (lx, instObj 607 ld) :: (ld, dictOf (limEs w c0 c1 c2 c3 c4 c5 c6 c7 c8 c9 c10 c11 c12 c13) 14) :: kept))
  (hs' : Obj.IsDictOf (strKind PR w) om []) (hi' : Obj.IsDictOf (intKind PR w) om []) (lo' : (mdd == sysModules) = false)
  (l1 : @LT.lt Nat _ ld lx ∧ @LT.lt Nat _ lx md ∧ @LT.lt Nat _ md mx ∧ @LT.lt Nat _ mx sv ∧ @LT.lt Nat _ sv mdd ∧ @LT.lt Nat _ mdd sd ∧ @LT.lt Nat _ sd sx)
  (hoff : OwnOff kept [md, mdd]) (hfit : r.length ≤ 1000)
  (ret : ∀ th td sp spd tx txd ob h' tk2 a0 a1 a2 a3 b0 b1 b2 d0 d1 d2 d3 t0 t1 t2 t3 v0 v2 v3, Fr h₀ L h' m → News h₀ L h' ((th, instObj 205 td) :: (td, dictOf (thingEs w sp a0 a1 a2 a3 t0 t1) 4) ::
      (sp, instObj 268 spd) :: (spd, dictOf (spanEs w tx r.length b0 b1 b2 t2 t3) 3) :: (tx, instObj 226 txd) :: (txd, dictOf (textEs w ob d0 d1 d2 d3 v0 v2 v3) 4) :: (ob, baObj r.toArray) :: kept) → Q (.ref th) { s with heap := h', toks := tk2 }) :
  wpP (model PR w) A (call (.ref 523) [.ref sx, .bytes r.toArray tr]) Q E s := by
  obtain ⟨hh, hf, hdp, hu, hL, hk, B, F, X, T⟩ := C
  refine deepenP 350 200 hh hf hg hdp hu ?_
  have hz : r.toArray.size ≤ 1001 := by rw [List.size_toArray]; omega
  refine P_call ?_
  k_dflt ktr_enter
  refine P_cons (P_Return (P_Call_Name (P_any ?_)))
  walk1
  refine P_callWith rfl ?_
  refine P_ar1 (P_sp1 (P_Call_Meth (P_any ?_)))
  k_steps
  refine P_call ?_
  k_dflt ktr_enter
  k_steps
  k_dflt (refine P_call (P_make (fI := 223) (by k_asm) (by k_asm) (by k_in) (by k_is) (by k_is) (by k_is) ?_); intro x' dx' h' F' N' l1 l2; (try k_lt l1); (try k_lt2 l2); (try k_sweep))
  k_dflt ktr_enter
  k_steps
  refine P_any ?_
  k_dflt (refine ofstr_new (kept := kept) (Cx.mk rfl rfl (Nat.le_of_ble_eq_true rfl) (Nat.le_of_ble_eq_true rfl) rfl rfl (by k_asm) (by k_asm) (by k_asm) (by k_asm)) (pick3 (by k_asm) (by intro p hp; repeat (first | exact hp | apply List.mem_cons_of_mem))) (by assumption) ?_; intro th' td' sp' spd' h' tk2' _ _ _ _ _ _ _ _ _ _ _ F' N'; (try k_sweep))
  exact leaveK_ (by k_asm) (by k_asm) (fun kF kN => ret _ _ _ _ _ _ _ _ _ _ _ _ _ _ _ _ _ _ _ _ _ _ _ _ _ _ _ kF kN)
end
theorem ledger_dup {h₀ h : Heap} {L : Addr} {a b c d e f g k : Addr × Obj} {kept : List (Addr × Obj)} (N : News h₀ L h (a :: b :: c :: d :: e :: f :: g :: k :: kept)) : News h₀ L h (a :: b :: c :: d :: e :: f :: g :: k :: a :: b :: kept) :=
  news_sub N fun p hp => by
    simp only [List.mem_cons] at hp ⊢
    rcases hp with h | h | h | h | h | h | h | h | h | h | h <;> simp [h]
theorem off_kept {sx sd x dx md mdd : Addr} {o1 o2 o3 o4 : Obj} {rest : List (Addr × Obj)} (h : OwnOff rest [x, dx, md, mdd]) (l : @LT.lt Nat _ md mdd ∧ @LT.lt Nat _ mdd sd ∧ @LT.lt Nat _ sd sx ∧ @LT.lt Nat _ sx dx ∧ @LT.lt Nat _ dx x) :
    OwnOff ((sx, o1) :: (sd, o2) :: (x, o3) :: (dx, o4) :: rest) [md, mdd] := by
  obtain ⟨l1, l2, l3, l4, l5⟩ := l
  intro p hp q hq
  have key : ∀ a b : Nat, b < a → a ≠ b := fun a b h => Ne.symm (Nat.ne_of_lt h)
  have hq' : q = md ∨ q = mdd := by simpa using hq
  rcases List.mem_cons.mp hp with rfl | hp
  · rcases hq' with rfl | rfl <;> (apply key; dsimp only; omega)
  rcases List.mem_cons.mp hp with rfl | hp
  · rcases hq' with rfl | rfl <;> (apply key; dsimp only; omega)
  rcases List.mem_cons.mp hp with rfl | hp
  · rcases hq' with rfl | rfl <;> (apply key; dsimp only; omega)
  rcases List.mem_cons.mp hp with rfl | hp
  · rcases hq' with rfl | rfl <;> (apply key; dsimp only; omega)
  · exact h p hp q (by rcases hq' with rfl | rfl <;> simp)
local macro_rules | `(tactic| walk_at "wpP") => `(tactic| (k_here; first | ((with_reducible show wpP _ _ (execs (Stmt.Return (some (Expr.Call (Expr.Attribute _ (Str.ofString "string") _) [Expr.Call (Expr.Name (Str.ofString "scan_string") _) _ _ _] _ _)) _ :: _) _) _ _ _); k_dflt (refine P_cons (P_Return (P_Call_Meth (P_any ?_))))) | ((with_reducible show wpP _ _ (spliced (backTo _ (starEach (Expr.Call (Expr.Name (Str.ofString "scan_string") _) _ _ _ :: _) _))) _ _ _); k_dflt (refine P_sp1 (P_Call_Name (P_any ?_)))) | ((with_reducible show wpP _ _ (call (Value.ref 460) _) _ _ _); k_dflt (refine string_P (Cx.mk rfl rfl (Nat.le_of_ble_eq_true rfl) (Nat.le_of_ble_eq_true rfl) rfl rfl (by k_asm) (by k_asm) (by k_asm) (by k_asm)) rfl (by k_asm) (by k_mem) (by k_updF) (by first | assumption | rfl) (by assumption) (fun hc' e' d' k' t' h' tk2' R' => ?_) (fun r' e2' hr' t' h' p' tk' tk2' F' N' hp' => ?_)); (all_goals (try dsimp only at N')); (all_goals (try k_sweep)))))
section
variable {w : World} {A : Around} {env : Env} {outer : List Env} {A₀ : Around} {base h₀ : Heap} {L : Addr} {m mg mb : PySem.Str → Option Value} {mean : ExcName → Option Value} {s : Shared} {Q E : Value → Shared → Prop} {rest : List (Addr × Obj)}
  {sx sd mx md lx ld sv jr mdd fr x dx : Addr} {om : Obj} {kM tk k1 k2 tb to : Tok} {c0 c1 c2 c3 c4 c5 c6 c7 c8 c9 c10 c11 c12 c13 n0 n1 n2 n3 n4 n5 n6 n7 n8 n9 t6 t7 t8 t9 : Tok} {bl : List UInt8} {p : Int} {k : Nat} {lk : Value}
set_option maxRecDepth 100000 in
set_option maxHeartbeats 8000000 in
theorem plain_open (C : Cx 346 180 w A env outer A₀ base h₀ L m mg mb mean s) (hg : A.guards = some [])
  (N : News h₀ L s.heap ((sx, instObj 585 sd) :: (sd, dictOf [ent w (Str.ofString "memory") kM (.ref mx)] 1) :: (mdd, om) :: (sv, W.listOf #[] 0) :: (mx, instObj 888 md) :: (md, dictOf (memEs w lx sv jr mdd fr n0 n1 n2 n3 n4 n5 n6 n7 n8 n9 t6 t7 t8 t9) 10) :: (lx, instObj 607 ld) :: (ld, dictOf (limEs w c0 c1 c2 c3 c4 c5 c6 c7 c8 c9 c10 c11 c12 c13) 14) :: (x, instObj 393 dx) :: (dx, srcD w k1 k2 bl tb p tk) :: rest))
  (hs' : Obj.IsDictOf (strKind PR w) om []) (hi' : Obj.IsDictOf (intKind PR w) om []) (lo' : (mdd == sysModules) = false)
  (l1 : @LT.lt Nat _ ld lx ∧ @LT.lt Nat _ lx md ∧ @LT.lt Nat _ md mx ∧ @LT.lt Nat _ mx sv ∧ @LT.lt Nat _ sv mdd ∧ @LT.lt Nat _ mdd sd ∧ @LT.lt Nat _ sd sx) (l2 : @LT.lt Nat _ sx dx ∧ @LT.lt Nat _ dx x)
  (hoff : OwnOff rest [x, dx, md, mdd]) (hp : p = (k : Int)) (hfit : bl.length ≤ 900)
  (rz : rdK bl (bl.length + 1) k [] 1 = none → ∀ e d k' t' h' tk2, Flown base (env :: outer) h₀ L m e d (toldEs w k' (.bytes synB t')) h' → E (.ref e) { s with heap := h', toks := tk2 })
  (ret : ∀ r e, rdK bl (bl.length + 1) k [] 1 = some (r, e) → ∀ th td sp spd tx txd ob h' tk2 a0 a1 a2 a3 b0 b1 b2 d0 d1 d2 d3 t0 t1 t2 t3 v0 v2 v3 p' tk', Fr h₀ L h' m → News h₀ L h' ((th, instObj 205 td) :: (td, dictOf (thingEs w sp a0 a1 a2 a3 t0 t1) 4) ::
      (sp, instObj 268 spd) :: (spd, dictOf (spanEs w tx r.length b0 b1 b2 t2 t3) 3) :: (tx, instObj 226 txd) :: (txd, dictOf (textEs w ob d0 d1 d2 d3 v0 v2 v3) 4) :: (ob, baObj r.toArray) :: (sx, instObj 585 sd) :: (sd, dictOf [ent w (Str.ofString "memory") kM (.ref mx)] 1) :: (x, instObj 393 dx) :: (dx, srcD w k1 k2 bl tb p' tk') :: rest) → p' = (e : Int) → Q (.ref th) { s with heap := h', toks := tk2 }) :
  wpP (model PR w) A (call (.ref 558) [.ref sx, .ref x, .int 40 to, lk]) Q E s := by
  obtain ⟨hh, hf, hdp, hu, hL, hk, B, F, X, T⟩ := C
  refine deepenP 346 180 hh hf hg hdp hu ?_
  refine P_call ?_
  k_dflt ktr_enter
  refine P_cons (P_If ?_)
  k_steps
  · exact rz (by assumption) _ _ _ _ _ _ (by assumption)
  · have hlen := rdK_len (by assumption)
    k_dflt (refine text_P (Cx.mk rfl rfl (Nat.le_of_ble_eq_true rfl) (Nat.le_of_ble_eq_true rfl) rfl rfl (by k_asm) (by k_asm) (by k_asm) (by k_asm)) rfl (ledger_dup (by k_asm)) hs' hi' lo' l1 (off_kept hoff (by refine ⟨?_, ?_, ?_, ?_, ?_⟩ <;> omega)) (by simp at hlen; omega) ?_)
    intro x0 x1 x2 x3 x4 x5 x6 x7 x8 x9 x10 x11 x12 x13 x14 x15 x16 x17 x18 x19 x20 x21 x22 x23 x24 x25 x26 F' N'
    k_steps
    all_goals exact ret _ _ (by assumption) _ _ _ _ _ _ _ _ _ _ _ _ _ _ _ _ _ _ _ _ _ _ _ _ _ _ _ _ _ (by k_asm) (by k_asm) (by assumption)
end
local macro_rules | `(tactic| walk_at "wpP") => `(tactic| (k_here; first | ((with_reducible show wpP _ _ (execs (Stmt.Assign [Expr.Name (Str.ofString "octet") _] (Expr.Call (Expr.Name (Str.ofString "scan_first") _) _ _ _) _ :: _) _) _ _ _); k_dflt (refine P_cons (P_Assign (P_Call_Name (P_any ?_))))) | ((with_reducible show wpP _ _ (execs (Stmt.Assign [Expr.Name (Str.ofString "done") _] (Expr.Call (Expr.Attribute _ (Str.ofString "plain") _) _ _ _) _ :: _) _) _ _ _); k_dflt (refine P_cons (P_Assign (P_Call_Meth (P_any ?_))))) | ((with_reducible show wpP _ _ (call (Value.ref 425) _) _ _ _); k_dflt (refine first_P (Cx.mk rfl rfl (Nat.le_of_ble_eq_true rfl) (Nat.le_of_ble_eq_true rfl) rfl rfl (by k_asm) (by k_asm) (by k_asm) (by k_asm)) rfl (by k_asm) (by k_mem) (by k_updF) (by first | assumption | rfl) (by assumption) (by assumption) (by assumption) (by assumption) (by assumption) ?_); intro t' h' tk' tk2' p' F' N' hp'; (try dsimp only at N'); (try k_sweep))))
theorem ledger_rot {h₀ h : Heap} {L : Addr} {z a b c d e f g k i j : Addr × Obj} {rest : List (Addr × Obj)} (N : News h₀ L h (z :: a :: b :: c :: d :: e :: f :: g :: k :: i :: j :: rest)) : News h₀ L h (a :: b :: c :: d :: e :: f :: g :: k :: i :: j :: z :: rest) :=
  news_sub N fun p hp => by
    simp only [List.mem_cons] at hp ⊢
    rcases hp with h | h | h | h | h | h | h | h | h | h | h | h <;> simp [h]
theorem off_cons4 {a x dx md mdd : Addr} {o : Obj} {rest : List (Addr × Obj)} (h : OwnOff rest [x, dx, md, mdd]) (l : @LT.lt Nat _ x a ∧ @LT.lt Nat _ dx a ∧ @LT.lt Nat _ md a ∧ @LT.lt Nat _ mdd a) : OwnOff ((a, o) :: rest) [x, dx, md, mdd] := by
  obtain ⟨l1, l2, l3, l4⟩ := l
  have key : ∀ a b : Nat, b < a → a ≠ b := fun a b h => Ne.symm (Nat.ne_of_lt h)
  intro p hp q hq
  rcases List.mem_cons.mp hp with rfl | hp
  · have hq' : q = x ∨ q = dx ∨ q = md ∨ q = mdd := by simpa using hq
    rcases hq' with rfl | rfl | rfl | rfl <;> (apply key; assumption)
  · exact h p hp q hq
theorem ledger_drop {h₀ h : Heap} {L : Addr} {z y a0 a1 a2 a3 a4 a5 a6 a7 a8 a9 a10 : Addr × Obj} {rest : List (Addr × Obj)} (N : News h₀ L h (z :: a0 :: a1 :: a2 :: a3 :: a4 :: a5 :: a6 :: a7 :: a8 :: a9 :: a10 :: y :: rest)) : News h₀ L h (a0 :: a1 :: a2 :: a3 :: a4 :: a5 :: a6 :: a7 :: a8 :: a9 :: a10 :: rest) :=
  news_sub N fun p hp => by
    simp only [List.mem_cons] at hp ⊢
    rcases hp with h | h | h | h | h | h | h | h | h | h | h | h <;> simp [h]
section
variable {w : World} {A : Around} {env : Env} {outer : List Env} {A₀ : Around} {base h₀ : Heap} {L : Addr} {m mg mb : PySem.Str → Option Value} {mean : ExcName → Option Value} {s : Shared} {Q E : Value → Shared → Prop} {rest : List (Addr × Obj)}
  {sx sd mx md lx ld sv jr mdd fr x dx : Addr} {om : Obj} {kM tk k1 k2 tb : Tok} {c0 c1 c2 c3 c4 c5 c6 c7 c8 c9 c10 c11 c12 c13 n0 n1 n2 n3 n4 n5 n6 n7 n8 n9 t6 t7 t8 t9 : Tok} {bl : List UInt8} {p : Int} {k e0 : Nat}
set_option maxRecDepth 100000 in
set_option maxHeartbeats 8000000 in
theorem token_open (C : Cx 342 160 w A env outer A₀ base h₀ L m mg mb mean s) (hg : A.guards = some [])
  (N : News h₀ L s.heap ((sx, instObj 585 sd) :: (sd, dictOf [ent w (Str.ofString "memory") kM (.ref mx)] 1) :: (mdd, om) :: (sv, W.listOf #[] 0) :: (mx, instObj 888 md) :: (md, dictOf (memEs w lx sv jr mdd fr n0 n1 n2 n3 n4 n5 n6 n7 n8 n9 t6 t7 t8 t9) 10) :: (lx, instObj 607 ld) :: (ld, dictOf (limEs w c0 c1 c2 c3 c4 c5 c6 c7 c8 c9 c10 c11 c12 c13) 14) :: (x, instObj 393 dx) :: (dx, srcD w k1 k2 bl tb p tk) :: rest))
  (hs' : Obj.IsDictOf (strKind PR w) om []) (hi' : Obj.IsDictOf (intKind PR w) om []) (lo' : (mdd == sysModules) = false)
  (l1 : @LT.lt Nat _ ld lx ∧ @LT.lt Nat _ lx md ∧ @LT.lt Nat _ md mx ∧ @LT.lt Nat _ mx sv ∧ @LT.lt Nat _ sv mdd ∧ @LT.lt Nat _ mdd sd ∧ @LT.lt Nat _ sd sx) (l2 : @LT.lt Nat _ sx dx ∧ @LT.lt Nat _ dx x)
  (hoff : OwnOff rest [x, dx, md, mdd]) (hp : p = (k : Int)) (hfit : bl.length ≤ 900)
  (hke : k ≤ e0) (hb : ∀ j, k ≤ j → j < e0 → bl[j]? = some 32) (he : bl[e0]? = some 40)
  (rz : rdK bl (bl.length + 1) (e0 + 1) [] 1 = none → ∀ e d k' t' h' tk2, Flown base (env :: outer) h₀ L m e d (toldEs w k' (.bytes synB t')) h' → E (.ref e) { s with heap := h', toks := tk2 })
  (ret : ∀ r e, rdK bl (bl.length + 1) (e0 + 1) [] 1 = some (r, e) → ∀ th td sp spd tx txd ob h' tk2 a0 a1 a2 a3 b0 b1 b2 d0 d1 d2 d3 t0 t1 t2 t3 v0 v2 v3 p' tk', Fr h₀ L h' m → News h₀ L h' ((th, instObj 205 td) :: (td, dictOf (thingEs w sp a0 a1 a2 a3 t0 t1) 4) ::
      (sp, instObj 268 spd) :: (spd, dictOf (spanEs w tx r.length b0 b1 b2 t2 t3) 3) :: (tx, instObj 226 txd) :: (txd, dictOf (textEs w ob d0 d1 d2 d3 v0 v2 v3) 4) :: (ob, baObj r.toArray) :: (sx, instObj 585 sd) :: (sd, dictOf [ent w (Str.ofString "memory") kM (.ref mx)] 1) :: (x, instObj 393 dx) :: (dx, srcD w k1 k2 bl tb p' tk') :: rest) → p' = (e : Int) → Q (.ref th) { s with heap := h', toks := tk2 }) :
  wpP (model PR w) A (call (.ref 566) [.ref sx, .ref x, .bool false, .none]) Q E s := by
  obtain ⟨hh, hf, hdp, hu, hL, hk, B, F, X, T⟩ := C
  refine deepenP 342 160 hh hf hg hdp hu ?_
  have hfit1 : bl.length ≤ 1000 := by omega
  have hc40 : (40 : UInt8).toNat = 40 ∨ (40 : UInt8).toNat = 47 := .inl (by decide)
  refine P_call ?_
  k_dflt ktr_enter
  k_steps
  refine P_cons (P_while (fun _ s' => s' = _) (fun n s1 e1 => ?_) 0 rfl)
  subst e1
  k_steps
  k_dflt (refine plain_open (Cx.mk rfl rfl (Nat.le_of_ble_eq_true rfl) (Nat.le_of_ble_eq_true rfl) rfl rfl (by k_asm) (by k_asm) (by k_asm) (by k_asm)) rfl (ledger_rot (by k_asm)) hs' hi' lo' l1 l2 (off_cons4 hoff (by refine ⟨?_, ?_, ?_, ?_⟩ <;> omega)) (by assumption) hfit (fun hc' e' d' k' t' h' tk2' R' => ?_) ?_)
  · k_steps
    all_goals exact rz (by assumption) _ _ _ _ _ _ (by assumption)
  · intro r' e2' hr' x0 x1 x2 x3 x4 x5 x6 x7 x8 x9 x10 x11 x12 x13 x14 x15 x16 x17 x18 x19 x20 x21 x22 x23 x24 x25 x26 p9 tk9 F' N' hp'
    k_steps
    all_goals exact ret _ _ (by assumption) _ _ _ _ _ _ _ _ _ _ _ _ _ _ _ _ _ _ _ _ _ _ _ _ _ _ _ _ _ (by k_asm) (ledger_drop (by k_asm)) (by assumption)
end
theorem off_new {x dx md mdd : Addr} {rest : List (Addr × Obj)} (h : OwnOff rest [md, mdd]) (l : AllLt dx rest) (l2 : @LT.lt Nat _ dx x) : OwnOff rest [x, dx, md, mdd] := by
  intro p hp q hq
  have hq' : q = x ∨ q = dx ∨ q = md ∨ q = mdd := by simpa using hq
  rcases hq' with rfl | rfl | hq'
  · exact allLt_off l (Nat.le_of_lt l2) p hp
  · exact allLt_off l (Nat.le_refl _) p hp
  · exact h p hp q (by simpa using hq')
theorem off_new8 {a b c d e f g k x dx md mdd : Addr} {rest : List (Addr × Obj)} (h : OwnOff rest [md, mdd]) (l : @LT.lt Nat _ a dx ∧ @LT.lt Nat _ b dx ∧ @LT.lt Nat _ c dx ∧ @LT.lt Nat _ d dx ∧ @LT.lt Nat _ e dx ∧ @LT.lt Nat _ f dx ∧ @LT.lt Nat _ g dx ∧ @LT.lt Nat _ k dx ∧ AllLt dx rest) (l2 : @LT.lt Nat _ dx x) : OwnOff rest [x, dx, md, mdd] :=
  off_new h l.2.2.2.2.2.2.2.2 l2
theorem ledger_src {h₀ h : Heap} {L : Addr} {x y a b c d e f g k : Addr × Obj} {rest : List (Addr × Obj)} (N : News h₀ L h (x :: y :: a :: b :: c :: d :: e :: f :: g :: k :: rest)) : News h₀ L h (a :: b :: c :: d :: e :: f :: g :: k :: x :: y :: rest) :=
  news_sub N fun p hp => by
    simp only [List.mem_cons] at hp ⊢
    rcases hp with h | h | h | h | h | h | h | h | h | h | h <;> simp [h]
theorem ledger_cut2 {h₀ h : Heap} {L : Addr} {z x y a0 a1 a2 a3 a4 a5 a6 a7 a8 : Addr × Obj} {rest : List (Addr × Obj)} (N : News h₀ L h (z :: a0 :: a1 :: a2 :: a3 :: a4 :: a5 :: a6 :: a7 :: a8 :: x :: y :: rest)) : News h₀ L h (z :: a0 :: a1 :: a2 :: a3 :: a4 :: a5 :: a6 :: a7 :: a8 :: rest) :=
  news_sub N fun p hp => by
    simp only [List.mem_cons] at hp ⊢
    rcases hp with h | h | h | h | h | h | h | h | h | h | h <;> simp [h]
local macro_rules | `(tactic| walk_at "wpP") => `(tactic| (k_here; first | ((with_reducible show wpP _ _ (execs (Stmt.Assign [Expr.Name (Str.ofString "done") _] (Expr.Call (Expr.Attribute _ (Str.ofString "token") _) _ _ _) _ :: _) _) _ _ _); k_dflt (refine P_cons (P_Assign (P_Call_Meth (P_any ?_)))))))
section
variable {w : World} {A : Around} {env : Env} {outer : List Env} {A₀ : Around} {base h₀ : Heap} {L : Addr} {m mg mb : PySem.Str → Option Value} {mean : ExcName → Option Value} {s : Shared} {Q E : Value → Shared → Prop} {rest : List (Addr × Obj)}
  {sx sd mx md lx ld sv jr mdd fr : Addr} {om : Obj} {kM tb : Tok} {c0 c1 c2 c3 c4 c5 c6 c7 c8 c9 c10 c11 c12 c13 n0 n1 n2 n3 n4 n5 n6 n7 n8 n9 t6 t7 t8 t9 : Tok} {bl : List UInt8} {e0 : Nat}
set_option maxRecDepth 100000 in
set_option maxHeartbeats 8000000 in
theorem tokin_open (C : Cx 338 140 w A env outer A₀ base h₀ L m mg mb mean s) (hg : A.guards = some [])
  (N : News h₀ L s.heap ((sx, instObj 585 sd) :: (sd, dictOf [ent w (Str.ofString "memory") kM (.ref mx)] 1) :: (mdd, om) :: (sv, W.listOf #[] 0) :: (mx, instObj 888 md) :: (md, dictOf (memEs w lx sv jr mdd fr n0 n1 n2 n3 n4 n5 n6 n7 n8 n9 t6 t7 t8 t9) 10) :: (lx, instObj 607 ld) :: (ld, dictOf (limEs w c0 c1 c2 c3 c4 c5 c6 c7 c8 c9 c10 c11 c12 c13) 14) :: rest))
  (hs' : Obj.IsDictOf (strKind PR w) om []) (hi' : Obj.IsDictOf (intKind PR w) om []) (lo' : (mdd == sysModules) = false)
  (l1 : @LT.lt Nat _ ld lx ∧ @LT.lt Nat _ lx md ∧ @LT.lt Nat _ md mx ∧ @LT.lt Nat _ mx sv ∧ @LT.lt Nat _ sv mdd ∧ @LT.lt Nat _ mdd sd ∧ @LT.lt Nat _ sd sx)
  (hoff : OwnOff rest [md, mdd]) (hfit : bl.length ≤ 900)
  (hb : ∀ j, 0 ≤ j → j < e0 → bl[j]? = some 32) (he : bl[e0]? = some 40)
  (rz : rdK bl (bl.length + 1) (e0 + 1) [] 1 = none → ∀ e d k' t' h' tk2, Flown base (env :: outer) h₀ L m e d (toldEs w k' (.bytes synB t')) h' → E (.ref e) { s with heap := h', toks := tk2 })
  (ret : ∀ r e, rdK bl (bl.length + 1) (e0 + 1) [] 1 = some (r, e) → ∀ tu te th td sp spd tx txd ob h' tk2 a0 a1 a2 a3 b0 b1 b2 d0 d1 d2 d3 t0 t1 t2 t3 v0 v2 v3, Fr h₀ L h' m → News h₀ L h' ((tu, tupObj [.ref th, .int (e : Nat) te]) :: (th, instObj 205 td) :: (td, dictOf (thingEs w sp a0 a1 a2 a3 t0 t1) 4) ::
      (sp, instObj 268 spd) :: (spd, dictOf (spanEs w tx r.length b0 b1 b2 t2 t3) 3) :: (tx, instObj 226 txd) :: (txd, dictOf (textEs w ob d0 d1 d2 d3 v0 v2 v3) 4) :: (ob, baObj r.toArray) :: (sx, instObj 585 sd) :: (sd, dictOf [ent w (Str.ofString "memory") kM (.ref mx)] 1) :: rest) → Q (.ref tu) { s with heap := h', toks := tk2 }) :
  wpP (model PR w) A (call (.ref 582) [.ref sx, .bytes bl.toArray tb]) Q E s := by
  obtain ⟨hh, hf, hdp, hu, hL, hk, B, F, X, T⟩ := C
  refine deepenP 338 140 hh hf hg hdp hu ?_
  refine P_call ?_
  k_dflt ktr_enter
  k_steps
  k_dflt (refine token_open (k := 0) (e0 := e0) (Cx.mk rfl rfl (Nat.le_of_ble_eq_true rfl) (Nat.le_of_ble_eq_true rfl) rfl rfl (by k_asm) (by k_asm) (by k_asm) (by k_asm)) rfl (ledger_src (by k_asm)) hs' hi' lo' l1 (by refine ⟨?_, ?_⟩ <;> omega) (off_new8 hoff (by assumption) (by assumption)) rfl hfit (Nat.zero_le _) hb he (fun hc' e' d' k' t' h' tk2' R' => ?_) ?_)
  · k_steps
    all_goals exact rz (by assumption) _ _ _ _ _ _ (by assumption)
  · intro r' e2' hr' x0 x1 x2 x3 x4 x5 x6 x7 x8 x9 x10 x11 x12 x13 x14 x15 x16 x17 x18 x19 x20 x21 x22 x23 x24 x25 x26 p9 tk9 F' N' hp'
    subst hp'
    k_steps
    all_goals exact ret _ _ (by assumption) _ _ _ _ _ _ _ _ _ _ _ _ _ _ _ _ _ _ _ _ _ _ _ _ _ _ _ _ _ (by k_asm) (ledger_cut2 (by k_asm))
end
abbrev wb : List UInt8 := [47, 97, 98]
structure WrdI (w : World) (s₀ : Shared) (g : Heap) (L x dx fb : Addr) (k1 k2 tb : Tok) (rest : List (Addr × Obj)) (n : Nat) (s : Shared) : Prop where
  out : ∃ (h : Heap) (tk : Nat) (u : PySem.Str → Option Value) (ov : Value) (f : List UInt8) (p : Int) (tkp : Tok), s = { s₀ with heap := h, toks := tk } ∧
    Fr g L h (mL [(Str.ofString "source", .ref x), (Str.ofString "found", .ref fb), (Str.ofString "octet", ov)] u) ∧
    News g L h ((fb, baObj f.toArray) :: (x, instObj 393 dx) :: (dx, srcD w k1 k2 wb tb p tkp) :: rest) ∧
    ((n = 2 ∧ (∃ t, ov = .int 97 t) ∧ f = [] ∧ p = ((2 : Nat) : Int)) ∨ (n = 1 ∧ (∃ t, ov = .int 98 t) ∧ f = [97] ∧ p = ((3 : Nat) : Int)) ∨ (n = 0 ∧ ov = .none ∧ f = [97, 98] ∧ p = ((3 : Nat) : Int)))
theorem wrdI {w : World} {s₀ : Shared} {g : Heap} {L x dx fb : Addr} {k1 k2 tb : Tok} {rest : List (Addr × Obj)} {h : Heap} {tk : Nat} {u : PySem.Str → Option Value} {p : Int} {tkp : Tok} {ov : Value} {b : Array UInt8} (n : Nat) (f : List UInt8)
    (F : Fr g L h u) (h1 : u (Str.ofString "source") = some (.ref x)) (h2 : u (Str.ofString "found") = some (.ref fb)) (h3 : u (Str.ofString "octet") = some ov) (N : News g L h ((fb, baObj b) :: (x, instObj 393 dx) :: (dx, srcD w k1 k2 wb tb p tkp) :: rest)) (hb : b = f.toArray)
    (hc : (n = 2 ∧ (∃ t, ov = .int 97 t) ∧ f = [] ∧ p = ((2 : Nat) : Int)) ∨ (n = 1 ∧ (∃ t, ov = .int 98 t) ∧ f = [97] ∧ p = ((3 : Nat) : Int)) ∨ (n = 0 ∧ ov = .none ∧ f = [97, 98] ∧ p = ((3 : Nat) : Int))) : WrdI w s₀ g L x dx fb k1 k2 tb rest n { s₀ with heap := h, toks := tk } := by
  subst hb
  refine ⟨⟨h, tk, u, ov, f, p, tkp, rfl, fr_mL F ?_, N, hc⟩⟩
  simp only [List.forall_mem_cons, List.not_mem_nil, false_implies, implies_true, and_true]
  exact ⟨h1, h2, h3⟩
section
variable {w : World} {A : Around} {env : Env} {outer : List Env} {A₀ : Around} {base h₀ : Heap} {L : Addr} {m mg mb : PySem.Str → Option Value} {mean : ExcName → Option Value} {s : Shared} {Q E : Value → Shared → Prop} {news : List (Addr × Obj)} {g : Obj → List (Addr × Obj)}
  {x dx : Addr} {k1 k2 tb : Tok} {p : Int} {tk : Tok}
set_option maxRecDepth 100000 in
set_option maxHeartbeats 8000000 in
theorem word_P (C : Cx 370 300 w A env outer A₀ base h₀ L m mg mb mean s) (hg : A.guards = some []) (N : News h₀ L s.heap news) (hx : (x, instObj 393 dx) ∈ news) (U : UpdF dx (srcD w k1 k2 wb tb p tk) news g)
  (hp : p = ((1 : Nat) : Int))
  (ret : ∀ t h' tk' tk2 p', Fr h₀ L h' m → News h₀ L h' (g (srcD w k1 k2 wb tb p' tk')) → p' = ((3 : Nat) : Int) → Q (.bytes #[97, 98] t) { s with heap := h', toks := tk2 }) :
  wpP (model PR w) A (call (.ref 432) [.ref x]) Q E s := by
  obtain ⟨hh, hf, hdp, hu, hL, hk, B, F, X, T⟩ := C
  refine deepenP 370 300 hh hf hg hdp hu ?_
  obtain ⟨rest, Nc, hoff, back⟩ := canon N hx U
  have hne := src_ne Nc
  clear N hx U
  have hfit : wb.length ≤ 1000 := by decide
  have e1 : wb[1]? = some 97 := rfl
  have e2 : wb[1 + 1]? = some 98 := rfl
  have e3 : wb[3]? = none := rfl
  have e4 : wb[2]? = some 98 := rfl
  refine P_call ?_
  k_dflt ktr_enter
  refine P_cons (P_Assign (P_Call_Name (P_any ?_)))
  k_steps
  refine P_cons (P_while (WrdI w s ?g ?L x dx ?D k1 k2 tb rest) ?turn 2 ?init)
  case init =>
    exact wrdI 2 [] (by k_asm) (by exact rfl) (by exact rfl) (by exact rfl) (by k_asm) rfl (.inl ⟨rfl, ⟨_, rfl⟩, rfl, by assumption⟩)
  case turn =>
    intro n s1 I1
    obtain ⟨h1, tk1, u1, ov, f1, p1, tkp1, rfl, F1, N1, hc⟩ := I1.out
    clear I1
    dsimp only [mL] at F1
    obtain ⟨hoffb, hne1, hne2⟩ := off3 N1 hoff (by assumption)
    rcases hc with ⟨rfl, ⟨t, rfl⟩, rfl, hp1⟩ | ⟨rfl, ⟨t, rfl⟩, rfl, hp1⟩ | ⟨rfl, rfl, rfl, hp1⟩
    · have hz1 : ([] : List UInt8).toArray.size ≤ 1000 := by decide
      k_steps
      all_goals exact ⟨⟨1, by decide, wrdI 1 [97] (by k_asm) (by exact rfl) (by exact rfl) (by exact rfl) (by k_asm) (by decide) (.inr (.inl ⟨rfl, ⟨_, rfl⟩, rfl, by assumption⟩))⟩⟩
    · have hz1 : ([97] : List UInt8).toArray.size ≤ 1000 := by decide
      k_steps
      all_goals exact ⟨⟨0, by decide, wrdI 0 [97, 98] (by k_asm) (by exact rfl) (by exact rfl) (by exact rfl) (by k_asm) (by decide) (.inr (.inr ⟨rfl, rfl, rfl, hp1⟩))⟩⟩
    · have hz1 : ([97, 98] : List UInt8).toArray.size ≤ 1001 := by decide
      k_steps
      all_goals exact ret _ _ _ _ _ (by k_asm) (back _ _ (news_tail (by k_asm))) hp1
end
local macro_rules | `(tactic| walk_at "wpP") => `(tactic| (k_here; first | ((with_reducible show wpP _ _ (execs (Stmt.Return (some (Expr.Call (Expr.Attribute _ (Str.ofString "slashed") _) _ _ _)) _ :: _) _) _ _ _); k_dflt (refine P_cons (P_Return (P_Call_Meth (P_any ?_))))) | ((with_reducible show wpP _ _ (execs (Stmt.Return (some (Expr.Call (Expr.Name (Str.ofString "scan_name") _) _ _ _)) _ :: _) _) _ _ _); k_dflt (refine P_cons (P_Return (P_Call_Name (P_any ?_))))) | ((with_reducible show wpP _ _ (spliced (backTo _ (starEach (Expr.Call (Expr.Name (Str.ofString "scan_word") _) _ _ _ :: _) _))) _ _ _); k_dflt (refine P_sp1 (P_Call_Name (P_any ?_)))) | ((with_reducible show wpP _ _ (call (Value.ref 432) _) _ _ _); k_dflt (refine word_P (Cx.mk rfl rfl (Nat.le_of_ble_eq_true rfl) (Nat.le_of_ble_eq_true rfl) rfl rfl (by k_asm) (by k_asm) (by k_asm) (by k_asm)) rfl (by k_asm) (by k_mem) (by k_updF) (by first | assumption | (push_cast; omega) | omega) ?_); intro t' h' tk' tk2' p' F' N' hp'; (try dsimp only at N'); (try k_sweep)) | ((with_reducible show wpP _ _ (call (Value.ref 488) _) _ _ _); k_dflt (refine P_any ?_)) | ((with_reducible show wpP _ _ (call (Value.ref 537) _) _ _ _); k_dflt (refine P_call ?_); k_dflt ktr_enter) | ((with_reducible show wpP _ _ (call (Value.ref 558) _) _ _ _); k_dflt (refine P_call ?_); k_dflt ktr_enter) | ((with_reducible show wpP _ _ (call (Value.ref 566) _) _ _ _); k_dflt (refine P_call ?_); k_dflt ktr_enter)))
theorem ledger_nm {h₀ h : Heap} {L : Addr} {z y a b c d e f g : Addr × Obj} {rest : List (Addr × Obj)} (N : News h₀ L h (z :: y :: a :: b :: c :: d :: e :: f :: g :: rest)) : News h₀ L h (z :: a :: b :: rest) :=
  news_sub N fun p hp => by
    simp only [List.mem_cons] at hp ⊢
    rcases hp with h | h | h | h <;> simp [h]
section
variable {w : World} {A : Around} {env : Env} {outer : List Env} {A₀ : Around} {base h₀ : Heap} {L : Addr} {m mg mb : PySem.Str → Option Value} {mean : ExcName → Option Value} {s : Shared} {Q E : Value → Shared → Prop} {rest : List (Addr × Obj)}
  {sx sd mx : Addr} {kM tb : Tok}
set_option maxRecDepth 100000 in
set_option maxHeartbeats 8000000 in
theorem tokin_name (C : Cx 338 140 w A env outer A₀ base h₀ L m mg mb mean s) (hg : A.guards = some [])
  (N : News h₀ L s.heap ((sx, instObj 585 sd) :: (sd, dictOf [ent w (Str.ofString "memory") kM (.ref mx)] 1) :: rest)) (l1 : @LT.lt Nat _ sd sx)
  (ret : ∀ tu te th td h' tk2 a0 a1 a2 a3 t0 t1 t2, Fr h₀ L h' m → News h₀ L h' ((tu, tupObj [.ref th, .int 3 te]) :: (th, instObj 205 td) :: (td, dictOf [ent w (Str.ofString "kind") a0 (.str (Str.ofString "name") t0), ent w (Str.ofString "value") a1 (.bytes #[97, 98] t1), ent w (Str.ofString "is_exec") a2 (.bool false), ent w (Str.ofString "access") a3 (.int 3 t2)] 4) :: rest) → Q (.ref tu) { s with heap := h', toks := tk2 }) :
  wpP (model PR w) A (call (.ref 582) [.ref sx, .bytes wb.toArray tb]) Q E s := by
  obtain ⟨hh, hf, hdp, hu, hL, hk, B, F, X, T⟩ := C
  refine deepenP 338 140 hh hf hg hdp hu ?_
  have hfit : wb.length ≤ 1000 := by decide
  have hb0 : ∀ j, 0 ≤ j → j < 0 → wb[j]? = some 32 := fun j _ h => absurd h (Nat.not_lt_zero _)
  have he0 : wb[0]? = some 47 := rfl
  have hc0 : (47 : UInt8).toNat = 40 ∨ (47 : UInt8).toNat = 47 := .inr (by decide)
  have h00 : 0 ≤ 0 := Nat.le_refl 0
  have e1 : wb[0 + 1]? = some 97 := rfl
  have e2 : wb[1]? = some 97 := rfl
  refine P_call ?_
  k_dflt ktr_enter
  k_steps
  refine P_cons (P_while (fun _ s' => s' = _) (fun n s1 e1 => ?_) 0 rfl)
  subst e1
  k_steps
  subst_vars
  all_goals exact ret _ _ _ _ _ _ _ _ _ _ _ _ _ (by k_asm) (ledger_nm (by k_asm))
end
section
variable {w : World} {A : Around} {E : Value → Shared → Prop} {h : Heap} {g : Array GenState} {dr : Drawn} {t : Nat} {os : OsState} {e : Addr} {oe od : Obj} {v : Value}
theorem told_find (X : (hd.heap_39 w.params).In h) (I : InstAt h e oe 52 (some od)) (hl : lookIn (Str.ofString "told") od = some (some v)) : Looks (model PR w) h (Builtin.ObjectAttr.find (.ref e) (.ref 52) (Str.ofString "told")) (.value v) :=
  looks_find X I (findObj_own (K := hd.heap_39 w.params) (C := 52) (name := Str.ofString "told") (by k_is) (by k_is) (by k_is) hl)
theorem told_entry {tk : Tok} {Q : PySem.Fin → Shared → Prop} (X : (hd.heap_39 w.params).In h) (I : InstAt h e oe 52 (some od)) (hl : lookIn (Str.ofString "told") od = some (some v)) (hq : Q (.done (.ret v)) ⟨h, g, dr, t, os⟩) :
    wpAny (model PR w) A (Builtin.«object.__getattribute__» ⟨[.ref e, .str (Str.ofString "told") tk], []⟩) Q E ⟨h, g, dr, t, os⟩ := by
  have L0 := I.type (M := model PR w)
  have L1 := told_find X I hl
  unfold Builtin.«object.__getattribute__»
  repeat lk
  exact hq
theorem told_call {tk : Tok} {R : Result → Shared → Prop} (X : (hd.heap_39 w.params).In h) (I : InstAt h e oe 52 (some od)) (hl : lookIn (Str.ofString "told") od = some (some v)) (hq : R (.ok (.ret v)) ⟨h, g, dr, t, os⟩) :
    codeAny (model PR w) A (.call (.builtin "BaseException.__getattribute__") ⟨[.ref e, .str (Str.ofString "told") tk], []⟩) R ⟨h, g, dr, t, os⟩ := by
  have sub : Looks (model PR w) h (isInstance (.ref e) (.type "BaseException")) true := I.type.andThen (ps_subB X)
  exact codeAny_call_builtin PySem.F.attrBase_Exception.ga.plain PySem.F.entry_bexc_ga (@check_slot (model PR w) _ _ _ "BaseException.__getattribute__" "BaseException" "__getattribute__" (.ref e) [.str (Str.ofString "told") tk] [] _ (by decide +kernel) (by decide +kernel) sub (PySem.F.args_bexc_ga _ _) (told_entry X I hl hq))
theorem told_get {Q : Value → Shared → Prop} {expr : Bool} (X : (hd.heap_39 w.params).In h) (I : InstAt h e oe 52 (some od)) (hl : lookIn (Str.ofString "told") od = some (some v)) (hv : handedIn v = true) (hq : Q v ⟨h, g, dr, t + 1, os⟩) :
    wpAny (model PR w) A (getAttr (.ref e) (Str.ofString "told") expr) Q E ⟨h, g, dr, t, os⟩ := by
  have L0 := I.type (M := model PR w)
  have L1 : Looks (model PR w) h (typeLookup (.ref 52) "__getattribute__") (some (.builtin "BaseException.__getattribute__")) := looks_findIn X (by k_is)
  have L2 : Looks (model PR w) h (typeLookup (.ref 52) "__getattr__") none := looks_findIn X (by k_is)
  have f3 := PySem.F.attrBase_Exception.ga.bind (.ref e)
  have hx0 : (expr && onTheHeap (Value.builtin "BaseException.__getattribute__")) = false := by cases expr <;> rfl
  have hx2 : (Value.builtin "BaseException.__getattribute__" == Value.builtin "object.__getattribute__") = false := by decide +kernel
  unfold getAttr getAttrBy
  refine wpAny_bind (wpAny_mkText (wpAny_holding (wpAny_bind (L0.at (wpAny_bind (L1.at ?_))))))
  dsimp only
  rw [hx2, Bool.and_false, if_neg Bool.false_ne_true]
  unfold getAttrByItsOwn hookBefore
  rw [if_pos (show onTheHeap (.ref 52) = true from rfl)]
  refine wpAny_bind (L2.at (wpAny_bind (wpAny_attempt (wpAny_holding ?_))))
  unfold callGetattribute
  rw [hx0, if_neg Bool.false_ne_true]
  unfold boundAndCalled
  rw [f3]
  refine wpAny_bind (wpAny_pure ?_)
  dsimp only
  refine wpAny_call (told_call X I hl ?_)
  show wpAny _ _ (handedOut v) _ _ _
  rw [handedOut_of hv]
  exact wpAny_pure hq
theorem told_match {Q : Bool → Shared → Prop} (X : (hd.heap_39 w.params).In h) (he : h.get? e = some oe) (hc : oe.cls = .ref 52) (hq : Q true ⟨h, g, dr, t, os⟩) :
    wpAny (model PR w) A (excMatches (.ref e) (.ref 52)) Q E ⟨h, g, dr, t, os⟩ := by
  have L0 : Looks (model PR w) h (typeOf (.ref e)) (.ref 52) := hc ▸ (Looks.ld he).andThen .now
  have L1 : Looks (model PR w) h (isInstance (.ref 52) (.type "tuple")) false := looks_instIn X (by k_is)
  have L2 : Looks (model PR w) h (isExcClass (.ref 52)) true := Looks.of_peek X (by kernel_rfl)
  have L3 := ps_self X
  unfold excMatches
  refine wpAny_bind (L1.at ?_)
  simp only [Bool.false_eq_true, if_false, pure_bind, List.forIn_cons, List.forIn_nil, bind_assoc]
  refine wpAny_bind (L2.at ?_)
  simp only [Bool.not_true, Bool.false_eq_true, if_false, pure_bind]
  refine wpAny_bind (L0.at (wpAny_bind (L3.at ?_)))
  simp only [if_true, pure_bind]
  exact wpAny_pure hq
end
theorem same_up {g h h' : Heap} {L : Addr} (u : g.UpToSlots h) (hL : g.get? L = none) (hs : Heap.SameBut L h h') : g.UpToSlots h' := fun b o q nf => by
  obtain ⟨sl, q'⟩ := u b o q nf
  exact ⟨sl, (hs.2 b fun z => by rw [z, hL] at q; cases q).trans q'⟩
theorem same_stays {g h h' : Heap} {L : Addr} (u : g.StaysIn h) (hL : g.get? L = none) (hs : Heap.SameBut L h h') : g.StaysIn h' := fun b o q => (hs.2 b fun z => by rw [z, hL] at q; cases q).trans (u b o q)
theorem told_off {h : Heap} {L d : Addr} {m : PySem.Str → Option Value} {w : World} {k : Tok} {v o9 : Value} (n : h.Ns L m) (hm : m (Str.ofString "octets") = some o9) (t : Told h d (toldEs w k v)) : d ≠ L := by
  rintro rfl
  obtain ⟨o, es, ep, ho, hd, _, hf⟩ := n
  obtain ⟨n', sl, hd'⟩ := t
  rw [ho] at hd'
  cases hd'
  have := hf (Str.ofString "octets")
  rw [hm] at this
  cases hd
  rw [show nsFind (toldEs w k v).toArray (Str.ofString "octets") = none from by kernel_rfl] at this
  cases this
section
variable {w : World} {A : Around} {E : Value → Shared → Prop} {s : Shared} {base g : Heap} {outer : List Env} {L a e d : Addr} {m mg mb : PySem.Str → Option Value} {mean : ExcName → Option Value} {name : PySem.Str} {scope : Scope} {cd v o9 : Value} {k : Tok} {Q : Flow → Shared → Prop}
  {p1 p2 p3 p4 p5 pos : Pos} {rest : List ExceptHandler}
theorem catch_ps (R : Flown base (envOf name scope L a cd :: outer) g L m e d (toldEs w k v) s.heap) (hA : A.frames = some (envOf name scope L a cd :: outer))
    (XB : (hd.heap_39 w.params).In base) (TB : Top hd.view_39 Lo mean mg mb base) (ab : base.objs.size ≤ L) (hm : m (Str.ofString "octets") = some o9) (hv : handedIn v = true) (hgL : g.get? L = none)
    (h : ∀ h' tk' x, base.StaysIn h' → g.UpToSlots h' → Fr base L h' (fun y => if y = Str.ofString "e" then x else if y = Str.ofString "found" then some v else if y = Str.ofString "e" then some (.ref e) else m y) → Q .next { s with heap := h', toks := tk' })
    (hk : scope.kind = .function := by rfl) (hP : (envOf name scope L a cd).kindOf (Str.ofString "PsError") = some .globalImplicit := by rfl) (hE : (envOf name scope L a cd).kindOf (Str.ofString "e") = some .local := by rfl) (hF : (envOf name scope L a cd).kindOf (Str.ofString "found") = some .local := by rfl) :
    wpAny (model PR w) A (noteFrame (.ref e) (envOf name scope L a cd)) (fun _ s₂ => wpAny (model PR w) A (setFlight (.ref e) none) (fun _ s₃ => wpAny (model PR w) A (handleBy (.ref e) (envOf name scope L a cd)
      (.ExceptHandler (some (.Name (Str.ofString "PsError") p1)) (some (Str.ofString "e")) [.Assign [.Name (Str.ofString "found") p2] (.Attribute (.Name (Str.ofString "e") p3) (Str.ofString "told") p4) p5] pos :: rest)) Q E s₃) E s₂) E s := by
  have hp : ((envOf name scope L a cd).scope.kind == .class || ((envOf name scope L a cd).scope.kind == .module && (envOf name scope L a cd).locals != (envOf name scope L a cd).globals)) = false := by
    show (scope.kind == .class || (scope.kind == .module && L != mainGlobals)) = false; rw [hk]; rfl
  have hbL : base.get? L = none := Heap.get?_none_of_le ab
  obtain ⟨hh, gg, dr, tk, os⟩ := s
  refine note_ps hA R.frames rfl R.stays R.fresh (.inr R.exc) fun h₂ s2 f2 x2 u2 => ?_
  refine unflight_ps s2 f2 x2 fun h₃ s3 f3 x3 u3 => ?_
  have F3 : Fr base L h₃ m := ⟨(u2.trans u3).ns R.ns, s3, ab⟩
  refine wpAny_handleBy_cons (codeAny_handlers_test ?_) (by intro q; cases q)
  refine name_K F3 XB (topRead_of TB) (by k_is) ?_ hk hP
  obtain ⟨oe3, vs3, T3, oT3, ts3, he3, hcd3, hd3, h13, _⟩ := id x3
  refine told_match (XB.keeps s3) he3 hcd3.1 ?_
  dsimp only
  simp only [if_true]
  refine codeAny_handlers_suite_as ?_
  refine unflight_ps s3 f3 x3 fun h₄ s4 f4 x4 u4 => ?_
  have up4 : g.UpToSlots h₄ := ((R.up.trans u2).trans u3).trans u4
  have n4 : h₄.Ns L m := ((u2.trans u3).trans u4).ns R.ns
  have t4 := (((R.told.up u2).up u3).up u4)
  have doff := told_off n4 hm t4
  obtain ⟨oe, vs, T, oT, ts, he, hcd, hdd, h1, _⟩ := id x4
  have eoff : e ≠ L := by
    rintro rfl
    obtain ⟨o, es, ep, ho, hdo, _⟩ := n4
    rw [ho] at he; cases he
    rw [hdo] at hdd; cases hdd
  refine wpAny_storeName_local hE n4 (fun h₅ n5 sb5 => ?_) hp
  refine wpAny_execs_cons (wpAny_Assign_Name (Attribute_name ?_) rfl)
  have F5 : Fr base L h₅ (fun y => if y = Str.ofString "e" then some (.ref e) else m y) := ⟨n5, same_stays s4 hbL sb5, ab⟩
  refine ld F5 (by rfl) ?_ hk hE
  obtain ⟨nn, sl, hdt⟩ := t4
  have I : InstAt h₅ e oe 52 (some { dictOf (toldEs w k v) nn with slots := sl }) := by
    refine ⟨(sb5.2 e eoff).trans he, hcd.1, ?_, ?_⟩
    · unfold notCls; rw [hdd]
    · rw [hcd.2]; exact (sb5.2 d doff).trans hdt
  refine told_get (XB.keeps F5.keep) I (by kernel_rfl) hv ?_
  refine wpAny_storeName_local hF n5 (fun h₆ n6 sb6 => ?_) hp
  refine wpAny_execs_nil ?_
  refine wpAny_nameGoes_keeps hE n6 hp fun h₇ x n7 sb7 => ?_
  have sb : Heap.SameBut L h₄ h₇ := (sb5.trans sb6).trans sb7
  exact h h₇ _ x (same_stays s4 hbL sb) (same_up up4 hgL sb) ⟨n7, same_stays s4 hbL sb, ab⟩
end
section
variable {prog : Program} {w : World} {A : Around} {E : Value → Shared → Prop} {s : Shared} {h₀ : Heap} {L : Addr} {m : PySem.Str → Option Value} {news : List (Addr × Obj)} {b : Array UInt8} {x : Addr} {value slice : PySem.Expr} {Q : Value → Shared → Prop} {u0 u1 : Tok} {n : Nat}
theorem ba_slice_K (hF : Fr h₀ L s.heap m) (hN : News h₀ L s.heap news) (hm : (x, baObj b) ∈ news) (hn : n = b.size) (hz : b.size ≤ 1001)
    (h : ∀ D h', Fr h₀ L h' m → News h₀ L h' ((D, baObj b) :: news) → (∀ p ∈ news, p.1 < D) → Q (.ref D) { s with heap := h' })
    (hs : subscripted slice false (.ref x) (.ref s.heap.objs.size) = operate [.ref s.heap.objs.size, .ref x] (getItem (.ref x) (.ref s.heap.objs.size)) := by with_unfolding_all rfl)
    (ht : ∀ r, letTemporaryGo value (.ref x) r = pure () := by intro _; with_unfolding_all rfl) :
    wpAny (model prog w) A (subscriptTail value slice (.ref x) (.ref s.heap.objs.size)) Q E { s with heap := s.heap.push { cls := .type "slice", data := .fields #[.int 0 u0, .int n u1, .none] } } := by
  have F1 := hF.push { cls := .type "slice", data := .fields #[.int 0 u0, .int n u1, .none] }
  have N1 : News h₀ L (s.heap.push { cls := .type "slice", data := .fields #[.int 0 u0, .int n u1, .none] }) news := News.pushKeep hN _
  have ho := (N1 _ hm).1
  have hT : ({ s with heap := s.heap.push { cls := .type "slice", data := .fields #[.int 0 u0, .int n u1, .none] } } : Shared).TypeIs (.ref x) "bytearray" := ⟨_, ho, rfl⟩
  refine tail_of_ItemOn ⟨"bytearray", _, F.ba_getitem.lookup, hT, ?_⟩ hs ht
  refine wpAny_getItem_slot hT (by decide) F.ba_getitem ?_
  refine wpAny_call (codeAny_call_builtin F.ba_getitem.plain F.ba_entry_getitem (F.ba_getitem.check _ _ _ _ _ _ _ _ hT (F.ba_args_getitem _ _) ?_))
  refine ba_meets_slice (A := A) (x := x) (R := fun r s' => match r with | .ok (.ret v) => Q v s' | .ok _ => False | .error e => E e s') (s := { s with heap := s.heap.push { cls := .type "slice", data := .fields #[.int 0 u0, .int n u1, .none] } }) s.heap.objs.size hn hz ho (Heap.IsSliceOf.new s.heap _ _ _) ?_
  exact h _ _ (F1.push _) (N1.push F1 _) (fun p hp => Heap.lt_size (N1 p hp).1)
end
local macro_rules | `(tactic| walk_at "subscriptTail") => `(tactic| (k_here; (with_reducible show wpAny _ _ (subscriptTail _ _ (Value.ref _) (Value.ref _)) _ _ _); k_dflt (refine ba_slice_K (by k_asm) (by k_asm) (by k_mem) (by first | rfl | (simp; done) | (simp; omega)) (by assumption) ?_); intro D' h' F' N' l1; (try k_lt l1); (try k_sweep)))
section
variable {w : World} {A : Around} {env : Env} {outer : List Env} {A₀ : Around} {base h₀ : Heap} {L : Addr} {m mg mb : PySem.Str → Option Value} {mean : ExcName → Option Value} {s : Shared} {Q E : Value → Shared → Prop} {kept : List (Addr × Obj)}
  {sp spd tx txd ob : Addr} {r : List UInt8} {d0 d1 d2 d3 b0 b1 b2 t2 t3 : Tok} {v0 v2 v3 : Value}
set_option maxRecDepth 100000 in
set_option maxHeartbeats 8000000 in
theorem ospan (C : Cx 370 300 w A env outer A₀ base h₀ L m mg mb mean s)
  (N : News h₀ L s.heap ((sp, instObj 268 spd) :: (spd, dictOf (spanEs w tx r.length b0 b1 b2 t2 t3) 3) :: (tx, instObj 226 txd) :: (txd, dictOf (textEs w ob d0 d1 d2 d3 v0 v2 v3) 4) :: (ob, baObj r.toArray) :: kept)) (hz : r.toArray.size ≤ 1001)
  (ret : ∀ t h' tk2, Fr h₀ L h' m → News h₀ L h' ((sp, instObj 268 spd) :: (spd, dictOf (spanEs w tx r.length b0 b1 b2 t2 t3) 3) :: (tx, instObj 226 txd) :: (txd, dictOf (textEs w ob d0 d1 d2 d3 v0 v2 v3) 4) :: (ob, baObj r.toArray) :: kept) → Q (.bytes r.toArray t) { s with heap := h', toks := tk2 }) :
  wpAny (model PR w) A (call (.ref 353) [.ref sp]) Q E s := by
  obtain ⟨hh, hf, hdp, hu, hL, hk, B, F, X, T⟩ := C
  refine deepen 370 300 hh hf hdp hu ?_
  have hr9 : (r.length : Int) ≤ 1001 := by rw [List.size_toArray] at hz; omega
  refine wpAny_call ?_
  k_dflt ktr_enter
  k_steps
  all_goals exact ret _ _ _ (by k_asm) (news_tail (by k_asm))
end
/-- a return: the frames below stand as they stood, or what is wanted is shown at once (behind a caught exception) -/
structure LeaveE (h₀ : Heap) (L : Addr) (m : PySem.Str → Option Value) (g : Heap) (R : Result → Shared → Prop) (v : Value) (s' : Shared) : Prop where
  out : LeaveK h₀ L m g R v s' ∨ R (.ok (.ret v)) s'
section
variable {prog : Program} {w : World} {A A₀ : Around} {s : Shared} {h₀ base : Heap} {L : Addr} {m : PySem.Str → Option Value} {news : List (Addr × Obj)} {K : Frag} {p : Program} {loose : List PySem.Str} {mean : ExcName → Option Value} {mg mb : PySem.Str → Option Value}
theorem P_def2 {env : Env} {outer : List Env} {R : Result → Shared → Prop} {name qual : PySem.Str} {params : Arguments} {body : List Stmt} {scope : Scope} {dV kV doc pm cdv ct oc : Value} {an od : Option Addr} {osl : Array (Option Value)} {f : Addr} {args : Args} {binds : List (PySem.Str × Value)}
    (B : Below A₀ base outer h₀) (F : Fr h₀ L s.heap m) (X₀ : K.In h₀) (N : News h₀ L s.heap news) (T : Top p loose mean mg mb h₀) (hA : A.frames = some (env :: outer)) (hf : env.frame = some L) (hke : env.scope.kind = .function)
    (ho : K.lookup f = some ⟨oc, od, .func (fnOf name qual params body scope dV kV doc pm an cdv ct), osl⟩) (hcd : codeIn K cdv qual = true) (hroom : A.depth < recursionLimit)
    (hbind : BindsTo s (fnOf name qual params body scope dV kV doc pm an cdv ct) args binds) (hloc : ∀ y ∈ binds, scope.names.lookup y.1 = some .local)
    (h : ∀ g L' h₁, Fr h₀ L g m → Fr g L' h₁ (fun y => binds.reverse.lookup y) → News g L' h₁ news → Below A base (env :: outer) g → K.In g → Top p loose mean mg mb g →
      wpP (model prog w) (A.deeper (envOf qual scope L' f cdv)) (execs body (envOf qual scope L' f cdv))
        (fun fl s' => LeaveE h₀ L m g R (match fl with | .ret v => v | _ => .none) s')
        (fun e s' => wpAny (model prog w) (A.deeper (envOf qual scope L' f cdv)) (leaving (envOf qual scope L' f cdv) e) (fun _ s'' => R (.error e) s'') (fun e' s'' => R (.error e') s'') s')
        { s with heap := h₁, toks := s.toks + binds.length })
    (hco : scope.isCoroutine = false) (hgen : scope.isGenerator = false) (hk : scope.kind = .function) (hcell : ∀ x ∈ scope.names, x.2 ≠ .cell) : codeP (model prog w) A (.call (.ref f) args) R s := by
  have X := X₀.keeps F.keep
  obtain ⟨FG, BG, st, lv⟩ := groundX (R := R) B F N hA hf hke
  refine P_call_fn hroom (X _ _ ho) rfl hco hgen rfl (codeRec_of X hcd) (hbind _ _ _ _ ?_)
  refine wpAny_newFunctionEnv hcell hloc (fun h₁ hns hsb => ⟨(T.nolimit.keeps F.keep).fresh _ hsb, ?_⟩) hk
  refine P_func (P_mono (h _ s.heap.objs.size h₁ FG ⟨hns, fun b o e => hsb.extBut b o (Nat.ne_of_lt (Heap.lt_size (of_hideAll _ e))) (Heap.get?_push_of_some _ (of_hideAll _ e)), Nat.le_of_eq (hideAll_size _ _)⟩
    (fun q hq => ⟨hsb.extBut _ _ (Nat.ne_of_lt (Heap.lt_size (N q hq).1)) (Heap.get?_push_of_some _ (N q hq).1), Nat.ne_of_lt (Heap.lt_size (N q hq).1), hideAll_none _ (List.mem_map_of_mem hq)⟩) BG (X₀.keeps st) (T.keeps st)) (fun fl s' hl => hl.out.elim (lv _ _) id) fun _ _ y => y)
end
local macro_rules | `(tactic| ktr_rel) => `(tactic| (refine' P_def2 ?k1 ?k2 ?k3 ?k4 ?k5 ?kA ?kF ?kK ?k6 ?k7 ?k8 ?k9 ?kB ?_ ?c2 ?c3 ?c4 ?c5; (case kA => exact rfl); (case kF => first | assumption | exact rfl); (case kK => first | assumption | exact rfl); (case k1 => k_asm); (case k2 => k_asm); (case k3 => k_asm); (case k4 => k_asm); (case k5 => k_asm); (case k6 => k_is); (case k7 => k_is); (case k8 => k_room); (case k9 => first | exact BindsTo.of_eq rfl | exact binds_K (by k_in) rfl (by k_is) rfl rfl rfl); (case c5 => decide); (case kB => exact locs rfl); (case c2 => exact rfl); (case c3 => exact rfl); (case c4 => exact rfl); k_whole; intro g' L' h' FG' F' N' B' X' T'; (try dsimp only); (try k_fold)))
local macro_rules | `(tactic| walk_at "wpP") => `(tactic| (k_here; first | ((with_reducible show wpP _ _ (execs (Stmt.Try _ _ _ _ _ :: _) _) _ _ _); k_dflt (refine P_cons (P_Try ?_))) | ((with_reducible show wpP _ _ (execs (Stmt.Assign [Expr.Tuple _ _ _] (Expr.Call (Expr.Attribute _ (Str.ofString "token_in") _) _ _ _) _ :: _) _) _ _ _); k_dflt (refine P_cons (P_Assign_At (P_Call_Meth (P_any ?_)))))))
theorem ledger_in {h₀ h : Heap} {L : Addr} {z a b f c j d e g k l : Addr × Obj} {rest : List (Addr × Obj)} (N : News h₀ L h (z :: a :: b :: f :: c :: j :: d :: e :: g :: k :: l :: rest)) : News h₀ L h (a :: b :: c :: d :: e :: g :: k :: l :: rest) :=
  news_sub N fun p hp => by
    simp only [List.mem_cons] at hp ⊢
    rcases hp with h | h | h | h | h | h | h | h | h <;> simp [h]
theorem off_low {ld md mdd : Addr} {rest : List (Addr × Obj)} (h : ∀ p ∈ rest, p.1 < ld) (l : @LT.lt Nat _ ld md ∧ @LT.lt Nat _ ld mdd) : OwnOff rest [md, mdd] := by
  intro p hp q hq
  have hl := h p hp
  have hq' : q = md ∨ q = mdd := by simpa using hq
  rcases hq' with rfl | rfl
  · exact Nat.ne_of_lt (Nat.lt_trans hl l.1)
  · exact Nat.ne_of_lt (Nat.lt_trans hl l.2)
theorem ledger_span {h₀ h : Heap} {L : Addr} {z a b c d e f g : Addr × Obj} {rest : List (Addr × Obj)} (N : News h₀ L h (z :: a :: b :: c :: d :: e :: f :: g :: rest)) : News h₀ L h (c :: d :: e :: f :: g :: z :: a :: b :: rest) :=
  news_sub N fun p hp => by
    simp only [List.mem_cons] at hp ⊢
    rcases hp with h | h | h | h | h | h | h | h | h <;> simp [h]
local macro_rules | `(tactic| walk_at "call ref") => `(tactic| (k_here; (with_reducible show wpAny _ _ (call (Value.ref 353) _) _ _ _); k_dflt (refine ospan (Cx.mk rfl rfl (Nat.le_of_ble_eq_true rfl) (Nat.le_of_ble_eq_true rfl) rfl rfl (by k_asm) (by k_asm) (by k_asm) (by k_asm)) (by first | k_asm | exact ledger_span (by k_asm)) (by assumption) ?_); intro t' h' tk2' F' N'; (try k_sweep)))
theorem below_size {base h₀ g h : Heap} {L L' : Addr} {m m' : PySem.Str → Option Value} (hsz : base.objs.size ≤ h₀.objs.size) (F : Fr g L' h m') (FG : Fr h₀ L g m) : base.objs.size ≤ L' :=
  Nat.le_trans hsz (Nat.le_trans FG.above (Nat.le_trans (Nat.le_of_lt FG.ns.lt) F.above))
section
variable {w : World} {A : Around} {env : Env} {outer : List Env} {A₀ : Around} {base h₀ : Heap} {L : Addr} {m mg mb : PySem.Str → Option Value} {mean : ExcName → Option Value} {s : Shared} {Q E : Value → Shared → Prop} {news : List (Addr × Obj)} {bl : List UInt8} {tb : Tok}
set_option maxRecDepth 100000 in
set_option maxHeartbeats 8000000 in
theorem told_P (C : Cx 330 100 w A env outer A₀ base h₀ L m mg mb mean s) (hg : A.guards = some []) (N : News h₀ L s.heap news) (XB : (hd.heap_39 w.params).In base) (TB : Top hd.view_39 Lo mean mg mb base) (hsz : base.objs.size ≤ h₀.objs.size) (hfit : bl.length ≤ 900) (he : bl[0]? = some 40)
  (ret0 : rdK bl (bl.length + 1) 1 [] 1 = none → ∀ t h' tk2, base.StaysIn h' → h'.Ns L m → Q (.bytes synB t) { s with heap := h', toks := tk2 })
  (ret1 : ∀ r e, rdK bl (bl.length + 1) 1 [] 1 = some (r, e) → ∀ tu h' tk2 t0 t1 t2 t3, Fr h₀ L h' m → News h₀ L h' ((tu, tupObj [.str (Str.ofString "string") t0, .bytes r.toArray t1, .bool false, .int 3 t2, .int (e : Nat) t3]) :: news) → Q (.ref tu) { s with heap := h', toks := tk2 }) :
  wpP (model PR w) A (call (.ref 945) [.bytes bl.toArray tb, .bool false]) Q E s := by
  obtain ⟨hh, hf, hdp, hu, hL, hk, B, F, X, T⟩ := C
  refine deepenP 330 100 hh hf hg hdp hu ?_
  refine P_call ?_
  k_dflt ktr_rel
  k_steps
  k_dflt (refine tokin_open (e0 := 0) (rest := news) (Cx.mk rfl rfl (Nat.le_of_ble_eq_true rfl) (Nat.le_of_ble_eq_true rfl) rfl rfl (by k_asm) (by k_asm) (by k_asm) (by k_asm)) rfl (ledger_in (by k_asm)) (by assumption) (by assumption) (by assumption) (by refine ⟨?_, ?_, ?_, ?_, ?_, ?_, ?_⟩ <;> omega) (off_low (by assumption) (by refine ⟨?_, ?_⟩ <;> omega)) hfit (fun j _ h => absurd h (Nat.not_lt_zero _)) he (fun hc' e' d' k' t' h' tk2' R' => ?_) ?_)
  · k_steps
    k_dflt (refine catch_ps (by assumption) rfl XB TB (below_size hsz (by assumption) (by assumption)) (by rfl) rfl (by exact Heap.get?_none_of_le (Fr.above (by assumption))) ?_; intro h' tk' x' st' up' F')
    k_steps
    all_goals exact ⟨.inr (ret0 hc' _ _ _ st' (up'.ns (Fr.ns (by assumption))))⟩
  · intro r' e2' hr' x0 x1 x2 x3 x4 x5 x6 x7 x8 x9 x10 x11 x12 x13 x14 x15 x16 x17 x18 x19 x20 x21 x22 x23 x24 x25 x26 x27 x28 F' N'
    have hlen := rdK_len hr'
    have hz9 : r'.toArray.size ≤ 1001 := by rw [List.size_toArray]; simp at hlen; omega
    k_steps
    all_goals exact ⟨.inl (leaveK_ (by k_asm) (by k_asm) fun kF kN => ret1 _ _ hr' _ _ _ _ _ _ _ kF (news_sub kN (by intro p hp; rcases List.mem_cons.mp hp with rfl | hp; exact List.Mem.head _; repeat (first | exact hp | apply List.mem_cons_of_mem))))⟩
end
theorem picked_from {bl : List UInt8} {e : Nat} (he : e ≤ bl.length) : KBy.picked bl.toArray (some (e : Int)) none = (bl.drop e).toArray := by
  have c1 : clipAt bl.length (e : Int) = e := by unfold clipAt; split <;> omega
  rw [KBc.picked_eq]
  simp only [Option.elim, List.size_toArray, c1]
  rw [List.take_of_length_le (by simp)]
theorem by_from_K {prog : Program} {w : World} {A : Around} {E : Value → Shared → Prop} {s : Shared} {h₀ : Heap} {L : Addr} {m : PySem.Str → Option Value} {news : List (Addr × Obj)} {value slice : PySem.Expr} {Q : Value → Shared → Prop} {t u0 : Tok} {bl : List UInt8} {e : Nat}
    (hF : Fr h₀ L s.heap m) (hN : News h₀ L s.heap news) (hz : bl.length ≤ 1000) (hw : bl.drop e = wb)
    (h : ∀ h' t' k, Fr h₀ L h' m → News h₀ L h' news → Q (.bytes wb.toArray t') { s with heap := h', toks := k })
    (hs : subscripted slice false (.bytes bl.toArray t) (.ref s.heap.objs.size) = operate [.ref s.heap.objs.size, .bytes bl.toArray t] (getItem (.bytes bl.toArray t) (.ref s.heap.objs.size)) := by with_unfolding_all rfl)
    (ht : ∀ r, letTemporaryGo value (.bytes bl.toArray t) r = pure () := by intro _; with_unfolding_all rfl) :
    wpAny (model prog w) A (subscriptTail value slice (.bytes bl.toArray t) (.ref s.heap.objs.size)) Q E { s with heap := s.heap.push { cls := .type "slice", data := .fields #[.int (e : Nat) u0, .none, .none] } } := by
  have hle : e ≤ bl.length := by
    have : (bl.drop e).length = 3 := by rw [hw]; rfl
    rw [List.length_drop] at this
    omega
  refine KBc.slice_K (lo := some (e : Int)) (hi := none) hF hN rfl (by constructor) (by constructor) (by rw [KBw.ints_length, List.size_toArray]; omega) (fun h' t' k F' N' _ => ?_) hs ht
  rw [picked_from hle, hw]
  exact h h' t' k F' N'
theorem zero_of {bl : List UInt8} (h : bl[0]? = some 32) : ∀ j, 0 ≤ j → j < 1 → bl[j]? = some 32 := fun j _ hj => by
  obtain rfl : j = 0 := by omega
  exact h
theorem news_front2 {h₀ h : Heap} {L : Addr} {a b : Addr × Obj} {l : List (Addr × Obj)} (N : News h₀ L h l) (ha : a ∈ l) (hb : b ∈ l) : News h₀ L h (a :: b :: l) :=
  news_sub N fun p hp => by
    rcases List.mem_cons.mp hp with rfl | hp
    · exact ha
    rcases List.mem_cons.mp hp with rfl | hp
    · exact hb
    · exact hp
local macro_rules | `(tactic| walk_at "subscriptTail") => `(tactic| (k_here; (with_reducible show wpAny _ _ (subscriptTail _ (Expr.Slice _ none none _) (Value.bytes _ _) (Value.ref _)) _ _ _); k_dflt (refine by_from_K (by k_asm) (by k_asm) (by assumption) (by assumption) ?_); intro h' t' k' F' N'; (try k_sweep)))
section
variable {w : World} {A : Around} {env : Env} {outer : List Env} {A₀ : Around} {base h₀ : Heap} {L : Addr} {m mg mb : PySem.Str → Option Value} {mean : ExcName → Option Value} {s : Shared} {Q E : Value → Shared → Prop} {news : List (Addr × Obj)} {bl r : List UInt8} {tb : Tok} {e : Nat}
set_option maxRecDepth 100000 in
set_option maxHeartbeats 8000000 in
theorem told1_P (C : Cx 330 100 w A env outer A₀ base h₀ L m mg mb mean s) (hg : A.guards = some []) (N : News h₀ L s.heap news) (hfit : bl.length ≤ 900) (he0 : bl[0]? = some 32) (he : bl[1]? = some 40)
  (hr : rdK bl (bl.length + 1) 2 [] 1 = some (r, e)) (hw : bl.drop e = wb)
  (ret : ∀ tu h' tk2 t0 t1 t2 t3 t4 t5 t6, Fr h₀ L h' m → News h₀ L h' ((tu, tupObj [.str (Str.ofString "string") t0, .bytes r.toArray t1, .bool false, .int 3 t2, .int (e : Nat) t3, .str (Str.ofString "name") t4, .bytes #[97, 98] t5, .int 3 t6]) :: news) → Q (.ref tu) { s with heap := h', toks := tk2 }) :
  wpP (model PR w) A (call (.ref 945) [.bytes bl.toArray tb, .bool true]) Q E s := by
  obtain ⟨hh, hf, hdp, hu, hL, hk, B, F, X, T⟩ := C
  refine deepenP 330 100 hh hf hg hdp hu ?_
  have hfit1 : bl.length ≤ 1000 := by omega
  refine P_call ?_
  k_dflt ktr_rel
  k_steps
  k_dflt (refine tokin_open (e0 := 1) (rest := news) (Cx.mk rfl rfl (Nat.le_of_ble_eq_true rfl) (Nat.le_of_ble_eq_true rfl) rfl rfl (by k_asm) (by k_asm) (by k_asm) (by k_asm)) rfl (ledger_in (by k_asm)) (by assumption) (by assumption) (by assumption) (by refine ⟨?_, ?_, ?_, ?_, ?_, ?_, ?_⟩ <;> omega) (off_low (by assumption) (by refine ⟨?_, ?_⟩ <;> omega)) hfit (zero_of he0) he (fun hc' e' d' k' t' h' tk2' R' => ?_) ?_)
  · rw [hr] at hc'; cases hc'
  · intro r' e2' hr' x0 x1 x2 x3 x4 x5 x6 x7 x8 x9 x10 x11 x12 x13 x14 x15 x16 x17 x18 x19 x20 x21 x22 x23 x24 x25 x26 x27 x28 F' N'
    have hlen := rdK_len hr'
    have hz9 : r'.toArray.size ≤ 1001 := by rw [List.size_toArray]; simp at hlen; omega
    rw [hr] at hr'
    cases hr'
    k_steps
    k_dflt (refine tokin_name (Cx.mk rfl rfl (Nat.le_of_ble_eq_true rfl) (Nat.le_of_ble_eq_true rfl) rfl rfl (by k_asm) (by k_asm) (by k_asm) (by k_asm)) rfl (news_front2 (by k_asm) (by k_mem) (by k_mem)) (by omega) ?_; intro y0 y1 y2 y3 y4 y5 y6 y7 y8 y9 y10 y11 y12 F' N')
    k_steps
    all_goals exact ⟨.inl (leaveK_ (by k_asm) (by k_asm) fun kF kN => ret _ _ _ _ _ _ _ _ _ _ kF (news_sub kN (by intro p hp; rcases List.mem_cons.mp hp with rfl | hp; exact List.Mem.head _; repeat (first | exact hp | apply List.mem_cons_of_mem))))⟩
end
def isLF (bl : List UInt8) (j : Nat) : Bool := match bl[j]? with
  | none => false
  | some c => decide (c.toNat = 10)
theorem skip_lf {bl : List UInt8} {j : Nat} : skipK bl j = j + (if isLF bl j = true then 1 else 0) := by
  unfold skipK isLF
  split <;> simp_all
  split <;> simp_all
theorem take1 {bl : List UInt8} {j : Nat} : (bl.drop j).take 1 = match bl[j]? with | none => [] | some c => [c] := by
  rcases h : bl[j]? with _ | c
  · have := List.getElem?_eq_none_iff.mp h
    simp [List.drop_of_length_le this]
  · have hlt := in_bytes h
    rw [List.drop_eq_getElem_cons hlt]
    simp only [List.take_succ_cons, List.take_zero]
    have := List.getElem?_eq_some_iff.mp h
    obtain ⟨_, hc⟩ := this
    rw [hc]
theorem lf_eq {bl : List UInt8} {j : Nat} : (((bl.drop j).take 1).toArray.toList == (#[10] : Array UInt8).toList) = isLF bl j := by
  rw [take1]
  unfold isLF
  rcases bl[j]? with _ | c
  · rfl
  · dsimp only
    by_cases h : c = 10
    · subst h; decide
    · have : c.toNat ≠ 10 := fun e => h (by apply UInt8.toNat_inj.mp; simpa using e)
      simp [this, h]
theorem picked_one {bl : List UInt8} {j : Nat} : KBy.picked bl.toArray (some (j : Int)) (some (j + 1 : Nat)) = ((bl.drop j).take 1).toArray := by
  have c1 : clipAt bl.length (j : Int) = min j bl.length := by unfold clipAt; split <;> omega
  have c2 : clipAt bl.length ((j + 1 : Nat) : Int) = min (j + 1) bl.length := by unfold clipAt; split <;> omega
  rw [KBc.picked_eq]
  simp only [Option.elim, List.size_toArray, c1, c2]
  rcases Nat.lt_or_ge j bl.length with h | h
  · rw [show min (j + 1) bl.length - min j bl.length = 1 by omega, Nat.min_eq_left (Nat.le_of_lt h)]
  · rw [show min (j + 1) bl.length - min j bl.length = 0 by omega, List.take_zero, List.drop_of_length_le h, List.take_nil]
section
variable {prog : Program} {w : World} {A : Around} {E : Value → Shared → Prop} {s : Shared} {h₀ : Heap} {L : Addr} {m : PySem.Str → Option Value} {news : List (Addr × Obj)} {value slice : PySem.Expr} {Q : Value → Shared → Prop} {t u u0 u1 : Tok} {bl : List UInt8} {i i1 : Int}
theorem by_one_K (j : Nat) (hF : Fr h₀ L s.heap m) (hN : News h₀ L s.heap news) (hz : bl.length ≤ 1000) (hi : i = (j : Int)) (hi1 : i1 = i + 1)
    (h : ∀ h' t' k, Fr h₀ L h' m → News h₀ L h' news → Q (.bytes ((bl.drop j).take 1).toArray t') { s with heap := h', toks := k })
    (hs : subscripted slice false (.bytes bl.toArray t) (.ref s.heap.objs.size) = operate [.ref s.heap.objs.size, .bytes bl.toArray t] (getItem (.bytes bl.toArray t) (.ref s.heap.objs.size)) := by with_unfolding_all rfl)
    (ht : ∀ r, letTemporaryGo value (.bytes bl.toArray t) r = pure () := by intro _; with_unfolding_all rfl) :
    wpAny (model prog w) A (subscriptTail value slice (.bytes bl.toArray t) (.ref s.heap.objs.size)) Q E { s with heap := s.heap.push { cls := .type "slice", data := .fields #[.int i u0, .int i1 u1, .none] } } := by
  have e1 : i1 = ((j + 1 : Nat) : Int) := by omega
  subst hi
  subst e1
  refine KBc.slice_K (lo := some (j : Int)) (hi := some ((j + 1 : Nat) : Int)) hF hN rfl (by constructor) (by constructor) (by rw [KBw.ints_length, List.size_toArray]; omega) (fun h' t' k F' N' _ => ?_) hs ht
  rw [picked_one]
  exact h h' t' k F' N'
theorem lf_K {j : Nat} (h : Q (.bool (isLF bl j)) s) : wpAny (model prog w) A (compareOp .Eq (.bytes ((bl.drop j).take 1).toArray t) (.bytes #[10] u)) Q E s := eq_bytes (by rw [lf_eq]; exact h)
end
local macro_rules | `(tactic| walk_at "subscriptTail") => `(tactic| (k_here; (with_reducible show wpAny _ _ (subscriptTail _ (Expr.Slice _ (some _) none _) (Value.bytes _ _) (Value.ref _)) _ _ _); k_dflt (refine by_one_K _ (by k_asm) (by k_asm) (by assumption) (by first | assumption | rfl | (exact (Int.natCast_succ _).symm)) (by omega) ?_); intro h' t' k' F' N'; (try k_sweep)))
local macro_rules | `(tactic| walk_at "compareOp Eq bytes bytes") => `(tactic| (k_here; k_dflt (refine lf_K ?_)))
local macro_rules | `(tactic| walk_at "subscriptTail Name Name bytes int") => `(tactic| (k_here; (refine byte_at (by assumption) (by assumption) (by omega) ?_); (try dsimp only)))
structure OctI (s₀ : Shared) (g : Heap) (L : Addr) (tb : Tok) (bl : List UInt8) (k : Nat) (news : List (Addr × Obj)) (n : Nat) (s : Shared) : Prop where
  out : ∃ (h : Heap) (tk : Nat) (u : PySem.Str → Option Value) (e v : Nat) (ei vi : Int) (ti te tv : Tok), s = { s₀ with heap := h, toks := tk } ∧
    Fr g L h (mL [(Str.ofString "octets", .bytes bl.toArray tb), (Str.ofString "at", .int (k : Int) ti), (Str.ofString "end", .int ei te), (Str.ofString "number", .int vi tv)] u) ∧ News g L h news ∧
    ei = (e : Int) ∧ vi = (v : Int) ∧ e + n = k + 3 ∧ ((n = 3 ∧ v = 0) ∨ (n = 2 ∧ v < 8) ∨ (n = 1 ∧ v < 64) ∨ (n = 0 ∧ v < 512)) ∧ octK bl n e v = octK bl 3 k 0
theorem octI {s₀ : Shared} {g h : Heap} {L : Addr} {tb ti te tv : Tok} {bl : List UInt8} {k n tk : Nat} {news : List (Addr × Obj)} {u : PySem.Str → Option Value} {ki ei vi : Int} (e v : Nat)
    (F : Fr g L h u) (h1 : u (Str.ofString "octets") = some (.bytes bl.toArray tb)) (h2 : u (Str.ofString "at") = some (.int ki ti)) (h3 : u (Str.ofString "end") = some (.int ei te)) (h4 : u (Str.ofString "number") = some (.int vi tv))
    (N : News g L h news) (hk : ki = (k : Int)) (he : ei = (e : Int)) (hv : vi = (v : Int)) (hn : e + n = k + 3) (hb : (n = 3 ∧ v = 0) ∨ (n = 2 ∧ v < 8) ∨ (n = 1 ∧ v < 64) ∨ (n = 0 ∧ v < 512)) (ho : octK bl n e v = octK bl 3 k 0) : OctI s₀ g L tb bl k news n { s₀ with heap := h, toks := tk } := by
  subst hk
  refine ⟨⟨h, tk, u, e, v, ei, vi, ti, te, tv, rfl, fr_mL F ?_, N, he, hv, hn, hb, ho⟩⟩
  simp only [List.forall_mem_cons, List.not_mem_nil, false_implies, implies_true, and_true]
  exact ⟨h1, h2, h3, h4⟩
theorem octK_step {bl : List UInt8} {n e v : Nat} {c : UInt8} (h : bl[e]? = some c) (h1 : 48 ≤ (c.toNat : Int)) (h2 : (c.toNat : Int) ≤ 55) : octK bl (n + 1) e v = octK bl n (e + 1) (8 * v + c.toNat - 48) := by
  simp only [octK, h]
  rw [if_pos (by omega)]
theorem octK_stop {bl : List UInt8} {n e v : Nat} {c : UInt8} (h : bl[e]? = some c) (h1 : ¬ (48 ≤ (c.toNat : Int) ∧ (c.toNat : Int) ≤ 55)) : octK bl n e v = (v, e) := by
  cases n with
  | zero => rfl
  | succ n => simp only [octK, h]; rw [if_neg (by omega)]
theorem octK_end {bl : List UInt8} {n e v : Nat} (h : bl[e]? = none) : octK bl n e v = (v, e) := by cases n <;> simp [octK, h]
theorem tup_as {h₀ h : Heap} {L tu ls : Addr} {i : Int} {te : Tok} {k' : Nat} {o : Obj} {l : List (Addr × Obj)} (N : News h₀ L h ((tu, tupObj [.ref ls, .int i te]) :: (ls, o) :: l)) (e : i = (k' : Int)) : News h₀ L h ((tu, tupObj [.ref ls, .int (k' : Nat) te]) :: (ls, o) :: l) := by subst e; exact N
theorem ints_one {n : Int} {t : Tok} {c : UInt8} (h : n = (c.toNat : Int)) : IntsAre [Value.int n t] ([c].map fun c => (c.toNat : Int)) := by subst h; exact .cons _ _ .nil
theorem meanN {c : UInt8} {n : Int} {d : Nat} (h : (c.toNat : Int) = n) (hd : d < 256) (e : (if n.toNat = 110 then 10 else if n.toNat = 114 then 13 else if n.toNat = 116 then 9 else if n.toNat = 98 then 8 else if n.toNat = 102 then 12 else n.toNat) = d) : (d : Int) = ((meanU c).toNat : Int) := by
  rw [← meanU_is h e, UInt8.toNat_ofNat']
  omega
theorem meanO {c : UInt8} (h1 : ¬ (c.toNat : Int) = 110) (h2 : ¬ (c.toNat : Int) = 114) (h3 : ¬ (c.toNat : Int) = 116) (h4 : ¬ (c.toNat : Int) = 98) (h5 : ¬ (c.toNat : Int) = 102) : (c.toNat : Int) = ((meanU c).toNat : Int) := by
  rw [← meanU_other h1 h2 h3 h4 h5]; simp
theorem isO_lo {c : UInt8} (h : ¬ 48 ≤ (c.toNat : Int)) : isO c = false := isO_iff'.mpr (by omega)
theorem isO_hi {c : UInt8} (h : ¬ (c.toNat : Int) ≤ 55) : isO c = false := isO_iff'.mpr (by omega)
theorem esc_none {bl : List UInt8} {k : Nat} (h : bl[k]? = none) : escK bl k = none := by unfold escK; rw [h]
theorem esc_oct3 {bl : List UInt8} {k e v : Nat} {c : UInt8} (h : bl[k]? = some c) (h1 : 48 ≤ (c.toNat : Int)) (h2 : (c.toNat : Int) ≤ 55) (ho : octK bl 3 k 0 = (v, e)) : escK bl k = some ([UInt8.ofNat (v % 256)], e) := by
  rw [octK_step h h1 h2] at ho
  have e0 : 8 * 0 + c.toNat - 48 = c.toNat - 48 := by omega
  rw [e0] at ho
  rw [esc_oct h (isO_iff.mpr (by omega)), ho]
theorem sub3 {h₀ h : Heap} {L : Addr} {a b c : Addr × Obj} {l : List (Addr × Obj)} (N : News h₀ L h (a :: b :: c :: l)) : News h₀ L h (a :: b :: l) := news_sub N fun p hp => by
  simp only [List.mem_cons] at hp ⊢
  rcases hp with h | h | h <;> simp [h]
theorem mod_byte {v : Nat} {vi : Int} (h : vi = (v : Int)) : Int.fmod vi 256 = ((UInt8.ofNat (v % 256)).toNat : Int) := by
  subst h
  rw [Int.fmod_eq_emod_of_nonneg _ (by decide)]
  simp
section
variable {w : World} {A : Around} {env : Env} {outer : List Env} {A₀ : Around} {base h₀ : Heap} {L : Addr} {m mg mb : PySem.Str → Option Value} {mean : ExcName → Option Value} {s : Shared} {Q E : Value → Shared → Prop} {news : List (Addr × Obj)} {bl : List UInt8} {tb ti : Tok} {k : Nat} {ki : Int}
set_option maxRecDepth 100000 in
set_option maxHeartbeats 8000000 in
theorem lawesc_P (C : Cx 350 200 w A env outer A₀ base h₀ L m mg mb mean s) (hg : A.guards = some []) (N : News h₀ L s.heap news) (hfit : bl.length ≤ 1000) (hk : ki = (k : Int)) (hle : k ≤ bl.length)
  (ret0 : escK bl k = none → ∀ h' tk2, Fr h₀ L h' m → News h₀ L h' news → Q .none { s with heap := h', toks := tk2 })
  (ret1 : ∀ ev k', escK bl k = some (ev, k') → ∀ tu ls (vs : List Value) n te h' tk2, Fr h₀ L h' m → News h₀ L h' ((tu, tupObj [.ref ls, .int (k' : Nat) te]) :: (ls, W.listOf vs.toArray n) :: news) → IntsAre vs (ev.map fun c => (c.toNat : Int)) → vs.length ≤ 1 → Q (.ref tu) { s with heap := h', toks := tk2 }) :
  wpP (model PR w) A (call (.ref 931) [.bytes bl.toArray tb, .int ki ti]) Q E s := by
  obtain ⟨hh, hf, hdp, hu, hL, hk', B, F, X, T⟩ := C
  refine deepenP 350 200 hh hf hg hdp hu ?_
  subst hk
  rcases hc : bl[k]? with _ | c
  · have hlen : bl.length ≤ k := List.getElem?_eq_none_iff.mp hc
    obtain rfl : k = bl.length := by omega
    have hz := esc_none hc
    refine P_call ?_
    k_dflt ktr_enter
    k_steps
    · exact ret0 hz _ _ (by k_asm) (by k_asm)
    all_goals (exfalso; simp only [List.size_toArray, ne_eq, not_true] at *)
  · have hlen := in_bytes hc
    refine P_call ?_
    k_dflt ktr_enter
    k_steps
    · exfalso; simp only [List.size_toArray] at *; omega
    · refine P_cons (P_while (OctI s ?g ?L tb bl k ?nw) ?turn 3 ?init)
      case init => exact octI k 0 (by k_asm) (by exact rfl) (by exact rfl) (by exact rfl) (by exact rfl) (news_tail (by k_asm)) rfl rfl rfl rfl (by omega) rfl
      case turn =>
        intro n s1 I1
        obtain ⟨h1, tk1, u1, e9, v9, ei9, vi9, ti9, te9, tv9, rfl, F1, N1, hei, hvi, hen, hvb, ho⟩ := I1.out
        clear I1
        dsimp only [mL] at F1
        rcases hc9 : bl[e9]? with _ | c9
        · have hlen9 : bl.length ≤ e9 := List.getElem?_eq_none_iff.mp hc9
          rw [octK_end hc9] at ho
          k_steps
          all_goals exact ret1 _ _ (esc_oct3 hc (by assumption) (by assumption) ho.symm) _ _ _ _ _ _ _ (by k_asm) (tup_as (by first | k_asm | exact sub3 (by k_asm)) hei) (ints_one (mod_byte hvi)) (by simp)
        · have hlen9 := in_bytes hc9
          k_steps
          · obtain ⟨n', rfl⟩ : ∃ n', n = n' + 1 := ⟨n - 1, by omega⟩
            rw [octK_step hc9 (by assumption) (by assumption)] at ho
            exact ⟨⟨n', by omega, octI (e9 + 1) (8 * v9 + c9.toNat - 48) (by k_asm) (by exact rfl) (by exact rfl) (by exact rfl) (by exact rfl) (news_tail (by k_asm)) rfl (by omega) (by omega) (by omega) (by omega) ho⟩⟩
          · rw [octK_stop hc9 (by omega)] at ho
            exact ret1 _ _ (esc_oct3 hc (by assumption) (by assumption) ho.symm) _ _ _ _ _ _ _ (by k_asm) (tup_as (by first | k_asm | exact sub3 (by k_asm)) hei) (ints_one (mod_byte hvi)) (by simp)
          · rw [octK_stop hc9 (by omega)] at ho
            exact ret1 _ _ (esc_oct3 hc (by assumption) (by assumption) ho.symm) _ _ _ _ _ _ _ (by k_asm) (tup_as (by first | k_asm | exact sub3 (by k_asm)) hei) (ints_one (mod_byte hvi)) (by simp)
          · obtain rfl : n = 0 := by omega
            exact ret1 _ _ (esc_oct3 hc (by assumption) (by assumption) ho.symm) _ _ _ _ _ _ _ (by k_asm) (tup_as (by first | k_asm | exact sub3 (by k_asm)) hei) (ints_one (mod_byte hvi)) (by simp)
    all_goals first
      | (exfalso; omega)
      | exact ret1 [] _ (esc_lf hc (by assumption)) _ _ _ _ _ _ _ (by k_asm) (tup_as (by first | k_asm | exact sub3 (by k_asm)) (by omega)) .nil (by simp)
      | (have hs9 := skip_lf (bl := bl) (j := k + 1); rw [if_pos (by assumption)] at hs9; exact ret1 [] _ (esc_cr hc (by assumption)) _ _ _ _ _ _ _ (by k_asm) (tup_as (by first | k_asm | exact sub3 (by k_asm)) (by omega)) .nil (by simp))
      | (have hs9 := skip_lf (bl := bl) (j := k + 1); rw [if_neg (by simp [*])] at hs9; exact ret1 [] _ (esc_cr hc (by assumption)) _ _ _ _ _ _ _ (by k_asm) (tup_as (by first | k_asm | exact sub3 (by k_asm)) (by omega)) .nil (by simp))
      | exact ret1 [meanU c] _ (esc_mean hc (isO_hi (by assumption)) (by assumption) (by assumption)) _ _ _ _ _ _ _ (by k_asm) (tup_as (by first | k_asm | exact sub3 (by k_asm)) (by omega)) (ints_one (meanN (d := _) (by assumption) (by decide) (by decide))) (by simp)
      | exact ret1 [meanU c] _ (esc_mean hc (isO_hi (by assumption)) (by assumption) (by assumption)) _ _ _ _ _ _ _ (by k_asm) (tup_as (by first | k_asm | exact sub3 (by k_asm)) (by omega)) (ints_one (meanO (by omega) (by omega) (by omega) (by omega) (by omega))) (by simp)
      | exact ret1 [meanU c] _ (esc_mean hc (isO_lo (by assumption)) (by assumption) (by assumption)) _ _ _ _ _ _ _ (by k_asm) (tup_as (by first | k_asm | exact sub3 (by k_asm)) (by omega)) (ints_one (meanO (by omega) (by omega) (by omega) (by omega) (by omega))) (by simp)
end
section
variable {prog : Program} {w : World} {A : Around} {E : Value → Shared → Prop} {s : Shared} {h₀ : Heap} {L : Addr} {m : PySem.Str → Option Value} {news : List (Addr × Obj)} {l b : Addr} {vs ws : List Value} {n1 n2 : Nat} {Q : Value → Shared → Prop}
theorem add_K (F : Fr h₀ L s.heap m) (N : News h₀ L s.heap news) (h1 : (l, W.listOf vs.toArray n1) ∈ news) (h2 : (b, W.listOf ws.toArray n2) ∈ news) (hz : vs.length ≤ 1100 ∧ ws.length ≤ 10)
    (h : ∀ D h', Fr h₀ L h' m → News h₀ L h' ((D, W.listOf (vs ++ ws).toArray 0) :: news) → (∀ p ∈ news, p.1 < D) → Q (.ref D) { s with heap := h' }) : wpAny (model prog w) A (binaryOp .Add (.ref l) (.ref b)) Q E s :=
  add_arrays (its := vs.toArray) (its2 := ws.toArray) F N ⟨_, (N _ h1).1, rfl, n1, rfl⟩ ⟨_, (N _ h2).1, rfl, n2, rfl⟩ (fun h' F' N' => h _ h' F' N' fun p hp => Heap.lt_size (N p hp).1) (by rw [List.size_toArray, List.size_toArray, sizeLine_eq]; omega)
theorem app_K {x : Value} {g : Obj → List (Addr × Obj)} (F : Fr h₀ L s.heap m) (N : News h₀ L s.heap news) (U : UpdF l (W.listOf vs.toArray n1) news g) (hz : vs.length ≤ 1100)
    (h : ∀ h', Fr h₀ L h' m → News h₀ L h' (g (W.listOf (vs ++ [x]).toArray (n1 + 1))) → Q .none { s with heap := h' }) : wpAny (model prog w) A (call (.builtin "list.append") [.ref l, x]) Q E s := by
  obtain ⟨pre, post, rfl, hg, u1, u2⟩ := U.split
  have ND := N (l, W.listOf vs.toArray n1) (by simp)
  refine append_at (hsz := by rw [List.size_toArray, sizeLine_eq]; omega) ND.1 fun h' hs ho' => ?_
  have e : vs.toArray.push x = (vs ++ [x]).toArray := by simp
  rw [e] at ho'
  refine h h' (F.change hs ND.2.1 ND.2.2) ?_
  rw [hg]
  exact news_set N u1 u2 hs ho'
theorem bytes_list_K {r : List UInt8} (F : Fr h₀ L s.heap m) (N : News h₀ L s.heap news) (h1 : (l, W.listOf vs.toArray n1) ∈ news) (hi : IntsAre vs (r.map fun c => (c.toNat : Int))) (hz : r.length ≤ 1100) (hh : A.handled = none)
    (h : ∀ h' t k, Fr h₀ L h' m → News h₀ L h' news → Q (.bytes r.toArray t) { s with heap := h', toks := k }) : wpAny (model prog w) A (call (.type "bytes") [.ref l]) Q E s := by
  have hlen := hi.length
  rw [List.length_map] at hlen
  refine bytes_K F N ⟨_, (N _ h1).1, rfl, n1, rfl⟩ hi (fun n hn => ?_) (by rw [sizeLine_eq]; omega) hh (fun h' t k F' N' _ => ?_)
  · obtain ⟨c, _, rfl⟩ := List.mem_map.mp hn
    exact byte_in c
  · have e : (r.map fun c => (c.toNat : Int)).map (fun n => n.toNat.toUInt8) = r := by
      rw [List.map_map]
      conv => rhs; rw [← List.map_id r]
      refine List.map_congr_left fun c _ => ?_
      simp [Nat.toUInt8]
    rw [e]
    exact h h' t k F' N'
end
local macro_rules | `(tactic| walk_at "binaryOp Add ref ref") => `(tactic| (k_here; k_dflt (refine add_K (by k_asm) (by k_asm) (by k_mem) (by k_mem) (by refine ⟨?_, ?_⟩ <;> first | assumption | omega | (simp; done)) ?_); intro D' h' F' N' l1; (try k_lt l1); (try k_sweep)))
local macro_rules | `(tactic| walk_at "call builtin:list.append") => `(tactic| (k_here; (with_reducible show wpAny _ _ (call (Value.builtin _) [Value.ref _, _]) _ _ _); k_dflt (refine app_K (by k_asm) (by k_asm) (by k_updF) (by first | assumption | omega) ?_); intro h' F' N'; (try dsimp only at N'); (try k_sweep)))
local macro_rules | `(tactic| walk_at "call type:bytes") => `(tactic| (k_here; (with_reducible show wpAny _ _ (call (Value.type "bytes") [Value.ref _]) _ _ _); k_dflt (refine bytes_list_K (by k_asm) (by k_asm) (by k_mem) (by assumption) (by assumption) rfl ?_); intro h' t' k' F' N'; (try k_sweep)))
theorem rd_escN {bl f : List UInt8} {n k d : Nat} {c : UInt8} (h : bl[k]? = some c) (hc : (c.toNat : Int) = 92) (he : escK bl (k + 1) = none) : rdK bl n k f d = none := by
  have h1 : c.toNat = 92 := by omega
  cases n with
  | zero => rfl
  | succ n => simp [rdK, h, h1, he]
theorem ints_app {vs ws : List Value} {ns ms : List Int} (h1 : IntsAre vs ns) (h2 : IntsAre ws ms) : IntsAre (vs ++ ws) (ns ++ ms) := by
  induction h1 with
  | nil => exact h2
  | cons n t _ ih => exact .cons n t ih
theorem ints_map {vs ws : List Value} {f e : List UInt8} (h1 : IntsAre vs (f.map fun c => (c.toNat : Int))) (h2 : IntsAre ws (e.map fun c => (c.toNat : Int))) : IntsAre (vs ++ ws) ((f ++ e).map fun c => (c.toNat : Int)) := by
  rw [List.map_append]; exact ints_app h1 h2
theorem lt_of4 {a b c d : Addr} {l : List (Addr × Obj)} (h : @LT.lt Nat _ a d ∧ @LT.lt Nat _ b d ∧ @LT.lt Nat _ c d ∧ AllLt d l) : ∀ p ∈ l, p.1 < d := by
  obtain ⟨_, _, _, h⟩ := h
  induction l with
  | nil => intro p hp; cases hp
  | cons q l ih =>
    intro p hp
    rcases List.mem_cons.mp hp with rfl | hp
    · exact h.1
    · exact ih h.2 p hp
theorem lf_at {bl : List UInt8} {ai : Int} {kk : Nat} (h : ai + 1 = ((kk + 1 : Nat) : Int)) : ai + 1 + (if isLF bl (kk + 1) = true then 1 else 0) = ((skipK bl (kk + 1) : Nat) : Int) := by
  rw [skip_lf]; split <;> omega
theorem deep0 {c : UInt8} {di : Int} {d : Nat} (h : ((di + if ((c.toNat : Int) == 40) = true then 1 else 0) - if ((c.toNat : Int) == 41) = true then 1 else 0) = 0) (hd : di = (d : Int)) (h0 : 0 < d) : d = 1 ∧ (c.toNat : Int) = 41 := by
  simp only [beq_iff_eq] at h
  split at h <;> split at h <;> omega
theorem deepN {bl f : List UInt8} {n k : Nat} {c : UInt8} {di : Int} {d : Nat} (h : ((di + if ((c.toNat : Int) == 40) = true then 1 else 0) - if ((c.toNat : Int) == 41) = true then 1 else 0) ≠ 0) (hd : di = (d : Int)) (h0 : 0 < d) (hc : bl[k]? = some c) (h92 : (c.toNat : Int) ≠ 92) (h13 : (c.toNat : Int) ≠ 13) :
    ∃ d' : Nat, ((di + if ((c.toNat : Int) == 40) = true then 1 else 0) - if ((c.toNat : Int) == 41) = true then 1 else 0) = (d' : Int) ∧ 0 < d' ∧ rdK bl (n + 1) k f d = rdK bl n (k + 1) (f ++ [c]) d' := by
  simp only [beq_iff_eq] at h ⊢
  by_cases e1 : (c.toNat : Int) = 40
  · refine ⟨d + 1, ?_, by omega, rd_open hc e1⟩
    rw [if_pos e1, if_neg (by omega)]; omega
  · by_cases e2 : (c.toNat : Int) = 41
    · rw [if_neg e1, if_pos e2] at h
      refine ⟨d - 1, ?_, by omega, rd_close hc e2 (by omega)⟩
      rw [if_neg e1, if_pos e2]; omega
    · refine ⟨d, ?_, h0, rd_else hc h92 h13 e1 e2⟩
      rw [if_neg e1, if_neg e2]; omega
theorem tup2_as {h₀ h : Heap} {L tu : Addr} {v : Value} {i : Int} {te : Tok} {k' : Nat} {l : List (Addr × Obj)} (N : News h₀ L h ((tu, tupObj [v, .int i te]) :: l)) (e : i = (k' : Int)) : News h₀ L h ((tu, tupObj [v, .int (k' : Nat) te]) :: l) := by subst e; exact N
theorem ledger_esc {h₀ h : Heap} {L : Addr} {z a b c d : Addr × Obj} {l : List (Addr × Obj)} (N : News h₀ L h (z :: a :: b :: c :: d :: l)) : News h₀ L h (a :: l) := news_sub N fun p hp => by
  simp only [List.mem_cons] at hp ⊢
  rcases hp with h | h <;> simp [h]
theorem ledger_2 {h₀ h : Heap} {L : Addr} {z a : Addr × Obj} {l : List (Addr × Obj)} (N : News h₀ L h (z :: a :: l)) : News h₀ L h (z :: l) := news_sub N fun p hp => by
  simp only [List.mem_cons] at hp ⊢
  rcases hp with h | h <;> simp [h]
structure RdI (s₀ : Shared) (g : Heap) (L : Addr) (tb : Tok) (bl : List UInt8) (news : List (Addr × Obj)) (R : Option (List UInt8 × Nat)) (n : Nat) (s : Shared) : Prop where
  out : ∃ (h : Heap) (tk : Nat) (u : PySem.Str → Option Value) (f : List UInt8) (vs : List Value) (nn k d : Nat) (fl : Addr) (ai di : Int) (ta td : Tok), s = { s₀ with heap := h, toks := tk } ∧
    Fr g L h (mL [(Str.ofString "octets", .bytes bl.toArray tb), (Str.ofString "found", .ref fl), (Str.ofString "at", .int ai ta), (Str.ofString "deep", .int di td)] u) ∧ News g L h ((fl, W.listOf vs.toArray nn) :: news) ∧
    IntsAre vs (f.map fun c => (c.toNat : Int)) ∧ ai = (k : Int) ∧ di = (d : Int) ∧ 0 < d ∧ bl.length < n + k ∧ f.length + n ≤ bl.length + 1 ∧ rdK bl n k f d = R ∧ (∀ p ∈ news, p.1 < fl)
theorem rdI {s₀ : Shared} {g h : Heap} {L fl : Addr} {tb ta td : Tok} {bl : List UInt8} {n tk nn : Nat} {news : List (Addr × Obj)} {R : Option (List UInt8 × Nat)} {u : PySem.Str → Option Value} {ai di : Int} {vs : List Value} (f : List UInt8) (k d : Nat)
    (F : Fr g L h u) (h1 : u (Str.ofString "octets") = some (.bytes bl.toArray tb)) (h2 : u (Str.ofString "found") = some (.ref fl)) (h3 : u (Str.ofString "at") = some (.int ai ta)) (h4 : u (Str.ofString "deep") = some (.int di td))
    (N : News g L h ((fl, W.listOf vs.toArray nn) :: news)) (hi : IntsAre vs (f.map fun c => (c.toNat : Int))) (ha : ai = (k : Int)) (hd : di = (d : Int)) (hd0 : 0 < d) (hn : bl.length < n + k) (hf : f.length + n ≤ bl.length + 1) (hr : rdK bl n k f d = R) (hl : ∀ p ∈ news, p.1 < fl) :
    RdI s₀ g L tb bl news R n { s₀ with heap := h, toks := tk } := by
  refine ⟨⟨h, tk, u, f, vs, nn, k, d, fl, ai, di, ta, td, rfl, fr_mL F ?_, N, hi, ha, hd, hd0, hn, hf, hr, hl⟩⟩
  simp only [List.forall_mem_cons, List.not_mem_nil, false_implies, implies_true, and_true]
  exact ⟨h1, h2, h3, h4⟩
local macro_rules | `(tactic| walk_at "wpP") => `(tactic| (k_here; first | ((with_reducible show wpP _ _ (call (Value.builtin "list.append") _) _ _ _); k_dflt (refine P_any ?_)) | ((with_reducible show wpP _ _ (execs (Stmt.Assign [Expr.Name (Str.ofString "told") _] (Expr.Call (Expr.Name (Str.ofString "_law_escape") _) _ _ _) _ :: _) _) _ _ _); k_dflt (refine P_cons (P_Assign (P_Call_Name (P_any ?_))))) | ((with_reducible show wpP _ _ (call (Value.ref 931) _) _ _ _); k_dflt (refine lawesc_P (Cx.mk rfl rfl (Nat.le_of_ble_eq_true rfl) (Nat.le_of_ble_eq_true rfl) rfl rfl (by k_asm) (by k_asm) (by k_asm) (by k_asm)) rfl (by k_asm) (by assumption) (by assumption) (by omega) (fun hz' h' tk2' F' N' => ?_) (fun ev' ke' he' tu' ls' vs' n' te' h' tk2' F' N' hi' hv' => ?_)); (all_goals (try k_sweep)))))
section
variable {w : World} {A : Around} {env : Env} {outer : List Env} {A₀ : Around} {base h₀ : Heap} {L : Addr} {m mg mb : PySem.Str → Option Value} {mean : ExcName → Option Value} {s : Shared} {Q E : Value → Shared → Prop} {news : List (Addr × Obj)} {bl : List UInt8} {tb : Tok}
set_option maxRecDepth 100000 in
set_option maxHeartbeats 8000000 in
theorem lawread_P (C : Cx 340 150 w A env outer A₀ base h₀ L m mg mb mean s) (hg : A.guards = some []) (N : News h₀ L s.heap news) (hfit : bl.length ≤ 1000)
  (ret0 : rdK bl (bl.length + 1) 1 [] 1 = none → ∀ h' tk2, Fr h₀ L h' m → News h₀ L h' news → Q .none { s with heap := h', toks := tk2 })
  (ret1 : ∀ r e, rdK bl (bl.length + 1) 1 [] 1 = some (r, e) → ∀ tu t te h' tk2, Fr h₀ L h' m → News h₀ L h' ((tu, tupObj [.bytes r.toArray t, .int (e : Nat) te]) :: news) → Q (.ref tu) { s with heap := h', toks := tk2 }) :
  wpP (model PR w) A (call (.ref 938) [.bytes bl.toArray tb]) Q E s := by
  obtain ⟨hh, hf, hdp, hu, hL, hk', B, F, X, T⟩ := C
  refine deepenP 340 150 hh hf hg hdp hu ?_
  refine P_call ?_
  k_dflt ktr_enter
  k_steps
  refine P_cons (P_while (RdI s ?g ?L tb bl news (rdK bl (bl.length + 1) 1 [] 1)) ?turn (bl.length + 1) ?init)
  case init => exact rdI (vs := []) [] 1 1 (by k_asm) (by exact rfl) (by exact rfl) (by exact rfl) (by exact rfl) (news_tail (by k_asm)) .nil rfl rfl (by omega) (by omega) (by simp) rfl (by assumption)
  case turn =>
    intro n s1 I1
    obtain ⟨h1, tk1, u1, f9, vs9, nn9, kk, d9, fl, ai9, di9, ta9, td9, rfl, F1, N1, hi9, ha9, hd9, hd0, hn9, hf9, hr9, hl9⟩ := I1.out
    clear I1
    dsimp only [mL] at F1
    have hk1 : ai9 + 1 = ((kk + 1 : Nat) : Int) := by omega
    have hln : vs9.length = f9.length := by have := hi9.length; simpa using this
    have l19 := allLt_of hl9
    rcases hc9 : bl[kk]? with _ | c
    · have hlen9 : bl.length ≤ kk := List.getElem?_eq_none_iff.mp hc9
      rw [rd_end hc9] at hr9
      k_steps
      all_goals exact ret0 hr9.symm _ _ (by k_asm) (news_tail (by k_asm))
    · have hlen9 := in_bytes hc9
      have hz9 : vs9.length ≤ 1100 := by omega
      have hz8 : f9.length ≤ 1100 := by omega
      obtain ⟨n', rfl⟩ : ∃ n', n = n' + 1 := ⟨n - 1, by omega⟩
      k_steps
      · exact ret0 (hr9.symm.trans (rd_escN hc9 (by assumption) (by assumption))) _ _ (by k_asm) (news_tail (by k_asm))
      · have e1 := esc_one (by assumption)
        have e2 := escK_ge (by assumption)
        exact ⟨⟨n', by omega, rdI (f9 ++ _) _ d9 (by k_asm) (by exact rfl) (by exact rfl) (by exact rfl) (by exact rfl) (ledger_esc (by k_asm)) (ints_map hi9 (by assumption)) rfl hd9 hd0 (by omega) (by rw [List.length_append]; omega) ((rd_esc hc9 (by assumption) (by assumption)).symm.trans hr9) (lt_of4 (by assumption))⟩⟩
      · have e1 := skipK_ge bl (kk + 1)
        exact ⟨⟨n', by omega, rdI (f9 ++ [10]) _ d9 (by k_asm) (by exact rfl) (by exact rfl) (by exact rfl) (by exact rfl) (by k_asm) (ints_map hi9 (ints_one (by decide))) (lf_at hk1) hd9 hd0 (by omega) (by simp; omega) ((rd_cr hc9 (by assumption)).symm.trans hr9) hl9⟩⟩
      · obtain ⟨rfl, h41⟩ := deep0 (by assumption) hd9 hd0
        exact ret1 _ _ (hr9.symm.trans (rd_close1 hc9 h41)) _ _ _ _ _ (by k_asm) (tup2_as (ledger_2 (by k_asm)) hk1)
      · obtain ⟨d', ed, hd', er⟩ := deepN (n := n') (f := f9) (by assumption) hd9 hd0 hc9 (by assumption) (by assumption)
        exact ⟨⟨n', by omega, rdI (f9 ++ [c]) (kk + 1) d' (by k_asm) (by exact rfl) (by exact rfl) (by exact rfl) (by exact rfl) (by k_asm) (ints_map hi9 (ints_one rfl)) hk1 ed hd' (by omega) (by simp; omega) (er.symm.trans hr9) hl9⟩⟩
end
/-! the reading of the second text: a blank ahead, cut at the end, more behind -/
section
variable {bl cl : List UInt8}
theorem rdK_ge : ∀ {n k d : Nat} {f : List UInt8} {r : List UInt8} {e : Nat}, rdK bl n k f d = some (r, e) → k + 1 ≤ e ∧ e ≤ bl.length := by
  intro n
  induction n with
  | zero => intro k d f r e h; cases h
  | succ n ih =>
    intro k d f r e h
    unfold rdK at h
    split at h
    · cases h
    · rename_i c hc
      have hk : k < bl.length := (List.getElem?_eq_some_iff.mp hc).1
      split at h
      · split at h
        · cases h
        · rename_i ev k' he
          have := escK_ge he
          have := ih h
          omega
      · split at h
        · have := skipK_ge bl (k + 1)
          have := ih h
          omega
        · split at h
          · have := ih h; omega
          · split at h
            · split at h
              · simp only [Option.some.injEq, Prod.mk.injEq] at h; omega
              · have := ih h; omega
            · have := ih h; omega
theorem skipK_on {k e : Nat} (hs : ∀ i, i < e → cl[i + 1]? = bl[i]?) (h : skipK bl k < e) : skipK cl (k + 1) = skipK bl k + 1 := by
  have := skipK_ge bl k
  unfold skipK
  rw [hs k (by omega)]
  split <;> (try split) <;> rfl
theorem octK_on {e : Nat} (hs : ∀ i, i < e → cl[i + 1]? = bl[i]?) : ∀ (n k v : Nat), (octK bl n k v).2 < e → octK cl n (k + 1) v = ((octK bl n k v).1, (octK bl n k v).2 + 1)
  | 0, _, _, _ => rfl
  | n + 1, k, v, h => by
    have hge := octK_ge bl (n + 1) k v
    have hk := hs k (by omega)
    rcases hc : bl[k]? with _ | c
    · simp only [octK, hk, hc]
    · rw [hc] at hk
      by_cases hd : 48 ≤ c.toNat ∧ c.toNat ≤ 55
      · simp only [octK, hc, if_pos hd] at h
        simp only [octK, hk, hc, if_pos hd]; exact octK_on hs n (k + 1) _ h
      · simp only [octK, hk, hc, if_neg hd]
theorem escK_on {k e k' : Nat} {ev : List UInt8} (hs : ∀ i, i < e → cl[i + 1]? = bl[i]?) (h : escK bl k = some (ev, k')) (hk : k' < e) : escK cl (k + 1) = some (ev, k' + 1) := by
  have := escK_ge h
  have hk' := hs k (by omega)
  unfold escK at h ⊢
  rw [hk']
  rcases hc : bl[k]? with _ | c
  · rw [hc] at h; cases h
  · rw [hc] at h
    dsimp only at h ⊢
    split at h <;> rename_i h1
    · rw [if_pos h1]
      simp only [Option.some.injEq, Prod.mk.injEq] at h
      rw [octK_on hs 2 (k + 1) _ (by omega)]
      simp only [h.1, h.2]
    · rw [if_neg h1]
      split at h <;> rename_i h2
      · rw [if_pos h2]
        simp only [Option.some.injEq, Prod.mk.injEq] at h
        rw [skipK_on hs (by omega), h.1, h.2]
      · rw [if_neg h2]
        split at h <;> rename_i h3
        · rw [if_pos h3]; simp only [Option.some.injEq, Prod.mk.injEq] at h; rw [h.1, h.2]
        · rw [if_neg h3]; simp only [Option.some.injEq, Prod.mk.injEq] at h; rw [h.1, h.2]
theorem rdK_on {e : Nat} {r : List UInt8} (hs : ∀ i, i < e → cl[i + 1]? = bl[i]?) : ∀ {n k d : Nat} {f : List UInt8}, rdK bl n k f d = some (r, e) → rdK cl n (k + 1) f d = some (r, e + 1) := by
  intro n
  induction n with
  | zero => intro k d f h; cases h
  | succ n ih =>
    intro k d f h
    have hge := rdK_ge h
    have hk' := hs k (by omega)
    unfold rdK at h ⊢
    rw [hk']
    rcases hc : bl[k]? with _ | c
    · rw [hc] at h; cases h
    · rw [hc] at h
      dsimp only at h ⊢
      split at h <;> rename_i h1
      · rw [if_pos h1]
        split at h <;> rename_i he
        · cases h
        · rename_i ev k'
          have := rdK_ge h
          rw [escK_on hs he (by omega)]
          exact ih h
      · rw [if_neg h1]
        split at h <;> rename_i h2
        · rw [if_pos h2]
          have := rdK_ge h
          rw [skipK_on hs (by omega)]
          exact ih h
        · rw [if_neg h2]
          split at h <;> rename_i h3
          · rw [if_pos h3]; exact ih h
          · rw [if_neg h3]
            split at h <;> rename_i h4
            · rw [if_pos h4]
              split at h <;> rename_i h5
              · rw [if_pos h5]; simp only [Option.some.injEq, Prod.mk.injEq] at h; rw [h.1, ← h.2]
              · rw [if_neg h5]; exact ih h
            · rw [if_neg h4]; exact ih h
/-- more steps change nothing -/
theorem rdK_more : ∀ {n k d : Nat} {f : List UInt8} {R : List UInt8 × Nat}, rdK bl n k f d = some R → ∀ m, rdK bl (n + m) k f d = some R := by
  intro n
  induction n with
  | zero => intro k d f R h; cases h
  | succ n ih =>
    intro k d f R h m
    rw [Nat.add_right_comm]
    unfold rdK at h ⊢
    rcases hc : bl[k]? with _ | c
    · rw [hc] at h; cases h
    · rw [hc] at h
      dsimp only at h ⊢
      split at h <;> rename_i h1
      · rw [if_pos h1]
        split at h <;> rename_i he
        · cases h
        · first | exact ih h m | (rw [he]; exact ih h m)
      · rw [if_neg h1]
        split at h <;> rename_i h2
        · rw [if_pos h2]; exact ih h m
        · rw [if_neg h2]
          split at h <;> rename_i h3
          · rw [if_pos h3]; exact ih h m
          · rw [if_neg h3]
            split at h <;> rename_i h4
            · rw [if_pos h4]
              split at h <;> rename_i h5
              · rw [if_pos h5]; exact h
              · rw [if_neg h5]; exact ih h m
            · rw [if_neg h4]; exact ih h m
theorem again_get {e : Nat} {t : List UInt8} (he : e ≤ bl.length) : ∀ i, i < e → (32 :: bl.take e ++ t)[i + 1]? = bl[i]? := fun i hi => by
  rw [List.cons_append, List.getElem?_cons_succ, List.getElem?_append_left (by rw [List.length_take]; omega), List.getElem?_take_of_lt hi]
theorem rdK_again {n k d e : Nat} {f r t : List UInt8} (h : rdK bl n k f d = some (r, e)) : rdK (32 :: bl.take e ++ t) n (k + 1) f d = some (r, e + 1) :=
  rdK_on (again_get (rdK_ge h).2) h
end
section
variable {prog : Program} {w : World} {s : Shared} {K : Frag} {p : Program} {loose : List PySem.Str} {mean : ExcName → Option Value} {mg mb : PySem.Str → Option Value}
theorem P_topC {R : Result → Shared → Prop} {name qual : PySem.Str} {params : Arguments} {body : List Stmt} {scope : Scope} {dV kV doc pm cdv ct oc : Value} {an od : Option Addr} {osl : Array (Option Value)} {f : Addr} {args : Args} {binds : List (PySem.Str × Value)}
    (X : K.In s.heap) (T : Top p loose mean mg mb s.heap)
    (ho : K.lookup f = some ⟨oc, od, .func (fnOf name qual params body scope dV kV doc pm an cdv ct), osl⟩) (hcd : codeIn K cdv qual = true)
    (hbind : BindsTo s (fnOf name qual params body scope dV kV doc pm an cdv ct) args binds) (hkind : (binds.all fun y => scope.names.lookup y.1 == some .local || scope.names.lookup y.1 == some .cell) = true)
    (hnd : ((cellsFrom 0 scope.names []).map (·.1)).Nodup)
    (h : ∀ L' h₁ tk cells, Fr s.heap L' h₁ (bindL (envOfC qual scope L' f cdv).kindOf binds fun _ => none) → News s.heap L' h₁ cells →
      CellsAre (bindC (envOfC qual scope L' f cdv).kindOf binds fun _ => none) (cellsFrom (L' + 1) scope.names []) cells → Below callerA s.heap [] s.heap → K.In s.heap → Top p loose mean mg mb s.heap →
      wpP (model prog w) (callerA.deeper (envOfC qual scope L' f cdv)) (execs body (envOfC qual scope L' f cdv))
        (fun fl s' => R (.ok (.ret (match fl with | .ret v => v | _ => .none))) s')
        (fun e s' => wpAny (model prog w) (callerA.deeper (envOfC qual scope L' f cdv)) (leaving (envOfC qual scope L' f cdv) e) (fun _ s'' => R (.error e) s'') (fun e' s'' => R (.error e') s'') s')
        { s with heap := h₁, toks := tk })
    (hco : scope.isCoroutine = false) (hgen : scope.isGenerator = false) (hk : scope.kind = .function) : codeP (model prog w) callerA (.call (.ref f) args) R s := by
  refine P_call_fn (by decide) (X _ _ ho) rfl hco hgen rfl (codeRec_of X hcd) (hbind _ _ _ _ ?_)
  refine wpAny_newFunctionEnv_cells hk (kindsX hkind _) fun env' he s' x => ?_
  subst he
  refine ⟨T.nolimit.keeps x.toInCall.keep, P_func ?_⟩
  obtain ⟨h₁, tk, rfl, _⟩ := x.done
  have hk₁ := x.toInCall.keep
  obtain ⟨cells, NC, Y⟩ := Cl.news (h₀ := s.heap) (Nat.le_refl _) fun n c hm => ⟨x.cell n c (lookup_of_mem_nodup (cellsFrom_names scope.names 0 (s.heap.objs.size + 1) [] [] rfl ▸ hnd) hm), x.above n c hm⟩
  exact h s.heap.objs.size h₁ tk cells ⟨x.toInCall.ns, hk₁, Nat.le_refl _⟩ NC Y (below_caller _) X T
end
inductive BytesAre : List Value → List (List UInt8) → Prop
  | nil : BytesAre [] []
  | cons (b : List UInt8) (t : Tok) {vs bs} : BytesAre vs bs → BytesAre (.bytes b.toArray t :: vs) (b :: bs)
theorem BytesAre.length {vs : List Value} {bs : List (List UInt8)} (h : BytesAre vs bs) : vs.length = bs.length := by
  induction h with
  | nil => rfl
  | cons b t _ ih => simp [ih]
theorem BytesAre.app {vs ws : List Value} {bs cs : List (List UInt8)} (h1 : BytesAre vs bs) (h2 : BytesAre ws cs) : BytesAre (vs ++ ws) (bs ++ cs) := by
  induction h1 with
  | nil => exact h2
  | cons b t _ ih => exact .cons b t ih
theorem BytesAre.at {vs : List Value} {bs : List (List UInt8)} (h : BytesAre vs bs) : ∀ {i : Nat} {b : List UInt8}, bs[i]? = some b → ∃ t, vs[i]? = some (.bytes b.toArray t) := by
  induction h with
  | nil => intro i b e; simp at e
  | cons c t _ ih =>
    intro i b e
    cases i with
    | zero => simp at e; subst e; exact ⟨t, rfl⟩
    | succ i => simp at e; exact ih e
theorem BytesAre.off {vs : List Value} {bs : List (List UInt8)} (h : BytesAre vs bs) : ∀ v ∈ vs, Value.onHeap v = false := by
  induction h with
  | nil => intro v hv; cases hv
  | cons b t _ ih =>
    intro v hv
    rcases List.mem_cons.mp hv with rfl | hv
    · rfl
    · exact ih v hv
namespace F
theorem by_join : Slot "bytes" "join" "bytes.join" :=
  .of (owner := "bytes") (n := "join") (by rw [typeLookup_type, builtinLookup_eq_fast]; kernel_rfl) (by decide +kernel) (by decide +kernel) (by decide +kernel)
    (by first | exact .inl (by decide +kernel) | exact .inr (by decide +kernel)) (by rw [isSubtype_type]; kernel_rfl)
theorem by_entry_join : entryFor table "bytes.join" = some Builtin.«bytes.join» := by first | exact entryFor_of_fast (by kernel_rfl) | exact entryFor_of_tree (by kernel_rfl)
theorem by_type_join : typeOf (.builtin "bytes.join") = pure (.type "method_descriptor") := by show builtinType _ = _; rw [builtinType_eq_fast]; kernel_rfl
theorem by_args_join (a b : Value) : argsOk "bytes.join" ⟨[a, b], []⟩ := by
  unfold argsOk; rw [signature?_of (id := "bytes.join") (n := ['n', 'i', 'o', 'j']) (o := ['s', 'e', 't', 'y', 'b']) (by kernel_rfl) FB.owner_bytes]; kernel_rfl
end F
section
variable {prog : Program} {w : World} {A : Around} {E : Value → Shared → Prop} {s : Shared}
theorem by_take {b : Array UInt8} {t : Tok} {h : Heap} {id : String} : Looks (model prog w) h (Builtin.Bytes.takeBufferQuiet? id (.bytes b t) 0) (some (b, none)) :=
  Looks.of_peek (K := []) (fun _ _ e => nomatch e) (by kernel_rfl)
theorem joinLetGo_any {Q : Unit → Shared → Prop} : ∀ (taken : List (Value × Option Value)) (keep : List Value), (∀ p ∈ taken, p.2 = none) → Q () s → wpAny (model prog w) A (Builtin.Bytes.joinLetGo taken keep) Q E s
  | [], _, _, h => wpAny_pure h
  | (x, wn) :: rest, keep, hn, h => by
    obtain rfl : wn = none := hn (x, wn) (.head _)
    unfold Builtin.Bytes.joinLetGo
    refine wpAny_bind ?_
    dsimp only
    first | exact wpAny_letGo (joinLetGo_any rest keep (fun p hp => hn p (.tail _ hp)) h) | exact wpAny_pure (wpAny_bind (wpAny_letGo (joinLetGo_any rest keep (fun p hp => hn p (.tail _ hp)) h)))
theorem joined_nil : ∀ (l : List (Array UInt8)) (k : Nat) (acc : Array UInt8), ((l.zipIdx k).foldl (fun out (p, i) => (if i > 0 then out ++ #[] else out) ++ p) acc) = acc ++ (l.map (·.toList)).flatten.toArray
  | [], _, acc => by simp
  | p :: l, k, acc => by
    rw [List.zipIdx_cons, List.foldl_cons, joined_nil l (k + 1)]
    dsimp only
    have : (if k > 0 then acc ++ (#[] : Array UInt8) else acc) = acc := by split <;> simp
    rw [this]
    simp
    rw [← List.append_toArray]
theorem size_fold : ∀ (l : List (List UInt8)) (a : Nat), (l.map (·.toArray)).foldl (fun x p => x + p.size) a = a + l.flatten.length
  | [], a => by simp
  | p :: l, a => by
    rw [List.map_cons, List.foldl_cons, size_fold l]
    simp; omega
theorem join_entry {l : Addr} {vs : List Value} {bs : List (List UInt8)} {n : Nat} {u : Tok} {Q : PySem.Fin → Shared → Prop} (hl : s.heap.get? l = some (W.listOf vs.toArray n)) (hv : BytesAre vs bs) (hz : bs.flatten.length ≤ 1000)
    (h : ∀ t k, Q (.done (.ret (.bytes bs.flatten.toArray t))) { s with toks := k }) : wpAny (model prog w) A (Builtin.«bytes.join» ⟨[.bytes #[] u, .ref l], []⟩) Q E s := by
  have hT : s.TypeIs (.ref l) "list" := ⟨_, hl, rfl⟩
  show wpAny _ _ (Builtin.Bytes.joinM .bytes _) _ _ _
  unfold Builtin.Bytes.joinM
  refine wpAny_bind (wpAny_of_eq (a := (.bytes #[] u, .ref l)) rfl ?_)
  dsimp only
  rw [if_pos (by decide)]
  unfold Builtin.Bytes.joinItems
  refine wpAny_bind (wpAny_bind (wpAny_typeOf hT ?_))
  refine wpAny_pure ?_
  have hit : ∀ {Q' : Option (Array Value) → Shared → Prop}, Q' (some vs.toArray) s → wpAny (model prog w) A (seqItems? (.ref l)) Q' E s := fun hq => wpAny_seqItems hl rfl hq
  refine wpAny_bind (hit ?_)
  dsimp only
  rw [if_pos (by decide)]
  have hlen := hv.length
  by_cases h1 : ∃ x, vs = [x]
  · obtain ⟨x, rfl⟩ := h1
    cases hv with
    | cons b t hv' =>
      cases hv'
      refine wpAny_bind (wpAny_typeOf (PySem.W.typeIs_bytes _ _ _) ?_)
      rw [if_pos (by decide)]
      refine wpAny_bind (wpAny_rule (wpAny_pure ?_))
      have e9 : ([b] : List (List UInt8)).flatten = b := by simp
      have := h t s.toks
      rw [e9] at this
      exact this
  · have hb : ∀ (a : Value → Sem PySem.Fin) (c : Unit → Sem PySem.Fin), wpAny (model prog w) A (c ()) Q E s → wpAny (model prog w) A (match vs.toArray with | #[x] => a x | _ => c ()) Q E s := by
      intro a c hc
      rcases vs with _ | ⟨x, _ | ⟨y, rest⟩⟩
      · exact hc
      · exact absurd ⟨x, rfl⟩ h1
      · exact hc
    refine hb _ (fun _ => _) ?_
    refine wpAny_bind ?_
    rw [Std.Legacy.Range.forIn_eq_forIn_range']
    refine wpAny_forIn_list _ (fun rest (b : Array (Array UInt8) × List (Value × Option Value)) s' => ∃ i, rest = List.range' i (vs.length - i) ∧ i ≤ vs.length ∧ s' = s ∧ b = (((bs.take i).map (·.toArray)).toArray, (vs.take i).map fun v => (v, (none : Option Value)))) _ (fun x rest b s' hI => ?_) (fun b s' hI => ?_) _ _ ⟨0, by simp [Std.Legacy.Range.size], by omega, rfl, by simp⟩
    · obtain ⟨i, hr, hi, rfl, rfl⟩ := hI
      have hlt : i < vs.length := by
        rcases Nat.lt_or_ge i vs.length with h | h
        · exact h
        · rw [Nat.sub_eq_zero_of_le h] at hr; cases hr
      obtain ⟨k, hk⟩ : ∃ k, vs.length - i = k + 1 := ⟨vs.length - i - 1, by omega⟩
      rw [hk, List.range'_succ] at hr
      obtain ⟨rfl, rfl⟩ := List.cons.inj hr
      obtain ⟨c, hc⟩ : ∃ c, bs[x]? = some c := ⟨_, List.getElem?_eq_getElem (by omega)⟩
      obtain ⟨t, ht⟩ := hv.at hc
      have hx : vs.toArray.getD x Value.none = .bytes c.toArray t := by
        rw [Array.getD_eq_getD_getElem?]
        simp [ht]
      refine wpAny_bind (hit ?_)
      dsimp only
      rw [if_neg (by
        have z : (List.any ((vs.take x).map fun v => (v, (none : Option Value))) fun x => Value.onHeap x.fst) = false := by
          rw [List.any_eq_false]
          intro p hp
          obtain ⟨v, hv1, rfl⟩ := List.mem_map.mp hp
          rw [hv.off v (List.mem_of_mem_take hv1)]
          exact Bool.false_ne_true
        rw [z]
        decide)]
      rw [hx]
      refine wpAny_bind (wpAny_holding (by_take.here ?_))
      dsimp only
      refine wpAny_bind (hit ?_)
      dsimp only
      rw [if_neg (by simp)]
      refine wpAny_pure ⟨x + 1, ?_, by omega, rfl, ?_⟩
      · rw [show vs.length - (x + 1) = k by omega]
      · rw [List.take_add_one, hc, List.take_add_one, ht]
        simp
    · obtain ⟨i, hr, hi, rfl, rfl⟩ := hI
      have hil : i = vs.length := by
        have := congrArg List.length hr
        simp at this
        omega
      subst hil
      rw [List.take_of_length_le (Nat.le_refl _), show bs.take vs.length = bs from List.take_of_length_le (by omega)]
      refine wpAny_bind (wpAny_of_eq (a := #[]) rfl ?_)
      have hsz : Builtin.Bytes.tooLong (Array.foldl (fun x1 x2 => x1 + Array.size x2) (Array.size (#[] : Array UInt8) * (Array.size (List.map (fun x => List.toArray x) bs).toArray - 1)) (List.map (fun x => List.toArray x) bs).toArray) = false := by
        unfold Builtin.Bytes.tooLong
        rw [List.foldl_toArray', size_fold, sizeLine_eq]
        rw [List.length_flatten] at hz
        simp; omega
        rfl
      dsimp only
      rw [hsz]
      simp only [Bool.false_eq_true, if_false]
      have hj : Builtin.Bytes.joined #[] (List.map (fun x => List.toArray x) bs) = bs.flatten.toArray := by
        unfold Builtin.Bytes.joined
        rw [joined_nil, List.map_map]
        have e9 : (fun x : Array UInt8 => x.toList) ∘ (fun x : List UInt8 => x.toArray) = id := by funext x; rfl
        rw [e9, List.map_id]
        simp
      rw [hj]
      refine wpAny_bind (wpAny_mkBytes ?_ (by rw [List.size_toArray, sizeLine_eq]; omega))
      refine wpAny_bind (wpAny_holding (wpAny_point ?_))
      refine wpAny_bind (joinLetGo_any _ _ (fun p hp => ?_) ?_)
      · obtain ⟨v, _, rfl⟩ := List.mem_map.mp hp; rfl
      · exact wpAny_pure (h _ _)
theorem join_K {h₀ : Heap} {L : Addr} {news : List (Addr × Obj)} {l : Addr} {vs : List Value} {bs : List (List UInt8)} {u : Tok} {Q : Value → Shared → Prop} (N : News h₀ L s.heap news) (hm : (l, LCg.lst vs) ∈ news) (hv : BytesAre vs bs) (hz : bs.flatten.length ≤ 1000)
    (h : ∀ t k, Q (.bytes bs.flatten.toArray t) { s with toks := k }) : wpAny (model prog w) A (call (.builtin "bytes.join") [.bytes #[] u, .ref l]) Q E s :=
  wpAny_call (codeAny_call_builtin F.by_join.plain F.by_entry_join (F.by_join.check _ _ _ _ _ _ _ _ (PySem.W.typeIs_bytes _ _ _) (F.by_args_join _ _) (join_entry (n := vs.length) (N _ hm).1 hv hz h)))
theorem join_meth {pl : Sem Bool} {Q : Value × List Value → Shared → Prop} {b : Array UInt8} {t : Tok} (h : Q (.builtin "bytes.join", [.bytes b t]) s) : wpAny (model prog w) A (getMethod (.bytes b t) (Str.ofString "join") pl) Q E s :=
  getMethod_builtin (PySem.W.typeIs_bytes _ _ _) FB.plainAttrs_bytes F.by_join F.by_type_join (fun _ e => nomatch e) h
end
local macro_rules | `(tactic| walk_at "getMethod bytes") => `(tactic| (k_here; (with_reducible show wpAny _ _ (getMethod (Value.bytes _ _) (Str.ofString "join") _) _ _ _); k_dflt (refine join_meth ?_)))
local macro_rules | `(tactic| walk_at "call builtin:bytes.join") => `(tactic| (k_here; k_dflt (refine join_K (by k_asm) (by k_mem) (by assumption) (by omega) ?_); intro t' k'))
section
variable {w : World} {A : Around} {env : Env} {outer : List Env} {A₀ : Around} {base h₀ : Heap} {L : Addr} {m mg mb : PySem.Str → Option Value} {mean : ExcName → Option Value} {s : Shared} {Q E : Value → Shared → Prop} {news : List (Addr × Obj)} {g : Obj → List (Addr × Obj)}
  {dk cl : Addr} {od : Obj} {ys : List Value} {ns : List Int} {a b : Int} {ta tb : Tok}
abbrev deckKv (cl : Addr) (a : Int) (ta : Tok) : List (PySem.Str × Value) := [(Str.ofString "cells", .ref cl), (Str.ofString "at", .int a ta)]
theorem fm_in {x b : Int} (hb : 0 < b) : 0 ≤ Int.fmod x b ∧ Int.fmod x b < b := by
  rw [Int.fmod_eq_emod_of_nonneg _ (Int.le_of_lt hb)]
  exact ⟨Int.emod_nonneg _ (by omega), Int.emod_lt_of_pos _ hb⟩
set_option maxRecDepth 100000 in
set_option maxHeartbeats 8000000 in
theorem draw_any (C : Cx 350 300 w A env outer A₀ base h₀ L m mg mb mean s) (N : News h₀ L s.heap news) (U : UpdF dk od news g) (hd' : Obj.IsDictOf (strKind PR w) od (deckKv cl a ta)) (hc : (cl, LCg.lst ys) ∈ news) (hne : @Ne Nat cl dk)
  (hi : IntsAre ys ns) (hlen : ns.length ≤ 63) (ha : 0 ≤ a ∧ a ≤ 100) (hb : 0 < b ∧ b ≤ 2000)
  (ret : ∀ r t h' od' ta' tk2, 0 ≤ r → r < b → Fr h₀ L h' m → News h₀ L h' (g od') → Obj.IsDictOf (strKind PR w) od' (deckKv cl (a + 1) ta') → Q (.int r t) { s with heap := h', toks := tk2 }) :
  wpAny (model PR w) A (call (.ref 924) [.ref dk, .int b tb]) Q E s := by
  obtain ⟨hh, hf, hdp, hu, hL, hk, B, F, X, T⟩ := C
  refine deepen 350 300 hh hf hdp hu ?_
  obtain ⟨rest, Nc, hoff, back⟩ := canon N hc U
  clear N hc U
  have hly := hi.length
  obtain ⟨an, ha, han⟩ : ∃ an : Nat, a = (an : Int) ∧ an ≤ 100 := ⟨a.toNat, by omega, by omega⟩
  refine wpAny_call ?_
  k_dflt ktr_enter
  k_steps
  all_goals first
    | exact ret _ _ _ _ _ _ (fm_in hb.1).1 (fm_in hb.1).2 (by k_asm) (back _ _ (by first | k_asm | exact news_tail (by k_asm) | exact news_tail (news_tail (by k_asm)))) (by assumption)
    | (exfalso
       have e9 : ns = [] := List.length_eq_zero_iff.mp (by omega)
       exact absurd (decide_eq_true e9) (by rw [show decide (ns = []) = false by assumption]; exact Bool.false_ne_true))
end
local macro_rules | `(tactic| walk_at "call ref") => `(tactic| (k_here; (with_reducible show wpAny _ _ (call (Value.ref 924) _) _ _ _); k_dflt (refine draw_any (Cx.mk rfl rfl (Nat.le_of_ble_eq_true rfl) (Nat.le_of_ble_eq_true rfl) rfl rfl (by k_asm) (by k_asm) (by k_asm) (by k_asm)) (by k_asm) (by k_updF) (by assumption) (by k_mem) (by omega) (by assumption) (by first | assumption | (simp only [List.length_map, List.length_take]; omega)) (by refine ⟨?_, ?_⟩ <;> omega) (by refine ⟨?_, ?_⟩ <;> first | omega | (simp only [List.size_toArray]; omega)) ?_); intro r' t' h' od' ta' tk2' hr0' hr1' F' N' hd'; (try dsimp only at N'); (try k_sweep)))
def pieceOk : Value → Bool
  | .bytes b _ => Nat.ble b.size 4
  | _ => false
theorem pieces_are (P : Params) : ∃ vs n, List.lookup (905 : Addr) (hd.heap_39 P) = some { cls := .type "list", data := .seq vs n } ∧ vs.size = 25 ∧ vs.toList.all pieceOk = true := ⟨_, _, by k_is, rfl, rfl⟩
theorem piece_of {v : Value} (h : pieceOk v = true) : ∃ (b : List UInt8) (t : Tok), v = .bytes b.toArray t ∧ b.length ≤ 4 := by
  cases v with
  | bytes b t => exact ⟨b.toList, t, by simp, by simpa [pieceOk] using h⟩
  | _ => cases h
section
variable {prog : Program} {w : World} {A : Around} {E : Value → Shared → Prop} {s : Shared} {h₀ : Heap} {L : Addr} {m : PySem.Str → Option Value} {P : Params}
theorem piece_any {r : Int} {t : Tok} {Q : Value → Shared → Prop} (X : Frag.In (hd.heap_39 P) h₀) (F : Fr h₀ L s.heap m) (h0 : 0 ≤ r) (h1 : r < 25)
    (h : ∀ (b : List UInt8) (t' : Tok), b.length ≤ 4 → Q (.bytes b.toArray t') s) : wpAny (model prog w) A (getItem (.ref 905) (.int r t)) Q E s := by
  obtain ⟨vs, n, e, hz, hok⟩ := pieces_are P
  have hl : s.heap.IsList 905 vs := ⟨_, F.keep _ _ (X _ _ e), rfl, n, rfl⟩
  obtain ⟨i, rfl⟩ : ∃ i : Nat, r = (i : Int) := ⟨r.toNat, by omega⟩
  have hi : i < vs.size := by omega
  obtain ⟨b, t', hv, hb⟩ := piece_of (List.all_eq_true.mp hok vs[i] (by simp))
  refine wpAny_getItem_list (x := .bytes b.toArray t') hl h0 (by omega) ?_ (h b t' hb)
  rw [← hv]
  simp [hi]
theorem piece_tail {value slice : PySem.Expr} {r : Int} {t : Tok} {Q : Value → Shared → Prop} (X : Frag.In (hd.heap_39 P) h₀) (F : Fr h₀ L s.heap m) (h0 : 0 ≤ r) (h1 : r < 25)
    (h : ∀ (b : List UInt8) (t' : Tok), b.length ≤ 4 → Q (.bytes b.toArray t') s)
    (hs : subscripted slice false (.ref 905) (.int r t) = operate [.ref 905, .int r t] (getItem (.ref 905) (.int r t)) := by with_unfolding_all rfl)
    (ht : ∀ r', letTemporaryGo value (.ref 905) r' = pure () := by intro _; with_unfolding_all rfl) :
    wpAny (model prog w) A (subscriptTail value slice (.ref 905) (.int r t)) Q E s := by
  obtain ⟨vs, n, e, _, _⟩ := pieces_are P
  have hl : s.heap.IsList 905 vs := ⟨_, F.keep _ _ (X _ _ e), rfl, n, rfl⟩
  exact subscriptTail_builtin hl.typeIs slot_list_getitem.lookup (piece_any X F h0 h1 h) hs ht
def PieceEl (prog : Program) (w : World) (g : Obj → List (Addr × Obj)) (cl : Addr) (a : Int) (y : Value) (news' : List (Addr × Obj)) : Prop :=
  ∃ od' ta' b t, news' = g od' ∧ Obj.IsDictOf (strKind prog w) od' (deckKv cl (a + 1) ta') ∧ y = .bytes (List.toArray b) t ∧ b.length ≤ 4
theorem pieces_rest {env : Env} {elt : PySem.Expr} {x : PySem.Str} {scope : Scope} {cls : List (PySem.Str × Addr)} {P : Nat → Value → Prop} {Fin : List Value → List (Addr × Obj) → Prop} {g : Obj → List (Addr × Obj)} {cl : Addr} {od₀ : Obj} {a₀ : Int} {ta₀ : Tok} {n : Nat} (hn : n ≤ 8)
    (hd₀ : Obj.IsDictOf (strKind prog w) od₀ (deckKv cl a₀ ta₀)) (ha₀ : 0 ≤ a₀ ∧ a₀ ≤ 10)
    (turn : ∀ od a ta v I oI C oC D m₂ ys h tk (E' : Value → Shared → Prop), 0 ≤ a → a ≤ 20 → Obj.IsDictOf (strKind prog w) od (deckKv cl a ta) → P ys.length v → LCg.NsObj oC m₂ → m₂ x = some v → Fr h₀ L h m → News h₀ L h ((I, oI) :: (C, oC) :: (D, LCg.lst ys) :: g od) → LCg.Off3 I C D (g od) → ((@Ne Nat I C) ∧ (@Ne Nat I D) ∧ (@Ne Nat C D)) →
      wpAny (model prog w) A (eval elt (compEnvC scope cls C env)) (LCg.CompEnd h₀ L m { s with heap := h, toks := tk } I oI C oC D (LCg.lst ys) (fun _ => True) (fun y news' => PieceEl prog w g cl a y news')) E' { s with heap := h, toks := tk })
    (fin : ∀ ys bs od a ta, BytesAre ys bs → bs.flatten.length ≤ 32 → 0 ≤ a → a ≤ 20 → Obj.IsDictOf (strKind prog w) od (deckKv cl a ta) → Fin ys (g od)) :
    LCg.CompRest prog w A h₀ L m env elt x scope cls s (fun _ => True) P Fin n 0 [] (g od₀) := by
  have key : ∀ (j i : Nat) ys bs od (a : Int) ta, i + j = n → ys.length = i → BytesAre ys bs → bs.flatten.length ≤ 4 * i → 0 ≤ a → a ≤ 10 + i → Obj.IsDictOf (strKind prog w) od (deckKv cl a ta) → LCg.CompRest prog w A h₀ L m env elt x scope cls s (fun _ => True) P Fin j i ys (g od) := by
    intro j
    induction j with
    | zero =>
      intro i ys bs od a ta hi hl hb hf h0 h1 hd'
      exact LCg.CompRest.zero (fin ys bs od a ta hb (by omega) h0 (by omega) hd')
    | succ j ih =>
      intro i ys bs od a ta hi hl hb hf h0 h1 hd'
      refine LCg.CompRest.succ ?_
      intro v I oI C oC D m₂ h tk E' hv hC hx F N off ne
      subst hl
      refine wpAny_mono (turn od a ta v I oI C oC D m₂ ys h tk E' h0 (by omega) hd' hv hC hx F N off ne) (fun y s₂ hq => ?_) fun _ _ e => e
      obtain ⟨h', tk', nw, e, F', N', off', hS, od', ta', b, t, hn', hdd, hy, hbl⟩ := hq
      subst hn' hy
      refine ⟨h', tk', g od', e, F', N', off', hS, ?_⟩
      refine ih (ys.length + 1) _ (bs ++ [b]) od' (a + 1) ta' (by omega) (by simp) (hb.app (.cons b t .nil)) ?_ (by omega) (by omega) hdd
      rw [List.flatten_append, List.length_append]
      simp
      rw [List.length_flatten] at hf
      omega
  exact key n 0 [] [] od₀ a₀ ta₀ (by omega) rfl .nil (by simp) ha₀.1 (by omega) hd₀
theorem src_pieces {env : Env} {elt : PySem.Expr} {x : PySem.Str} {scope : Scope} {cls : List (PySem.Str × Addr)} {Fin : Shared → List Value → List (Addr × Obj) → Prop} {dk cl a1 a2 a3 r : Addr} {od₀ o1 o2 o3 : Obj} {a₀ b₀ : Int} {ta₀ t u v : Tok}
    (hh : A.handled = none) (F : Fr h₀ L s.heap m) (N : News h₀ L s.heap [(a1, o1), (a2, o2), (dk, od₀), (a3, o3)]) (hr : IsRange s.heap r 0 b₀ 1 t u v) (hb : 0 ≤ b₀ ∧ b₀ < 9)
    (hd₀ : Obj.IsDictOf (strKind prog w) od₀ (deckKv cl a₀ ta₀)) (ha₀ : 0 ≤ a₀ ∧ a₀ ≤ 10)
    (turn : ∀ g' od a ta I oI C oC D ys h tk (E' : Value → Shared → Prop), 0 ≤ a → a ≤ 20 → Obj.IsDictOf (strKind prog w) od (deckKv cl a ta) → Fr h₀ L h m → News h₀ L h ((I, oI) :: (C, oC) :: (D, LCg.lst ys) :: [(a1, o1), (a2, o2), (dk, od), (a3, o3)]) → LCg.Off3 I C D [(a1, o1), (a2, o2), (dk, od), (a3, o3)] → ((@Ne Nat I C) ∧ (@Ne Nat I D) ∧ (@Ne Nat C D)) →
      wpAny (model prog w) A (eval elt (compEnvC scope cls C env)) (LCg.CompEnd h₀ L m { s with heap := h, toks := tk } I oI C oC D (LCg.lst ys) (fun _ => True) (fun y news' => PieceEl prog w (fun z => [(a1, o1), (a2, o2), (dk, z), (a3, o3)]) cl a y news')) E' { { s with heap := g' } with heap := h, toks := tk })
    (fin : ∀ g' ys bs od a ta, BytesAre ys bs → bs.flatten.length ≤ 32 → 0 ≤ a → a ≤ 20 → Obj.IsDictOf (strKind prog w) od (deckKv cl a ta) → Fin { s with heap := g' } ys [(a1, o1), (a2, o2), (dk, od), (a3, o3)]) :
    LCg.CompSrc prog w A h₀ L m env elt x scope cls Fin (.ref r) s := by
  obtain ⟨n, rfl⟩ : ∃ n : Nat, b₀ = (n : Int) := ⟨b₀.toNat, by omega⟩
  refine LCg.CompSrc.range (n := n) hh F N hr (small_one (by omega) (by omega) (by omega) (by omega)) (by rw [rangeSize_one]; split <;> omega) (by rw [PySem.sizeLine_eq]; omega) fun g' => ?_
  exact pieces_rest (g := fun z => [(a1, o1), (a2, o2), (dk, z), (a3, o3)]) (by omega) hd₀ ha₀ (fun od a ta v I oI C oC D m₂ ys h tk E' h0 h1 hd' _ _ _ F N off ne => turn g' od a ta I oI C oC D ys h tk E' h0 h1 hd' F N off ne)
    fun ys bs od a ta => fin g' ys bs od a ta
end
local macro_rules | `(tactic| walk_at "CompSrc") => `(tactic| (k_here; goal_has PySem.NameKind.free; k_dflt (refine' src_pieces (by rfl) (by assumption) (by assumption) (by assumption) (by refine ⟨?_, ?_⟩ <;> omega) (by assumption) (by refine ⟨?_, ?_⟩ <;> omega) (fun g' od' a' ta' I' oI' C' oC' D' ys' h' tk' E' ha0' ha1' hd' F' N' off' ne' => ?_) (fun g' ys' bs' od' a' ta' hB' hf' ha0' ha1' hd' => ?_)); (all_goals (try simp only [LCg.Off3, and_true] at off'))))
local macro_rules | `(tactic| walk_at "CompEnd") => `(tactic| (goal_has PieceEl; k_dflt (refine LCg.CompEnd.intro (by assumption) (by assumption) _ (fun p hp => hp) (by first | assumption | (simp only [LCg.Off3, and_true]; assumption)) True.intro ⟨_, _, _, _, rfl, by assumption, rfl, by assumption⟩)))
local macro_rules | `(tactic| walk_at "subscriptTail") => `(tactic| (k_here; (with_reducible show wpAny _ _ (subscriptTail _ _ (Value.ref 905) (Value.int _ _)) _ _ _); k_dflt (refine piece_tail (by assumption) (by assumption) (by omega) (by omega) ?_); intro b' t' hb'))
theorem picked_to {bl : List UInt8} {i : Int} (hi : 0 ≤ i) : KBy.picked bl.toArray none (some i) = (bl.take i.toNat).toArray := by
  obtain ⟨j, rfl⟩ : ∃ j : Nat, i = (j : Int) := ⟨i.toNat, by omega⟩
  have c1 : clipAt bl.length (j : Int) = min j bl.length := by unfold clipAt; split <;> omega
  rw [KBc.picked_eq]
  simp only [Option.elim, List.size_toArray, c1, List.drop_zero, Nat.sub_zero, Int.toNat_natCast]
  rcases Nat.le_total j bl.length with h | h
  · rw [Nat.min_eq_left h]
  · rw [Nat.min_eq_right h, List.take_of_length_le (Nat.le_refl _), List.take_of_length_le h]
inductive ItEq : Value → Value → Prop
  | int (i j : Int) (t u : Tok) (h : i = j) : ItEq (.int i t) (.int j u)
  | str (x : PySem.Str) (t u : Tok) : ItEq (.str x t) (.str x u)
  | bytes (x : Array UInt8) (t u : Tok) : ItEq (.bytes x t) (.bytes x u)
  | same (v : Value) : ItEq v v
theorem ItEq.at {A : Around} {s : Shared} {v u : Value} (h : ItEq v u) : SeqAt.EqAt A s v u true := by
  cases h with
  | int i j t u h => subst h; exact fun prog w E Q hq => wpAny_eqBool_int (by rw [beq_self_eq_true]; exact hq)
  | str x t u => exact fun prog w E Q hq => eqBool_str (by rw [beq_self_eq_true]; exact hq)
  | bytes x t u => exact fun prog w E Q hq => eqBool_bytes (by rw [decide_eq_true rfl]; exact hq)
  | same v => exact SeqAt.EqAt.same v
inductive ItEqs : List Value → List Value → Prop
  | nil : ItEqs [] []
  | cons {a b : Value} {xs ys : List Value} : ItEq a b → ItEqs xs ys → ItEqs (a :: xs) (b :: ys)
theorem ItEqs.len {xs ys : List Value} (h : ItEqs xs ys) : xs.length = ys.length := by
  induction h with
  | nil => rfl
  | cons _ _ ih => simp [ih]
theorem ItEqs.get {xs ys : List Value} (h : ItEqs xs ys) : ∀ j (h1 : j < xs.length) (h2 : j < ys.length), ItEq xs[j] ys[j] := by
  induction h with
  | nil => intro j h1; cases h1
  | cons ha _ ih =>
    intro j h1 h2
    cases j with
    | zero => exact ha
    | succ j => exact ih j (Nat.lt_of_succ_lt_succ h1) (Nat.lt_of_succ_lt_succ h2)
section
variable {prog : Program} {w : World} {A : Around} {E : Value → Shared → Prop} {s : Shared} {h₀ : Heap} {L a b : Addr} {m : PySem.Str → Option Value} {news : List (Addr × Obj)} {oa ob : Obj} {xs ys : List Value} {ka kb : Nat} {Q : Value → Shared → Prop} {value slice : PySem.Expr} {t u0 u : Tok} {bl c : List UInt8} {i : Int}
theorem by_to_K (hF : Fr h₀ L s.heap m) (hN : News h₀ L s.heap news) (hz : bl.length ≤ 1000) (hi : 0 ≤ i)
    (h : ∀ h' t' k d, d = bl.take i.toNat → Fr h₀ L h' m → News h₀ L h' news → Q (.bytes (List.toArray d) t') { s with heap := h', toks := k })
    (hs : subscripted slice false (.bytes bl.toArray t) (.ref s.heap.objs.size) = operate [.ref s.heap.objs.size, .bytes bl.toArray t] (getItem (.bytes bl.toArray t) (.ref s.heap.objs.size)) := by with_unfolding_all rfl)
    (ht : ∀ r, letTemporaryGo value (.bytes bl.toArray t) r = pure () := by intro _; with_unfolding_all rfl) :
    wpAny (model prog w) A (subscriptTail value slice (.bytes bl.toArray t) (.ref s.heap.objs.size)) Q E { s with heap := s.heap.push { cls := .type "slice", data := .fields #[.none, .int i u0, .none] } } := by
  refine KBc.slice_K (lo := none) (hi := some i) hF hN rfl (by constructor) (by constructor) (by rw [KBw.ints_length, List.size_toArray]; omega) (fun h' t' k F' N' _ => ?_) hs ht
  rw [picked_to hi]
  exact h h' t' k _ rfl F' N'
theorem by_add (hz : bl.length ≤ 1000) (hy : c.length ≤ 1000) (h : ∀ t' k d, d = bl ++ c → Q (.bytes (List.toArray d) t') { s with toks := k }) :
    wpAny (model prog w) A (binaryOp .Add (.bytes bl.toArray t) (.bytes c.toArray u)) Q E s :=
  bytes_add_K (by simp; omega) rfl fun t' k => h t' k _ rfl
theorem tup_eq_K (N : News h₀ L s.heap news) (ma : (a, oa) ∈ news) (ca : oa.cls = .type "tuple") (da : oa.data = .seq xs.toArray ka) (mb : (b, ob) ∈ news) (cb : ob.cls = .type "tuple") (db : ob.data = .seq ys.toArray kb) (he : ItEqs xs ys) (hu : A.units < cLine)
    (h : Q (.bool true) s) : wpAny (model prog w) A (compareOp .Eq (.ref a) (.ref b)) Q E s := by
  refine SeqAt.RcAt.tuples (e := fun _ => true) ⟨_, (N _ ma).1, ca, _, da⟩ ⟨_, (N _ mb).1, cb, _, db⟩ hu (fun j h1 h2 => (he.get j (by simpa using h1) (by simpa using h2)).at) prog w E Q ?_
  have e9 := he.len
  have e8 : ∀ n, (List.range n).all (fun _ => true) = true := fun n => List.all_eq_true.mpr fun _ _ => rfl
  rw [e8, List.size_toArray, List.size_toArray, e9, beq_self_eq_true]
  exact h
theorem tup_ne_K (N : News h₀ L s.heap news) (ma : (a, oa) ∈ news) (ca : oa.cls = .type "tuple") (da : oa.data = .seq xs.toArray ka) (mb : (b, ob) ∈ news) (cb : ob.cls = .type "tuple") (db : ob.data = .seq ys.toArray kb) (he : ItEqs xs ys) (hu : A.units < cLine)
    (h : Q (.bool false) s) : wpAny (model prog w) A (compareOp .NotEq (.ref a) (.ref b)) Q E s := by
  refine SeqAt.RcNeAt.tuples (e := fun _ => true) ⟨_, (N _ ma).1, ca, _, da⟩ ⟨_, (N _ mb).1, cb, _, db⟩ hu (fun j h1 h2 => (he.get j (by simpa using h1) (by simpa using h2)).at) prog w E Q ?_
  have e9 := he.len
  have e8 : ∀ n, (List.range n).all (fun _ => true) = true := fun n => List.all_eq_true.mpr fun _ _ => rfl
  rw [e8, List.size_toArray, List.size_toArray, e9, beq_self_eq_true]
  exact h
theorem syn_eq {x : Array UInt8} (h : Q (.bool true) s) : wpAny (model prog w) A (compareOp .Eq (.bytes x t) (.bytes x u)) Q E s := eq_bytes (by rw [beq_self_eq_true]; exact h)
end
theorem fst_add {d b c : List UInt8} (e : d = b ++ c) (h : b[0]? = some 40) : d[0]? = some 40 := by
  subst e
  cases b with
  | nil => cases h
  | cons x b => exact h
theorem fst_take {d l : List UInt8} {i : Int} (e : d = l.take i.toNat) (hi : 1 ≤ i) (h : l[0]? = some 40) : d[0]? = some 40 := by
  subst e
  obtain ⟨k, hk⟩ : ∃ k, i.toNat = k + 1 := ⟨i.toNat - 1, by omega⟩
  rw [hk, List.getElem?_take_of_lt (by omega)]
  exact h
/-- so many steps as octets are read are enough -/
theorem rdK_few {bl : List UInt8} : ∀ {n k d : Nat} {f r : List UInt8} {e : Nat}, rdK bl n k f d = some (r, e) → ∀ m, e ≤ k + m → rdK bl m k f d = some (r, e) := by
  intro n
  induction n with
  | zero => intro k d f r e h; cases h
  | succ n ih =>
    intro k d f r e h m hm
    have hge := rdK_ge h
    obtain ⟨m, rfl⟩ : ∃ j, m = j + 1 := ⟨m - 1, by omega⟩
    unfold rdK at h ⊢
    rcases hc : bl[k]? with _ | c
    · rw [hc] at h; cases h
    · rw [hc] at h
      dsimp only at h ⊢
      split at h <;> rename_i h1
      · rw [if_pos h1]
        rcases he : escK bl (k + 1) with _ | ⟨ev, k'⟩
        · rw [he] at h; cases h
        · rw [he] at h
          have := escK_ge he
          exact ih h m (by omega)
      · rw [if_neg h1]
        split at h <;> rename_i h2
        · rw [if_pos h2]
          have := skipK_ge bl (k + 1)
          exact ih h m (by omega)
        · rw [if_neg h2]
          split at h <;> rename_i h3
          · rw [if_pos h3]; exact ih h m (by omega)
          · rw [if_neg h3]
            split at h <;> rename_i h4
            · rw [if_pos h4]
              split at h <;> rename_i h5
              · rw [if_pos h5]; exact h
              · rw [if_neg h5]; exact ih h m (by omega)
            · rw [if_neg h4]; exact ih h m (by omega)
theorem again_all {bl d4 d5 d6 r : List UInt8} {e : Nat} (hr : rdK bl (bl.length + 1) 1 [] 1 = some (r, e)) (hb : bl[0]? = some 40) (h4 : d4 = bl.take (e : Int).toNat) (h5 : d5 = [32] ++ d4) (h6 : d6 = d5 ++ [47, 97, 98]) :
    d6[0]? = some 32 ∧ d6[1]? = some 40 ∧ rdK d6 (d6.length + 1) 2 [] 1 = some (r, e + 1) ∧ d6.drop (e + 1) = wb := by
  have hge := rdK_ge hr
  rw [Int.toNat_natCast] at h4
  subst h4 h5 h6
  have hl : (bl.take e).length = e := by rw [List.length_take]; omega
  refine ⟨rfl, ?_, ?_, ?_⟩
  · have := again_get (bl := bl) (t := [47, 97, 98]) hge.2 0 (by omega)
    rw [hb] at this
    exact this
  · have h1 := rdK_again (t := [47, 97, 98]) hr
    refine rdK_few h1 _ ?_
    simp
    omega
  · show (32 :: bl.take e ++ [47, 97, 98]).drop (e + 1) = wb
    rw [List.cons_append, List.drop_succ_cons, List.drop_append_of_le_length (by omega), List.drop_of_length_le (by omega)]
    rfl
section
variable {w : World} {A : Around} {env : Env} {outer : List Env} {A₀ : Around} {h₀ : Heap} {L : Addr} {m mg mb : PySem.Str → Option Value} {mean : ExcName → Option Value} {s : Shared} {Q E : Value → Shared → Prop} {news : List (Addr × Obj)} {bl r : List UInt8} {e : Nat} {tb : Tok}
theorem told_none (C : Cx 330 100 w A env outer A₀ h₀ h₀ L m mg mb mean s) (hg : A.guards = some []) (N : News h₀ L s.heap news) (hfit : bl.length ≤ 900) (he : bl[0]? = some 40) (hr : rdK bl (bl.length + 1) 1 [] 1 = none)
    (ret0 : ∀ t h' tk2, Fr h₀ L h' m → News h₀ L h' [] → Q (.bytes synB t) { s with heap := h', toks := tk2 }) : wpP (model PR w) A (call (.ref 945) [.bytes bl.toArray tb, .bool false]) Q E s :=
  told_P C hg N C.X C.T (Nat.le_refl _) hfit he (fun _ t h' tk2 st ns => ret0 t h' tk2 ⟨ns, st, Fr.above C.F⟩ (fun _ hp => nomatch hp)) fun r e h => by rw [hr] at h; cases h
theorem told_some (C : Cx 330 100 w A env outer A₀ h₀ h₀ L m mg mb mean s) (hg : A.guards = some []) (N : News h₀ L s.heap news) (hfit : bl.length ≤ 900) (he : bl[0]? = some 40) (hr : rdK bl (bl.length + 1) 1 [] 1 = some (r, e))
    (ret1 : ∀ tu h' tk2 t0 t1 t2 t3, Fr h₀ L h' m → News h₀ L h' ((tu, tupObj [.str (Str.ofString "string") t0, .bytes r.toArray t1, .bool false, .int 3 t2, .int (e : Nat) t3]) :: news) → Q (.ref tu) { s with heap := h', toks := tk2 }) : wpP (model PR w) A (call (.ref 945) [.bytes bl.toArray tb, .bool false]) Q E s :=
  told_P C hg N C.X C.T (Nat.le_refl _) hfit he (fun h => by rw [hr] at h; cases h) fun r' e' h => by rw [hr] at h; cases h; exact ret1
end
local macro_rules | `(tactic| walk_at "compareOp Eq ref ref") => `(tactic| (k_here; (with_reducible show wpAny _ _ (compareOp CmpOp.Eq (Value.ref _) (Value.ref _)) _ _ _); k_dflt (refine tup_eq_K (by k_asm) (by k_mem) (by exact rfl) (by exact rfl) (by k_mem) (by exact rfl) (by exact rfl) (by repeat (first | exact ItEqs.nil | refine ItEqs.cons (by first | exact ItEq.same _ | exact ItEq.str _ _ _ | exact ItEq.bytes _ _ _ | exact ItEq.int _ _ _ _ (by omega)) ?_)) (by ke_room) ?_)))
local macro_rules | `(tactic| walk_at "compareOp NotEq ref ref") => `(tactic| (k_here; (with_reducible show wpAny _ _ (compareOp CmpOp.NotEq (Value.ref _) (Value.ref _)) _ _ _); k_dflt (refine tup_ne_K (by k_asm) (by k_mem) (by exact rfl) (by exact rfl) (by k_mem) (by exact rfl) (by exact rfl) (by repeat (first | exact ItEqs.nil | refine ItEqs.cons (by first | exact ItEq.same _ | exact ItEq.str _ _ _ | exact ItEq.bytes _ _ _ | exact ItEq.int _ _ _ _ (by omega)) ?_)) (by ke_room) ?_)))
local macro_rules | `(tactic| walk_at "compareOp Eq bytes bytes") => `(tactic| (k_here; k_dflt (refine syn_eq ?_)))
local macro_rules | `(tactic| walk_at "binaryOp Add bytes bytes") => `(tactic| (k_here; (with_reducible show wpAny _ _ (binaryOp Operator.Add (Value.bytes (List.toArray _) _) (Value.bytes (List.toArray _) _)) _ _ _); k_dflt (refine by_add (by first | omega | (simp only [List.length_cons, List.length_nil]; omega)) (by first | omega | (simp only [List.length_cons, List.length_nil]; omega)) ?_); intro t' k' d' hd'; (have hl' := congrArg List.length hd'); (simp only [List.length_append, List.length_cons, List.length_nil] at hl')))
local macro_rules | `(tactic| walk_at "binaryOp Add bytes bytes") => `(tactic| (k_here; (with_reducible show wpAny _ _ (binaryOp Operator.Add (Value.bytes (List.toArray _) _) (Value.bytes (List.toArray _) _)) _ _ _); k_dflt (refine by_add (by first | omega | (simp only [List.length_cons, List.length_nil]; omega)) (by first | omega | (simp only [List.length_cons, List.length_nil]; omega)) ?_); intro t' k' d' hd'; (have hl' := congrArg List.length hd'); (simp only [List.length_append, List.length_cons, List.length_nil] at hl'); (k_dflt (have hz' := fst_add hd' (by first | with_reducible assumption | exact rfl)))))
local macro_rules | `(tactic| walk_at "subscriptTail") => `(tactic| (k_here; (with_reducible show wpAny _ _ (subscriptTail _ (Expr.Slice none _ none _) (Value.bytes _ _) (Value.ref _)) _ _ _); k_dflt (refine by_to_K (by k_asm) (by k_asm) (by omega) (by omega) ?_); intro h' t' k' d' hd' F' N'; (have hl' := congrArg List.length hd'); (simp only [List.length_take] at hl'); (first | (have hz' := fst_take hd' (by omega) (by with_reducible assumption)) | skip); (try k_sweep)))
local macro_rules | `(tactic| walk_at "wpP") => `(tactic| (k_here; first| ((with_reducible show wpP _ _ (execs (Stmt.Assign [Expr.Name _ _] (Expr.Call (Expr.Name (Str.ofString "_law_read") _) _ _ _) _ :: _) _) _ _ _); k_dflt (refine P_cons (P_Assign (P_Call_Name (P_any ?_)))))| ((with_reducible show wpP _ _ (execs (Stmt.Assign [Expr.Name _ _] (Expr.Call (Expr.Name (Str.ofString "_law_told") _) _ _ _) _ :: _) _) _ _ _); k_dflt (refine P_cons (P_Assign (P_Call_Name (P_any ?_)))))| ((with_reducible show wpP _ _ (execs (Stmt.Return (some (Expr.Compare (Expr.Call (Expr.Name (Str.ofString "_law_told") _) _ _ _) _ _ _)) _ :: _) _) _ _ _); k_dflt (refine P_cons (P_Return (P_Compare (P_Call_Name (P_any ?_))))))| ((with_reducible show wpP _ _ (call (Value.ref 938) _) _ _ _); k_dflt (refine lawread_P (Cx.mk rfl rfl (Nat.le_of_ble_eq_true rfl) (Nat.le_of_ble_eq_true rfl) rfl rfl (by k_asm) (by k_asm) (by k_asm) (by k_asm)) rfl (by k_asm) (by omega) (fun hr' h' tk2' F' N' => ?_) (fun r' e' hr' tu' t' te' h' tk2' F' N' => ?_)); (all_goals (try k_sweep)))| ((with_reducible show wpP _ _ (call (Value.ref 945) [_, Value.bool false]) _ _ _); k_dflt (first | refine told_none (Cx.mk rfl rfl (Nat.le_of_ble_eq_true rfl) (Nat.le_of_ble_eq_true rfl) rfl rfl (by k_asm) (by k_asm) (by k_asm) (by k_asm)) rfl (by k_asm) (by omega) (by with_reducible assumption) (by with_reducible assumption) (fun t' h' tk2' F' N' => ?_) | refine told_some (Cx.mk rfl rfl (Nat.le_of_ble_eq_true rfl) (Nat.le_of_ble_eq_true rfl) rfl rfl (by k_asm) (by k_asm) (by k_asm) (by k_asm)) rfl (by k_asm) (by omega) (by with_reducible assumption) (by with_reducible assumption) (fun tu' h' tk2' t0' t1' t2' t3' F' N' => ?_)); (try k_sweep))| ((with_reducible show wpP _ _ (call (Value.ref 945) [_, Value.bool true]) _ _ _); (have hAg := again_all (by with_reducible assumption) (by with_reducible assumption) (by with_reducible assumption) (by with_reducible assumption) (by with_reducible assumption)); k_dflt (refine told1_P (Cx.mk rfl rfl (Nat.le_of_ble_eq_true rfl) (Nat.le_of_ble_eq_true rfl) rfl rfl (by k_asm) (by k_asm) (by k_asm) (by k_asm)) rfl (by k_asm) (by omega) hAg.1 hAg.2.1 hAg.2.2.1 hAg.2.2.2 (fun tu' h' tk2' t0' t1' t2' t3' t4' t5' t6' F' N' => ?_)); (try k_sweep))))
theorem post_true (xs : List Int) : (RowW.claim (OpenLaw.row PySem.Challenge.rw_nt0532_01).toRowW).post [ofPy (PyData.list (List.map PyData.int xs))] (WData.bool true) [ofPy (PyData.list (List.map PyData.int xs))] = true := by
  first | rfl | wrow_post
set_option maxRecDepth 100000 in
set_option maxHeartbeats 8000000 in
theorem law_holds : PySem.Challenge.rw_nt0532_01.Holds := by
  refine hd ?_
  k_fill
  intro w s₀ s₁ mg mb G Y fa o pm cd doc dV kV ho hd' hcd hD hmg hg args vals as hpre hlay hrd hwl hlo
  have KX := kIn_of Y
  have X := (Ground.X G).1
  have V := (Ground.X G).2
  try w_nolog (first | (have GL := glob_more (Ground.glob G (by first | k_qdec | decide +kernel) (by first | k_qdec | decide +kernel)) V) | (have GL := glob_more (Ground.glob G (by decide +kernel)) V))
  refine Ground.open G ?_
  intro T B D TE TW
  try (refine guard_noD D (by decide +kernel) ?_; clear D)
  obtain ⟨_, _, M⟩ := bmod_of_top T
  wrow_args hpre hlay hrd hwl hlo
  have e950 := mg_of (n := Str.ofString "law") KX T.g (by k_is)
  obtain rfl : fa = 950 := by
    have z := hmg.symm.trans e950
    cases z
    rfl
  clear hmg ho hd' hcd hD
  refine P_call ?_
  k_dflt (refine' P_topC (K := hd.heap_39 w.params) ?k1 ?k2 ?k6 ?k7 ?k9 ?kB ?kD ?_ ?c2 ?c3 ?c4; (case k1 => exact KX); (case k2 => exact T); (case k6 => k_is); (case k7 => k_is); (case k9 => exact BindsTo.of_eq rfl); (case kB => exact rfl); (case kD => decide +kernel); (case c2 => exact rfl); (case c3 => exact rfl); (case c4 => exact rfl))
  intro L' h' tk' cells' F' N' Y' B' X' T'
  k_cells Y'
  (try simp only [List.cons_append, List.nil_append] at N')
  (try dsimp only)
  refine P_cons (P_any ?_)
  k_steps
  all_goals first
    | exact hg
    | exact GoodW.toG (goodW_bool (by with_reducible assumption) hg (fun _ => rfl) (by first | exact post_true _ | wrow_post))
end Mine
set_option maxRecDepth 100000 in
set_option maxHeartbeats 8000000 in
theorem PySem.Challenge.cw_nt0532_01_holds : PySem.Challenge.rw_nt0532_01.Holds :=
  Mine.law_holds
