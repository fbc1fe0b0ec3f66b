import PyProof.Rows.All
import Wide.All
import OpenK.AllK
import Wide.FinOn
import PySem.Challenge.RW_pq0517_01
set_option Elab.async false
set_option maxRecDepth 100000
set_option linter.all false
set_option maxHeartbeats 4000000
set_option compiler.extract_closed false
section
namespace Mine
open PySem PySem.W PySem.Spec PySem.Calls PyProof.Rows
open PySem.Sem (wp)

/-- a code that holds no buffer -/
noncomputable def badIds : List String := ["bytearray.__contains__", "bytearray.__mod__", "bytearray.__rmod__", "_struct.pack_into.held", "bytearray.find.held"] ++ Builtin.Bytes.decodersThatHold
noncomputable def Cln (c : Code) : Prop := ∀ id args, c = .builtin id args → badIds.contains id = false
noncomputable def GoodL (l : List (Code × Pos)) : Prop := ∀ x ∈ l, Cln x.1
structure GoodC (Γ : PySem.Ctx) : Prop where
  code : Cln Γ.code
  below : GoodL Γ.below

noncomputable def wpG {α : Type} (M : Model) (A : Around) (t : Sem α) (Q : α → Shared → Prop) (E : Value → Shared → Prop) (s : Shared) : Prop :=
  ∀ (Γ : PySem.Ctx) p, Γ.In A → GoodC Γ → wp M Γ t (fun a _ s' => Q a s') (fun e _ s' => E e s') p s
noncomputable def codeG (M : Model) (A : Around) (c : Code) (R : Result → Shared → Prop) (s : Shared) : Prop :=
  ∀ (Γ : PySem.Ctx) p, Γ.code = c → Γ.Below A → GoodL Γ.below → wpCode M Γ R p s

section
variable {α β : Type} {M : Model} {A : Around} {E : Value → Shared → Prop} {s : Shared}
theorem wpG_of {t : Sem α} {Q : α → Shared → Prop} (h : wpAny M A t Q E s) : wpG M A t Q E s := fun Γ p hΓ _ => h Γ p hΓ
theorem codeG_of {c : Code} {R : Result → Shared → Prop} (h : codeAny M A c R s) : codeG M A c R s := fun Γ p hc hΓ _ => h Γ p hc hΓ
theorem wpG_mono {t : Sem α} {Q Q' : α → Shared → Prop} {E' : Value → Shared → Prop} (h : wpG M A t Q E s) (hQ : ∀ a s, Q a s → Q' a s) (hE : ∀ e s, E e s → E' e s) : wpG M A t Q' E' s :=
  fun Γ p hΓ hg => Sem.wp_mono M Γ t (fun a _ s => hQ a s) (fun e _ s => hE e s) p s (h Γ p hΓ hg)
theorem wpG_pure {a : α} {Q : α → Shared → Prop} (h : Q a s) : wpG M A (pure a) Q E s := fun _ _ _ _ => h
theorem wpG_bind {m : Sem α} {f : α → Sem β} {Q : β → Shared → Prop} (h : wpG M A m (fun a s' => wpG M A (f a) Q E s') E s) : wpG M A (m >>= f) Q E s := fun Γ p hΓ hg => by
  rw [Sem.wp_bind']
  exact Sem.wp_mono M Γ m (fun a p' s' h' => h' Γ p' hΓ hg) (fun _ _ _ h' => h') p s (h Γ p hΓ hg)
theorem wpG_tryCatch {m : Sem α} {k : Value → Sem α} {Q : α → Shared → Prop} (h : wpG M A m Q (fun e s' => wpG M A (k e) Q E s') s) : wpG M A (tryCatch m k) Q E s := fun Γ p hΓ hg => by
  rw [Sem.wp_tryCatch']
  exact Sem.wp_mono M Γ m (fun _ _ _ h' => h') (fun e p' s' h' => h' Γ p' hΓ hg) p s (h Γ p hΓ hg)
theorem wpG_onRaise {m : Sem α} {k : Value → Sem Unit} {Q : α → Shared → Prop} (h : wpG M A m Q (fun e s' => wpG M A (k e) (fun _ s'' => E e s'') E s') s) : wpG M A (m.onRaise k) Q E s := fun Γ p hΓ hg => by
  rw [Sem.wp_onRaise]
  exact Sem.wp_mono M Γ m (fun _ _ _ h' => h') (fun e p' s' h' => h' Γ p' hΓ hg) p s (h Γ p hΓ hg)
theorem wpG_attempt {m : Sem α} {Q : Except Value α → Shared → Prop} (h : wpG M A m (fun a => Q (.ok a)) (fun e => Q (.error e)) s) : wpG M A m.attempt Q E s := fun Γ p hΓ hg => by rw [Sem.wp_attempt]; exact h Γ p hΓ hg
theorem wpG_holding {vs : List Value} {m : Sem α} {Q : α → Shared → Prop} (h : wpG M A m Q E s) : wpG M A (holding vs m) Q E s := fun Γ p hΓ hg => by rw [Sem.wp_holding]; exact h Γ p hΓ hg
theorem wpG_standAt {pos : Pos} {Q : Unit → Shared → Prop} (h : Q () s) : wpG M A (standAt pos) Q E s := fun _ _ _ _ => h
theorem wpG_point {Q : Unit → Shared → Prop} (h : Q () s) : wpG M A point Q E s := fun _ _ _ _ => h
theorem wpG_ite {c : Prop} [Decidable c] {a b : Sem α} {Q : α → Shared → Prop} (ha : c → wpG M A a Q E s) (hb : ¬ c → wpG M A b Q E s) : wpG M A (if c then a else b) Q E s := by
  by_cases h : c
  · rw [if_pos h]; exact ha h
  · rw [if_neg h]; exact hb h
theorem wpG_stack {k : List (Code × Pos) → Sem α} {Q : α → Shared → Prop} (h : ∀ l, GoodL l → wpG M A (k l) Q E s) : wpG M A (stack >>= k) Q E s := fun Γ p hΓ hg => by
  rw [Sem.wp_bind']
  show wp M Γ (.stack .pure) _ _ p s
  rw [Sem.wp_stack]
  refine h _ ?_ Γ p hΓ hg
  intro x hx
  rcases List.mem_cons.mp hx with rfl | hx
  · exact hg.code
  · exact hg.below x hx

theorem wpG_runValue {c : Code} {Q : Value → Shared → Prop} (hc : codeG M A c (fun r s' => match r with | .ok (.ret v) => Q v s' | .ok _ => False | .error e => E e s') s) : wpG M A (runValue c) Q E s := fun Γ p hΓ hg => by
  rw [Sem.wp_runValue]
  refine hc _ p rfl (hΓ.enter c none p (by intro x; cases x)) fun x hx => ?_
  rcases List.mem_cons.mp (show x ∈ (Γ.code, p) :: Γ.below from hx) with rfl | hx
  · exact hg.code
  · exact hg.below x hx
theorem wpG_call {f : Value} {pos : List Value} {kw : List (Str × Value)} {Q : Value → Shared → Prop}
    (hc : codeG M A (.call f ⟨pos, kw⟩) (fun r s' => match r with | .ok (.ret v) => Q v s' | .ok _ => False | .error e => E e s') s) : wpG M A (call f pos kw) Q E s := wpG_runValue hc
theorem codeG_of_tree {c : Code} {R : Result → Shared → Prop} (hcl : Cln c) (h : wpG M (A.under c) (M.den c) (fun fin s' => match fin with | .done f => R (.ok f) s' | .again c' => c'.quiet = true ∧ codeG M A c' R s')
      (fun e s' => R (.error e) s') s) : codeG M A c R s := fun Γ p hc hΓ hl => by
  rw [wpCode_iff_wp, hc]
  refine Sem.wp_mono M Γ _ (fun fin p' s' h' => ?_) (fun _ _ _ h' => h') p s (h Γ p (hc ▸ hΓ.in) ⟨hc ▸ hcl, hl⟩)
  cases fin with
  | done f => exact h'
  | again c' => exact ⟨h'.1, h'.2 (Γ.goto c') p' rfl (hΓ.goto c') hl⟩
end

/-! the head -/
theorem good_caller : GoodC ⟨.builtin "claim.caller" {}, none, none, [], none⟩ := ⟨fun id args e => by cases e; decide +kernel, fun x hx => (nomatch (show x ∈ ([] : List (Code × Pos)) from hx))⟩
theorem wp_of_wpG_done {M : Model} {t : Sem Fin} {R : Result → Shared → Prop} {s : Shared}
    (h : wpG M callerA t (fun fin s' => ∃ f, fin = .done f ∧ R (.ok f) s') (fun e s' => R (.error e) s') s) (p : Pos) :
    wp M ⟨.builtin "claim.caller" {}, none, none, [], none⟩ t (Sem.finPost M ⟨.builtin "claim.caller" {}, none, none, [], none⟩ R) (fun e _ s' => R (.error e) s') p s := by
  refine Sem.wp_mono M _ t (fun fin p' s' h' => ?_) (fun _ _ _ h' => h') p s (h _ p caller_in good_caller)
  obtain ⟨f, rfl, hf⟩ := h'
  exact hf
theorem thread_endsG {prog : Program} {w : World} {t : Sem Fin} {s : Shared} {R : Result → Shared → Prop} (hreg : s.asleep)
    (h : wpG (model prog w) callerA t (fun fin s' => ∃ f, fin = .done f ∧ (R (.ok f) s' ∧ leftWithCleanup s'.gens = false)) (fun e s' => R (.error e) s' ∧ leftWithCleanup s'.gens = false) s) :
    ∃ n r s' s'', runN (denote table) prog w n s ⟨t, .builtin "claim.caller" {}, default, []⟩ = .halted (outcomeOf r) s' ∧
      schedN (denote table) prog w n (.single s ⟨t, .builtin "claim.caller" {}, default, []⟩) = .halted (outcomeOf r) s' ∧ s'.forget = s''.forget ∧ R r s'' := by
  obtain ⟨n, r, s₁, s₂, hs, hn, hfo, hR⟩ := wp_halts_full (M := model prog w) (R := R) hreg (wp_of_wpG_done (R := fun r s' => R r s' ∧ leftWithCleanup s'.gens = false) h default)
  exact ⟨n, r, s₂, s₁, hn, hs, hfo, hR⟩
end Mine

end
section
namespace Mine
open PySem PySem.W PySem.Spec PySem.Calls PyProof.Rows

/-- the law's call, asked of clean stacks alone -/
noncomputable abbrev WalkG (q : Program) (loose : List Str) (XP : (Str → Option Value) → Heap → Prop) (YP : World → Heap → Prop) (r : RowW) (d : DefRec) (kwd : List (Str × Expr)) (run : Value → List Value → Sem Value) : Prop :=
  ∀ (w : World) (s₀ s₁ : Shared) (mg mb : Str → Option Value), Ground q loose r.records XP w s₀ mg mb s₁.heap → YP w s₁.heap → ∀ (a : Addr) (o : Obj) (pm cd doc dV kV : Value), s₁.heap.get? a = some o →
    o.data = .func { docDef d.name d.params d.body d.scope pm cd doc with defaults := dV, kwdefaults := kV } → s₁.heap.CodeRec cd d.name → Dflts mg s₁.heap d.params kwd dV kV → mg d.name = some (.ref a) → s₁.gens = #[] →
    ∀ (args : List WData) (vals : List Value) (as : List Addr), r.claim.pre args = true → WData.layableAll args = true → ReadsAllW r.records (classAt s₀.heap) s₁.heap vals args as → WellAll w.params s₁.heap vals args → (∀ a ∈ as, (a == sysModules) = false) →
      wpG (model r.prog w) callerA (run (.ref a) vals) (fun v s' => GoodWG r.claim (classAt s₀.heap) (ExcName.means s₀.heap) args s₁ (.ok (.ret v)) s')
        (fun e s' => GoodWG r.claim (classAt s₀.heap) (ExcName.means s₀.heap) args s₁ (.error e) s') s₁

theorem callFromG {c : ClaimW} {tree : List Value → Sem Fin} {w : World} {s : Shared} {free : Addr → Prop} {gens : Prop} {kept : Heap → Prop} (hz : s.asleep) (hgens : s.gens = #[])
    (hspec : ∀ args, c.pre args = true → WData.layableAll args = true → ∀ ord : List DictEntry → List DictEntry, (∀ l, (ord l).Perm l) →
      ∃ vs s₁, layAllW c.records (classAt s.heap) w.params ord args s = some (vs, s₁) ∧
        wpG (model c.prog w) callerA (tree vs) (fun fin s' => ∃ f, fin = .done f ∧ (c.Ends s args vs s₁ (.ok f) s' ∧ s'.os = s.os ∧ AllBare s'.gens ∧ kept s'.heap))
          (fun e s' => c.Ends s args vs s₁ (.error e) s' ∧ s'.os = s.os ∧ AllBare s'.gens ∧ kept s'.heap) s₁) :
    c.CallFrom (fun vs => ⟨tree vs, .builtin "claim.caller" {}, default, []⟩) w free gens kept s := by
  intro args hpre hlay ord hord
  obtain ⟨vs, s₁, hlaid, hrun⟩ := hspec args hpre hlay ord hord
  have rest := layAllW_rest _ _ _ hlaid
  obtain ⟨n, r, s', s'', h1, h2, h3, hends, hos, hkept⟩ := thread_endsG (prog := c.prog) (w := w) (t := tree vs) (s := s₁) (R := fun r s' => c.Ends s args vs s₁ r s' ∧ s'.os = s.os ∧ kept s'.heap)
    (Shared.asleep_of_life rest.2.2.2 hz)
    (wpG_mono hrun (fun fin s' ⟨f, e, a1, a2, a3, a4⟩ => ⟨f, e, ⟨a1, a2, a4⟩, leftWithCleanup_false_of_bare a3⟩) fun e s' ⟨a1, a2, a3, a4⟩ => ⟨⟨a1, a2, a4⟩, leftWithCleanup_false_of_bare a3⟩)
  obtain ⟨eh, _, _, eo, _⟩ := Shared.forget_eq h3
  have hends' := hends.congr eh
  have hkept' : kept s'.heap := by rw [eh]; exact hkept
  have hos' : s'.os = s.os := by rw [eo]; exact hos
  have life : s'.heap.life = s.heap.life := (runN_life _ _ _ h1).trans rest.2.2.2
  refine ⟨vs, s₁, hlaid, n, _, s', h2, ?_, (fun _ i x hx => by rw [hgens] at hx; simp at hx), hkept', by rw [life], Shared.rest_eq hos'⟩
  exact hends'.imp (Exists.imp fun v d => ⟨congrArg outcomeOf d.1, d.2.1, d.2.2.1, d.2.2.2.1, fun b o y _ => d.2.2.2.2.1 b o y, d.2.2.2.2.2⟩)
    (Exists.imp fun e => Exists.imp fun ob => Exists.imp fun cls d => ⟨congrArg outcomeOf d.1, d.2.1, d.2.2.1, d.2.2.2.1, d.2.2.2.2.1, fun b o y _ => d.2.2.2.2.2 b o y⟩)

namespace Hd
/-- the head of an open row for a call that is asked of clean stacks -/
theorem PySem.W.holds_open {r : OpenRow} {q : Program} {loose : List Str} {Xt : Shared → Bool} {XP : (Str → Option Value) → Heap → Prop} {α : Type} {Yf : Shared → α} {Ya : World → α} {YP : World → Heap → Prop} {d : DefRec} {kwd : List (Str × Expr)} {N : Nat}
    (left : LeftO r.prog q loose Xt Yf Ya N) (hY : ∀ w s, Yf s = Ya w → YP w s.heap) (hYk : ∀ w h h', YP w h → (∀ b o, h.get? b = some o → h'.get? b = some o) → YP w h')
    (hX : ∀ s, Xt s = true → XP (s.heap.nsMap mainGlobals) s.heap) (hXk : ∀ mg h h', XP mg h → (∀ b o, h.get? b = some o → h'.get? b = some o) → XP mg h')
    (hdef : defOf q r.name = some (d, kwd)) (hp : r.prog.theDef r.name = some (d.params, d.body, d.scope)) (hk : kwWritten? d.params.kwonlyargs d.params.kw_defaults = some kwd) (hRf : ∀ s, Xt s = true → RecFacts r.records s.heap) (hwr : (!r.writes || r.records.isEmpty) = true)
    (k1 : r.wellSaid = true) (ok : (chainsOk q && opensWell r.prog && (frees r.toRowW && r.within.isEmpty)) = true) (hb : r.prog.bare) (hw : r.toRowW.promised)
    (call : WalkG q loose XP YP r.toRowW d kwd fun f vs => PySem.call f vs) : r.Holds := by
  obtain ⟨ok1, ok2⟩ := Bool.and_eq_true_iff.mp ok
  obtain ⟨hch, o1⟩ := Bool.and_eq_true_iff.mp ok1
  obtain ⟨k5, k6⟩ := Bool.and_eq_true_iff.mp ok2
  obtain ⟨hsame, hu, ha, hap, hm⟩ := frees_parts k5
  refine ⟨k1, hw, ⟨⟨hb, o1, by show r.toRowW.makers.map _ = []; rw [hm]; rfl⟩, hw.witness, fun w => ⟨(left.behind hX hch w).1, fun s' hs' => ?_⟩⟩⟩
  obtain ⟨s₀, hf, hg0, s, hT, hz, hgens, hg, G00, y⟩ := (left.behind (XP := fun mg h => XP mg h ∧ RecFacts r.records h) (fun s hs => ⟨hX s hs, hRf s hs⟩) hch w).2 s' hs'
  have G0 : Ground q loose [] XP w s (s.heap.nsMap mainGlobals) (s.heap.nsMap builtinsNs) s.heap := ⟨G00.T, G00.B, G00.D, G00.TE, G00.TD, G00.W, G00.X.1, G00.cls, G00.has, G00.apart, G00.once, G00.K⟩
  have RF := G00.X.2
  have hT' := hT
  refine ⟨s₀, hf, hg0, s, hT, fun n hn => ?_, RF.1, RF.2.1, ?_⟩
  · obtain rfl : n = r.name := by split at hn <;> simp_all
    exact pinned_of_view hg G0 hdef hp hk
  have hgens : s.gens = #[] := Array.eq_empty_of_size_eq_zero (beq_iff_eq.mp hgens)
  have G : Ground q loose r.records XP w s _ _ s.heap := RF.ground G0
  refine callFromG (c := r.toRowW.claim) hz hgens fun args hpre hlay ord hord => ?_
  obtain ⟨⟨vs, s₁⟩, hlaid⟩ := Option.isSome_iff_exists.mp (layAllW_isSome (P := w.params) (ord := ord) G.has args r.toRowW.args s (pre_splitW hpre).1)
  have keeps := layAllW_keeps _ _ _ hlaid
  have hal := layAllW_rest _ _ _ hlaid
  obtain ⟨as, hrd, hin, hold⟩ := reads_layAllW hord _ _ _ hlaid hlay s₁.heap (fun _ _ e => e)
  have L : Laid r.records w s s₁ args vs as := ⟨⟨ord, hord, hlaid⟩, hrd, hin, hold, keeps, hal.1.trans hgens, hal.2.2.1⟩
  have G₁ := G.keeps hXk keeps
  obtain ⟨a, o, pm, cd, doc, dV, kV, h1, h2, h3, h4, h5⟩ := G₁.fn hdef
  have h := call w s s₁ _ _ G₁ (hYk _ _ _ (hY w s y) keeps) a o pm cd doc dV kV h2 h3 h4 h5 (defOf_name hdef ▸ h1) L.gens args vs as hpre hlay L.reads L.well (L.low G.low)
  have hi := ident_freeW hu ha hap
  have hwi : r.toRowW.claim.within = [] := List.isEmpty_iff.mp k6
  refine ⟨vs, s₁, hlaid, ?_⟩
  refine wpG_bind (wpG_of (wpAny_nsGet G₁.T.g ?_))
  rw [h1]
  refine wpG_bind (wpG_mono h (fun v s' g => wpG_pure ⟨_, rfl, ?_⟩) fun e s' g => ?_)
  · have z := g.laid (c := r.toRowW.claim) hsame hwi hi L
    exact ⟨z.1, z.2.1, z.2.2, fun q => ⟨namesKept_of hT' hg _ keeps g.2.1.old, noTable hwr q⟩⟩
  · have z := g.laid (c := r.toRowW.claim) hsame hwi hi L
    exact ⟨z.1, z.2.1, z.2.2, fun q => ⟨namesKept_of hT' hg _ keeps g.2.1.old, noTable hwr q⟩⟩
end Hd
end Mine

end
section
open PySem PySem.W PyProof.Rows
namespace Hd
section
local macro_rules | `(tactic| o_head $_) => `(tactic| (exfalso; assumption))
/-- says nothing: it only has the kit write out the heap's given part as a constant of this file -/
theorem hd : False → OpenRow.Holds (OpenLaw.row PySem.Challenge.rw_pq0517_01) := by
  intro no
  k_head
end
end Hd

end
section
namespace Mine
open PySem PySem.W PySem.Spec PySem.Calls PyProof.Rows

noncomputable abbrev Bs := List UInt8
noncomputable abbrev PStr := PySem.Str
theorem nup {n a k b : Nat} (h : n ≤ a) (e : (a + k).ble b = true) : n + k ≤ b := Nat.le_trans (Nat.add_le_add_right h k) (Nat.le_of_ble_eq_true e)
theorem nupp {n a k j b : Nat} (h : n ≤ a) (e : (a + k + j).ble b = true) : n + k + j ≤ b := Nat.le_trans (Nat.add_le_add_right (Nat.add_le_add_right h k) j) (Nat.le_of_ble_eq_true e)
theorem nup0 {n a b : Nat} (h : n ≤ a) (e : a.ble b = true) : n ≤ b := Nat.le_trans h (Nat.le_of_ble_eq_true e)

/-- plain data -/
inductive D where
  | none
  | bool (b : Bool)
  | int (i : Int)
  | str (s : PStr)
  | bytes (b : Bs)
  | tup (l : List D)
  | list (l : List D)
  | hunk (a b c d : Int) (h : Bs)
  | lam (params : Arguments) (body : Expr) (scope : Scope) (qual : PStr) (cl : List (PStr × Nat))
  | glob (v : Value)
  | mut (k : Nat)
  | names
  | rng (a b : Int)

inductive AObj where
  | raw (o : Obj)
  | list (l : List D)
  | cell (v : Option D)
  | barr (b : Bs)

/-- what a Hunk made by the text looks like -/
noncomputable def HunkAt (G : Heap) (x : Addr) (a b c d : Int) (h : Bs) : Prop :=
  ∃ dx ox es n l, G.get? x = some ox ∧ ox = ⟨.ref 119, some dx, .plain, #[]⟩ ∧ G.get? dx = some (dictOf es n) ∧ G.PlainList l #[] ∧
    (∃ t, getL "old_from" es = some (some (.int a t))) ∧ (∃ t, getL "old_many" es = some (some (.int b t))) ∧
    (∃ t, getL "new_from" es = some (some (.int c t))) ∧ (∃ t, getL "new_many" es = some (some (.int d t))) ∧
    getL "rows" es = some (some (.ref l)) ∧ (∃ t, getL "heading" es = some (some (.bytes h.toArray t)))

inductive ClR (ρ : List Addr) : List (PStr × Nat) → List (PStr × Addr) → Prop
  | nil : ClR ρ [] []
  | cons {x k a r r'} : ρ[k]? = some a → ClR ρ r r' → ClR ρ ((x, k) :: r) ((x, a) :: r')

noncomputable def LamAt (G : Heap) (ρ : List Addr) (a : Addr) (params : Arguments) (body : Expr) (scope : Scope) (qual : PStr) (cl : List (PStr × Nat)) : Prop :=
  ∃ name pm c' ctv clos, G.get? a = some (kla_obj name qual params body scope clos pm c' ctv) ∧ G.CodeRec (.ref c') qual ∧ ClR ρ cl clos

/-- the letters behind a backslash -/
noncomputable def escInv : List (Int × Int) := [(97, 7), (98, 8), (116, 9), (110, 10), (118, 11), (102, 12), (114, 13), (34, 34), (92, 92)]
noncomputable def NamesAt (G : Heap) (a : Addr) : Prop := ∃ f, G.IntMap a f ∧ ∀ i, match escInv.lookup i with | some v => ∃ t, f i = some (.int v t) | none => f i = none

mutual
inductive VR (G : Heap) (ρ : List Addr) : D → Value → Prop
  | none : VR G ρ .none .none
  | bool {b} : VR G ρ (.bool b) (.bool b)
  | int {i t} : VR G ρ (.int i) (.int i t)
  | str {s t} : VR G ρ (.str s) (.str s t)
  | bytes {b t} : VR G ρ (.bytes b) (.bytes b.toArray t)
  | tup {l vs a} : VRs G ρ l vs → IsTup G a vs.toArray → VR G ρ (.tup l) (.ref a)
  | list {l vs a} : VRs G ρ l vs → G.PlainList a vs.toArray → VR G ρ (.list l) (.ref a)
  | hunk {x a b c d h} : HunkAt G x a b c d h → VR G ρ (.hunk a b c d h) (.ref x)
  | lam {a params body scope qual cl} : LamAt G ρ a params body scope qual cl → VR G ρ (.lam params body scope qual cl) (.ref a)
  | glob {v} : VR G ρ (.glob v) v
  | mut {k a} : ρ[k]? = some a → VR G ρ (.mut k) (.ref a)
  | names {a} : NamesAt G a → VR G ρ .names (.ref a)
  | rng {r a b t u v} : IsRange G r a b 1 t u v → VR G ρ (.rng a b) (.ref r)
inductive VRs (G : Heap) (ρ : List Addr) : List D → List Value → Prop
  | nil : VRs G ρ [] []
  | cons {d v l vs} : VR G ρ d v → VRs G ρ l vs → VRs G ρ (d :: l) (v :: vs)
end

theorem VR.int_inv {G : Heap} {ρ : List Addr} {i : Int} {v : Value} (h : VR G ρ (.int i) v) : ∃ t, v = .int i t := by cases h; exact ⟨_, rfl⟩
theorem VR.bytes_inv {G : Heap} {ρ : List Addr} {b : Bs} {v : Value} (h : VR G ρ (.bytes b) v) : ∃ t, v = .bytes b.toArray t := by cases h; exact ⟨_, rfl⟩
theorem VR.str_inv {G : Heap} {ρ : List Addr} {x : PStr} {v : Value} (h : VR G ρ (.str x) v) : ∃ t, v = .str x t := by cases h; exact ⟨_, rfl⟩
theorem VR.none_inv {G : Heap} {ρ : List Addr} {v : Value} (h : VR G ρ .none v) : v = .none := by cases h; rfl
theorem VR.bool_inv {G : Heap} {ρ : List Addr} {b : Bool} {v : Value} (h : VR G ρ (.bool b) v) : v = .bool b := by cases h; rfl
theorem VR.glob_inv {G : Heap} {ρ : List Addr} {f v : Value} (h : VR G ρ (.glob f) v) : v = f := by cases h; rfl
theorem VR.mut_inv {G : Heap} {ρ : List Addr} {k : Nat} {v : Value} (h : VR G ρ (.mut k) v) : ∃ a, v = .ref a ∧ ρ[k]? = some a := by cases h with | «mut» e => exact ⟨_, rfl, e⟩
theorem VR.tup_inv {G : Heap} {ρ : List Addr} {l : List D} {v : Value} (h : VR G ρ (.tup l) v) : ∃ vs a, v = .ref a ∧ VRs G ρ l vs ∧ IsTup G a vs.toArray := by cases h with | tup x y => exact ⟨_, _, rfl, x, y⟩
theorem VR.list_inv {G : Heap} {ρ : List Addr} {l : List D} {v : Value} (h : VR G ρ (.list l) v) : ∃ vs a, v = .ref a ∧ VRs G ρ l vs ∧ G.PlainList a vs.toArray := by cases h with | list x y => exact ⟨_, _, rfl, x, y⟩
theorem VR.hunk_inv {G : Heap} {ρ : List Addr} {a b c d : Int} {e : Bs} {v : Value} (h : VR G ρ (.hunk a b c d e) v) : ∃ x, v = .ref x ∧ HunkAt G x a b c d e := by cases h with | hunk x => exact ⟨_, rfl, x⟩
theorem VR.rng_inv {G : Heap} {ρ : List Addr} {a b : Int} {v : Value} (h : VR G ρ (.rng a b) v) : ∃ r t u w, v = .ref r ∧ IsRange G r a b 1 t u w := by cases h with | rng x => exact ⟨_, _, _, _, rfl, x⟩
theorem VRs.nil_inv {G : Heap} {ρ : List Addr} {vs : List Value} (h : VRs G ρ [] vs) : vs = [] := by cases h; rfl
theorem VRs.cons_inv {G : Heap} {ρ : List Addr} {d : D} {l : List D} {vs : List Value} (h : VRs G ρ (d :: l) vs) : ∃ v r, vs = v :: r ∧ VR G ρ d v ∧ VRs G ρ l r := by cases h with | cons x y => exact ⟨_, _, rfl, x, y⟩
theorem VRs.one_inv {G : Heap} {ρ : List Addr} {d : D} {vs : List Value} (h : VRs G ρ [d] vs) : ∃ v, vs = [v] ∧ VR G ρ d v := by
  obtain ⟨v, r, rfl, h1, h⟩ := h.cons_inv
  obtain rfl := h.nil_inv
  exact ⟨v, rfl, h1⟩
theorem VRs.two_inv {G : Heap} {ρ : List Addr} {d e : D} {vs : List Value} (h : VRs G ρ [d, e] vs) : ∃ v u, vs = [v, u] ∧ VR G ρ d v ∧ VR G ρ e u := by
  obtain ⟨v, r, rfl, h1, h⟩ := h.cons_inv
  obtain ⟨u, rfl, h2⟩ := h.one_inv
  exact ⟨v, u, rfl, h1, h2⟩
theorem VRs.three_inv {G : Heap} {ρ : List Addr} {d e f : D} {vs : List Value} (h : VRs G ρ [d, e, f] vs) : ∃ v u w, vs = [v, u, w] ∧ VR G ρ d v ∧ VR G ρ e u ∧ VR G ρ f w := by
  obtain ⟨v, r, rfl, h1, h⟩ := h.cons_inv
  obtain ⟨u, w, rfl, h2, h3⟩ := h.two_inv
  exact ⟨v, u, w, rfl, h1, h2, h3⟩
theorem getElem?_pre {ρ ρ' : List Addr} (h : ρ <+: ρ') {k : Nat} {a : Addr} (e : ρ[k]? = some a) : ρ'[k]? = some a := by
  obtain ⟨t, rfl⟩ := h
  rw [List.getElem?_append_left]
  · exact e
  · exact (List.getElem?_eq_some_iff.mp e).1

theorem ClR.mono {ρ ρ' : List Addr} (r : ρ <+: ρ') {l l'} (h : ClR ρ l l') : ClR ρ' l l' := by
  induction h with
  | nil => exact .nil
  | cons e _ ih => exact .cons (getElem?_pre r e) ih
theorem HunkAt.mono {G G' : Heap} (k : G.StaysIn G') {x a b c d h} (H : HunkAt G x a b c d h) : HunkAt G' x a b c d h := by
  obtain ⟨dx, ox, es, n, l, h1, h2, h3, ⟨ol, hl⟩, r⟩ := H
  exact ⟨dx, ox, es, n, l, k _ _ h1, h2, k _ _ h3, ⟨ol, k _ _ hl⟩, r⟩
theorem codeRec_stays {G G' : Heap} (k : G.StaysIn G') {v : Value} {q : PStr} (h : G.CodeRec v q) : G'.CodeRec v q := h.keeps k
theorem LamAt.mono {G G' : Heap} {ρ ρ' : List Addr} (k : G.StaysIn G') (r : ρ <+: ρ') {a params body scope qual cl} (H : LamAt G ρ a params body scope qual cl) : LamAt G' ρ' a params body scope qual cl := by
  obtain ⟨name, pm, c', ctv, clos, h1, h2, h3⟩ := H
  exact ⟨name, pm, c', ctv, clos, k _ _ h1, codeRec_stays k h2, h3.mono r⟩
theorem NamesAt.mono {G G' : Heap} (k : G.StaysIn G') {a} (h : NamesAt G a) : NamesAt G' a := by
  obtain ⟨f, ⟨o, es, ep, ho, r⟩, h2⟩ := h
  exact ⟨f, ⟨o, es, ep, k _ _ ho, r⟩, h2⟩
theorem plain_stays {G G' : Heap} (k : G.StaysIn G') {a its} (h : G.PlainList a its) : G'.PlainList a its := let ⟨n, e⟩ := h; ⟨n, k _ _ e⟩
theorem isList_stays {G G' : Heap} (k : G.StaysIn G') {a its} (h : G.IsList a its) : G'.IsList a its := let ⟨o, ho, r⟩ := h; ⟨o, k _ _ ho, r⟩

mutual
theorem VR.mono {G G' : Heap} {ρ ρ' : List Addr} (k : G.StaysIn G') (r : ρ <+: ρ') : ∀ {d v}, VR G ρ d v → VR G' ρ' d v
  | _, _, .none => .none
  | _, _, .bool => .bool
  | _, _, .int => .int
  | _, _, .str => .str
  | _, _, .bytes => .bytes
  | _, _, .tup h t => .tup (VRs.mono k r h) (t.keeps k)
  | _, _, .list h t => .list (VRs.mono k r h) (plain_stays k t)
  | _, _, .hunk h => .hunk (h.mono k)
  | _, _, .lam h => .lam (h.mono k r)
  | _, _, .glob => .glob
  | _, _, .mut e => .mut (getElem?_pre r e)
  | _, _, .names h => .names (h.mono k)
  | _, _, .rng h => .rng (k _ _ h)
theorem VRs.mono {G G' : Heap} {ρ ρ' : List Addr} (k : G.StaysIn G') (r : ρ <+: ρ') : ∀ {d v}, VRs G ρ d v → VRs G' ρ' d v
  | _, _, .nil => .nil
  | _, _, .cons h t => .cons (VR.mono k r h) (VRs.mono k r t)
end

inductive OR (G : Heap) (ρ : List Addr) : AObj → Obj → Prop
  | list {l vs n} : VRs G ρ l vs → OR G ρ (.list l) ⟨.type "list", none, .seq vs.toArray n, #[]⟩
  | cellN {o} : o.data = .cell none → OR G ρ (.cell none) o
  | cellS {o d v} : VR G ρ d v → o.data = .cell (some v) → OR G ρ (.cell (some d)) o
  | barr {b} : OR G ρ (.barr b) ⟨.type "bytearray", none, .bytearray b.toArray 0, #[]⟩
  | raw {o} : OR G ρ (.raw o) o
theorem OR.mono {G G' : Heap} {ρ ρ' : List Addr} (k : G.StaysIn G') (r : ρ <+: ρ') {a o} (h : OR G ρ a o) : OR G' ρ' a o := by
  cases h with
  | list h => exact .list (h.mono k r)
  | cellN h => exact .cellN h
  | cellS h e => exact .cellS (h.mono k r) e
  | barr => exact .barr
  | raw => exact .raw

/-- the store: addresses, objects, what they read as -/
inductive SR (G : Heap) (ρ₀ : List Addr) (h : Heap) : List Addr → List AObj → Prop
  | nil : SR G ρ₀ h [] []
  | cons {a ρ x σ o} : h.get? a = some o → OR G ρ₀ x o → SR G ρ₀ h ρ σ → SR G ρ₀ h (a :: ρ) (x :: σ)

structure Gl where
  w : World
  B : Heap
  mg : PStr → Option Value
  mb : PStr → Option Value
  loose : List PStr
  mean : ExcName → Option Value
  gens : Array GenState
  drawn : Drawn
  os : OsState


noncomputable abbrev Pg : Program := RowW.prog (OpenRow.toRowW (OpenLaw.row PySem.Challenge.rw_pq0517_01))
noncomputable abbrev Gl.M (g : Gl) : Model := model Pg g.w

structure Gl.Ok (g : Gl) : Prop where
  X : (Hd.hd.heap_1 g.w.params).In g.B
  T : Top topProg g.loose g.mean g.mg g.mb g.B
  c1 : CodeHd g.B 252 248
  c2 : CodeHd g.B 238 234
  c3 : CodeHd g.B 217 213

structure Fm where
  env : Env
  L : Addr
  m : PStr → Option Value

structure FC where
  A : Around
  env : Env
  L : Addr
  cix : List (PStr × Nat)
  outs : List Fm

structure FC.Ok (fc : FC) (n : Nat) : Prop where
  loc : fc.env.locals = fc.L
  fr : fc.env.frame = some fc.L
  gl : fc.env.globals = mainGlobals
  bi : fc.env.builtins = builtinsNs
  kind : fc.env.scope.kind = .function
  frames : fc.A.frames = some (fc.env :: fc.outs.map (·.env))
  handled : fc.A.handled = none
  depth : fc.A.depth ≤ 310 + n
  units : fc.A.units ≤ 100 + 5 * n
  outsOk : ∀ f ∈ fc.outs, f.env.frame = some f.L ∧ f.env.scope.kind = .function

noncomputable abbrev tabPs : List Addr := [248, 234, 213]
noncomputable def hid (fc : FC) (ρ : List Addr) : List Addr := fc.L :: (fc.outs.map (·.L) ++ (tabPs ++ ρ))

noncomputable def qualOf (P : Addr) : PStr := if P = 248 then "_law_is_header_right.<locals>.<lambda>" else if P = 234 then "_law_is_side_right.<locals>.<lambda>" else "_law_is_head_right.<locals>.<lambda>"
noncomputable def TabOk (G : Heap) (h : Heap) (P : Addr) : Prop :=
  ∃ ps, h.get? P = some (tabObj ps) ∧ TriplesOk ps.toList ∧ ∀ pos v, codeAmong pos ps.toList = some v → (∃ c, v = .ref c) ∧ G.CodeRec v (qualOf P)

structure AS where
  m : List (PStr × D)
  σ : List AObj

structure Rel (g : Gl) (fc : FC) (G : Heap) (a : AS) (ρ : List Addr) (s : Shared) : Prop where
  bg : g.B.StaysIn G
  gs : G.StaysIn s.heap
  hidden : ∀ x ∈ hid fc ρ, G.get? x = none
  nodup : (hid fc ρ).Nodup
  ns : ∃ m, s.heap.Ns fc.L m ∧ ∀ x d, a.m.lookup x = some d → ∃ v, m x = some v ∧ VR G ρ d v
  st : SR G ρ s.heap ρ a.σ
  tabs : ∀ P ∈ tabPs, TabOk G s.heap P
  outs : ∀ f ∈ fc.outs, s.heap.Ns f.L f.m
  cix : ∀ x k, fc.cix.lookup x = some k → ∃ c, fc.env.cells.lookup x = some c ∧ ρ[k]? = some c
  sh : s.gens = g.gens ∧ s.drawn = g.drawn ∧ s.os = g.os

noncomputable def Step (G : Heap) (ρ : List Addr) (G' : Heap) (ρ' : List Addr) : Prop := G.StaysIn G' ∧ ρ <+: ρ'
theorem Step.refl {G ρ} : Step G ρ G ρ := ⟨fun _ _ e => e, List.prefix_refl _⟩
theorem Step.trans {G ρ G₁ ρ₁ G₂ ρ₂} (x : Step G ρ G₁ ρ₁) (y : Step G₁ ρ₁ G₂ ρ₂) : Step G ρ G₂ ρ₂ := ⟨fun b o e => y.1 b o (x.1 b o e), x.2.trans y.2⟩
theorem VR.step {G ρ G' ρ' d v} (h : VR G ρ d v) (x : Step G ρ G' ρ') : VR G' ρ' d v := h.mono x.1 x.2
theorem VRs.step {G ρ G' ρ' d v} (h : VRs G ρ d v) (x : Step G ρ G' ρ') : VRs G' ρ' d v := h.mono x.1 x.2

/-- an exception of the class BadPatch, made in this frame or come from below -/
noncomputable def ExcR (g : Gl) (fc : FC) (G : Heap) (a : AS) (ρ : List Addr) (e : Value) (s : Shared) : Prop :=
  ∃ x base a0, e = .ref x ∧ Rel g fc G a ρ s ∧ G.StaysIn base ∧ (∀ y ∈ tabPs ++ ρ, ∀ o, s.heap.get? y = some o → base.get? y = some o) ∧
    ((base.StaysIn s.heap ∧ base.get? x = none ∧ s.heap.FunFrames base (fc.env :: fc.outs.map (·.env)) ∧
        ∃ oe vs, s.heap.get? x = some oe ∧ oe.cls = .ref 52 ∧ oe.data = .fields vs ∧ vs[1]? = some .none ∧ vs[0]? = some a0) ∨
      Heap.FlyingW base (fc.env :: fc.outs.map (·.env)) x (.ref 52) a0 s.heap ∨ Heap.HeldW base (fc.env :: fc.outs.map (·.env)) x (.ref 52) a0 fc.L s.heap)

/-- an answer v that reads as some d, in a state that reads as some a' -/
inductive PV {α β : Type} (V : Heap → List Addr → α → β → Prop) (g : Gl) (fc : FC) (G : Heap) (ρ : List Addr) (Q : α → AS → Prop) (v : β) (s' : Shared) : Prop
  | mk (G' : Heap) (ρ' : List Addr) (a' : AS) (d : α) (st : Step G ρ G' ρ') (r : Rel g fc G' a' ρ' s') (hv : V G' ρ' d v) (q : Q d a')
inductive PE (g : Gl) (fc : FC) (G : Heap) (ρ : List Addr) (R : AS → Prop) (e : Value) (s' : Shared) : Prop
  | mk (G' : Heap) (ρ' : List Addr) (a' : AS) (st : Step G ρ G' ρ') (x : ExcR g fc G' a' ρ' e s') (q : R a')

structure AW {α β : Type} (V : Heap → List Addr → α → β → Prop) (g : Gl) (fc : FC) (t : Sem β) (Q : α → AS → Prop) (R : AS → Prop) (a : AS) : Prop where
  run : ∀ G ρ s, Rel g fc G a ρ s → wpAny g.M fc.A t (PV V g fc G ρ Q) (PE g fc G ρ R) s

theorem PV.up {α β : Type} {V : Heap → List Addr → α → β → Prop} {g fc G ρ G₀ ρ₀} {Q : α → AS → Prop} {v : β} {s' : Shared} (st : Step G₀ ρ₀ G ρ) (h : PV V g fc G ρ Q v s') : PV V g fc G₀ ρ₀ Q v s' := by
  obtain ⟨G', ρ', a', d, h1, r, hv, q⟩ := h
  exact ⟨G', ρ', a', d, st.trans h1, r, hv, q⟩
theorem PE.up {g fc G ρ G₀ ρ₀} {R : AS → Prop} {v : Value} {s' : Shared} (st : Step G₀ ρ₀ G ρ) (h : PE g fc G ρ R v s') : PE g fc G₀ ρ₀ R v s' := by
  obtain ⟨G', ρ', a', h1, x, q⟩ := h
  exact ⟨G', ρ', a', st.trans h1, x, q⟩

section
variable {α β γ : Type} {V : Heap → List Addr → α → β → Prop} {g : Gl} {fc : FC} {G G₀ : Heap} {ρ ρ₀ : List Addr} {s : Shared} {a : AS} {Q : α → AS → Prop} {R : AS → Prop} {t : Sem β}

/-- run t from here, then go on -/
theorem aw_then {P : β → Shared → Prop} (h : AW V g fc t Q R a) (st : Step G₀ ρ₀ G ρ) (hr : Rel g fc G a ρ s)
    (k : ∀ G₁ ρ₁ d a₁ v s₁, Step G ρ G₁ ρ₁ → Step G₀ ρ₀ G₁ ρ₁ → Rel g fc G₁ a₁ ρ₁ s₁ → V G₁ ρ₁ d v → Q d a₁ → P v s₁) : wpAny g.M fc.A t P (PE g fc G₀ ρ₀ R) s :=
  wpAny_mono (h.run G ρ s hr) (fun _ _ ⟨_, _, _, _, h1, h2, h3, h4⟩ => k _ _ _ _ _ _ h1 (st.trans h1) h2 h3 h4) fun _ _ h => h.up st

theorem aw_last (h : AW V g fc t Q R a) (st : Step G₀ ρ₀ G ρ) (hr : Rel g fc G a ρ s) : wpAny g.M fc.A t (PV V g fc G₀ ρ₀ Q) (PE g fc G₀ ρ₀ R) s :=
  aw_then h st hr fun _ _ _ _ _ _ _ s2 r v q => ⟨_, _, _, _, s2, r, v, q⟩

theorem AW.mono {Q' : α → AS → Prop} {R' : AS → Prop} (h : AW V g fc t Q R a) (hQ : ∀ d a, Q d a → Q' d a) (hR : ∀ a, R a → R' a) : AW V g fc t Q' R' a :=
  .mk fun G ρ s hr => wpAny_mono (h.run G ρ s hr) (fun _ _ ⟨G', ρ', a', d, h1, h2, h3, h4⟩ => ⟨G', ρ', a', d, h1, h2, h3, hQ _ _ h4⟩) fun _ _ ⟨G', ρ', a', h1, h2, h3⟩ => ⟨G', ρ', a', h1, h2, hR _ h3⟩

theorem Rel.mono_m {m' : List (PStr × D)} (hr : Rel g fc G a ρ s) (h : ∀ x d, m'.lookup x = some d → a.m.lookup x = some d) : Rel g fc G ⟨m', a.σ⟩ ρ s :=
  { hr with ns := let ⟨m, h1, h2⟩ := hr.ns; ⟨m, h1, fun x d e => h2 x d (h x d e)⟩ }
theorem aw_drop {m' : List (PStr × D)} (h : ∀ x d, m'.lookup x = some d → a.m.lookup x = some d) (k : AW V g fc t Q R ⟨m', a.σ⟩) : AW V g fc t Q R a :=
  .mk fun G ρ s hr => k.run G ρ s (hr.mono_m h)
end

/-! flows, tests, units, lists of values -/
inductive Fl where
  | next
  | ret (d : D)
  | brk
  | cont
inductive VF (G : Heap) (ρ : List Addr) : Fl → Flow → Prop
  | next : VF G ρ .next .next
  | ret {d v} : VR G ρ d v → VF G ρ (.ret d) (.ret v)
  | brk : VF G ρ .brk .brk
  | cont : VF G ρ .cont .cont
noncomputable def VB (_ : Heap) (_ : List Addr) (b : Bool) (c : Bool) : Prop := b = c
noncomputable def VU (_ : Heap) (_ : List Addr) (_ : Unit) (_ : Unit) : Prop := True

end Mine

end
section
namespace Mine
open PySem PySem.W PySem.Spec PySem.Calls PyProof.Rows

noncomputable abbrev envS (sc : Scope) : Env := envX "" sc 0 0 .none []

section
variable {α β γ : Type} {V : Heap → List Addr → α → β → Prop} {g : Gl} {fc : FC} {G G₀ : Heap} {ρ ρ₀ : List Addr} {s : Shared} {a : AS} {R : AS → Prop} {n : Nat} {sc : Scope}

theorem Rel.toks {t : Nat} (hr : Rel g fc G a ρ s) : Rel g fc G a ρ { s with toks := t } := ⟨hr.bg, hr.gs, hr.hidden, hr.nodup, hr.ns, hr.st, hr.tabs, hr.outs, hr.cix, hr.sh⟩
theorem Rel.bs (hr : Rel g fc G a ρ s) : g.B.StaysIn s.heap := fun b o e => hr.gs b o (hr.bg b o e)
theorem Rel.top (g' : g.Ok) (hr : Rel g fc G a ρ s) : Top topProg g.loose g.mean g.mg g.mb s.heap := g'.T.keeps hr.bs
theorem Rel.K (g' : g.Ok) (hr : Rel g fc G a ρ s) : (Hd.hd.heap_1 g.w.params).In s.heap := g'.X.keeps hr.bs

theorem pv {Q : α → AS → Prop} {d : α} {v : β} (hr : Rel g fc G a ρ s) (hv : V G ρ d v) (h : Q d a) : PV V g fc G ρ Q v s := ⟨G, ρ, a, d, Step.refl, hr, hv, h⟩

/-! expressions -/
theorem a_int {i : Int} {k pos} {Q : D → AS → Prop} (h : Q (.int i) a) : AW VR g fc (eval (.Constant (.int i) k pos) fc.env) Q R a :=
  .mk fun _ _ _ hr => wpAny_Constant_int (pv hr.toks .int h)
theorem a_str {x : PStr} {k pos} {Q : D → AS → Prop} (h : Q (.str x) a) : AW VR g fc (eval (.Constant (.str x) k pos) fc.env) Q R a :=
  .mk fun _ _ _ hr => Constant_str (pv hr.toks .str h)
theorem a_bytes {x : Bs} {k pos} {Q : D → AS → Prop} (h : Q (.bytes x) a) : AW VR g fc (eval (.Constant (.bytes x) k pos) fc.env) Q R a :=
  .mk fun _ _ _ hr => Constant_bytes (pv hr.toks .bytes h)
theorem a_bool {b : Bool} {k pos} {Q : D → AS → Prop} (h : Q (.bool b) a) : AW VR g fc (eval (.Constant (.bool b) k pos) fc.env) Q R a :=
  .mk fun _ _ _ hr => Constant_bool (pv hr .bool h)
theorem a_none {k pos} {Q : D → AS → Prop} (h : Q .none a) : AW VR g fc (eval (.Constant .none k pos) fc.env) Q R a :=
  .mk fun _ _ _ hr => Constant_none (pv hr .none h)

theorem a_loadL {x : PStr} {d : D} {Q : D → AS → Prop} (ok : fc.Ok n) (hs : fc.env.scope = sc) (hv : a.m.lookup x = some d) (h : Q d a) (hk : sc.names.lookup x = some .local := by rfl) :
    AW VR g fc (loadName fc.env x) Q R a := by
  refine .mk fun G ρ s hr => ?_
  obtain ⟨m, h1, h2⟩ := hr.ns
  obtain ⟨v, hm, hv'⟩ := h2 x d hv
  refine wpAny_loadName_local (m := m) ok.kind (by unfold Env.kindOf; rw [hs]; exact hk) (by rw [ok.loc]; exact h1) hm (pv hr hv' h)
theorem a_loc {x : PStr} {pos : Pos} {d : D} {Q : D → AS → Prop} (ok : fc.Ok n) (hs : fc.env.scope = sc) (hv : a.m.lookup x = some d) (h : Q d a) (hk : sc.names.lookup x = some .local := by rfl)
    (hd : (x == ("__debug__" : PStr)) = false := by with_unfolding_all rfl) : AW VR g fc (eval (.Name x pos) fc.env) Q R a :=
  .mk fun G ρ s hr => wpAny_Name ((a_loadL ok hs hv h hk).run G ρ s hr) hd

/-- a name of the text's top -/
theorem a_glob {x : PStr} {pos : Pos} {v : Value} {d : D} {Q : D → AS → Prop} (g' : g.Ok) (ok : fc.Ok n) (hs : fc.env.scope = sc) (e : nsIn (Hd.hd.heap_1 g.w.params) mainGlobals x = some (some v)) (hv : ∀ G ρ, VR G ρ d v) (h : Q d a)
    (hk : sc.names.lookup x = some .globalImplicit := by rfl) (hd : (x == ("__debug__" : PStr)) = false := by decide) : AW VR g fc (eval (.Name x pos) fc.env) Q R a := by
  refine .mk fun G ρ s hr => ?_
  refine Name_function_global ok.kind (by unfold Env.kindOf; rw [hs]; exact hk) (loadGlobal_global (mg := g.mg) (by rw [ok.gl]; exact (hr.top g').g) (mg_of g'.X g'.T.g e) (pv hr (hv G ρ) h)) hd
theorem boot_len : bootBuiltins ("len" : PStr) = some (.builtin "len") := by with_unfolding_all rfl
theorem boot_ord : bootBuiltins ("ord" : PStr) = some (.builtin "ord") := by with_unfolding_all rfl
theorem boot_range : bootBuiltins ("range" : PStr) = some (.type "range") := by with_unfolding_all rfl
theorem boot_str : bootBuiltins ("str" : PStr) = some (.type "str") := by with_unfolding_all rfl
theorem boot_bytes : bootBuiltins ("bytes" : PStr) = some (.type "bytes") := by with_unfolding_all rfl
theorem boot_list : bootBuiltins ("list" : PStr) = some (.type "list") := by with_unfolding_all rfl
theorem boot_dict : bootBuiltins ("dict" : PStr) = some (.type "dict") := by with_unfolding_all rfl
theorem boot_bytearray : bootBuiltins ("bytearray" : PStr) = some (.type "bytearray") := by with_unfolding_all rfl
/-- a built-in name -/
theorem a_boot {x : PStr} {pos : Pos} {v : Value} {Q : D → AS → Prop} (g' : g.Ok) (ok : fc.Ok n) (hs : fc.env.scope = sc) (e : nsIn (Hd.hd.heap_1 g.w.params) mainGlobals x = some none) (hv : bootBuiltins x = some v) (h : Q (.glob v) a)
    (hn : x ≠ "__name__" := by decide) (hk : sc.names.lookup x = some .globalImplicit := by rfl) (hd : (x == ("__debug__" : PStr)) = false := by decide) : AW VR g fc (eval (.Name x pos) fc.env) Q R a := by
  refine .mk fun G ρ s hr => ?_
  refine Name_function_global ok.kind (by unfold Env.kindOf; rw [hs]; exact hk) (loadGlobal_builtin (mg := g.mg) (mb := g.mb) (by rw [ok.gl]; exact (hr.top g').g) (mg_none_of g'.X g'.T.g e) (by rw [ok.bi]; exact (hr.top g').b) ((g'.T.builtins x hn).trans hv) (pv hr .glob h)) hd

/-- cells, own and from around -/
theorem SR.get {G ρ₀ h} : ∀ {ρ : List Addr} {σ : List AObj} {k : Nat} {c : Addr} {x : AObj}, SR G ρ₀ h ρ σ → ρ[k]? = some c → σ[k]? = some x → ∃ o, h.get? c = some o ∧ OR G ρ₀ x o
  | _, _, _, _, _, .nil, e, _ => by cases e
  | _, _, 0, _, _, .cons h1 h2 _, e, e' => by cases e; cases e'; exact ⟨_, h1, h2⟩
  | _, _, k + 1, _, _, .cons _ _ r, e, e' => SR.get r (by simpa using e) (by simpa using e')
theorem a_cell {x : PStr} {pos : Pos} {k : Nat} {d : D} {Q : D → AS → Prop} (ok : fc.Ok n) (hs : fc.env.scope = sc) (hx : fc.cix.lookup x = some k) (hv : a.σ[k]? = some (.cell (some d))) (h : Q d a)
    (hk : sc.names.lookup x = some .cell ∨ sc.names.lookup x = some .free) (hd : (x == ("__debug__" : PStr)) = false := by decide) (hn : (x == ("__classdict__" : PStr)) = false := by decide) : AW VR g fc (eval (.Name x pos) fc.env) Q R a := by
  refine .mk fun G ρ s hr => ?_
  obtain ⟨c, h1, h2⟩ := hr.cix x k hx
  obtain ⟨o, h3, h4⟩ := hr.st.get h2 hv
  cases h4 with
  | cellS hv' e =>
    rcases hk with hk | hk
    · exact wpAny_Name (wpAny_loadName_cell ok.kind (by unfold Env.kindOf; rw [hs]; exact hk) h1 ⟨o, h3, e⟩ (pv hr hv' h)) hd
    · exact wpAny_Name (wpAny_loadName_free ok.kind (by unfold Env.kindOf; rw [hs]; exact hk) h1 ⟨o, h3, e⟩ (pv hr hv' h) hn) hd

structure AOk (A : Around) : Prop where
  depth : A.depth ≤ 600
  units : A.units ≤ 2000
  handled : A.handled = none
theorem FC.Ok.ao (ok : fc.Ok n) (hn : n ≤ 200 := by first | exact nup (by with_reducible assumption) (by rfl) | exact nup0 (by with_reducible assumption) (by rfl) | exact nupp (by with_reducible assumption) (by rfl) | omega) : AOk fc.A := ⟨by have := ok.depth; omega, by have := ok.units; omega, ok.handled⟩

/-- an operation of two data that makes nothing -/
structure Op2 (f : Value → Value → Sem Value) (d₁ d₂ d : D) : Prop where
  run : ∀ (p : Program) (w : World) (A : Around) (E : Value → Shared → Prop) (Q : Value → Shared → Prop) (s : Shared) (G : Heap) (ρ : List Addr) (v₁ v₂ : Value), AOk A → G.StaysIn s.heap → VR G ρ d₁ v₁ → VR G ρ d₂ v₂ →
    (∀ v tk, VR G ρ d v → Q v { s with toks := tk }) → wpAny (model p w) A (f v₁ v₂) Q E s
structure Op1 {β : Type} (f : Value → Sem β) (d₁ : D) (W : Heap → List Addr → β → Prop) : Prop where
  run : ∀ (p : Program) (w : World) (A : Around) (E : Value → Shared → Prop) (Q : β → Shared → Prop) (s : Shared) (G : Heap) (ρ : List Addr) (v₁ : Value), AOk A → G.StaysIn s.heap → VR G ρ d₁ v₁ →
    (∀ v tk, W G ρ v → Q v { s with toks := tk }) → wpAny (model p w) A (f v₁) Q E s
noncomputable abbrev Tru (d : D) (b : Bool) : Prop := Op1 truthy d fun _ _ c => c = b

/-! what goes on behind a part of a row, as constants: so the proofs of walks stay small -/
noncomputable abbrev KR (g : Gl) (fc : FC) (e : Expr) (K : D → D → AS → Prop) (R : AS → Prop) : D → AS → Prop := fun d₁ a₁ => AW VR g fc (eval e fc.env) (K d₁) R a₁
noncomputable abbrev KOp (f : Value → Value → Sem Value) (Q : D → AS → Prop) : D → D → AS → Prop := fun d₁ d₂ a₂ => ∃ d, Op2 f d₁ d₂ d ∧ Q d a₂
noncomputable abbrev KOb (f : Value → Value → Sem Value) (Q : Bool → AS → Prop) : D → D → AS → Prop := fun d₁ d₂ a₂ => ∃ b, Op2 f d₁ d₂ (.bool b) ∧ Q b a₂
noncomputable abbrev KSp (P N : AS → Prop) : Bool → AS → Prop := fun c a₁ => (c = true → P a₁) ∧ (c = false → N a₁)
noncomputable abbrev KTr (Q : Bool → AS → Prop) : D → AS → Prop := fun d₁ a₁ => ∃ b, Tru d₁ b ∧ Q b a₁
noncomputable abbrev KTa (P : AS → Prop) (Q : D → AS → Prop) : D → AS → Prop := fun d₁ a₁ => ∃ b, Tru d₁ b ∧ KSp P (Q d₁) b a₁
noncomputable abbrev KTo (P : AS → Prop) (Q : D → AS → Prop) : D → AS → Prop := fun d₁ a₁ => ∃ b, Tru d₁ b ∧ KSp (Q d₁) P b a₁
noncomputable abbrev KUn (op : UnaryOp) (Q : D → AS → Prop) : D → AS → Prop := fun d₁ a₁ => ∃ d, Op1 (unaryOp op) d₁ (fun G ρ v => VR G ρ d v) ∧ Q d a₁
noncomputable abbrev KNo (Q : Bool → AS → Prop) : Bool → AS → Prop := fun c a₁ => Q (!c) a₁
noncomputable abbrev KRt (Q : Fl → AS → Prop) : D → AS → Prop := fun d a₁ => Q (.ret d) a₁
noncomputable abbrev KAs (x : PStr) (Q : Fl → AS → Prop) : D → AS → Prop := fun d a₁ => Q .next ⟨(x, d) :: a₁.m, a₁.σ⟩
noncomputable abbrev KCc (g : Gl) (fc : FC) (f : Value → Value → Sem Value) (e : Expr) (K : D → D → AS → Prop) (N R : AS → Prop) : D → D → AS → Prop := fun d₁ d₂ a₂ => ∃ b, Op2 f d₁ d₂ (.bool b) ∧ KSp (AW VR g fc (eval e fc.env) (K d₂) R) N b a₂
theorem kcc {g : Gl} {fc : FC} {f : Value → Value → Sem Value} {e : Expr} {K : D → D → AS → Prop} {N R : AS → Prop} {d₁ d₂ : D} {b : Bool} {a : AS} (h : Op2 f d₁ d₂ (.bool b)) (q : KSp (AW VR g fc (eval e fc.env) (K d₂) R) N b a) : KCc g fc f e K N R d₁ d₂ a := ⟨b, h, q⟩
theorem kop {f : Value → Value → Sem Value} {Q : D → AS → Prop} {d₁ d₂ d : D} {a : AS} (h : Op2 f d₁ d₂ d) (q : Q d a) : KOp f Q d₁ d₂ a := ⟨d, h, q⟩
theorem kob {f : Value → Value → Sem Value} {Q : Bool → AS → Prop} {d₁ d₂ : D} {b : Bool} {a : AS} (h : Op2 f d₁ d₂ (.bool b)) (q : Q b a) : KOb f Q d₁ d₂ a := ⟨b, h, q⟩
theorem ksp_t {P N : AS → Prop} {a : AS} (h : P a) : KSp P N true a := ⟨fun _ => h, fun e => Bool.noConfusion e⟩
theorem ksp_f {P N : AS → Prop} {a : AS} (h : N a) : KSp P N false a := ⟨fun e => Bool.noConfusion e, fun _ => h⟩
theorem ksp_nt {P N : AS → Prop} {a : AS} (h : N a) : KSp P N (!true) a := ksp_f h
theorem ksp_nf {P N : AS → Prop} {a : AS} (h : P a) : KSp P N (!false) a := ksp_t h
theorem ksp {P N : AS → Prop} {c : Bool} {a : AS} (h1 : c = true → P a) (h2 : c = false → N a) : KSp P N c a := ⟨h1, h2⟩
theorem ktr {Q : Bool → AS → Prop} {d : D} {b : Bool} {a : AS} (h : Tru d b) (q : Q b a) : KTr Q d a := ⟨b, h, q⟩
theorem kta {P : AS → Prop} {Q : D → AS → Prop} {d : D} {b : Bool} {a : AS} (h : Tru d b) (q : KSp P (Q d) b a) : KTa P Q d a := ⟨b, h, q⟩
theorem kto {P : AS → Prop} {Q : D → AS → Prop} {d : D} {b : Bool} {a : AS} (h : Tru d b) (q : KSp (Q d) P b a) : KTo P Q d a := ⟨b, h, q⟩
theorem kun {op : UnaryOp} {Q : D → AS → Prop} {d d₁ : D} {a : AS} (h : Op1 (unaryOp op) d₁ (fun G ρ v => VR G ρ d v)) (q : Q d a) : KUn op Q d₁ a := ⟨d, h, q⟩
/-- no starred argument -/
noncomputable def plainArg : Expr → Bool
  | .Starred _ _ => false
  | _ => true
theorem star_ok {e : Expr} {rest : List Expr} {env : Env} (h : plainArg e = true) : starEach (e :: rest) env = (false, eval e env) :: starEach rest env := by
  cases e <;> first | rfl | cases h
theorem star_any {pos : Pos} {env : Env} : ∀ {l : List Expr}, l.all plainArg = true → (backTo pos (starEach l env)).any (·.1) = false
  | [], _ => rfl
  | e :: r, h => by
    obtain ⟨h1, h2⟩ := Bool.and_eq_true_iff.mp (List.all_cons.symm.trans h)
    rw [star_ok h1]
    exact star_any (l := r) h2
theorem star_args {pos : Pos} {env : Env} : ∀ {l : List Expr}, l.all plainArg = true → l = [] ∨ ∃ e rest, l = e :: rest ∧ starEach (e :: rest) env = (false, eval e env) :: starEach rest env ∧ (backTo pos (starEach rest env)).any (·.1) = false
  | [], _ => .inl rfl
  | e :: r, h => by
    obtain ⟨h1, h2⟩ := Bool.and_eq_true_iff.mp (List.all_cons.symm.trans h)
    exact .inr ⟨e, r, rfl, star_ok h1, star_any h2⟩

theorem a_BinOp {l r op pos} {Q : D → AS → Prop} (ok : fc.Ok n) (h : AW VR g fc (eval l fc.env) (KR g fc r (KOp (binaryOp op) Q) R) R a) (hn : n ≤ 200 := by first | exact nup (by with_reducible assumption) (by rfl) | exact nup0 (by with_reducible assumption) (by rfl) | exact nupp (by with_reducible assumption) (by rfl) | omega) :
    AW VR g fc (eval (.BinOp l op r pos) fc.env) Q R a := .mk fun G ρ s hr =>
  wpAny_BinOp (aw_then h Step.refl hr fun G₁ ρ₁ d₁ a₁ v₁ s₁ _ st₁ r₁ hv₁ q₁ => aw_then q₁ st₁ r₁ fun G₂ ρ₂ d₂ a₂ v₂ s₂ st₁₂ st₂ r₂ hv₂ ⟨d, hop, hq⟩ =>
    hop.run _ _ _ _ _ _ G₂ ρ₂ _ _ ok.ao r₂.gs (hv₁.step st₁₂) hv₂ fun v tk hv => ⟨G₂, ρ₂, a₂, d, st₂, r₂.toks, hv, hq⟩)

theorem a_Cmp1 {l r op pos} {Q : D → AS → Prop} (ok : fc.Ok n) (h : AW VR g fc (eval l fc.env) (KR g fc r (KOp (compareOp op) Q) R) R a) (hn : n ≤ 200 := by first | exact nup (by with_reducible assumption) (by rfl) | exact nup0 (by with_reducible assumption) (by rfl) | exact nupp (by with_reducible assumption) (by rfl) | omega)
    (hm : behindInMarks op r = false := by with_unfolding_all rfl) : AW VR g fc (eval (.Compare l [op] [r] pos) fc.env) Q R a := .mk fun G ρ s hr =>
  wpAny_Compare1 (aw_then h Step.refl hr fun G₁ ρ₁ d₁ a₁ v₁ s₁ _ st₁ r₁ hv₁ q₁ => aw_then q₁ st₁ r₁ fun G₂ ρ₂ d₂ a₂ v₂ s₂ st₁₂ st₂ r₂ hv₂ ⟨d, hop, hq⟩ =>
    hop.run _ _ _ _ _ _ G₂ ρ₂ _ _ ok.ao r₂.gs (hv₁.step st₁₂) hv₂ fun v tk hv => ⟨G₂, ρ₂, a₂, d, st₂, r₂.toks, hv, hq⟩) hm

theorem t_Cmp1 {l r op pos whole} {Q : Bool → AS → Prop} (ok : fc.Ok n) (h : AW VR g fc (eval l fc.env) (KR g fc r (KOb (compareOp op) Q) R) R a) (hn : n ≤ 200 := by first | exact nup (by with_reducible assumption) (by rfl) | exact nup0 (by with_reducible assumption) (by rfl) | exact nupp (by with_reducible assumption) (by rfl) | omega)
    (hm : behindInMarks op r = false := by with_unfolding_all rfl) : AW VB g fc (isTrue (.Compare l [op] [r] pos) fc.env whole) Q R a := .mk fun G ρ s hr =>
  wpAny_isTrue_Compare1 (aw_then h Step.refl hr fun G₁ ρ₁ d₁ a₁ v₁ s₁ _ st₁ r₁ hv₁ q₁ => aw_then q₁ st₁ r₁ fun G₂ ρ₂ d₂ a₂ v₂ s₂ st₁₂ st₂ r₂ hv₂ ⟨b, hop, hq⟩ =>
    hop.run _ _ _ _ _ _ G₂ ρ₂ _ _ ok.ao r₂.gs (hv₁.step st₁₂) hv₂ fun v tk hv => by
      cases hv
      exact wpAny_truthy_bool ⟨G₂, ρ₂, a₂, b, st₂, r₂.toks, rfl, hq⟩) hm

/-- chains of two comparisons -/
theorem t_Cmp2 {l r₁ r₂ op₁ op₂ pos whole} {Q : Bool → AS → Prop} (ok : fc.Ok n) (h : AW VR g fc (eval l fc.env) (KR g fc r₁ (KCc g fc (compareOp op₁) r₂ (KOb (compareOp op₂) Q) (Q false) R) R) R a) (hn : n ≤ 200 := by first | exact nup (by with_reducible assumption) (by rfl) | exact nup0 (by with_reducible assumption) (by rfl) | exact nupp (by with_reducible assumption) (by rfl) | omega)
    (hm : lastMarks [op₁, op₂] [r₁, r₂] = false := by with_unfolding_all rfl) : AW VB g fc (isTrue (.Compare l [op₁, op₂] [r₁, r₂] pos) fc.env whole) Q R a := .mk fun G ρ s hr => by
  refine isTrue_chain (aw_then h Step.refl hr fun G₁ ρ₁ d₁ a₁ v₁ s₁ _ st₁ r₁ hv₁ q₁ => ?_) hm
  refine test_link (aw_then q₁ st₁ r₁ fun G₂ ρ₂ d₂ a₂ v₂ s₂ st₁₂ st₂ r₂ hv₂ ⟨b, hop, ht, hf⟩ => ?_)
  refine hop.run _ _ _ _ _ _ G₂ ρ₂ _ _ ok.ao r₂.gs (hv₁.step st₁₂) hv₂ fun v tk hv => ?_
  cases hv
  refine wpAny_truthy_bool ?_
  cases b with
  | false => exact ⟨G₂, ρ₂, a₂, false, st₂, r₂.toks, rfl, hf rfl⟩
  | true =>
    refine test_last (aw_then (ht rfl) st₂ r₂.toks fun G₃ ρ₃ d₃ a₃ v₃ s₃ st₂₃ st₃ r₃ hv₃ ⟨b, hop, hq⟩ => ?_)
    refine hop.run _ _ _ _ _ _ G₃ ρ₃ _ _ ok.ao r₃.gs (hv₂.step st₂₃) hv₃ fun v tk hv => ?_
    cases hv
    exact wpAny_truthy_bool ⟨G₃, ρ₃, a₃, b, st₃, r₃.toks, rfl, hq⟩
theorem a_Cmp2 {l r₁ r₂ op₁ op₂ pos} {Q : D → AS → Prop} (ok : fc.Ok n) (h : AW VR g fc (eval l fc.env) (KR g fc r₁ (KCc g fc (compareOp op₁) r₂ (KOb (compareOp op₂) fun b => Q (.bool b)) (Q (.bool false)) R) R) R a) (hn : n ≤ 200 := by first | exact nup (by with_reducible assumption) (by rfl) | exact nup0 (by with_reducible assumption) (by rfl) | exact nupp (by with_reducible assumption) (by rfl) | omega)
    (hm : lastMarks [op₁, op₂] [r₁, r₂] = false := by with_unfolding_all rfl) : AW VR g fc (eval (.Compare l [op₁, op₂] [r₁, r₂] pos) fc.env) Q R a := .mk fun G ρ s hr => by
  refine Compare_chain (aw_then h Step.refl hr fun G₁ ρ₁ d₁ a₁ v₁ s₁ _ st₁ r₁ hv₁ q₁ => ?_) hm
  refine chain_link (aw_then q₁ st₁ r₁ fun G₂ ρ₂ d₂ a₂ v₂ s₂ st₁₂ st₂ r₂ hv₂ ⟨b, hop, ht, hf⟩ => ?_)
  refine hop.run _ _ _ _ _ _ G₂ ρ₂ _ _ ok.ao r₂.gs (hv₁.step st₁₂) hv₂ fun v tk hv => ?_
  cases hv
  refine wpAny_truthy_bool ?_
  cases b with
  | false => exact ⟨G₂, ρ₂, a₂, .bool false, st₂, r₂.toks, .bool, hf rfl⟩
  | true =>
    refine chain_last (aw_then (ht rfl) st₂ r₂.toks fun G₃ ρ₃ d₃ a₃ v₃ s₃ st₂₃ st₃ r₃ hv₃ ⟨b, hop, hq⟩ => ?_)
    exact hop.run _ _ _ _ _ _ G₃ ρ₃ _ _ ok.ao r₃.gs (hv₂.step st₂₃) hv₃ fun v tk hv => ⟨G₃, ρ₃, a₃, _, st₃, r₃.toks, hv, hq⟩

theorem a_UnaryOp {x op pos} {Q : D → AS → Prop} (ok : fc.Ok n) (h : AW VR g fc (eval x fc.env) (KUn op Q) R a) (hn : n ≤ 200 := by first | exact nup (by with_reducible assumption) (by rfl) | exact nup0 (by with_reducible assumption) (by rfl) | exact nupp (by with_reducible assumption) (by rfl) | omega) :
    AW VR g fc (eval (.UnaryOp op x pos) fc.env) Q R a := .mk fun G ρ s hr =>
  UnaryOp_ (aw_then h Step.refl hr fun G₁ ρ₁ d₁ a₁ v₁ s₁ _ st₁ r₁ hv₁ ⟨d, hop, hq⟩ => hop.run _ _ _ _ _ _ G₁ ρ₁ _ ok.ao r₁.gs hv₁ fun v tk hv => ⟨G₁, ρ₁, a₁, d, st₁, r₁.toks, hv, hq⟩)

theorem a_IfExp {test body orelse pos} {Q : D → AS → Prop} (h : AW VB g fc (isTrue test fc.env (eval test fc.env)) (KSp (AW VR g fc (eval body fc.env) Q R) (AW VR g fc (eval orelse fc.env) Q R)) R a) :
    AW VR g fc (eval (.IfExp test body orelse pos) fc.env) Q R a := .mk fun G ρ s hr =>
  IfExp_ (aw_then h Step.refl hr fun G₁ ρ₁ d₁ a₁ v₁ s₁ _ st₁ r₁ hv₁ q₁ => by
    cases hv₁
    cases d₁ with
    | true => exact aw_last (q₁.1 rfl) st₁ r₁
    | false => exact aw_last (q₁.2 rfl) st₁ r₁)

theorem a_One {e op pos} {Q : D → AS → Prop} (h : AW VR g fc (eval e fc.env) Q R a) : AW VR g fc (eval (.BoolOp op [e] pos) fc.env) Q R a := .mk fun G ρ s hr => BoolOp_one (h.run G ρ s hr)
theorem a_And {e₁ e₂ rest pos} {Q : D → AS → Prop} (ok : fc.Ok n) (h : AW VR g fc (eval e₁ fc.env) (KTa (AW VR g fc (eval (.BoolOp .And (e₂ :: rest) pos) fc.env) Q R) Q) R a) (hn : n ≤ 200 := by first | exact nup (by with_reducible assumption) (by rfl) | exact nup0 (by with_reducible assumption) (by rfl) | exact nupp (by with_reducible assumption) (by rfl) | omega) :
    AW VR g fc (eval (.BoolOp .And (e₁ :: e₂ :: rest) pos) fc.env) Q R a := .mk fun G ρ s hr =>
  BoolOp_and (aw_then h Step.refl hr fun G₁ ρ₁ d₁ a₁ v₁ s₁ _ st₁ r₁ hv₁ ⟨b, hop, ht, hf⟩ => hop.run _ _ _ _ _ _ G₁ ρ₁ _ ok.ao r₁.gs hv₁ fun c tk hc => by
    subst hc
    cases c with
    | true => exact aw_last (ht rfl) st₁ r₁.toks
    | false => exact ⟨G₁, ρ₁, a₁, d₁, st₁, r₁.toks, hv₁, hf rfl⟩)
theorem a_Or {e₁ e₂ rest pos} {Q : D → AS → Prop} (ok : fc.Ok n) (h : AW VR g fc (eval e₁ fc.env) (KTo (AW VR g fc (eval (.BoolOp .Or (e₂ :: rest) pos) fc.env) Q R) Q) R a) (hn : n ≤ 200 := by first | exact nup (by with_reducible assumption) (by rfl) | exact nup0 (by with_reducible assumption) (by rfl) | exact nupp (by with_reducible assumption) (by rfl) | omega) :
    AW VR g fc (eval (.BoolOp .Or (e₁ :: e₂ :: rest) pos) fc.env) Q R a := .mk fun G ρ s hr =>
  BoolOp_or (aw_then h Step.refl hr fun G₁ ρ₁ d₁ a₁ v₁ s₁ _ st₁ r₁ hv₁ ⟨b, hop, ht, hf⟩ => hop.run _ _ _ _ _ _ G₁ ρ₁ _ ok.ao r₁.gs hv₁ fun c tk hc => by
    subst hc
    cases c with
    | false => exact aw_last (hf rfl) st₁ r₁.toks
    | true => exact ⟨G₁, ρ₁, a₁, d₁, st₁, r₁.toks, hv₁, ht rfl⟩)

/-! tests -/
theorem t_Not {x pos whole} {Q : Bool → AS → Prop} (h : AW VB g fc (isTrue x fc.env (eval x fc.env)) (KNo Q) R a) : AW VB g fc (isTrue (.UnaryOp .Not x pos) fc.env whole) Q R a := .mk fun G ρ s hr =>
  isTrue_not (aw_then h Step.refl hr fun G₁ ρ₁ d₁ a₁ v₁ s₁ _ st₁ r₁ hv₁ q₁ => ⟨G₁, ρ₁, a₁, _, st₁, r₁, by rw [hv₁]; rfl, q₁⟩)
theorem t_And0 {pos whole} {Q : Bool → AS → Prop} (h : Q true a) : AW VB g fc (isTrue (.BoolOp .And [] pos) fc.env whole) Q R a := .mk fun _ _ _ hr => isTrue_and_nil (pv hr rfl h)
theorem t_Or0 {pos whole} {Q : Bool → AS → Prop} (h : Q false a) : AW VB g fc (isTrue (.BoolOp .Or [] pos) fc.env whole) Q R a := .mk fun _ _ _ hr => isTrue_or_nil (pv hr rfl h)
theorem t_And {x rest pos whole} {Q : Bool → AS → Prop} (h : AW VB g fc (isTrue x fc.env (eval x fc.env)) (KSp (AW VB g fc (isTrue (.BoolOp .And rest pos) fc.env whole) Q R) (Q false)) R a) :
    AW VB g fc (isTrue (.BoolOp .And (x :: rest) pos) fc.env whole) Q R a := .mk fun G ρ s hr =>
  isTrue_and (aw_then h Step.refl hr fun G₁ ρ₁ d₁ a₁ v₁ s₁ _ st₁ r₁ hv₁ q₁ => by
    cases hv₁
    cases d₁ with
    | true => exact aw_last (q₁.1 rfl) st₁ r₁
    | false => exact ⟨G₁, ρ₁, a₁, _, st₁, r₁, rfl, q₁.2 rfl⟩)
theorem t_Or {x rest pos whole} {Q : Bool → AS → Prop} (h : AW VB g fc (isTrue x fc.env (eval x fc.env)) (KSp (Q true) (AW VB g fc (isTrue (.BoolOp .Or rest pos) fc.env whole) Q R)) R a) :
    AW VB g fc (isTrue (.BoolOp .Or (x :: rest) pos) fc.env whole) Q R a := .mk fun G ρ s hr =>
  isTrue_or (aw_then h Step.refl hr fun G₁ ρ₁ d₁ a₁ v₁ s₁ _ st₁ r₁ hv₁ q₁ => by
    cases hv₁
    cases d₁ with
    | false => exact aw_last (q₁.2 rfl) st₁ r₁
    | true => exact ⟨G₁, ρ₁, a₁, _, st₁, r₁, rfl, q₁.1 rfl⟩)
theorem t_plain {e : Expr} {Q : Bool → AS → Prop} (ok : fc.Ok n) (h : AW VR g fc (eval e fc.env) (KTr Q) R a) (hn : n ≤ 200 := by first | exact nup (by with_reducible assumption) (by rfl) | exact nup0 (by with_reducible assumption) (by rfl) | exact nupp (by with_reducible assumption) (by rfl) | omega)
    (he : isTrue e fc.env (eval e fc.env) = (do let v ← (eval e fc.env); standAt e.pos; holding [v] (truthy v)) := by rfl) : AW VB g fc (isTrue e fc.env (eval e fc.env)) Q R a := .mk fun G ρ s hr =>
  isTrue_plain (aw_then h Step.refl hr fun G₁ ρ₁ d₁ a₁ v₁ s₁ _ st₁ r₁ hv₁ ⟨b, hop, hq⟩ => hop.run _ _ _ _ _ _ G₁ ρ₁ _ ok.ao r₁.gs hv₁ fun c tk hc => ⟨G₁, ρ₁, a₁, b, st₁, r₁.toks, hc.symm, hq⟩) he

/-! statements -/
theorem x_nil {Q : Fl → AS → Prop} (h : Q .next a) : AW VF g fc (execs [] fc.env) Q R a := .mk fun _ _ _ hr => wpAny_execs_nil (pv hr .next h)
/-- what goes on behind a statement -/
noncomputable def Nx (g : Gl) (fc : FC) (rest : List Stmt) (Q : Fl → AS → Prop) (R : AS → Prop) : Fl → AS → Prop
  | .next, a => AW VF g fc (execs rest fc.env) Q R a
  | f, a => Q f a
theorem x_cons {st rest} {Q : Fl → AS → Prop} (h : AW VF g fc (exec st fc.env) (Nx g fc rest Q R) R a) : AW VF g fc (execs (st :: rest) fc.env) Q R a := .mk fun G ρ s hr =>
  wpAny_execs_cons (aw_then h Step.refl hr fun G₁ ρ₁ d₁ a₁ v₁ s₁ _ st₁ r₁ hv₁ q₁ => by
    cases hv₁ with
    | next => exact aw_last (show AW VF g fc _ Q R a₁ from q₁) st₁ r₁
    | ret hv => exact ⟨G₁, ρ₁, a₁, _, st₁, r₁, .ret hv, q₁⟩
    | brk => exact ⟨G₁, ρ₁, a₁, _, st₁, r₁, .brk, q₁⟩
    | cont => exact ⟨G₁, ρ₁, a₁, _, st₁, r₁, .cont, q₁⟩)
theorem x_Return {e pos} {Q : Fl → AS → Prop} (h : AW VR g fc (eval e fc.env) (KRt Q) R a) : AW VF g fc (exec (.Return (some e) pos) fc.env) Q R a := .mk fun G ρ s hr =>
  wpAny_Return_some (aw_then h Step.refl hr fun G₁ ρ₁ d₁ a₁ v₁ s₁ _ st₁ r₁ hv₁ q₁ => ⟨G₁, ρ₁, a₁, _, st₁, r₁, .ret hv₁, q₁⟩)
theorem x_If {test body orelse pos} {Q : Fl → AS → Prop} (h : AW VB g fc (isTrue test fc.env (eval test fc.env)) (KSp (AW VF g fc (execs body fc.env) Q R) (AW VF g fc (execs orelse fc.env) Q R)) R a) :
    AW VF g fc (exec (.If test body orelse pos) fc.env) Q R a := .mk fun G ρ s hr =>
  wpAny_If (aw_then h Step.refl hr fun G₁ ρ₁ d₁ a₁ v₁ s₁ _ st₁ r₁ hv₁ q₁ => by
    cases hv₁
    cases d₁ with
    | true => exact aw_last (q₁.1 rfl) st₁ r₁
    | false => exact aw_last (q₁.2 rfl) st₁ r₁)
end
end Mine

end
section
namespace Mine
open PySem PySem.W PySem.Spec PySem.Calls PyProof.Rows

noncomputable abbrev frz (fc : FC) (ρ : List Addr) (h : Heap) : Heap := hideAll h (hid fc ρ)

section
variable {α β γ : Type} {V : Heap → List Addr → α → β → Prop} {g : Gl} {fc : FC} {G G₀ : Heap} {ρ ρ₀ : List Addr} {s : Shared} {a : AS} {R : AS → Prop} {n : Nat} {sc : Scope}

theorem SR.mem {G ρ₀ h} : ∀ {ρ : List Addr} {σ : List AObj}, SR G ρ₀ h ρ σ → ∀ c ∈ ρ, ∃ o, h.get? c = some o
  | _, _, .nil, _, hm => nomatch hm
  | _, _, .cons h1 _ r, c, hm => by
    rcases List.mem_cons.mp hm with rfl | hm
    · exact ⟨_, h1⟩
    · exact SR.mem r c hm
theorem Rel.alive (hr : Rel g fc G a ρ s) : ∀ x ∈ hid fc ρ, ∃ o, s.heap.get? x = some o := by
  intro x hx
  unfold hid at hx
  rcases List.mem_cons.mp hx with rfl | hx
  · obtain ⟨m, ⟨o, _, _, ho, _⟩, _⟩ := hr.ns
    exact ⟨o, ho⟩
  · rcases List.mem_append.mp hx with hx | hx
    · obtain ⟨f, hf, rfl⟩ := List.mem_map.mp hx
      obtain ⟨o, _, _, ho, _⟩ := hr.outs f hf
      exact ⟨o, ho⟩
    · rcases List.mem_append.mp hx with hx | hx
      · obtain ⟨ps, hp, _⟩ := hr.tabs x hx
        exact ⟨_, hp⟩
      · exact hr.st.mem x hx
theorem Rel.lt (hr : Rel g fc G a ρ s) : ∀ x ∈ hid fc ρ, x < s.heap.objs.size := fun x hx => let ⟨_, ho⟩ := hr.alive x hx; Heap.lt_size ho
theorem Rel.fresh (hr : Rel g fc G a ρ s) : s.heap.objs.size ∉ hid fc ρ := fun hm => Nat.lt_irrefl _ (hr.lt _ hm)

theorem SR.keep {G G' : Heap} {ρ₀ ρ₀' : List Addr} {h h' : Heap} (k : G.StaysIn G') (r : ρ₀ <+: ρ₀') : ∀ {ρ : List Addr} {σ : List AObj}, (∀ c ∈ ρ, ∀ o, h.get? c = some o → h'.get? c = some o) → SR G ρ₀ h ρ σ → SR G' ρ₀' h' ρ σ
  | _, _, _, .nil => .nil
  | _, _, hk, .cons h1 h2 r' => .cons (hk _ (.head _) _ h1) (h2.mono k r) (SR.keep k r (fun c hc => hk c (.tail _ hc)) r')

theorem TabOk.keep {G G' h h' : Heap} {P : Addr} (k : G.StaysIn G') (hk : ∀ o, h.get? P = some o → h'.get? P = some o) (t : TabOk G h P) : TabOk G' h' P := by
  obtain ⟨ps, h1, h2, h3⟩ := t
  exact ⟨ps, hk _ h1, h2, fun pos v e => ⟨(h3 pos v e).1, codeRec_stays k (h3 pos v e).2⟩⟩

theorem ns_keep {h h' : Heap} {L : Addr} {m : PStr → Option Value} (hk : ∀ o, h.get? L = some o → h'.get? L = some o) (x : h.Ns L m) : h'.Ns L m := let ⟨o, es, ep, ho, r⟩ := x; ⟨o, es, ep, hk _ ho, r⟩

theorem Rel.frz_step (hr : Rel g fc G a ρ s) {h' : Heap} (k : ∀ b o, b ∉ hid fc ρ → s.heap.get? b = some o → h'.get? b = some o) : G.StaysIn (frz fc ρ h') := fun b o e => by
  have nb : b ∉ hid fc ρ := fun hm => by rw [hr.hidden b hm] at e; cases e
  exact hideAll_get _ (k b o nb (hr.gs b o e)) nb

/-- the heap grows, all of it stays -/
theorem Rel.ext (hr : Rel g fc G a ρ s) {h' : Heap} {t : Nat} (k : s.heap.StaysIn h') : Rel g fc (frz fc ρ h') a ρ { s with heap := h', toks := t } ∧ Step G ρ (frz fc ρ h') ρ := by
  have st : G.StaysIn (frz fc ρ h') := hr.frz_step fun b o _ e => k b o e
  refine ⟨⟨fun b o e => st b o (hr.bg b o e), fun b o e => of_hideAll _ e, fun x hx => hideAll_none _ hx, hr.nodup, ?_, hr.st.keep st (List.prefix_refl _) (fun c _ o e => k c o e), fun P hP => (hr.tabs P hP).keep st (fun o e => k _ _ e),
    fun f hf => ns_keep (fun o e => k _ _ e) (hr.outs f hf), hr.cix, hr.sh⟩, st, List.prefix_refl _⟩
  obtain ⟨m, h1, h2⟩ := hr.ns
  exact ⟨m, ns_keep (fun o e => k _ _ e) h1, fun x d e => let ⟨v, e1, e2⟩ := h2 x d e; ⟨v, e1, e2.mono st (List.prefix_refl _)⟩⟩

/-- a new object that is not changed any more -/
theorem Rel.push (hr : Rel g fc G a ρ s) (o : Obj) (hf : o.isFreed = false) : Rel g fc (frz fc ρ (s.heap.push o)) a ρ { s with heap := s.heap.push o } ∧ Step G ρ (frz fc ρ (s.heap.push o)) ρ ∧ (frz fc ρ (s.heap.push o)).get? s.heap.objs.size = some o := by
  have z := hr.ext (h' := s.heap.push o) (t := s.toks) fun b o' e => Heap.get?_push_of_some _ e
  exact ⟨z.1, z.2, hideAll_get _ (Heap.get?_push_size _ hf) hr.fresh⟩

/-- a local is set -/
theorem Rel.set (hr : Rel g fc G a ρ s) {h' : Heap} {x : PStr} {d : D} {v : Value} {t : Nat} {m : PStr → Option Value} (hm : ∀ x d, a.m.lookup x = some d → ∃ v, m x = some v ∧ VR G ρ d v) (hn : h'.Ns fc.L (fun y => if y = x then some v else m y)) (hs : Heap.SameBut fc.L s.heap h')
    (hv : VR G ρ d v) : Rel g fc (frz fc ρ h') ⟨(x, d) :: a.m, a.σ⟩ ρ { s with heap := h', toks := t } ∧ Step G ρ (frz fc ρ h') ρ := by
  have nd := hr.nodup
  unfold hid at nd
  rw [List.nodup_cons] at nd
  have st : G.StaysIn (frz fc ρ h') := hr.frz_step fun b o nb e => (hs.2 b (fun q => nb (by rw [q]; exact List.mem_cons_self))).trans e
  refine ⟨⟨fun b o e => st b o (hr.bg b o e), fun b o e => of_hideAll _ e, fun x hx => hideAll_none _ hx, hr.nodup, ?_, hr.st.keep st (List.prefix_refl _) (fun c hc o e => (hs.2 c fun q => nd.1 (by rw [← q]; exact List.mem_append_right _ (List.mem_append_right _ hc))).trans e),
    fun P hP => (hr.tabs P hP).keep st (fun o e => (hs.2 P fun q => nd.1 (by rw [← q]; exact List.mem_append_right _ (List.mem_append_left _ hP))).trans e),
    fun f hf => ns_keep (fun o e => (hs.2 f.L fun q => nd.1 (by rw [← q]; exact List.mem_append_left _ (List.mem_map_of_mem hf))).trans e) (hr.outs f hf), hr.cix, hr.sh⟩, st, List.prefix_refl _⟩
  refine ⟨_, hn, fun y d' e => ?_⟩
  rw [List.lookup_cons] at e
  cases hq : y == x with
  | true =>
    rw [hq] at e
    cases e
    exact ⟨v, by rw [if_pos (eq_of_beq hq)], hv.mono st (List.prefix_refl _)⟩
  | false =>
    rw [hq] at e
    obtain ⟨v', e1, e2⟩ := hm y d' e
    exact ⟨v', by rw [if_neg (fun q => by rw [q] at hq; simp at hq)]; exact e1, e2.mono st (List.prefix_refl _)⟩

theorem setL {x : PStr} {d : D} {v : Value} {P : Unit → Shared → Prop} {E : Value → Shared → Prop} (ok : fc.Ok n) (hs : fc.env.scope = sc) (hr : Rel g fc G a ρ s) (hv : VR G ρ d v)
    (h : ∀ G' s', Step G ρ G' ρ → Rel g fc G' ⟨(x, d) :: a.m, a.σ⟩ ρ s' → P () s') (hk : sc.names.lookup x = some .local) : wpAny g.M fc.A (storeName fc.env x v) P E s := by
  obtain ⟨m, h1, h2⟩ := hr.ns
  refine wpAny_storeName_local (m := m) (by unfold Env.kindOf; rw [hs]; exact hk) (by rw [ok.loc]; exact h1) (fun h' hn hsb => ?_) (by rw [ok.kind]; rfl)
  rw [ok.loc] at hn hsb
  have z := hr.set (t := s.toks + 1) h2 hn hsb hv
  exact h _ _ z.2 z.1

theorem x_Assign {x : PStr} {pos' value pos} {Q : Fl → AS → Prop} (ok : fc.Ok n) (hs : fc.env.scope = sc) (h : AW VR g fc (eval value fc.env) (KAs x Q) R a)
    (hk : sc.names.lookup x = some .local := by rfl) (hsw : swapsWith value (some (.Name x pos')) pos.line fc.env = pure false := by rfl) : AW VF g fc (exec (.Assign [.Name x pos'] value pos) fc.env) Q R a := .mk fun G ρ s hr =>
  wpAny_Assign_Name (aw_then h Step.refl hr fun G₁ ρ₁ d₁ a₁ v₁ s₁ _ st₁ r₁ hv₁ q₁ => setL ok hs r₁ hv₁ (fun G' s' st' r' => ⟨G', ρ₁, _, .next, st₁.trans st', r', .next, q₁⟩) hk) hsw

/-! a cell is set -/
theorem SR.set {G G' : Heap} {ρ₀ : List Addr} {h h' : Heap} {o' : Obj} {x' : AObj} (kG : G.StaysIn G') : ∀ {ρ : List Addr} {σ : List AObj} {k : Nat} {c : Addr}, SR G ρ₀ h ρ σ → ρ[k]? = some c → ρ.Nodup → (∀ b ∈ ρ, b ≠ c → ∀ o, h.get? b = some o → h'.get? b = some o) →
    h'.get? c = some o' → OR G' ρ₀ x' o' → SR G' ρ₀ h' ρ (σ.set k x')
  | _, _, _, _, .nil, e, _, _, _, _ => by cases e
  | a :: ρ, x :: σ, 0, c, .cons h1 h2 r, e, nd, hk, hc, ho => by
    cases e
    rw [List.nodup_cons] at nd
    exact .cons hc ho (r.keep kG (List.prefix_refl _) fun b hb o e => hk b (.tail _ hb) (fun q => nd.1 (q ▸ hb)) o e)
  | a :: ρ, x :: σ, k + 1, c, .cons h1 h2 r, e, nd, hk, hc, ho => by
    rw [List.nodup_cons] at nd
    have e' : ρ[k]? = some c := by simpa using e
    exact .cons (hk a (.head _) (fun q => nd.1 (by rw [q]; exact List.mem_of_getElem? e')) _ h1) (h2.mono kG (List.prefix_refl _)) (SR.set kG r e' nd.2 (fun b hb hne o e => hk b (.tail _ hb) hne o e) hc ho)

theorem hid_tail {x : Addr} (hx : x ∈ ρ) : x ∈ hid fc ρ := List.mem_cons_of_mem _ (List.mem_append_right _ (List.mem_append_right _ hx))
/-- an object of the store is changed -/
theorem Rel.upd (hr : Rel g fc G a ρ s) {k : Nat} {c : Addr} {o' : Obj} {x' : AObj} {h' : Heap} {t : Nat} (hc : ρ[k]? = some c) (hs : ∀ b, b ≠ c → ∀ o, s.heap.get? b = some o → h'.get? b = some o) (ho : h'.get? c = some o')
    (hx : OR (frz fc ρ h') ρ x' o') : Rel g fc (frz fc ρ h') ⟨a.m, a.σ.set k x'⟩ ρ { s with heap := h', toks := t } ∧ Step G ρ (frz fc ρ h') ρ := by
  have nd := hr.nodup
  unfold hid at nd
  have hcm := List.mem_of_getElem? hc
  have nd1 := List.nodup_cons.mp nd
  have nd2 := List.nodup_append.mp nd1.2
  have nd3 := List.nodup_append.mp nd2.2.1
  have st : G.StaysIn (frz fc ρ h') := hr.frz_step fun b o nb e => hs b (fun q => nb (by rw [q]; exact hid_tail hcm)) o e
  refine ⟨⟨fun b o e => st b o (hr.bg b o e), fun b o e => of_hideAll _ e, fun x hx => hideAll_none _ hx, hr.nodup, ?_, hr.st.set st hc nd3.2.1 (fun b _ hne o e => hs b hne o e) ho hx,
    fun P hP => (hr.tabs P hP).keep st (fun o e => hs P (fun q => nd3.2.2 P hP c hcm q) o e), fun f hf => ns_keep (fun o e => hs f.L (fun q => nd2.2.2 f.L (List.mem_map_of_mem hf) c (List.mem_append_right _ hcm) q) o e) (hr.outs f hf), hr.cix, hr.sh⟩, st, List.prefix_refl _⟩
  obtain ⟨m, h1, h2⟩ := hr.ns
  exact ⟨m, ns_keep (fun o e => hs fc.L (fun q => nd1.1 (by rw [q]; exact List.mem_append_right _ (List.mem_append_right _ hcm))) o e) h1, fun x d e => let ⟨v, e1, e2⟩ := h2 x d e; ⟨v, e1, e2.mono st (List.prefix_refl _)⟩⟩

theorem setC {x : PStr} {d : D} {v : Value} {k : Nat} {c₀ : Option D} {P : Unit → Shared → Prop} {E : Value → Shared → Prop} (ok : fc.Ok n) (hs : fc.env.scope = sc) (hr : Rel g fc G a ρ s) (hv : VR G ρ d v) (hx : fc.cix.lookup x = some k) (hσ : a.σ[k]? = some (.cell c₀))
    (h : ∀ G' s', Step G ρ G' ρ → Rel g fc G' ⟨a.m, a.σ.set k (.cell (some d))⟩ ρ s' → P () s') (hk : sc.names.lookup x = some .cell) : wpAny g.M fc.A (storeName fc.env x v) P E s := by
  obtain ⟨c, h1, h2⟩ := hr.cix x k hx
  obtain ⟨o, h3, h4⟩ := hr.st.get h2 hσ
  have hcell : ∃ v₀, s.heap.IsCell c v₀ := by
    cases h4 with
    | cellN e => exact ⟨_, o, h3, e⟩
    | cellS _ e => exact ⟨_, o, h3, e⟩
  obtain ⟨v₀, hc⟩ := hcell
  refine wpAny_storeName_cell ok.kind (by unfold Env.kindOf; rw [hs]; exact hk) h1 hc fun h' hv' hsb => ?_
  obtain ⟨o', ho', hd'⟩ := hv'
  have st : G.StaysIn (frz fc ρ h') := hr.frz_step fun b o nb e => (hsb.2 b (fun q => nb (by rw [q]; exact hid_tail (List.mem_of_getElem? h2)))).trans e
  have z := hr.upd (t := s.toks) h2 (fun b hb o e => (hsb.2 b hb).trans e) ho' (.cellS (hv.mono st (List.prefix_refl _)) hd')
  exact h _ _ z.2 z.1
theorem x_AssignC {x : PStr} {pos' value pos} {k : Nat} {Q : Fl → AS → Prop} (ok : fc.Ok n) (hs : fc.env.scope = sc) (hx : fc.cix.lookup x = some k) (h : AW VR g fc (eval value fc.env) (fun d a₁ => (∃ c₀, a₁.σ[k]? = some (.cell c₀)) ∧ Q .next ⟨a₁.m, a₁.σ.set k (.cell (some d))⟩) R a)
    (hk : sc.names.lookup x = some .cell := by rfl) (hsw : swapsWith value (some (.Name x pos')) pos.line fc.env = pure false := by rfl) : AW VF g fc (exec (.Assign [.Name x pos'] value pos) fc.env) Q R a := .mk fun G ρ s hr =>
  wpAny_Assign_Name (aw_then h Step.refl hr fun G₁ ρ₁ d₁ a₁ v₁ s₁ _ st₁ r₁ hv₁ ⟨⟨c₀, hc⟩, q₁⟩ => setC ok hs r₁ hv₁ hx hc (fun G' s' st' r' => ⟨G', ρ₁, _, .next, st₁.trans st', r', .next, q₁⟩) hk) hsw

theorem x_Aug {x : PStr} {pos' op value pos} {d₀ : D} {Q : Fl → AS → Prop} (ok : fc.Ok n) (hs : fc.env.scope = sc) (hv : a.m.lookup x = some d₀) (h : AW VR g fc (eval value fc.env) (KOp (inplaceOp op) (KAs x Q) d₀) R a)
    (hk : sc.names.lookup x = some .local := by rfl) (hn : n ≤ 200 := by first | exact nup (by with_reducible assumption) (by rfl) | exact nup0 (by with_reducible assumption) (by rfl) | exact nupp (by with_reducible assumption) (by rfl) | omega) : AW VF g fc (exec (.AugAssign (.Name x pos') op value pos) fc.env) Q R a := .mk fun G ρ s hr =>
  wpAny_AugAssign_Name (aw_then (a_loadL (Q := fun d a₁ => d = d₀ ∧ a₁ = a) ok hs hv ⟨rfl, rfl⟩ hk) Step.refl hr fun G₁ ρ₁ d₁ a₁ v₁ s₁ _ st₁ r₁ hv₁ ⟨e1, e2⟩ => by
    subst e1 e2
    exact aw_then h st₁ r₁ fun G₂ ρ₂ d₂ a₂ v₂ s₂ st₁₂ st₂ r₂ hv₂ ⟨d, hop, hq⟩ => hop.run _ _ _ _ _ _ G₂ ρ₂ _ _ ok.ao r₂.gs (hv₁.step st₁₂) hv₂ fun v tk hv' =>
      setL ok hs r₂.toks hv' (fun G' s' st' r' => ⟨G', ρ₂, _, .next, st₂.trans st', r', .next, hq⟩) hk)

/-! arguments, tuples, lists -/
noncomputable abbrev KCn (Q : List D → AS → Prop) (d : D) : List D → AS → Prop := fun ds a₂ => Q (d :: ds) a₂
noncomputable abbrev KL (g : Gl) (fc : FC) (pos : Pos) (rest : List Expr) (Q : List D → AS → Prop) (R : AS → Prop) : D → AS → Prop := fun d a₁ => AW VRs g fc (spliced (backTo pos (starEach rest fc.env))) (KCn Q d) R a₁
noncomputable abbrev KTp (Q : D → AS → Prop) : List D → AS → Prop := fun ds a₁ => ds.length ≤ 16777216 ∧ Q (.tup ds) a₁
noncomputable abbrev KLs (Q : D → AS → Prop) : List D → AS → Prop := fun ds a₁ => ds.length ≤ 16777216 ∧ Q (.list ds) a₁
theorem ktp {Q : D → AS → Prop} {ds : List D} {a : AS} (h : ds.length ≤ 16777216) (q : Q (.tup ds) a) : KTp Q ds a := ⟨h, q⟩
theorem ktpS {Q : D → AS → Prop} {ds : List D} {a : AS} (q : Q (.tup ds) a) (h : ds.length.ble 16 = true := by rfl) : KTp Q ds a := ⟨Nat.le_trans (Nat.le_of_ble_eq_true h) (by decide), q⟩
theorem klsS {Q : D → AS → Prop} {ds : List D} {a : AS} (q : Q (.list ds) a) (h : ds.length.ble 16 = true := by rfl) : KLs Q ds a := ⟨Nat.le_trans (Nat.le_of_ble_eq_true h) (by decide), q⟩
theorem kls {Q : D → AS → Prop} {ds : List D} {a : AS} (h : ds.length ≤ 16777216) (q : Q (.list ds) a) : KLs Q ds a := ⟨h, q⟩
theorem l_nil {pos : Pos} {Q : List D → AS → Prop} (h : Q [] a) : AW VRs g fc (spliced (backTo pos (starEach [] fc.env))) Q R a := .mk fun _ _ _ hr => spliced_nil (pv hr .nil h)
theorem l_cons {pos : Pos} {e : Expr} {rest : List Expr} {Q : List D → AS → Prop} (h : AW VR g fc (eval e fc.env) (KL g fc pos rest Q R) R a)
    (he : plainArg e = true := by rfl) : AW VRs g fc (spliced (backTo pos (starEach (e :: rest) fc.env))) Q R a := .mk fun G ρ s hr => by
  rw [star_ok he]
  exact spliced_cons (aw_then h Step.refl hr fun G₁ ρ₁ d₁ a₁ v₁ s₁ _ st₁ r₁ hv₁ q₁ => aw_then q₁ st₁ r₁ fun G₂ ρ₂ d₂ a₂ v₂ s₂ st₁₂ st₂ r₂ hv₂ q₂ => ⟨G₂, ρ₂, a₂, _, st₂, r₂, .cons (hv₁.step st₁₂) hv₂, q₂⟩)
theorem VRs.length {G ρ} : ∀ {ds : List D} {vs : List Value}, VRs G ρ ds vs → vs.length = ds.length
  | _, _, .nil => rfl
  | _, _, .cons _ t => by simp [VRs.length t]
theorem pv_push {Q : D → AS → Prop} {d : D} {o : Obj} (hr : Rel g fc G a ρ s) (hf : o.isFreed = false) (hv : ∀ G', G.StaysIn G' → G'.get? s.heap.objs.size = some o → VR G' ρ d (.ref s.heap.objs.size)) (h : Q d a) :
    PV VR g fc G ρ Q (.ref s.heap.objs.size) { s with heap := s.heap.push o } := by
  obtain ⟨z1, z2, z3⟩ := hr.push o hf
  exact ⟨_, ρ, a, d, z2, z1, hv _ z2.1 z3, h⟩
theorem new_tup {ds : List D} {vs : List Value} {Q : D → AS → Prop} {E : Value → Shared → Prop} (hr : Rel g fc G a ρ s) (hv : VRs G ρ ds vs) (hz : ds.length ≤ 16777216) (h : Q (.tup ds) a) : wpAny g.M fc.A (newTuple vs) (PV VR g fc G ρ Q) E s :=
  wpAny_newObj_type (pv_push hr rfl (fun G' k e => .tup (hv.mono k (List.prefix_refl _)) ⟨_, e, rfl, 0, rfl⟩) h) (by show vs.toArray.size ≤ sizeLine; rw [List.size_toArray, hv.length]; exact hz)
theorem new_list {ds : List D} {vs : List Value} {Q : D → AS → Prop} {E : Value → Shared → Prop} (hr : Rel g fc G a ρ s) (hv : VRs G ρ ds vs) (hz : ds.length ≤ 16777216) (h : Q (.list ds) a) : wpAny g.M fc.A (newList vs) (PV VR g fc G ρ Q) E s :=
  wpAny_newObj_type (pv_push hr rfl (fun G' k e => .list (hv.mono k (List.prefix_refl _)) ⟨0, e⟩) h) (by show vs.toArray.size ≤ sizeLine; rw [List.size_toArray, hv.length]; exact hz)
theorem a_Tuple {elts k pos} {Q : D → AS → Prop} (h : AW VRs g fc (spliced (backTo pos (starEach elts fc.env))) (KTp Q) R a) : AW VR g fc (eval (.Tuple elts k pos) fc.env) Q R a := .mk fun G ρ s hr =>
  Tuple_ (aw_then h Step.refl hr fun G₁ ρ₁ d₁ a₁ v₁ s₁ _ st₁ r₁ hv₁ ⟨hz, q₁⟩ => wpAny_mono (new_tup (E := PE g fc G ρ R) r₁ hv₁ hz q₁) (fun _ _ p => p.up st₁) fun _ _ e => e)
theorem a_List {elts pos} {Q : D → AS → Prop} (h : AW VRs g fc (spliced (backTo pos (starEach elts fc.env))) (KLs Q) R a) : AW VR g fc (eval (.List elts pos) fc.env) Q R a := .mk fun G ρ s hr =>
  List_ (aw_then h Step.refl hr fun G₁ ρ₁ d₁ a₁ v₁ s₁ _ st₁ r₁ hv₁ ⟨hz, q₁⟩ => wpAny_mono (new_list (E := PE g fc G ρ R) r₁ hv₁ hz q₁) (fun _ _ p => p.up st₁) fun _ _ e => e)

/-! calls -/
noncomputable def Keep (g : Gl) (d : D) : Prop := ∀ (M : Model) (h G : Heap) (ρ : List Addr) (v : Value), g.B.StaysIn h → G.StaysIn h → VR G ρ d v → ∃ k, (k = Keeper.frame ∨ k = Keeper.machine ∨ k = Keeper.boundFrame) ∧ Looks M h (keeperOf v) k
structure CallAt (g : Gl) (fc : FC) (df : D) (ds : List D) (Q : D → AS → Prop) (R : AS → Prop) (a : AS) : Prop where
  run : ∀ G ρ s vf vs, Rel g fc G a ρ s → VR G ρ df vf → VRs G ρ ds vs → wpAny g.M fc.A (call vf vs) (PV VR g fc G ρ Q) (PE g fc G ρ R) s

noncomputable abbrev KCa (g : Gl) (fc : FC) (df : D) (Q : D → AS → Prop) (R : AS → Prop) : List D → AS → Prop := fun ds a₂ => CallAt g fc df ds Q R a₂
noncomputable abbrev KFn (g : Gl) (fc : FC) (pos : Pos) (args : List Expr) (Q : D → AS → Prop) (R : AS → Prop) : D → AS → Prop := fun df a₁ => Keep g df ∧ AW VRs g fc (spliced (backTo pos (starEach args fc.env))) (KCa g fc df Q R) R a₁
theorem kfn {g : Gl} {fc : FC} {pos : Pos} {args : List Expr} {Q : D → AS → Prop} {R : AS → Prop} {df : D} {a : AS} (h : Keep g df) (q : AW VRs g fc (spliced (backTo pos (starEach args fc.env))) (KCa g fc df Q R) R a) : KFn g fc pos args Q R df a := ⟨h, q⟩

theorem evalArgs_nilS {M : Model} {A : Around} {E : Value → Shared → Prop} {f : Value} {Q : Args → Shared → Prop} (h : wpAny M A (spliced []) (fun vs s' => Q ⟨vs, []⟩ s') E s) : wpAny M A (evalArgs f true [] []) Q E s := by
  unfold evalArgs
  show wpAny M A (spliced [] >>= _) Q E s
  refine wpAny_bind (wpAny_mono h (fun vs s' h' => ?_) fun _ _ x => x)
  refine wpAny_bind (wpAny_pure ?_)
  refine wpAny_holding ?_
  exact wpAny_bind (wpAny_pure (wpAny_bind (wpAny_pure (wpAny_pure h'))))
theorem a_Call {func args pos} {Q : D → AS → Prop} (h : AW VR g fc (eval func fc.env) (KFn g fc pos args Q R) R a)
    (he : eval (.Call func args [] pos) fc.env = (do callWith pos (← eval func fc.env) [] (backTo pos (starEach args fc.env)) (backToKw pos (keywordEach [] fc.env))) := by rfl)
    (hargs : args.all plainArg = true := by rfl) :
    AW VR g fc (eval (.Call func args [] pos) fc.env) Q R a := .mk fun G ρ s hr => by
  refine Call_ (aw_then h Step.refl hr fun G₁ ρ₁ df a₁ vf s₁ _ st₁ r₁ hv₁ ⟨hk, q₁⟩ => ?_) he
  have tail : ∀ (G₂ : Heap) (ρ₂ : List Addr) (ds : List D) (a₂ : AS) (vs : List Value) (s₂ : Shared), Step G₁ ρ₁ G₂ ρ₂ → Step G ρ G₂ ρ₂ → Rel g fc G₂ a₂ ρ₂ s₂ → VRs G₂ ρ₂ ds vs → CallAt g fc df ds Q R a₂ →
      (g.B.StaysIn s₂.heap ∧ ∃ G', G'.StaysIn s₂.heap ∧ ∃ ρ', VR G' ρ' df vf) ∧ wpAny g.M fc.A (call vf ([] ++ vs)) (PV VR g fc G ρ Q) (PE g fc G ρ R) s₂ := fun G₂ ρ₂ ds a₂ vs s₂ st₁₂ st₂ r₂ hv₂ q₂ =>
    ⟨⟨r₂.bs, G₂, r₂.gs, ρ₂, hv₁.step st₁₂⟩, wpAny_mono (q₂.run G₂ ρ₂ s₂ vf vs r₂ (hv₁.step st₁₂) hv₂) (fun _ _ p => p.up st₂) fun _ _ e => e.up st₂⟩
  have hk' : ∀ h, (g.B.StaysIn h ∧ ∃ G', G'.StaysIn h ∧ ∃ ρ', VR G' ρ' df vf) → ∃ k, (k = Keeper.frame ∨ k = Keeper.machine ∨ k = Keeper.boundFrame) ∧ Looks g.M h (keeperOf vf) k := fun h ⟨b, G', k, ρ', v⟩ => hk _ h G' ρ' vf b k v
  rcases star_args (pos := pos) (env := fc.env) hargs with rfl | ⟨e, rest, rfl, hs, hp⟩
  · refine callWith_of rfl hk' (evalArgs_nilS ?_)
    exact aw_then q₁ st₁ r₁ fun G₂ ρ₂ ds a₂ vs s₂ st₁₂ st₂ r₂ hv₂ q₂ => tail G₂ ρ₂ ds a₂ vs s₂ st₁₂ st₂ r₂ hv₂ q₂
  · have q₂ := q₁
    rw [hs] at q₂ ⊢
    refine callWith_of (by show ((false || (backTo pos (starEach rest fc.env)).any (·.1)) || false) = false; rw [hp]; rfl) hk' (evalArgs_plain ?_)
    exact aw_then q₂ st₁ r₁ fun G₂ ρ₂ ds a₂ vs s₂ st₁₂ st₂ r₂ hv₂ q₂ => tail G₂ ρ₂ ds a₂ vs s₂ st₁₂ st₂ r₂ hv₂ q₂
end
end Mine

end
section
namespace Mine
open PySem PySem.W PySem.Spec PySem.Calls PyProof.Rows

theorem lookup_zip_rel {G ρ} : ∀ {names : List PStr} {ds : List D} {vs : List Value}, VRs G ρ ds vs → ∀ x d, (names.zip ds).lookup x = some d → ∃ v, (names.zip vs).lookup x = some v ∧ VR G ρ d v
  | [], _, _, _, _, _, e => by simp at e
  | n :: names, _, _, .nil, _, _, e => by simp at e
  | n :: names, _, _, .cons (d := d₀) (v := v₀) h t, x, d, e => by
    rw [List.zip_cons_cons, List.lookup_cons] at e
    rw [List.zip_cons_cons, List.lookup_cons]
    cases hq : x == n with
    | true => rw [hq] at e; cases e; exact ⟨_, rfl, h⟩
    | false => rw [hq] at e; exact lookup_zip_rel t x d e
theorem lookup_of_mem_nodup' {α : Type} : ∀ {l : List (PStr × α)} {x : PStr} {v : α}, (l.map (·.1)).Nodup → (x, v) ∈ l → l.lookup x = some v
  | [], _, _, _, hm => nomatch hm
  | (y, w) :: l, x, v, nd, hm => by
    rw [List.map_cons, List.nodup_cons] at nd
    rw [List.lookup_cons]
    rcases List.mem_cons.mp hm with e | hm
    · cases e; simp
    · have hne : x ≠ y := fun e => nd.1 (by rw [← e]; exact List.mem_map_of_mem (f := (·.1)) hm)
      rw [beq_eq_false_iff_ne.mpr hne]
      exact lookup_of_mem_nodup' nd.2 hm
theorem mem_of_lookup' {α : Type} : ∀ {l : List (PStr × α)} {x : PStr} {v : α}, l.lookup x = some v → (x, v) ∈ l
  | [], _, _, e => by simp at e
  | (y, w) :: l, x, v, e => by
    rw [List.lookup_cons] at e
    cases hq : x == y with
    | true => rw [hq] at e; cases e; rw [eq_of_beq hq]; exact .head _
    | false => rw [hq] at e; exact .tail _ (mem_of_lookup' e)
theorem lookup_reverse {α : Type} {l : List (PStr × α)} (nd : (l.map (·.1)).Nodup) {x : PStr} {v : α} (e : l.lookup x = some v) : l.reverse.lookup x = some v :=
  lookup_of_mem_nodup' (by rw [List.map_reverse]; exact (List.reverse_perm _).nodup_iff.mpr nd) (List.mem_reverse.mpr (mem_of_lookup' e))
theorem zip_fst_sub : ∀ (names : List PStr) (vs : List Value), ((names.zip vs).map (·.1)).Sublist names
  | [], _ => by simp
  | _ :: _, [] => by simp
  | n :: names, v :: vs => by
    rw [List.zip_cons_cons, List.map_cons]
    exact (zip_fst_sub names vs).cons_cons n
theorem zip_fst_nodup {names : List PStr} {vs : List Value} (nd : names.Nodup) : ((names.zip vs).map (·.1)).Nodup := nd.sublist (zip_fst_sub names vs)

section
variable {g : Gl} {fc : FC} {G G₀ : Heap} {ρ ρ₀ : List Addr} {s : Shared} {a : AS} {n : Nat} {sc : Scope}

noncomputable abbrev inner (fc : FC) (env' : Env) (L' : Addr) (cix : List (PStr × Nat)) (m : PStr → Option Value) : FC := ⟨fc.A.deeper env', env', L', cix, ⟨fc.env, fc.L, m⟩ :: fc.outs⟩
theorem inner_ok {env' : Env} {L' : Addr} {cix : List (PStr × Nat)} {m : PStr → Option Value} (ok : fc.Ok n) (h1 : env'.locals = L') (h2 : env'.frame = some L') (h3 : env'.globals = mainGlobals) (h4 : env'.builtins = builtinsNs) (h5 : env'.scope.kind = .function) :
    (inner fc env' L' cix m).Ok (n + 1) := by
  refine ⟨h1, h2, h3, h4, h5, Around.frames_deeper ok.frames, ok.handled, ?_, ?_, fun f hf => ?_⟩
  · show fc.A.depth + 1 ≤ _; have := ok.depth; omega
  · show fc.A.units + 3 ≤ _; have := ok.units; omega
  · rcases List.mem_cons.mp hf with rfl | hf
    · exact ⟨ok.fr, ok.kind⟩
    · exact ok.outsOk f hf

theorem Rel.out {env' : Env} {L' : Addr} {cix : List (PStr × Nat)} {m : PStr → Option Value} {G' : Heap} {ρ' : List Addr} {a' : AS} {s' : Shared} (hr : Rel g fc G a ρ s) (hm : ∀ x d, a.m.lookup x = some d → ∃ v, m x = some v ∧ VR G ρ d v)
    (st : Step G ρ G' ρ') (h : Rel g (inner fc env' L' cix m) G' a' ρ' s') : Rel g fc G' ⟨a.m, a'.σ⟩ ρ' s' := by
  have hsub : ∀ x, x ∈ hid fc ρ' → x ∈ hid (inner fc env' L' cix m) ρ' := fun x hx => List.mem_cons_of_mem _ hx
  have nd := h.nodup
  refine ⟨h.bg, h.gs, fun x hx => h.hidden x (hsub x hx), (List.nodup_cons.mp nd).2, ⟨m, h.outs ⟨fc.env, fc.L, m⟩ (.head _), fun x d e => let ⟨v, e1, e2⟩ := hm x d e; ⟨v, e1, e2.step st⟩⟩, h.st, h.tabs,
    fun f hf => h.outs f (.tail _ hf), fun x k e => let ⟨c, e1, e2⟩ := hr.cix x k e; ⟨c, e1, getElem?_pre st.2 e2⟩, h.sh⟩

/-- an exception goes out of a frame -/
theorem leave_exc {env' : Env} {L' : Addr} {cix : List (PStr × Nat)} {m : PStr → Option Value} {G' : Heap} {ρ' : List Addr} {a' : AS} {s' : Shared} {e : Value} {P : Unit → Shared → Prop} {E : Value → Shared → Prop} (ok : fc.Ok n) (h2 : env'.frame = some L') (hr : Rel g fc G a ρ s)
    (hm : ∀ x d, a.m.lookup x = some d → ∃ v, m x = some v ∧ VR G ρ d v) (st : Step G ρ G' ρ') (h : ExcR g (inner fc env' L' cix m) G' a' ρ' e s')
    (k : ∀ s'', ExcR g fc G' ⟨a.m, a'.σ⟩ ρ' e s'' → P () s'') : wpAny g.M (inner fc env' L' cix m).A (leaving env' e) P E s' := by
  obtain ⟨x, base, a0, rfl, r, gb, tb, hx⟩ := h
  have hfr : (inner fc env' L' cix m).A.frames = some (env' :: fc.env :: fc.outs.map (·.env)) := Around.frames_deeper ok.frames
  have back : ∀ h', base.StaysIn h' → s'.heap.UpToSlots h' → Rel g (inner fc env' L' cix m) G' a' ρ' { s' with heap := h' } := fun h' kb up => by
    have gs : G'.StaysIn h' := fun b o q => kb b o (gb b o q)
    refine ⟨r.bg, gs, r.hidden, r.nodup, let ⟨m', e1, e2⟩ := r.ns; ⟨m', up.ns e1, e2⟩, r.st.keep (fun _ _ q => q) (List.prefix_refl _) (fun c hc o q => kb _ _ (tb c (List.mem_append_right _ hc) o q)),
      fun P hP => (r.tabs P hP).keep (fun _ _ q => q) (fun o q => kb _ _ (tb P (List.mem_append_left _ hP) o q)), fun f hf => up.ns (r.outs f hf), r.cix, r.sh⟩
  have fin : ∀ h', base.StaysIn h' → s'.heap.UpToSlots h' → Heap.FlyingW base (fc.env :: fc.outs.map (·.env)) x (.ref 52) a0 h' → ExcR g fc G' ⟨a.m, a'.σ⟩ ρ' (.ref x) { s' with heap := h' } := fun h' kb up fl => by
    refine ⟨x, base, a0, rfl, hr.out hm st (back h' kb up), gb, fun y hy o q => ?_, .inr (.inl fl)⟩
    have hal : ∃ o₀, s'.heap.get? y = some o₀ := r.alive y (List.mem_cons_of_mem _ (List.mem_append_right _ hy))
    obtain ⟨o₀, ho₀⟩ := hal
    have z := tb y hy o₀ ho₀
    rw [show h'.get? y = some o₀ from kb _ _ z] at q
    cases q
    exact z
  rcases hx with ⟨kb, hn, hl, oe, vs, he, hc, hd, h1, h0⟩ | fl | hd
  · refine wpAny_leaving_firstW hfr hl h2 he kb hn hd h1 h0 fun h' ⟨q1, q2, q3, q4⟩ => k _ (fin h' q1 q4 ⟨q1, hn, q2.2.2, hc ▸ q3⟩)
  · exact wpAny_leaves_onW hfr h2 fl fun h' fl' up => k _ (fin h' fl'.1 up fl')
  · unfold leaving
    refine wpAny_bind (wpAny_noteFrame_againW h2 hd.2.2.2 (wpAny_landsW hd fun h' fl' up => ?_))
    obtain ⟨k1, k2, ⟨_, _, k3⟩, k4⟩ := fl'
    exact k _ (fin h' k1 up ⟨k1, k2, k3, k4⟩)

/-- the call of a def of the text -/
theorem call_def {name qual : PStr} {params : Arguments} {body : List Stmt} {scope : Scope} {dV kV doc pm cdv ct oc : Value} {an od : Option Addr} {osl : Array (Option Value)} {f : Addr} {names : List PStr} {ds : List D} {Q : D → AS → Prop} {R : AS → Prop}
    (g' : g.Ok) (ok : fc.Ok n) (ho : (Hd.hd.heap_1 g.w.params).lookup f = some ⟨oc, od, .func (fnOf name qual params body scope dV kV doc pm an cdv ct), osl⟩) (hcd : codeIn (Hd.hd.heap_1 g.w.params) cdv qual = true)
    (hb : ∀ vs : List Value, vs.length = ds.length → bindArgs (fnOf name qual params body scope dV kV doc pm an cdv ct) ⟨vs, []⟩ = pure (names.zip vs)) (hnd : names.Nodup)
    (hloc : ∀ x ∈ names, scope.names.lookup x = some .local) (hcell : ∀ x ∈ scope.names, x.2 ≠ .cell)
    (h : ∀ fc' : FC, fc'.Ok (n + 1) → fc'.env.scope = scope → AW VF g fc' (execs body fc'.env) (fun fl a' => Q (match fl with | .ret d => d | _ => .none) ⟨a.m, a'.σ⟩) (fun a' => R ⟨a.m, a'.σ⟩) ⟨names.zip ds, a.σ⟩)
    (hn : n ≤ 200 := by first | exact nup (by with_reducible assumption) (by rfl) | exact nup0 (by with_reducible assumption) (by rfl) | exact nupp (by with_reducible assumption) (by rfl) | omega) (hco : scope.isCoroutine = false := by rfl) (hgen : scope.isGenerator = false := by rfl) (hk : scope.kind = .function := by rfl) : CallAt g fc (.glob (.ref f)) ds Q R a := by
  refine .mk fun G ρ s vf vs hr hvf hvs => ?_
  cases hvf
  have X := hr.K g'
  obtain ⟨m, h1, h2⟩ := hr.ns
  refine wpAny_call (codeAny_call_def (fd := fnOf name qual params body scope dV kV doc pm an cdv ct) (body := body) (binds := names.zip vs) (by have := ok.depth; show _ < 1000; omega) (X _ _ ho) rfl (hr.top g').nolimit (codeRec_of X hcd) rfl
    (BindsTo.of_eq (hb vs hvs.length)) hcell (fun x hx => hloc x.1 (List.of_mem_zip (a := x.1) (b := x.2) hx).1) (fun h₁ hns hk₁ => ?_) hco hgen hk)
  let env' : Env := envX qual scope s.heap.objs.size f cdv []
  have ok' : (inner fc env' s.heap.objs.size [] m).Ok (n + 1) := inner_ok ok rfl rfl rfl rfl hk
  have hnew : s.heap.get? s.heap.objs.size = none := Heap.get?_none_of_le (Nat.le_refl _)
  have hr' : Rel g (inner fc env' s.heap.objs.size [] m) G ⟨names.zip ds, a.σ⟩ ρ { s with heap := h₁, toks := s.toks + (names.zip vs).length } := by
    refine ⟨hr.bg, fun b o e => hk₁ b o (hr.gs b o e), fun x hx => ?_, List.nodup_cons.mpr ⟨hr.fresh, hr.nodup⟩, ⟨_, hns, fun x d e => ?_⟩, hr.st.keep (fun _ _ q => q) (List.prefix_refl _) (fun c _ o q => hk₁ _ _ q),
      fun P hP => (hr.tabs P hP).keep (fun _ _ q => q) (fun o q => hk₁ _ _ q), fun f hf => ?_, fun x k e => (by cases e), hr.sh⟩
    · rcases List.mem_cons.mp hx with rfl | hx
      · cases q : G.get? s.heap.objs.size with
        | none => rfl
        | some o => have := hr.gs _ _ q; rw [hnew] at this; cases this
      · exact hr.hidden x hx
    · obtain ⟨v, e1, e2⟩ := lookup_zip_rel hvs x d e
      exact ⟨v, lookup_reverse (zip_fst_nodup hnd) e1, e2⟩
    · rcases List.mem_cons.mp hf with rfl | hf
      · exact ns_keep (fun o q => hk₁ _ _ q) h1
      · exact ns_keep (fun o q => hk₁ _ _ q) (hr.outs f hf)
  refine wpAny_mono ((h _ ok' rfl).run G ρ _ hr') (fun fl s' ⟨G₁, ρ₁, a₁, d, st₁, r₁, hv₁, q₁⟩ => ?_) (fun e s' ⟨G₁, ρ₁, a₁, st₁, x₁, q₁⟩ => ?_)
  · cases hv₁ with
    | ret hv => exact ⟨G₁, ρ₁, _, _, st₁, hr.out h2 st₁ r₁, hv, q₁⟩
    | next => exact ⟨G₁, ρ₁, _, _, st₁, hr.out h2 st₁ r₁, .none, q₁⟩
    | brk => exact ⟨G₁, ρ₁, _, _, st₁, hr.out h2 st₁ r₁, .none, q₁⟩
    | cont => exact ⟨G₁, ρ₁, _, _, st₁, hr.out h2 st₁ r₁, .none, q₁⟩
  · exact leave_exc ok rfl hr h2 st₁ x₁ fun s'' x₂ => ⟨G₁, ρ₁, _, st₁, x₂, q₁⟩
end
end Mine

end
section
namespace Mine
open PySem PySem.W PySem.Spec PySem.Calls PyProof.Rows

theorem op_add_int {a b : Int} : Op2 (binaryOp .Add) (.int a) (.int b) (.int (a + b)) := by
  refine .mk fun p w A E Q s G ρ v₁ v₂ hA hs h1 h2 hq => ?_; (first | obtain ⟨_, rfl⟩ := VR.int_inv h1 | obtain ⟨_, rfl⟩ := VR.bytes_inv h1 | obtain ⟨_, rfl⟩ := VR.str_inv h1 | obtain rfl := VR.none_inv h1 | obtain rfl := VR.bool_inv h1 | cases h1); (first | obtain ⟨_, rfl⟩ := VR.int_inv h2 | obtain ⟨_, rfl⟩ := VR.bytes_inv h2 | obtain ⟨_, rfl⟩ := VR.str_inv h2 | obtain rfl := VR.none_inv h2 | obtain rfl := VR.bool_inv h2 | cases h2); exact P.add_int (hq _ _ .int)
theorem op_iadd_int {a b : Int} : Op2 (inplaceOp .Add) (.int a) (.int b) (.int (a + b)) := by
  refine .mk fun p w A E Q s G ρ v₁ v₂ hA hs h1 h2 hq => ?_; (first | obtain ⟨_, rfl⟩ := VR.int_inv h1 | obtain ⟨_, rfl⟩ := VR.bytes_inv h1 | obtain ⟨_, rfl⟩ := VR.str_inv h1 | obtain rfl := VR.none_inv h1 | obtain rfl := VR.bool_inv h1 | cases h1); (first | obtain ⟨_, rfl⟩ := VR.int_inv h2 | obtain ⟨_, rfl⟩ := VR.bytes_inv h2 | obtain ⟨_, rfl⟩ := VR.str_inv h2 | obtain rfl := VR.none_inv h2 | obtain rfl := VR.bool_inv h2 | cases h2); exact P.iadd_int (hq _ _ .int)
theorem op_sub_int {a b : Int} : Op2 (binaryOp .Sub) (.int a) (.int b) (.int (a - b)) := by
  refine .mk fun p w A E Q s G ρ v₁ v₂ hA hs h1 h2 hq => ?_; (first | obtain ⟨_, rfl⟩ := VR.int_inv h1 | obtain ⟨_, rfl⟩ := VR.bytes_inv h1 | obtain ⟨_, rfl⟩ := VR.str_inv h1 | obtain rfl := VR.none_inv h1 | obtain rfl := VR.bool_inv h1 | cases h1); (first | obtain ⟨_, rfl⟩ := VR.int_inv h2 | obtain ⟨_, rfl⟩ := VR.bytes_inv h2 | obtain ⟨_, rfl⟩ := VR.str_inv h2 | obtain rfl := VR.none_inv h2 | obtain rfl := VR.bool_inv h2 | cases h2); exact P.sub_int (hq _ _ .int)
theorem op_mul_int {a b : Int} (hm : IntMulOk a b) : Op2 (binaryOp .Mult) (.int a) (.int b) (.int (a * b)) := by
  refine .mk fun p w A E Q s G ρ v₁ v₂ hA hs h1 h2 hq => ?_; (first | obtain ⟨_, rfl⟩ := VR.int_inv h1 | obtain ⟨_, rfl⟩ := VR.bytes_inv h1 | obtain ⟨_, rfl⟩ := VR.str_inv h1 | obtain rfl := VR.none_inv h1 | obtain rfl := VR.bool_inv h1 | cases h1); (first | obtain ⟨_, rfl⟩ := VR.int_inv h2 | obtain ⟨_, rfl⟩ := VR.bytes_inv h2 | obtain ⟨_, rfl⟩ := VR.str_inv h2 | obtain rfl := VR.none_inv h2 | obtain rfl := VR.bool_inv h2 | cases h2); exact P.mul_int (hq _ _ .int) hm
theorem op_mod_int {a b : Int} (hb : b ≠ 0) : Op2 (binaryOp .Mod) (.int a) (.int b) (.int (a.fmod b)) := by
  refine .mk fun p w A E Q s G ρ v₁ v₂ hA hs h1 h2 hq => ?_; (first | obtain ⟨_, rfl⟩ := VR.int_inv h1 | obtain ⟨_, rfl⟩ := VR.bytes_inv h1 | obtain ⟨_, rfl⟩ := VR.str_inv h1 | obtain rfl := VR.none_inv h1 | obtain rfl := VR.bool_inv h1 | cases h1); (first | obtain ⟨_, rfl⟩ := VR.int_inv h2 | obtain ⟨_, rfl⟩ := VR.bytes_inv h2 | obtain ⟨_, rfl⟩ := VR.str_inv h2 | obtain rfl := VR.none_inv h2 | obtain rfl := VR.bool_inv h2 | cases h2); exact mod_int' hb (hq _ _ .int)
theorem op_pow_int {a n : Int} (hn : 0 ≤ n) (hn2 : n ≤ 1000000) (ha : a.natAbs < 2 ^ 64) : Op2 (binaryOp .Pow) (.int a) (.int n) (.int (a ^ n.toNat)) := by
  refine .mk fun p w A E Q s G ρ v₁ v₂ hA hs h1 h2 hq => ?_; (first | obtain ⟨_, rfl⟩ := VR.int_inv h1 | obtain ⟨_, rfl⟩ := VR.bytes_inv h1 | obtain ⟨_, rfl⟩ := VR.str_inv h1 | obtain rfl := VR.none_inv h1 | obtain rfl := VR.bool_inv h1 | cases h1); (first | obtain ⟨_, rfl⟩ := VR.int_inv h2 | obtain ⟨_, rfl⟩ := VR.bytes_inv h2 | obtain ⟨_, rfl⟩ := VR.str_inv h2 | obtain rfl := VR.none_inv h2 | obtain rfl := VR.bool_inv h2 | cases h2); exact pow_int_small hn hn2 ha (hq _ _ .int)
theorem op_neg_int {a : Int} : Op1 (unaryOp .USub) (.int a) (fun G ρ v => VR G ρ (.int (-a)) v) := by
  refine .mk fun p w A E Q s G ρ v₁ hA hs h1 hq => ?_; (first | obtain ⟨_, rfl⟩ := VR.int_inv h1 | obtain ⟨_, rfl⟩ := VR.bytes_inv h1 | obtain ⟨_, rfl⟩ := VR.str_inv h1 | obtain rfl := VR.none_inv h1 | obtain rfl := VR.bool_inv h1 | cases h1); exact P.neg_int (hq _ _ .int)
theorem op_not {d : D} {b : Bool} (h : Tru d b) : Op1 (unaryOp .Not) d (fun G ρ v => VR G ρ (.bool (!b)) v) := by
  refine .mk fun p w A E Q s G ρ v₁ hA hs h1 hq => ?_
  exact not_of (h.run p w A E _ s G ρ v₁ hA hs h1 fun c tk hc => by subst hc; exact hq _ _ .bool)

theorem op_eq_int {a b : Int} : Op2 (compareOp .Eq) (.int a) (.int b) (.bool (a == b)) := by
  refine .mk fun p w A E Q s G ρ v₁ v₂ hA hs h1 h2 hq => ?_; (first | obtain ⟨_, rfl⟩ := VR.int_inv h1 | obtain ⟨_, rfl⟩ := VR.bytes_inv h1 | obtain ⟨_, rfl⟩ := VR.str_inv h1 | obtain rfl := VR.none_inv h1 | obtain rfl := VR.bool_inv h1 | cases h1); (first | obtain ⟨_, rfl⟩ := VR.int_inv h2 | obtain ⟨_, rfl⟩ := VR.bytes_inv h2 | obtain ⟨_, rfl⟩ := VR.str_inv h2 | obtain rfl := VR.none_inv h2 | obtain rfl := VR.bool_inv h2 | cases h2); exact P.eq_int (hq _ s.toks .bool)
theorem op_ne_int {a b : Int} : Op2 (compareOp .NotEq) (.int a) (.int b) (.bool (a != b)) := by
  refine .mk fun p w A E Q s G ρ v₁ v₂ hA hs h1 h2 hq => ?_; (first | obtain ⟨_, rfl⟩ := VR.int_inv h1 | obtain ⟨_, rfl⟩ := VR.bytes_inv h1 | obtain ⟨_, rfl⟩ := VR.str_inv h1 | obtain rfl := VR.none_inv h1 | obtain rfl := VR.bool_inv h1 | cases h1); (first | obtain ⟨_, rfl⟩ := VR.int_inv h2 | obtain ⟨_, rfl⟩ := VR.bytes_inv h2 | obtain ⟨_, rfl⟩ := VR.str_inv h2 | obtain rfl := VR.none_inv h2 | obtain rfl := VR.bool_inv h2 | cases h2); exact P.ne_int (hq _ s.toks .bool)
theorem op_lt_int {a b : Int} : Op2 (compareOp .Lt) (.int a) (.int b) (.bool (decide (a < b))) := by
  refine .mk fun p w A E Q s G ρ v₁ v₂ hA hs h1 h2 hq => ?_; (first | obtain ⟨_, rfl⟩ := VR.int_inv h1 | obtain ⟨_, rfl⟩ := VR.bytes_inv h1 | obtain ⟨_, rfl⟩ := VR.str_inv h1 | obtain rfl := VR.none_inv h1 | obtain rfl := VR.bool_inv h1 | cases h1); (first | obtain ⟨_, rfl⟩ := VR.int_inv h2 | obtain ⟨_, rfl⟩ := VR.bytes_inv h2 | obtain ⟨_, rfl⟩ := VR.str_inv h2 | obtain rfl := VR.none_inv h2 | obtain rfl := VR.bool_inv h2 | cases h2); exact P.lt_int (hq _ s.toks .bool)
theorem op_le_int {a b : Int} : Op2 (compareOp .LtE) (.int a) (.int b) (.bool (decide (a ≤ b))) := by
  refine .mk fun p w A E Q s G ρ v₁ v₂ hA hs h1 h2 hq => ?_; (first | obtain ⟨_, rfl⟩ := VR.int_inv h1 | obtain ⟨_, rfl⟩ := VR.bytes_inv h1 | obtain ⟨_, rfl⟩ := VR.str_inv h1 | obtain rfl := VR.none_inv h1 | obtain rfl := VR.bool_inv h1 | cases h1); (first | obtain ⟨_, rfl⟩ := VR.int_inv h2 | obtain ⟨_, rfl⟩ := VR.bytes_inv h2 | obtain ⟨_, rfl⟩ := VR.str_inv h2 | obtain rfl := VR.none_inv h2 | obtain rfl := VR.bool_inv h2 | cases h2); exact P.le_int (hq _ s.toks .bool)
theorem op_gt_int {a b : Int} : Op2 (compareOp .Gt) (.int a) (.int b) (.bool (decide (a > b))) := by
  refine .mk fun p w A E Q s G ρ v₁ v₂ hA hs h1 h2 hq => ?_; (first | obtain ⟨_, rfl⟩ := VR.int_inv h1 | obtain ⟨_, rfl⟩ := VR.bytes_inv h1 | obtain ⟨_, rfl⟩ := VR.str_inv h1 | obtain rfl := VR.none_inv h1 | obtain rfl := VR.bool_inv h1 | cases h1); (first | obtain ⟨_, rfl⟩ := VR.int_inv h2 | obtain ⟨_, rfl⟩ := VR.bytes_inv h2 | obtain ⟨_, rfl⟩ := VR.str_inv h2 | obtain rfl := VR.none_inv h2 | obtain rfl := VR.bool_inv h2 | cases h2); exact P.gt_int (hq _ s.toks .bool)
theorem op_ge_int {a b : Int} : Op2 (compareOp .GtE) (.int a) (.int b) (.bool (decide (a ≥ b))) := by
  refine .mk fun p w A E Q s G ρ v₁ v₂ hA hs h1 h2 hq => ?_; (first | obtain ⟨_, rfl⟩ := VR.int_inv h1 | obtain ⟨_, rfl⟩ := VR.bytes_inv h1 | obtain ⟨_, rfl⟩ := VR.str_inv h1 | obtain rfl := VR.none_inv h1 | obtain rfl := VR.bool_inv h1 | cases h1); (first | obtain ⟨_, rfl⟩ := VR.int_inv h2 | obtain ⟨_, rfl⟩ := VR.bytes_inv h2 | obtain ⟨_, rfl⟩ := VR.str_inv h2 | obtain rfl := VR.none_inv h2 | obtain rfl := VR.bool_inv h2 | cases h2); exact P.ge_int (hq _ s.toks .bool)
noncomputable def cmpI : CmpOp → Int → Int → Option Bool
  | .Eq, a, b => some (a == b)
  | .NotEq, a, b => some (a != b)
  | .Lt, a, b => some (decide (a < b))
  | .LtE, a, b => some (decide (a ≤ b))
  | .Gt, a, b => some (decide (a > b))
  | .GtE, a, b => some (decide (a ≥ b))
  | _, _, _ => none
theorem op_cmp_int {op : CmpOp} {a b : Int} {c : Bool} (h : cmpI op a b = some c) : Op2 (compareOp op) (.int a) (.int b) (.bool c) := by
  cases op <;> cases h
  · exact op_eq_int
  · exact op_ne_int
  · exact op_lt_int
  · exact op_le_int
  · exact op_gt_int
  · exact op_ge_int
theorem op_eq_bytes {a b : Bs} : Op2 (compareOp .Eq) (.bytes a) (.bytes b) (.bool (a == b)) := by
  refine .mk fun p w A E Q s G ρ v₁ v₂ hA hs h1 h2 hq => ?_; (first | obtain ⟨_, rfl⟩ := VR.int_inv h1 | obtain ⟨_, rfl⟩ := VR.bytes_inv h1 | obtain ⟨_, rfl⟩ := VR.str_inv h1 | obtain rfl := VR.none_inv h1 | obtain rfl := VR.bool_inv h1 | cases h1); (first | obtain ⟨_, rfl⟩ := VR.int_inv h2 | obtain ⟨_, rfl⟩ := VR.bytes_inv h2 | obtain ⟨_, rfl⟩ := VR.str_inv h2 | obtain rfl := VR.none_inv h2 | obtain rfl := VR.bool_inv h2 | cases h2); exact eq_bytes (hq _ s.toks .bool)
theorem op_ne_bytes {a b : Bs} : Op2 (compareOp .NotEq) (.bytes a) (.bytes b) (.bool (a != b)) := by
  refine .mk fun p w A E Q s G ρ v₁ v₂ hA hs h1 h2 hq => ?_; (first | obtain ⟨_, rfl⟩ := VR.int_inv h1 | obtain ⟨_, rfl⟩ := VR.bytes_inv h1 | obtain ⟨_, rfl⟩ := VR.str_inv h1 | obtain rfl := VR.none_inv h1 | obtain rfl := VR.bool_inv h1 | cases h1); (first | obtain ⟨_, rfl⟩ := VR.int_inv h2 | obtain ⟨_, rfl⟩ := VR.bytes_inv h2 | obtain ⟨_, rfl⟩ := VR.str_inv h2 | obtain rfl := VR.none_inv h2 | obtain rfl := VR.bool_inv h2 | cases h2); exact ne_bytes (hq _ s.toks .bool)
theorem op_eq_str {a b : PStr} : Op2 (compareOp .Eq) (.str a) (.str b) (.bool (a.cps.toList == b.cps.toList)) := by
  refine .mk fun p w A E Q s G ρ v₁ v₂ hA hs h1 h2 hq => ?_; (first | obtain ⟨_, rfl⟩ := VR.int_inv h1 | obtain ⟨_, rfl⟩ := VR.bytes_inv h1 | obtain ⟨_, rfl⟩ := VR.str_inv h1 | obtain rfl := VR.none_inv h1 | obtain rfl := VR.bool_inv h1 | cases h1); (first | obtain ⟨_, rfl⟩ := VR.int_inv h2 | obtain ⟨_, rfl⟩ := VR.bytes_inv h2 | obtain ⟨_, rfl⟩ := VR.str_inv h2 | obtain rfl := VR.none_inv h2 | obtain rfl := VR.bool_inv h2 | cases h2); exact P.eq_str (hq _ s.toks .bool)
theorem op_is_none_none : Op2 (compareOp .Is) .none .none (.bool true) := by
  refine .mk fun p w A E Q s G ρ v₁ v₂ hA hs h1 h2 hq => ?_; (first | obtain ⟨_, rfl⟩ := VR.int_inv h1 | obtain ⟨_, rfl⟩ := VR.bytes_inv h1 | obtain ⟨_, rfl⟩ := VR.str_inv h1 | obtain rfl := VR.none_inv h1 | obtain rfl := VR.bool_inv h1 | cases h1); (first | obtain ⟨_, rfl⟩ := VR.int_inv h2 | obtain ⟨_, rfl⟩ := VR.bytes_inv h2 | obtain ⟨_, rfl⟩ := VR.str_inv h2 | obtain rfl := VR.none_inv h2 | obtain rfl := VR.bool_inv h2 | cases h2); exact is_none_none (hq _ s.toks .bool)
theorem op_is_int_none {a : Int} : Op2 (compareOp .Is) (.int a) .none (.bool false) := by
  refine .mk fun p w A E Q s G ρ v₁ v₂ hA hs h1 h2 hq => ?_; (first | obtain ⟨_, rfl⟩ := VR.int_inv h1 | obtain ⟨_, rfl⟩ := VR.bytes_inv h1 | obtain ⟨_, rfl⟩ := VR.str_inv h1 | obtain rfl := VR.none_inv h1 | obtain rfl := VR.bool_inv h1 | cases h1); (first | obtain ⟨_, rfl⟩ := VR.int_inv h2 | obtain ⟨_, rfl⟩ := VR.bytes_inv h2 | obtain ⟨_, rfl⟩ := VR.str_inv h2 | obtain rfl := VR.none_inv h2 | obtain rfl := VR.bool_inv h2 | cases h2); exact is_int_none (hq _ s.toks .bool)
theorem op_add_bytes {a b : Bs} (hz : a.length + b.length ≤ 16777216) : Op2 (binaryOp .Add) (.bytes a) (.bytes b) (.bytes (a ++ b)) := by
  refine .mk fun p w A E Q s G ρ v₁ v₂ hA hs h1 h2 hq => ?_; (first | obtain ⟨_, rfl⟩ := VR.int_inv h1 | obtain ⟨_, rfl⟩ := VR.bytes_inv h1 | obtain ⟨_, rfl⟩ := VR.str_inv h1 | obtain rfl := VR.none_inv h1 | obtain rfl := VR.bool_inv h1 | cases h1); (first | obtain ⟨_, rfl⟩ := VR.int_inv h2 | obtain ⟨_, rfl⟩ := VR.bytes_inv h2 | obtain ⟨_, rfl⟩ := VR.str_inv h2 | obtain rfl := VR.none_inv h2 | obtain rfl := VR.bool_inv h2 | cases h2)
  refine KBy.add_bytes (by simpa using hz) fun t k => ?_
  rw [List.append_toArray]
  exact hq _ k .bytes
theorem str_empty {a : PStr} (h : a.length = 0) : a = ⟨#[]⟩ := by
  obtain ⟨c⟩ := a
  have : c.size = 0 := h
  rw [Array.eq_empty_of_size_eq_zero this]
theorem op_add_str {a b : PStr} (hz : (a ++ b).length ≤ 16777216) : Op2 (binaryOp .Add) (.str a) (.str b) (.str (a ++ b)) := by
  refine .mk fun p w A E Q s G ρ v₁ v₂ hA hs h1 h2 hq => ?_; (first | obtain ⟨_, rfl⟩ := VR.int_inv h1 | obtain ⟨_, rfl⟩ := VR.bytes_inv h1 | obtain ⟨_, rfl⟩ := VR.str_inv h1 | obtain rfl := VR.none_inv h1 | obtain rfl := VR.bool_inv h1 | cases h1); (first | obtain ⟨_, rfl⟩ := VR.int_inv h2 | obtain ⟨_, rfl⟩ := VR.bytes_inv h2 | obtain ⟨_, rfl⟩ := VR.str_inv h2 | obtain rfl := VR.none_inv h2 | obtain rfl := VR.bool_inv h2 | cases h2)
  refine P.add_str ?_
  split
  · rename_i e
    have : a = ⟨#[]⟩ := str_empty (by simpa using e)
    subst this
    have e2 : (⟨#[]⟩ : PStr) ++ b = b := by
      show PySem.Str.mk (#[] ++ b.cps) = b
      rw [Array.empty_append]
    rw [e2] at hq
    exact hq _ s.toks .str
  · split
    · rename_i e
      have : b = ⟨#[]⟩ := str_empty (by simpa using e)
      subst this
      have e2 : a ++ (⟨#[]⟩ : PStr) = a := by
        show PySem.Str.mk (a.cps ++ #[]) = a
        rw [Array.append_empty]
      rw [e2] at hq
      exact hq _ s.toks .str
    · exact ⟨hz, hq _ _ .str⟩

theorem tru_bool {b : Bool} : Tru (.bool b) b := by
  refine .mk fun p w A E Q s G ρ v₁ hA hs h1 hq => ?_; (first | obtain ⟨_, rfl⟩ := VR.int_inv h1 | obtain ⟨_, rfl⟩ := VR.bytes_inv h1 | obtain ⟨_, rfl⟩ := VR.str_inv h1 | obtain rfl := VR.none_inv h1 | obtain rfl := VR.bool_inv h1 | cases h1); exact wpAny_truthy_bool (hq b s.toks rfl)
theorem tru_int {i : Int} : Tru (.int i) (i != 0) := by
  refine .mk fun p w A E Q s G ρ v₁ hA hs h1 hq => ?_; (first | obtain ⟨_, rfl⟩ := VR.int_inv h1 | obtain ⟨_, rfl⟩ := VR.bytes_inv h1 | obtain ⟨_, rfl⟩ := VR.str_inv h1 | obtain rfl := VR.none_inv h1 | obtain rfl := VR.bool_inv h1 | cases h1); exact P.truthy_int (hq _ s.toks rfl)
theorem tru_none : Tru .none false := by
  refine .mk fun p w A E Q s G ρ v₁ hA hs h1 hq => ?_; (first | obtain ⟨_, rfl⟩ := VR.int_inv h1 | obtain ⟨_, rfl⟩ := VR.bytes_inv h1 | obtain ⟨_, rfl⟩ := VR.str_inv h1 | obtain rfl := VR.none_inv h1 | obtain rfl := VR.bool_inv h1 | cases h1); exact truthy_none (hq _ s.toks rfl)
end Mine

end
section
namespace Mine
open PySem PySem.W PySem.Spec PySem.Calls PyProof.Rows

/-- what an operation hands back: a value that reads as d, the heap grown -/
noncomputable def Res (G : Heap) (ρ : List Addr) (d : D) (s : Shared) (Q : Value → Shared → Prop) : Prop :=
  ∀ v h' tk, s.heap.StaysIn h' → (∀ G', G.StaysIn G' → (∀ b o, s.heap.objs.size ≤ b → h'.get? b = some o → G'.get? b = some o) → VR G' ρ d v) → Q v { s with heap := h', toks := tk }
theorem Res.now {G ρ d s Q} (h : Res G ρ d s Q) {v : Value} {tk : Nat} (hv : VR G ρ d v) : Q v { s with toks := tk } := h v s.heap tk (fun _ _ e => e) fun G' k _ => hv.mono k (List.prefix_refl _)
theorem Res.push {G ρ d s Q} (h : Res G ρ d s Q) {o : Obj} {tk : Nat} (hf : o.isFreed = false) (hv : ∀ G', G.StaysIn G' → G'.get? s.heap.objs.size = some o → VR G' ρ d (.ref s.heap.objs.size)) : Q (.ref s.heap.objs.size) { s with heap := s.heap.push o, toks := tk } :=
  h _ _ tk (fun b o' e => Heap.get?_push_of_some _ e) fun G' k n => hv G' k (n _ _ (Nat.le_refl _) (Heap.get?_push_size _ hf))

section
variable {g : Gl} {fc : FC} {G G₀ : Heap} {ρ ρ₀ : List Addr} {s : Shared} {a : AS} {R : AS → Prop} {n : Nat} {sc : Scope}
theorem Rel.res {Q : D → AS → Prop} {d : D} (hr : Rel g fc G a ρ s) (hq : Q d a) (st : Step G₀ ρ₀ G ρ) : Res G ρ d s (PV VR g fc G₀ ρ₀ Q) := fun v h' tk k hv => by
  obtain ⟨z1, z2⟩ := hr.ext (h' := h') (t := tk) k
  refine ⟨frz fc ρ h', ρ, a, d, st.trans z2, z1, hv _ z2.1 fun b o hb e => hideAll_get _ e fun hm => ?_, hq⟩
  exact absurd (hr.lt b hm) (Nat.not_lt.mpr hb)

/-! items and slices -/
structure ItemV (d₁ d₂ d : D) : Prop where
  run : ∀ (p : Program) (w : World) (A : Around) (E : Value → Shared → Prop) (Q : Value → Shared → Prop) (s : Shared) (G : Heap) (ρ : List Addr) (v₁ v₂ : Value), AOk A → G.StaysIn s.heap → VR G ρ d₁ v₁ → VR G ρ d₂ v₂ →
  Res G ρ d s Q → ItemOn (model p w) A E v₁ v₂ Q s
structure SliceV (d₁ dl du ds d : D) : Prop where
  run : ∀ (p : Program) (w : World) (A : Around) (E : Value → Shared → Prop) (Q : Value → Shared → Prop) (s : Shared) (G : Heap) (ρ : List Addr) (v₁ vl vu vs : Value) (x : Addr), AOk A → G.StaysIn s.heap → VR G ρ d₁ v₁ → VR G ρ dl vl → VR G ρ du vu → VR G ρ ds vs →
  s.heap.IsSliceOf x vl vu vs → Res G ρ d s Q → ItemOn (model p w) A E v₁ (.ref x) Q s

theorem tail_item {p : Program} {w : World} {A : Around} {E : Value → Shared → Prop} {value slice : Expr} {o i : Value} {ops : List Value} {Q : Value → Shared → Prop} (h : ItemOn (model p w) A E o i Q s)
    (hs : subscripted slice false o i = operate ops (getItem o i)) : wpAny (model p w) A (subscriptTail value slice o i) Q E s := by
  obtain ⟨T, id, hl, hT, hg⟩ := h
  unfold subscriptTail
  refine wpAny_bind ?_
  rw [getitemInPython_of_ne hT.not_modules]
  refine wpAny_bind (wpAny_specialOf hT hl ?_)
  have fin : wpAny (model p w) A (subscripted slice false o i) (fun r s₃ => wpAny (model p w) A (letTemporaryGo value o r >>= fun _ => pure r) Q E s₃) E s := by
    rw [hs]
    exact wpAny_operating (wpAny_mono hg (fun r s₃ h₃ => wpAny_bind (wpAny_letTemporaryGo (wpAny_pure h₃))) fun _ _ x => x)
  first
    | exact wpAny_pure (wpAny_bind fin)
    | exact wpAny_bind (wpAny_pure (wpAny_bind fin))
    | exact wpAny_bind fin

noncomputable abbrev KIt (Q : D → AS → Prop) : D → D → AS → Prop := fun d₁ d₂ a₂ => ∃ d, ItemV d₁ d₂ d ∧ Q d a₂
theorem kit {Q : D → AS → Prop} {d₁ d₂ d : D} {a : AS} (h : ItemV d₁ d₂ d) (q : Q d a) : KIt Q d₁ d₂ a := ⟨d, h, q⟩
theorem a_Sub {value slice pos} {Q : D → AS → Prop} (ok : fc.Ok n) (h : AW VR g fc (eval value fc.env) (KR g fc slice (KIt Q) R) R a) (hn : n ≤ 200 := by first | exact nup (by with_reducible assumption) (by rfl) | exact nup0 (by with_reducible assumption) (by rfl) | exact nupp (by with_reducible assumption) (by rfl) | omega)
    (hs : ∀ o i, subscripted slice false o i = operate [o, i] (getItem o i) := by intro _ _; rfl) : AW VR g fc (eval (.Subscript value slice pos) fc.env) Q R a := .mk fun G ρ s hr =>
  Subscript_ (aw_then h Step.refl hr fun G₁ ρ₁ d₁ a₁ v₁ s₁ _ st₁ r₁ hv₁ q₁ => aw_then q₁ st₁ r₁ fun G₂ ρ₂ d₂ a₂ v₂ s₂ st₁₂ st₂ r₂ hv₂ ⟨d, hop, hq⟩ =>
    tail_item (hop.run _ _ _ _ _ _ G₂ ρ₂ _ _ ok.ao r₂.gs (hv₁.step st₁₂) hv₂ (r₂.res hq st₂)) (hs _ _))

noncomputable def AWp (g : Gl) (fc : FC) (e : Option Expr) (Q : D → AS → Prop) (R : AS → Prop) (a : AS) : Prop := AW VR g fc (evalPart e fc.env) Q R a
theorem p_none {Q : D → AS → Prop} (h : Q .none a) : AWp g fc none Q R a := .mk fun G ρ s hr => evalPart_none_step (pv hr .none h)
theorem p_some {e : Expr} {Q : D → AS → Prop} (h : AW VR g fc (eval e fc.env) Q R a) : AWp g fc (some e) Q R a := .mk fun G ρ s hr => evalPart_some_step (h.run G ρ s hr)

noncomputable abbrev KS4 (Q : D → AS → Prop) : D → D → D → D → AS → Prop := fun d₁ dl du ds a₄ => ∃ d, SliceV d₁ dl du ds d ∧ Q d a₄
noncomputable abbrev KS3 (g : Gl) (fc : FC) (step : Option Expr) (Q : D → AS → Prop) (R : AS → Prop) : D → D → D → AS → Prop := fun d₁ dl du a₃ => AWp g fc step (KS4 Q d₁ dl du) R a₃
noncomputable abbrev KS2 (g : Gl) (fc : FC) (upper step : Option Expr) (Q : D → AS → Prop) (R : AS → Prop) : D → D → AS → Prop := fun d₁ dl a₂ => AWp g fc upper (KS3 g fc step Q R d₁ dl) R a₂
noncomputable abbrev KS1 (g : Gl) (fc : FC) (lower upper step : Option Expr) (Q : D → AS → Prop) (R : AS → Prop) : D → AS → Prop := fun d₁ a₁ => AWp g fc lower (KS2 g fc upper step Q R d₁) R a₁
theorem ksl {Q : D → AS → Prop} {d₁ dl du ds d : D} {a : AS} (h : SliceV d₁ dl du ds d) (q : Q d a) : KS4 Q d₁ dl du ds a := ⟨d, h, q⟩
theorem a_Slice {value lower upper step p pos} {Q : D → AS → Prop} (ok : fc.Ok n) (h : AW VR g fc (eval value fc.env) (KS1 g fc lower upper step Q R) R a) (hn : n ≤ 200 := by first | exact nup (by with_reducible assumption) (by rfl) | exact nup0 (by with_reducible assumption) (by rfl) | exact nupp (by with_reducible assumption) (by rfl) | omega) : AW VR g fc (eval (.Subscript value (.Slice lower upper step p) pos) fc.env) Q R a := .mk fun G ρ s hr => by
  have hs : ∀ o i, ∃ ops, subscripted (.Slice lower upper step p) false o i = operate ops (getItem o i) := fun o i => by cases step <;> exact ⟨_, rfl⟩
  refine Subscript_ (aw_then h Step.refl hr fun G₁ ρ₁ d₁ a₁ v₁ s₁ _ st₁ r₁ hv₁ q₁ => wpAny_Slice (aw_then q₁ st₁ r₁ fun G₂ ρ₂ d₂ a₂ v₂ s₂ st₁₂ st₂ r₂ hv₂ q₂ => aw_then q₂ st₂ r₂ fun G₃ ρ₃ d₃ a₃ v₃ s₃ st₂₃ st₃ r₃ hv₃ q₃ =>
    aw_then q₃ st₃ r₃ fun G₄ ρ₄ d₄ a₄ v₄ s₄ st₃₄ st₄ r₄ hv₄ ⟨d, hop, hq⟩ => ?_))
  have st₁₄ := (st₁₂.trans st₂₃).trans st₃₄
  obtain ⟨z1, z2, _⟩ := r₄.push { cls := .type "slice", data := .fields #[v₂, v₃, v₄] } rfl
  obtain ⟨ops, ho⟩ := hs v₁ (.ref s₄.heap.objs.size)
  exact tail_item (hop.run _ _ _ _ _ _ _ ρ₄ _ _ _ _ _ ok.ao z1.gs ((hv₁.step st₁₄).step z2) ((hv₂.step (st₂₃.trans st₃₄)).step z2) ((hv₃.step st₃₄).step z2) (hv₄.step z2) (Heap.IsSliceOf.new _ _ _ _) (z1.res hq (st₄.trans z2))) ho
end

/-- b[lo:hi] -/
noncomputable def cut {α : Type} (b : List α) (lo hi : Option Int) : List α := (b.drop (lo.elim 0 (clipAt b.length))).take (hi.elim b.length (clipAt b.length) - lo.elim 0 (clipAt b.length))
inductive DPart : D → Option Int → Prop
  | none : DPart .none none
  | int {i} : DPart (.int i) (some i)
theorem DPart.is {G ρ d o v} (h : DPart d o) (hv : VR G ρ d v) : IsPart v o := by
  cases h <;> cases hv
  · exact .none
  · exact .int _ _
theorem cut_length_le {α : Type} (b : List α) (lo hi : Option Int) : (cut b lo hi).length ≤ b.length := by
  unfold cut
  rw [List.length_take, List.length_drop]
  omega
theorem sl_bytes {b : Bs} {dl du : D} {lo hi : Option Int} (hl : DPart dl lo) (hu : DPart du hi) (hz : b.length ≤ 16777216) : SliceV (.bytes b) dl du .none (.bytes (cut b lo hi)) := by
  refine .mk fun p w A E Q s G ρ v₁ vl vu vs x hA hs h1 h2 h3 h4 hx hres => ?_
  (first | obtain ⟨_, rfl⟩ := VR.int_inv h1 | obtain ⟨_, rfl⟩ := VR.bytes_inv h1 | obtain ⟨_, rfl⟩ := VR.str_inv h1 | obtain rfl := VR.none_inv h1 | obtain rfl := VR.bool_inv h1 | cases h1); (first | obtain ⟨_, rfl⟩ := VR.int_inv h4 | obtain ⟨_, rfl⟩ := VR.bytes_inv h4 | obtain ⟨_, rfl⟩ := VR.str_inv h4 | obtain rfl := VR.none_inv h4 | obtain rfl := VR.bool_inv h4 | cases h4)
  have e : KBy.picked b.toArray lo hi = (cut b lo hi).toArray := by rw [KBc.picked_eq]; rfl
  refine ⟨"bytes", _, FB.slot_bytes_getitem.lookup, typeIs_bytes _ _ _, getItem_meets (typeIs_bytes _ _ _) (by decide) FB.slot_bytes_getitem FB.entry_bytes_getitem (FB.args_bytes_getitem_2 _ _) (KBc.meets_slice2 b.toArray _ x (hl.is h2) (hu.is h3))
    ⟨hx, Nat.le_trans (KBc.size_picked_le _ lo hi) (by rw [List.size_toArray, sizeLine_eq]; exact hz), fun t' k => ?_⟩⟩
  rw [e]
  exact hres.now .bytes
theorem it_bytes {b : Bs} {i : Int} (h0 : 0 ≤ i) (h1 : i < b.length) (hz : b.length ≤ 16777216) : ItemV (.bytes b) (.int i) (.int (b.getD i.toNat 0).toNat) := by
  refine .mk fun p w A E Q s G ρ v₁ v₂ hA hs hv1 hv2 hres => ?_
  (first | obtain ⟨_, rfl⟩ := VR.int_inv hv1 | obtain ⟨_, rfl⟩ := VR.bytes_inv hv1 | obtain ⟨_, rfl⟩ := VR.str_inv hv1 | obtain rfl := VR.none_inv hv1 | obtain rfl := VR.bool_inv hv1 | cases hv1); (first | obtain ⟨_, rfl⟩ := VR.int_inv hv2 | obtain ⟨_, rfl⟩ := VR.bytes_inv hv2 | obtain ⟨_, rfl⟩ := VR.str_inv hv2 | obtain rfl := VR.none_inv hv2 | obtain rfl := VR.bool_inv hv2 | cases hv2)
  exact ⟨"bytes", _, FB.slot_bytes_getitem.lookup, typeIs_bytes _ _ _, getItem_bytes (by omega) h0 h1 (hres.now .int)⟩

theorem VRs.get {G ρ} : ∀ {ds : List D} {vs : List Value} {k : Nat} {d : D}, VRs G ρ ds vs → ds[k]? = some d → ∃ v, vs[k]? = some v ∧ VR G ρ d v
  | _, _, _, _, .nil, e => by cases e
  | _, _, 0, _, .cons h _, e => by cases e; exact ⟨_, rfl, h⟩
  | _ :: ds, _ :: vs, k + 1, d, .cons _ t, e => by
    obtain ⟨v, e1, e2⟩ := VRs.get (k := k) (d := d) t (by simpa using e)
    exact ⟨v, by simpa using e1, e2⟩
theorem VRs.drop {G ρ} : ∀ {ds : List D} {vs : List Value} (k : Nat), VRs G ρ ds vs → VRs G ρ (ds.drop k) (vs.drop k)
  | _, _, 0, h => h
  | _, _, _ + 1, .nil => .nil
  | _, _, k + 1, .cons _ t => VRs.drop k t
theorem VRs.take {G ρ} : ∀ {ds : List D} {vs : List Value} (k : Nat), VRs G ρ ds vs → VRs G ρ (ds.take k) (vs.take k)
  | _, _, 0, _ => .nil
  | _, _, _ + 1, .nil => .nil
  | _, _, k + 1, .cons h t => .cons h (VRs.take k t)
theorem VRs.append {G ρ} : ∀ {ds ds' : List D} {vs vs' : List Value}, VRs G ρ ds vs → VRs G ρ ds' vs' → VRs G ρ (ds ++ ds') (vs ++ vs')
  | _, _, _, _, .nil, h => h
  | _, _, _, _, .cons h t, h' => .cons h (VRs.append t h')
theorem VRs.reverse {G ρ} : ∀ {ds : List D} {vs : List Value}, VRs G ρ ds vs → VRs G ρ ds.reverse vs.reverse
  | _, _, .nil => .nil
  | _, _, .cons h t => by rw [List.reverse_cons, List.reverse_cons]; exact (VRs.reverse t).append (.cons h .nil)

theorem isTup_stays {G G' : Heap} (k : G.StaysIn G') {a its} (h : IsTup G a its) : IsTup G' a its := h.keeps k
theorem seqIdx_ok {len : Nat} {i : Int} (h0 : 0 ≤ i) (h : i.toNat < len) : seqIndex? i len = some i.toNat := by
  have a1 : ¬ i < 0 := by omega
  have a2 : i < (len : Int) := by omega
  simp [seqIndex?, a1, a2, h0]
theorem it_tup {l : List D} {i : Int} {d : D} (h0 : 0 ≤ i) (h1 : i < 2 ^ 63) (hd : l[i.toNat]? = some d) : ItemV (.tup l) (.int i) d := by
  refine .mk fun p w A E Q s G ρ v₁ v₂ hA hs hv1 hv2 hres => ?_
  (first | obtain ⟨_, rfl⟩ := VR.int_inv hv2 | obtain ⟨_, rfl⟩ := VR.bytes_inv hv2 | obtain ⟨_, rfl⟩ := VR.str_inv hv2 | obtain rfl := VR.none_inv hv2 | obtain rfl := VR.bool_inv hv2 | cases hv2)
  obtain ⟨_, _, rfl, hvs, ht⟩ := VR.tup_inv hv1
  ·
    obtain ⟨v, e1, e2⟩ := hvs.get hd
    have ht' := isTup_stays hs ht
    refine ⟨"tuple", _, slot_tuple_getitem.lookup, ht'.typeIs, PyProof.Rows.getItem_tuple ht' (by omega) h1 (j := i.toNat) ?_ (by simpa using e1) (hres.now e2)⟩
    exact seqIdx_ok h0 (by have := (List.getElem?_eq_some_iff.mp e1).1; simpa using this)
theorem it_list {l : List D} {i : Int} {d : D} (h0 : 0 ≤ i) (h1 : i < 2 ^ 63) (hd : l[i.toNat]? = some d) : ItemV (.list l) (.int i) d := by
  refine .mk fun p w A E Q s G ρ v₁ v₂ hA hs hv1 hv2 hres => ?_
  (first | obtain ⟨_, rfl⟩ := VR.int_inv hv2 | obtain ⟨_, rfl⟩ := VR.bytes_inv hv2 | obtain ⟨_, rfl⟩ := VR.str_inv hv2 | obtain rfl := VR.none_inv hv2 | obtain rfl := VR.bool_inv hv2 | cases hv2)
  obtain ⟨_, _, rfl, hvs, ht⟩ := VR.list_inv hv1
  ·
    obtain ⟨v, e1, e2⟩ := hvs.get hd
    have ht' := isList_stays hs ht.isList
    exact ⟨"list", _, slot_list_getitem.lookup, ht'.typeIs, wpAny_getItem_list ht' h0 h1 (by simpa using e1) (hres.now e2)⟩
theorem sl_list {l : List D} {dl du : D} {lo hi : Option Int} (hl : DPart dl lo) (hu : DPart du hi) (hz : l.length ≤ 16777216) : SliceV (.list l) dl du .none (.list (cut l lo hi)) := by
  refine .mk fun p w A E Q s G ρ v₁ vl vu vs x hA hs h1 h2 h3 h4 hx hres => ?_
  (first | obtain ⟨_, rfl⟩ := VR.int_inv h4 | obtain ⟨_, rfl⟩ := VR.bytes_inv h4 | obtain ⟨_, rfl⟩ := VR.str_inv h4 | obtain rfl := VR.none_inv h4 | obtain rfl := VR.bool_inv h4 | cases h4)
  obtain ⟨_, _, rfl, hvs, ht⟩ := VR.list_inv h1
  ·
    have ht' := isList_stays hs ht.isList
    refine ⟨"list", _, slot_list_getitem.lookup, ht'.typeIs, wpAny_getItem_list_slice ht' hx (hl.is h2) (hu.is h3) .none (by intro e; cases e) ?_ (by rw [List.size_toArray, hvs.length, sizeLine_eq]; exact hz)⟩
    rw [slicePick_plain]
    refine hres.push (tk := s.toks) rfl fun G' k e => ?_
    refine .list (vs := (_ : List Value)) (VRs.mono k (List.prefix_refl _) ((hvs.drop _).take _)) ⟨0, ?_⟩
    rw [e]
    rw [List.size_toArray, hvs.length]
theorem sl_listRev {l : List D} (hz : l.length ≤ 16777216) : SliceV (.list l) .none .none (.int (-1)) (.list l.reverse) := by
  refine .mk fun p w A E Q s G ρ v₁ vl vu vs x hA hs h1 h2 h3 h4 hx hres => ?_
  (first | obtain ⟨_, rfl⟩ := VR.int_inv h2 | obtain ⟨_, rfl⟩ := VR.bytes_inv h2 | obtain ⟨_, rfl⟩ := VR.str_inv h2 | obtain rfl := VR.none_inv h2 | obtain rfl := VR.bool_inv h2 | cases h2); (first | obtain ⟨_, rfl⟩ := VR.int_inv h3 | obtain ⟨_, rfl⟩ := VR.bytes_inv h3 | obtain ⟨_, rfl⟩ := VR.str_inv h3 | obtain rfl := VR.none_inv h3 | obtain rfl := VR.bool_inv h3 | cases h3); (first | obtain ⟨_, rfl⟩ := VR.int_inv h4 | obtain ⟨_, rfl⟩ := VR.bytes_inv h4 | obtain ⟨_, rfl⟩ := VR.str_inv h4 | obtain rfl := VR.none_inv h4 | obtain rfl := VR.bool_inv h4 | cases h4)
  obtain ⟨_, _, rfl, hvs, ht⟩ := VR.list_inv h1
  ·
    have ht' := isList_stays hs ht.isList
    refine ⟨"list", _, slot_list_getitem.lookup, ht'.typeIs, wpAny_getItem_list_slice ht' hx .none .none (.int _ _) (by decide) ?_ (by rw [List.size_toArray, hvs.length, sizeLine_eq]; exact hz)⟩
    rw [krv_pick]
    exact hres.push (tk := s.toks) rfl fun G' k e => .list (VRs.mono k (List.prefix_refl _) hvs.reverse) ⟨0, e⟩
end Mine

end
section
namespace Mine
open PySem PySem.W PySem.Spec PySem.Calls PyProof.Rows

section
variable {g : Gl} {fc : FC} {G G₀ : Heap} {ρ ρ₀ : List Addr} {s : Shared} {a : AS} {R : AS → Prop} {n : Nat} {sc : Scope}

theorem keep_b {id : String} : Keep g (.glob (.builtin id)) := fun M h G ρ v _ _ hv => by
  cases hv
  exact ⟨_, .inr (.inl rfl), fun A Q E s _ q => wpAny_pure q⟩
theorem keep_t {id : String} : Keep g (.glob (.type id)) := fun M h G ρ v _ _ hv => by
  cases hv
  exact ⟨_, .inr (.inl rfl), fun A Q E s _ q => wpAny_pure q⟩
theorem keep_k {f : Value} (g' : g.Ok) (e : keepIn (Hd.hd.heap_1 g.w.params) f = true) : Keep g (.glob f) := fun M h G ρ v hb _ hv => by
  cases hv
  obtain ⟨k, hk, L⟩ := looks_keep e (g'.X.keeps hb)
  exact ⟨k, hk.elim .inl fun q => .inr (.inl q), L⟩
theorem keep_lam {ps body scope qual cl} : Keep g (.lam ps body scope qual cl) := fun M h G ρ v _ gs hv => by
  cases hv with
  | lam H =>
    obtain ⟨name, pm, c', ctv, clos, h1, _, _⟩ := H
    refine ⟨_, .inl rfl, fun A Q E s k q => ?_⟩
    unfold keeperOf
    exact wpAny_bind (wpAny_load (k _ _ (gs _ _ h1)) (wpAny_pure q))

/-- calls of built-in things -/
structure FunV (f : Value) (ds : List D) (d : D) : Prop where
  run : ∀ (p : Program) (w : World) (A : Around) (E : Value → Shared → Prop) (Q : Value → Shared → Prop) (s : Shared) (G : Heap) (ρ : List Addr) (vs : List Value), AOk A → G.StaysIn s.heap → VRs G ρ ds vs →
  Res G ρ d s Q → wpAny (model p w) A (call f vs) Q E s
theorem c_fun {f : Value} {ds : List D} {d : D} {Q : D → AS → Prop} (ok : fc.Ok n) (h : FunV f ds d) (hq : Q d a) (hn : n ≤ 200 := by first | exact nup (by with_reducible assumption) (by rfl) | exact nup0 (by with_reducible assumption) (by rfl) | exact nupp (by with_reducible assumption) (by rfl) | omega) : CallAt g fc (.glob f) ds Q R a := .mk fun G ρ s vf vs hr hf hv => by
  cases hf
  exact h.run _ _ _ _ _ _ _ _ _ ok.ao hr.gs hv (hr.res hq Step.refl)

/-- what a method's name means at a value -/
noncomputable def IsM (g : Gl) (fc : FC) (d : D) (a : AS) (T : String) : Prop := ∀ G ρ s v, Rel g fc G a ρ s → VR G ρ d v → s.TypeIs v T ∧ ∀ x, v = .ref x → ∃ ob, s.heap.get? x = some ob ∧ ob.dict = none
theorem ism_bytes {b : Bs} : IsM g fc (.bytes b) a "bytes" := fun G ρ s v hr hv => by
  cases hv
  exact ⟨typeIs_bytes _ _ _, fun x e => nomatch e⟩
structure MethT (T : String) (name : PStr) (id : String) : Prop where
  pa : PlainAttrs T
  slot : Slot T name id
  ty : typeOf (.builtin id) = pure (.type "method_descriptor")
noncomputable abbrev KCm (g : Gl) (fc : FC) (id : String) (d₁ : D) (Q : D → AS → Prop) (R : AS → Prop) : List D → AS → Prop := fun ds a₂ => CallAt g fc (.glob (.builtin id)) (d₁ :: ds) Q R a₂
noncomputable abbrev KMe (g : Gl) (fc : FC) (name : PStr) (pos : Pos) (args : List Expr) (Q : D → AS → Prop) (R : AS → Prop) : D → AS → Prop := fun d₁ a₁ =>
  ∃ T id, MethT T name id ∧ IsM g fc d₁ a₁ T ∧ AW VRs g fc (spliced (backTo pos (starEach args fc.env))) (KCm g fc id d₁ Q R) R a₁
theorem kme {g : Gl} {fc : FC} {name : PStr} {pos : Pos} {args : List Expr} {Q : D → AS → Prop} {R : AS → Prop} {d₁ : D} {a : AS} {T id : String} (h : MethT T name id) (hm : IsM g fc d₁ a T) (q : AW VRs g fc (spliced (backTo pos (starEach args fc.env))) (KCm g fc id d₁ Q R) R a) : KMe g fc name pos args Q R d₁ a := ⟨T, id, h, hm, q⟩
theorem a_Meth {o : Expr} {name : PStr} {apos pos : Pos} {args : List Expr} {Q : D → AS → Prop}
    (h : AW VR g fc (eval o fc.env) (KMe g fc name pos args Q R) R a)
    (hbase : attributeBase o name fc.env (eval o fc.env) = eval o fc.env := by rfl)
    (hfew : ((backTo pos (starEach args fc.env)).all (fun x => !x.1) && (backToKw pos (keywordEach [] fc.env)).all (fun x => x.1.isSome)
      && decide (args.length + ([] : List Keyword).length + (if ([] : List Keyword).isEmpty then 0 else 1) < 30)) = true := by rfl)
    (hline : (apos.endLine == pos.line) = true := by rfl)
    (hargs : args.all plainArg = true := by rfl) :
    AW VR g fc (eval (.Call (.Attribute o name apos) args [] pos) fc.env) Q R a := .mk fun G ρ s hr => by
  refine wpAny_Call_method_lateS hbase hfew hline (aw_then h Step.refl hr fun G₁ ρ₁ d₁ a₁ v₁ s₁ _ st₁ r₁ hv₁ ⟨T, id, hm, ht, q₁⟩ => ?_)
  refine ⟨T, id, hm.pa, hm.slot, hm.ty, (ht _ _ _ _ r₁ hv₁).1, (ht _ _ _ _ r₁ hv₁).2, ?_⟩
  have tail : ∀ (G₂ : Heap) (ρ₂ : List Addr) (ds : List D) (a₂ : AS) (vs : List Value) (s₂ : Shared), Step G₁ ρ₁ G₂ ρ₂ → Step G ρ G₂ ρ₂ → Rel g fc G₂ a₂ ρ₂ s₂ → VRs G₂ ρ₂ ds vs → CallAt g fc (.glob (.builtin id)) (d₁ :: ds) Q R a₂ →
      wpAny g.M fc.A (call (.builtin id) ([v₁] ++ vs)) (PV VR g fc G ρ Q) (PE g fc G ρ R) s₂ := fun G₂ ρ₂ ds a₂ vs s₂ st₁₂ st₂ r₂ hv₂ q₂ =>
    wpAny_mono (q₂.run G₂ ρ₂ s₂ _ (v₁ :: vs) r₂ .glob (.cons (hv₁.step st₁₂) hv₂)) (fun _ _ p => p.up st₂) fun _ _ e => e.up st₂
  rcases star_args (pos := pos) (env := fc.env) hargs with rfl | ⟨e, rest, rfl, hs, hp⟩
  · refine callWith_builtin rfl (evalArgs_nilS ?_)
    exact aw_then q₁ st₁ r₁ fun G₂ ρ₂ ds a₂ vs s₂ st₁₂ st₂ r₂ hv₂ q₂ => tail G₂ ρ₂ ds a₂ vs s₂ st₁₂ st₂ r₂ hv₂ q₂
  · have q₂ := q₁
    rw [hs] at q₂ ⊢
    refine callWith_builtin (by show (false || (backTo pos (starEach rest fc.env)).any (·.1)) = false; rw [hp]; rfl) (evalArgs_plain ?_)
    exact aw_then q₂ st₁ r₁ fun G₂ ρ₂ ds a₂ vs s₂ st₁₂ st₂ r₂ hv₂ q₂ => tail G₂ ρ₂ ds a₂ vs s₂ st₁₂ st₂ r₂ hv₂ q₂
end
end Mine

end
section
namespace Mine
open PySem PySem.W PySem.Spec PySem.Calls PyProof.Rows PySem.Builtin

namespace BM
theorem slot_find : Slot "bytes" "find" "bytes.find" :=
  .of (owner := "bytes") (n := "find") (by rw [typeLookup_type, builtinLookup_eq_fast]; kernel_rfl) (by decide +kernel) (by decide +kernel) (by decide +kernel)
    (by first | exact .inl (by decide +kernel) | exact .inr (by decide +kernel)) (by rw [isSubtype_type]; kernel_rfl)
theorem type_find : typeOf (.builtin "bytes.find") = pure (.type "method_descriptor") := by show builtinType _ = _; rw [builtinType_eq_fast]; kernel_rfl
theorem entry_find : entryFor table "bytes.find" = some Builtin.«bytes.find» := entryFor_of_tree (by kernel_rfl)
theorem args_find_2 (a b : Value) : argsOk "bytes.find" ⟨[a, b], []⟩ := by
  unfold argsOk; rw [signature?_of (id := "bytes.find") (n := ['d', 'n', 'i', 'f']) (o := ['s', 'e', 't', 'y', 'b']) (by kernel_rfl) FB.owner_bytes]; kernel_rfl
theorem args_find_3 (a b c : Value) : argsOk "bytes.find" ⟨[a, b, c], []⟩ := by
  unfold argsOk; rw [signature?_of (id := "bytes.find") (n := ['d', 'n', 'i', 'f']) (o := ['s', 'e', 't', 'y', 'b']) (by kernel_rfl) FB.owner_bytes]; kernel_rfl
theorem slot_split : Slot "bytes" "split" "bytes.split" :=
  .of (owner := "bytes") (n := "split") (by rw [typeLookup_type, builtinLookup_eq_fast]; kernel_rfl) (by decide +kernel) (by decide +kernel) (by decide +kernel)
    (by first | exact .inl (by decide +kernel) | exact .inr (by decide +kernel)) (by rw [isSubtype_type]; kernel_rfl)
theorem type_split : typeOf (.builtin "bytes.split") = pure (.type "method_descriptor") := by show builtinType _ = _; rw [builtinType_eq_fast]; kernel_rfl
theorem entry_split : entryFor table "bytes.split" = some Builtin.«bytes.split» := entryFor_of_tree (by kernel_rfl)
theorem args_split_2 (a b : Value) : argsOk "bytes.split" ⟨[a, b], []⟩ := by
  unfold argsOk; rw [signature?_of (id := "bytes.split") (n := ['t', 'i', 'l', 'p', 's']) (o := ['s', 'e', 't', 'y', 'b']) (by kernel_rfl) FB.owner_bytes]; kernel_rfl
theorem slot_join : Slot "bytes" "join" "bytes.join" :=
  .of (owner := "bytes") (n := "join") (by rw [typeLookup_type, builtinLookup_eq_fast]; kernel_rfl) (by decide +kernel) (by decide +kernel) (by decide +kernel)
    (by first | exact .inl (by decide +kernel) | exact .inr (by decide +kernel)) (by rw [isSubtype_type]; kernel_rfl)
theorem type_join : typeOf (.builtin "bytes.join") = pure (.type "method_descriptor") := by show builtinType _ = _; rw [builtinType_eq_fast]; kernel_rfl
theorem entry_join : entryFor table "bytes.join" = some Builtin.«bytes.join» := entryFor_of_tree (by kernel_rfl)
theorem args_join_2 (a b : Value) : argsOk "bytes.join" ⟨[a, b], []⟩ := by
  unfold argsOk; rw [signature?_of (id := "bytes.join") (n := ['n', 'i', 'o', 'j']) (o := ['s', 'e', 't', 'y', 'b']) (by kernel_rfl) FB.owner_bytes]; kernel_rfl
theorem m_find : MethT "bytes" "find" "bytes.find" := ⟨FB.plainAttrs_bytes, slot_find, type_find⟩
theorem m_split : MethT "bytes" "split" "bytes.split" := ⟨FB.plainAttrs_bytes, slot_split, type_split⟩
theorem m_join : MethT "bytes" "join" "bytes.join" := ⟨FB.plainAttrs_bytes, slot_join, type_join⟩

/-- find, in the model's words -/
noncomputable def rfindM (b c : Array UInt8) (lo : Nat) : Int := match (if ((b.size : Int) - lo < c.size) then none else Bytes.find? b c lo b.size) with | some i => i | none => -1
theorem wp_specialOf_int {M : Model} {A : Around} {E : Value → Shared → Prop} {s : Shared} {i : Int} {t : Tok} {Q : Option Value → Shared → Prop} (h : ∀ v, Q (some v) s) : wpAny M A (specialOf (.int i t) "__index__") Q E s :=
  wpAny_specialOf (T := "int") (typeIs_int _ _ _) F.slot_int_index.lookup (h _)
theorem gives_find2 (b c : Array UInt8) (t u : Tok) : Gives («bytes.find» ⟨[.bytes b t, .bytes c u], []⟩) (.int (rfindM b c 0)) := by
  refine .of_wp fun M A E s Q hq => ?_
  show wpAny M A (Bytes.searchArgs .bytes "find" ⟨[.bytes b t, .bytes c u], []⟩ >>= fun r => _) _ E s
  refine wpAny_bind ?_
  unfold Bytes.searchArgs
  refine wpAny_bind (wpAny_of_eq (a := (Value.bytes b t, [Value.bytes c u])) rfl ?_)
  refine wpAny_bind (wpAny_of_eq (a := none) rfl ?_)
  refine wpAny_bind (wpAny_of_eq (a := none) rfl ?_)
  refine wpAny_bind ?_
  show wpAny M A (Bytes.buffer? _ (.bytes c u)) _ E s
  refine wpAny_of_eq KBy.buffer_eq ?_
  refine wpAny_bind (wpAny_pure ?_)
  refine wpAny_bind (wpAny_of_eq (a := b) rfl ?_)
  have e : Bytes.window b.size none none = (0, (b.size : Int)) := by
    unfold Bytes.window
    simp
    try omega
  show wpAny M A (match Bytes.window b.size none none with | (lo, hi) => pure (b, c, if hi - lo < c.size then none else some (lo.toNat, hi.toNat))) _ E s
  rw [e]
  refine wpAny_pure ?_
  simp only [Int.sub_zero]
  unfold rfindM at hq
  simp only [Int.natCast_zero, Int.sub_zero] at hq
  by_cases hc : (b.size : Int) < c.size
  · rw [if_pos hc] at hq ⊢
    exact wpAny_bind (wpAny_rule (wpAny_bind (wpAny_mkInt (wpAny_pure ⟨_, rfl, hq⟩))))
  · rw [if_neg hc] at hq ⊢
    simp only [Option.bind_some, Int.toNat_zero, Int.toNat_natCast]
    show wpAny M A (match Bytes.find? b c 0 b.size with | some i => retInt i | none => _) _ E s
    cases hf : Bytes.find? b c 0 b.size with
    | some i => rw [hf] at hq; exact wpAny_bind (wpAny_mkInt (wpAny_pure ⟨_, rfl, hq⟩))
    | none => rw [hf] at hq; exact wpAny_bind (wpAny_rule (wpAny_bind (wpAny_mkInt (wpAny_pure ⟨_, rfl, hq⟩))))
theorem gives_find3 (b c : Array UInt8) (t u v : Tok) (k : Nat) : Gives («bytes.find» ⟨[.bytes b t, .bytes c u, .int k v], []⟩) (.int (rfindM b c k)) := by
  refine .of_wp fun M A E s Q hq => ?_
  show wpAny M A (Bytes.searchArgs .bytes "find" ⟨[.bytes b t, .bytes c u, .int k v], []⟩ >>= fun r => _) _ E s
  refine wpAny_bind ?_
  unfold Bytes.searchArgs
  refine wpAny_bind (wpAny_of_eq (a := (Value.bytes b t, [Value.bytes c u, Value.int k v])) rfl ?_)
  refine wpAny_bind ?_
  show wpAny M A (specialOf (.int k v) "__index__" >>= fun r => _) _ E s
  refine wpAny_bind (wp_specialOf_int fun _ => ?_)
  show wpAny M A (asIndex (.int k v) >>= fun r => _) _ E s
  refine wpAny_bind (wpAny_of_eq (a := (k : Int)) rfl (wpAny_pure ?_))
  refine wpAny_bind (wpAny_of_eq (a := none) rfl ?_)
  refine wpAny_bind ?_
  show wpAny M A (Bytes.buffer? _ (.bytes c u)) _ E s
  refine wpAny_of_eq KBy.buffer_eq ?_
  refine wpAny_bind (wpAny_pure ?_)
  refine wpAny_bind (wpAny_of_eq (a := b) rfl ?_)
  have e : Bytes.window b.size (some (k : Int)) none = ((k : Int), (b.size : Int)) := by
    unfold Bytes.window
    simp
    try omega
  show wpAny M A (match Bytes.window b.size (some (k : Int)) none with | (lo, hi) => pure (b, c, if hi - lo < c.size then none else some (lo.toNat, hi.toNat))) _ E s
  rw [e]
  refine wpAny_pure ?_
  dsimp only
  unfold rfindM at hq
  by_cases hc : (b.size : Int) - k < c.size
  · rw [if_pos hc] at hq ⊢
    exact wpAny_bind (wpAny_rule (wpAny_bind (wpAny_mkInt (wpAny_pure ⟨_, rfl, hq⟩))))
  · rw [if_neg hc] at hq ⊢
    simp only [Option.bind_some, Int.toNat_natCast]
    show wpAny M A (match Bytes.find? b c k b.size with | some i => retInt i | none => _) _ E s
    cases hf : Bytes.find? b c k b.size with
    | some i => rw [hf] at hq; exact wpAny_bind (wpAny_mkInt (wpAny_pure ⟨_, rfl, hq⟩))
    | none => rw [hf] at hq; exact wpAny_bind (wpAny_rule (wpAny_bind (wpAny_mkInt (wpAny_pure ⟨_, rfl, hq⟩))))
end BM
end Mine

end
section
namespace Mine
open PySem PySem.W PySem.Spec PySem.Calls PyProof.Rows PySem.Builtin

namespace BM
noncomputable abbrev Parts (xs : List (Array UInt8)) (vs : List Value) : Prop := ∀ G ρ, VRs G ρ (xs.map fun x => .bytes x.toList) vs
theorem wp_mapM {M : Model} {A : Around} {E : Value → Shared → Prop} : ∀ {xs : List (Array UInt8)} {Q : List Value → Shared → Prop} {s : Shared}, (∀ x ∈ xs, x.size ≤ 16777216) → (∀ vs k, Parts xs vs → Q vs { s with toks := k }) → wpAny M A (xs.mapM mkBytes) Q E s
  | [], Q, s, _, h => by
    rw [List.mapM_nil]
    exact wpAny_pure (h [] s.toks fun _ _ => .nil)
  | x :: xs, Q, s, hz, h => by
    rw [List.mapM_cons]
    refine wpAny_bind (wpAny_mkBytes (wpAny_bind (wp_mapM (fun y hy => hz y (.tail _ hy)) fun vs k hp => wpAny_pure (h _ k fun G ρ => ?_))) (by rw [sizeLine_eq]; exact hz x (.head _)))
    exact .cons (by have := @VR.bytes G ρ x.toList s.toks; simpa using this) (hp G ρ)
noncomputable def splitM (b c : Array UInt8) : List (Array UInt8) := if ((Bytes.occurrences b c 0 b.size).take (b.size + 1)).isEmpty then [b] else Bytes.between b c.size ((Bytes.occurrences b c 0 b.size).take (b.size + 1))
theorem split_bind (a b : Value) : Bytes.bindOptional "bytes.split" "split" ["sep", "maxsplit"] [b] [] = pure [some b, none] := by kernel_rfl
theorem meets_split (b c : Array UInt8) (t u : Tok) (hc : c.isEmpty = false) (hz : ∀ x ∈ splitM b c, x.size ≤ 16777216) (hl : (splitM b c).length ≤ 16777216) : Meets («bytes.split» ⟨[.bytes b t, .bytes c u], []⟩) (fun _ R s => ∀ vs k, Parts (splitM b c) vs →
    R (.ok (.ret (.ref s.heap.objs.size))) { s with heap := s.heap.push { cls := .type "list", data := .seq vs.toArray }, toks := k }) := by
  refine .of_wp fun prog w A R s hS => ?_
  show wpAny _ A.in1 (Bytes.splitM .bytes "split" false ⟨[.bytes b t, .bytes c u], []⟩) _ _ s
  unfold Bytes.splitM
  refine wpAny_bind (wpAny_of_eq (split_bind (.bytes b t) (.bytes c u)) ?_)
  refine wpAny_bind (wpAny_of_eq (a := (-1 : Int)) rfl ?_)
  refine wpAny_bind (wpAny_of_eq (a := b) rfl ?_)
  refine wpAny_bind ?_
  show wpAny _ A.in1 (Bytes.bytesLike _ (.bytes c u)) _ _ s
  unfold Bytes.bytesLike
  refine wpAny_bind (wpAny_of_eq KBy.buffer_eq (wpAny_pure ?_))
  have hc' : ¬ (c.isEmpty = true) := by rw [hc]; exact Bool.false_ne_true
  show wpAny _ A.in1 (if c.isEmpty = true then _ else _) _ _ s
  rw [if_neg hc']
  show wpAny _ A.in1 (if ((Bytes.occurrences b c 0 b.size).take (b.size + 1)).isEmpty = true then _ else _) _ _ s
  by_cases ho : ((Bytes.occurrences b c 0 b.size).take (b.size + 1)).isEmpty = true
  · rw [if_pos ho]
    have es : splitM b c = [b] := by unfold splitM; rw [if_pos ho]
    refine wpAny_bind (wpAny_rule ?_)
    show wpAny _ A.in1 (Bytes.Kind.bytes.same (.bytes b t) >>= fun r => _) _ _ s
    refine wpAny_bind ?_
    unfold Bytes.Kind.same
    show wpAny _ A.in1 (typeOf (.bytes b t) >>= fun r => _) _ _ s
    refine wpAny_bind (wpAny_typeOf (typeIs_bytes s b t) ?_)
    refine wpAny_ite ?_
    refine KBc.ite_yes (by decide) ?_
    refine wpAny_pure ?_
    refine wpAny_bind (wpAny_newList ?_ (by show 1 ≤ sizeLine; rw [sizeLine_eq]; decide))
    refine wpAny_pure ⟨_, rfl, ?_⟩
    refine hS _ s.toks fun G ρ => ?_
    rw [es]
    exact .cons (by have := @VR.bytes G ρ b.toList t; simpa using this) .nil
  · rw [if_neg ho]
    have es : splitM b c = Bytes.between b c.size ((Bytes.occurrences b c 0 b.size).take (b.size + 1)) := by unfold splitM; rw [if_neg ho]
    refine wpAny_bind ?_
    show wpAny _ A.in1 ((Bytes.between b c.size ((Bytes.occurrences b c 0 b.size).take (b.size + 1))).mapM mkBytes) _ _ s
    rw [← es]
    refine wp_mapM hz fun vs k hp => ?_
    have hlen := (hp default []).length
    rw [List.length_map] at hlen
    refine wpAny_bind (wpAny_newList ?_ (by rw [sizeLine_eq]; first | (rw [hlen]; exact hl) | (rw [List.size_toArray, hlen]; exact hl)))
    exact wpAny_pure ⟨_, rfl, hS vs k hp⟩

theorem take_eq {id : String} {b : Array UInt8} {t : Tok} : Bytes.takeBufferQuiet? id (.bytes b t) 0 = pure (some (b, none)) := by
  have e : Bytes.takeBuffer? id (.bytes b t) 0 = pure (some (b, none)) := by
    unfold Bytes.takeBuffer?
    rw [KBy.special_eq KBy.look_buffer, KBy.own_buffer]
    simp only [pure_bind]
    show (Bytes.buffer? id (.bytes b t) _ >>= fun r => _) = _
    first
      | rw [KBy.buffer_eq]; rfl
      | (unfold Bytes.buffer?; rw [KBy.special_eq KBy.look_buffer, KBy.own_buffer, KBy.own_release]; kernel_rfl)
  unfold Bytes.takeBufferQuiet?
  rw [e]
  rfl
end BM
end Mine

end
section
namespace Mine
open PySem PySem.W PySem.Spec PySem.Calls PyProof.Rows PySem.Builtin

namespace BM
theorem parts_get {xs : List (Array UInt8)} {vs : List Value} (h : Parts xs vs) {i : Nat} (hi : i < vs.length) : ∃ x t, xs[i]? = some x ∧ vs[i]? = some (.bytes x t) := by
  have hv := h default []
  have hlen := hv.length
  rw [List.length_map] at hlen
  have hi' : i < xs.length := by omega
  obtain ⟨v, e1, e2⟩ := hv.get (k := i) (d := .bytes (xs[i]'hi').toList) (by rw [List.getElem?_map, List.getElem?_eq_getElem hi']; rfl)
  cases e2 with
  | bytes => exact ⟨xs[i]'hi', _, List.getElem?_eq_getElem hi', by simpa using e1⟩
noncomputable def joinTaken (vs : List Value) : List (Value × Option Value) := vs.map fun v => (v, none)
theorem wp_joinLetGo {M : Model} {A : Around} {E : Value → Shared → Prop} : ∀ {vs : List Value} {keep : List Value} {Q : Unit → Shared → Prop} {s : Shared}, Q () s → wpAny M A (Bytes.joinLetGo (joinTaken vs) keep) Q E s
  | [], keep, Q, s, h => by
    unfold joinTaken Bytes.joinLetGo
    exact wpAny_pure h
  | v :: vs, keep, Q, s, h => by
    show wpAny M A (Bytes.joinLetGo ((v, none) :: joinTaken vs) keep) Q E s
    unfold Bytes.joinLetGo
    exact wpAny_bind (wpAny_letGo (wp_joinLetGo h))
theorem meets_join (b : Array UInt8) (t : Tok) (l : Addr) (xs : List (Array UInt8)) (vs : List Value) (hp : Parts xs vs) (hz : Bytes.tooLong (xs.toArray.foldl (fun x p => x + p.size) (b.size * (xs.length - 1))) = false) (hsz : (Bytes.joined b xs).size ≤ 16777216) (hone : ∀ x, xs = [x] → x = Bytes.joined b xs) :
    Meets («bytes.join» ⟨[.bytes b t, .ref l], []⟩) (fun _ R s => s.heap.IsList l vs.toArray ∧ ∀ t' k, R (.ok (.ret (.bytes (Bytes.joined b xs) t'))) { s with toks := k }) := by
  refine .of_wp fun prog w A R s ⟨hl, hS⟩ => ?_
  have hv := hp default []
  have hlen := hv.length
  rw [List.length_map] at hlen
  obtain ⟨ol, hol, hoc, nl, hod⟩ := id hl
  have hseq : ∀ {Q : Option (Array Value) → Shared → Prop} {E : Value → Shared → Prop}, Q (some vs.toArray) s → wpAny (model prog w) A.in1 (seqItems? (.ref l)) Q E s := fun hq => by
    show wpAny _ A.in1 (load l >>= fun o => _) _ _ s
    refine wpAny_bind (wpAny_load hol ?_)
    rw [hod]
    exact wpAny_pure hq
  show wpAny _ A.in1 (Bytes.joinM .bytes ⟨[.bytes b t, .ref l], []⟩) _ _ s
  unfold Bytes.joinM
  refine wpAny_bind (wpAny_of_eq (a := (Value.bytes b t, Value.ref l)) rfl ?_)
  refine wpAny_bind ?_
  show wpAny _ A.in1 (Bytes.joinItems (.ref l)) _ _ s
  unfold Bytes.joinItems
  refine wpAny_bind (wpAny_typeOf hl.typeIs ?_)
  refine wpAny_ite (KBc.ite_yes (by decide) ?_)
  refine wpAny_pure ?_
  refine wpAny_bind (hseq ?_)
  obtain ⟨vs₁, hvs⟩ : ∃ vs₁, vs₁ = vs := ⟨_, rfl⟩
  rw [← hvs] at hseq ⊢
  have ra : ∀ i, (joinTaken (vs.take i)).any (fun x => x.1.onHeap) = false := fun i => by
    rw [List.any_eq_false]
    intro y hy
    obtain ⟨v, hv', rfl⟩ := List.mem_map.mp hy
    obtain ⟨j, hj, e⟩ := List.mem_iff_getElem.mp (List.mem_of_mem_take hv')
    obtain ⟨x, tx, _, e2⟩ := parts_get hp hj
    rw [List.getElem?_eq_getElem hj, e] at e2
    cases e2
    exact Bool.false_ne_true
  rcases vs₁ with _ | ⟨v, _ | ⟨v', vs'⟩⟩
  rotate_left
  · have hvs' := hvs.symm
    subst hvs'
    obtain ⟨x, tx, e1, e2⟩ := parts_get hp (i := 0) (by simp)
    cases e2
    have hx : xs = [x] := by
      match xs, hlen, e1 with
      | [y], _, e => cases e; rfl
    refine wpAny_bind (wpAny_typeOf (typeIs_bytes s _ _) ?_)
    refine wpAny_ite (KBc.ite_yes (by decide) ?_)
    refine wpAny_bind (wpAny_rule (wpAny_pure ⟨_, rfl, ?_⟩))
    rw [hone x hx]
    exact hS tx s.toks
  all_goals
    refine wpAny_bind ?_
    rw [Std.Legacy.Range.forIn_eq_forIn_range']
    refine wpAny_forIn_list _ (fun rest r s' => ∃ i, rest = List.range' i (vs.length - i) 1 ∧ i ≤ vs.length ∧ r = ((xs.take i).toArray, joinTaken (vs.take i)) ∧ s' = s) _ ?turn ?fin _ _ ?start
    case start =>
      refine ⟨0, ?_, Nat.zero_le _, by simp [joinTaken], rfl⟩
      rw [← hvs]
      simp [Std.Legacy.Range.size]
    case turn =>
      rintro i₀ rest r s' ⟨i, hr, hi, rfl, rfl⟩
      have hlt : i < vs.length := by
        by_cases hq : i < vs.length
        · exact hq
        · rw [show vs.length - i = 0 by omega] at hr
          cases hr
      rw [show vs.length - i = (vs.length - (i + 1)) + 1 by omega, List.range'_succ] at hr
      injection hr with hr1 hr2
      subst hr1
      obtain ⟨x, tx, e1, e2⟩ := parts_get hp hlt
      refine wpAny_bind (hseq ?_)
      have hgx : (vs.toArray).getD i₀ Value.none = .bytes x tx := by
        rw [Array.getD_eq_getD_getElem?]
        simp [e2]
      rw [← hvs] at hgx
      dsimp only
      rw [hgx]
      have hb : ¬ ((Bytes.Kind.bytes == Bytes.Kind.bytearray || (joinTaken (vs.take i₀)).any fun x => x.1.onHeap) = true) := by
        rw [ra i₀]
        decide
      refine wpAny_ite (KBy.ite_no hb ?_)
      refine wpAny_bind (wpAny_holding (wpAny_of_eq take_eq ?_))
      refine wpAny_bind (hseq ?_)
      refine wpAny_ite (KBy.ite_no (by simp) ?_)
      refine wpAny_pure ⟨i₀ + 1, hr2, hlt, ?_, rfl⟩
      rw [List.take_add_one, e1, List.take_add_one, e2]
      simp [joinTaken]
    case fin =>
      rintro r s' ⟨i, hr, hi, rfl, rfl⟩
      have hi' : i = vs.length := by
        by_cases hq : i < vs.length
        · rw [show vs.length - i = (vs.length - (i + 1)) + 1 by omega, List.range'_succ] at hr
          cases hr
        · omega
      subst hi'
      rw [List.take_length, hlen, List.take_length]
      refine wpAny_bind (wpAny_of_eq (a := b) rfl ?_)
      refine wpAny_ite (KBy.ite_no (by have := hz; simp only [List.size_toArray] at this ⊢; rw [this]; exact Bool.false_ne_true) ?_)
      refine wpAny_bind ?_
      refine wpAny_mkBytes ?_ (by rw [sizeLine_eq]; exact hsz)
      refine wpAny_bind (wpAny_holding (wpAny_point ?_))
      refine wpAny_bind (wp_joinLetGo ?_)
      exact wpAny_pure ⟨_, rfl, hS _ _⟩
end BM
end Mine

end
section
namespace Mine
open PySem PySem.W PySem.Builtin

/-- is c the front of b -/
noncomputable def pre : Bs → Bs → Bool
  | [], _ => true
  | _ :: _, [] => false
  | x :: c, y :: b => x == y && pre c b
noncomputable def lfind (c : Bs) : Bs → Option Nat
  | [] => if pre c [] then some 0 else none
  | y :: b => if pre c (y :: b) then some 0 else (lfind c b).map (· + 1)
noncomputable def findI (c b : Bs) (k : Nat) : Int := match lfind c (b.drop k) with | some i => (i : Int) + k | none => -1

theorem pre_iff : ∀ (c b : Bs), pre c b = true ↔ b.take c.length = c
  | [], b => by simp [pre]
  | x :: c, [] => by simp [pre]
  | x :: c, y :: b => by
    simp only [pre, Bool.and_eq_true, beq_iff_eq, List.length_cons, List.take_succ_cons, List.cons.injEq, pre_iff c b]
    constructor
    · rintro ⟨rfl, h⟩; exact ⟨rfl, h⟩
    · rintro ⟨rfl, h⟩; exact ⟨rfl, h⟩
theorem ext_iff (b c : Bs) (i : Nat) : (b.toArray.extract i (i + c.toArray.size) == c.toArray) = pre c (b.drop i) := by
  rw [Bool.eq_iff_iff, pre_iff, beq_iff_eq]
  constructor
  · intro h
    have := congrArg Array.toList h
    simpa [List.extract_eq_take_drop] using this
  · intro h
    apply Array.toList_inj.mp
    simpa [List.extract_eq_take_drop] using h

theorem lfind_range (c : Bs) (hc : c ≠ []) : ∀ (b : Bs) (k : Nat) (p : Nat → Bool), (∀ i, p (i + k) = pre c (b.drop i)) → ((List.range (b.length + 1 - c.length)).map (· + k)).find? p = (lfind c b).map (· + k)
  | [], k, p, h => by
    have : 0 < c.length := List.length_pos_iff.mpr hc
    have e : pre c [] = false := by cases c with | nil => exact absurd rfl hc | cons => rfl
    rw [show ([] : Bs).length + 1 - c.length = 0 by simp; omega]
    simp [lfind, e]
  | y :: b, k, p, h => by
    by_cases hl : c.length ≤ (y :: b).length
    · rw [show (y :: b).length + 1 - c.length = (b.length + 1 - c.length) + 1 by simp at hl ⊢; omega, List.range_succ_eq_map, List.map_cons, List.find?_cons, h 0]
      simp only [List.drop_zero]
      unfold lfind
      cases hp : pre c (y :: b) with
      | true => simp
      | false =>
        simp only [Bool.false_eq_true, if_false]
        have := lfind_range c hc b (k + 1) p fun i => by rw [show i + (k + 1) = (i + 1) + k by omega, h (i + 1)]; rfl
        have e2 : (List.range (b.length + 1 - c.length)).map (fun x : Nat => x + (k + 1)) = ((List.range (b.length + 1 - c.length)).map Nat.succ).map (fun x => x + k) := by
          rw [List.map_map]
          apply List.map_congr_left
          intro x _
          simp [Function.comp]
          omega
        rw [← e2, this, Option.map_map]
        congr 1
        funext x
        simp
        omega
    · rw [show (y :: b).length + 1 - c.length = 0 by omega]
      have hnone : ∀ b : Bs, b.length < c.length → lfind c b = none := by
        intro b
        induction b with
        | nil => intro hb; unfold lfind; cases c with | nil => exact absurd rfl hc | cons => rfl
        | cons z b ih =>
          intro hb
          unfold lfind
          have e : pre c (z :: b) = false := by
            cases e : pre c (z :: b) with
            | false => rfl
            | true =>
              have := (pre_iff _ _).mp e
              have := congrArg List.length this
              simp at this hb
              omega
          rw [e, ih (by simp at hb ⊢; omega)]
          rfl
      rw [hnone _ (by omega)]
      rfl
theorem lfind_none_short (c : Bs) (hc : c ≠ []) (b : Bs) (hb : b.length < c.length) : lfind c b = none := by
  have := lfind_range c hc b 0 (fun i => pre c (b.drop i)) fun i => rfl
  rw [show b.length + 1 - c.length = 0 by omega] at this
  cases h : lfind c b with
  | none => rfl
  | some v => rw [h] at this; cases this
theorem find_eq (b c : Bs) (k : Nat) (hc : c ≠ []) (hk : k ≤ b.length) : BM.rfindM b.toArray c.toArray k = findI c b k := by
  unfold BM.rfindM findI
  rw [List.size_toArray, List.size_toArray]
  by_cases h : (b.length : Int) - k < c.length
  · rw [if_pos h, lfind_none_short c hc _ (by rw [List.length_drop]; omega)]
  · rw [if_neg h]
    unfold Bytes.find?
    have e := lfind_range c hc (b.drop k) k (fun i => b.toArray.extract i (i + c.toArray.size) == c.toArray) fun i => by
      rw [ext_iff, List.drop_drop, Nat.add_comm]
    rw [List.length_drop, show b.length - k + 1 - c.length = b.length + 1 - (k + c.toArray.size) by rw [List.size_toArray]; omega] at e
    rw [e]
    cases lfind c (b.drop k) with
    | none => rfl
    | some i => simp

/-- b.split(c); n octets of a separator are still to be passed -/
noncomputable def splitGo (c : Bs) : Nat → Bs → Bs → List Bs
  | _, cur, [] => [cur.reverse]
  | n + 1, cur, _ :: t => splitGo c n cur t
  | 0, cur, y :: t => if pre c (y :: t) then cur.reverse :: splitGo c (c.length - 1) [] t else splitGo c 0 (y :: cur) t
noncomputable def lsplit (c b : Bs) : List Bs := splitGo c 0 [] b

/-- the places of a model's split -/
noncomputable def occF (f : Nat → Bool) (w : Nat) : List Nat → Nat → List Nat
  | [], _ => []
  | i :: is, nf => if (decide (i ≥ nf) && f i) = true then i :: occF f w is (i + w) else occF f w is nf
theorem occ_foldl (f : Nat → Bool) (w : Nat) : ∀ (is : List Nat) (acc : List Nat) (nf : Nat),
    (is.foldl (fun (acc : List Nat × Nat) i => if (decide (i ≥ acc.2) && f i) = true then (i :: acc.1, i + w) else acc) (acc, nf)).1 = (occF f w is nf).reverse ++ acc
  | [], acc, nf => rfl
  | i :: is, acc, nf => by
    rw [List.foldl_cons]
    unfold occF
    split
    · rw [occ_foldl, List.reverse_cons, List.append_assoc]; rfl
    · rw [occ_foldl]
theorem occ_eq (b c : Array UInt8) : Bytes.occurrences b c 0 b.size = occF (fun i => b.extract i (i + c.size) == c) c.size (List.range (b.size + 1 - c.size)) 0 := by
  unfold Bytes.occurrences
  dsimp only
  rw [Nat.zero_add, show (List.range (b.size + 1 - c.size)).map (· + 0) = List.range (b.size + 1 - c.size) by simp, occ_foldl]
  simp
noncomputable def cutsAt (b : Bs) (w : Nat) : Nat → List Nat → List Bs
  | last, [] => [b.drop last]
  | last, p :: ps => ((b.take p).drop last) :: cutsAt b w (p + w) ps
theorem between_go (b : Array UInt8) (w : Nat) : ∀ (ps : List Nat) (parts : Array (Array UInt8)) (last : Nat),
    (let r := ps.foldl (fun (x : Array (Array UInt8) × Nat) p => (x.1.push (b.extract x.2 p), p + w)) (parts, last); (r.1.push (b.extract r.2 b.size)).toList) = parts.toList ++ (cutsAt b.toList w last ps).map List.toArray
  | [], parts, last => by
    dsimp only [List.foldl_nil]
    rw [Array.toList_push]
    congr 1
    unfold cutsAt
    simp only [List.map_cons, List.map_nil, List.cons.injEq, and_true]
    apply Array.toList_inj.mp
    rw [Array.toList_extract, List.extract_eq_take_drop, List.take_of_length_le (by simp)]
  | p :: ps, parts, last => by
    rw [List.foldl_cons]
    have := between_go b w ps (parts.push (b.extract last p)) (p + w)
    dsimp only at this ⊢
    rw [this, Array.toList_push, List.append_assoc]
    congr 1
    rw [show (cutsAt b.toList w last (p :: ps)) = ((b.toList.take p).drop last) :: cutsAt b.toList w (p + w) ps from rfl, List.map_cons, List.singleton_append]
    congr 1
    apply Array.toList_inj.mp
    simp [List.extract_eq_take_drop, Array.toList_extract, List.take_drop]
    by_cases h : last ≤ p
    · rw [show last + (p - last) = p by omega]
    · rw [show p - last = 0 by omega]
      simp
      omega
theorem between_eq (b : Array UInt8) (w : Nat) (ps : List Nat) : Bytes.between b w ps = (cutsAt b.toList w 0 ps).map List.toArray := by
  have := between_go b w ps #[] 0
  unfold Bytes.between
  simpa using this

theorem cuts_split (b c : Bs) (hc : c ≠ []) : ∀ (m i last : Nat), m + i = b.length → last ≤ b.length →
    cutsAt b c.length last (occF (fun i => pre c (b.drop i)) c.length (List.range' i (b.length + 1 - c.length - i)) last) = splitGo c (last - i) ((b.take i).drop last).reverse (b.drop i) := by
  have hw : 0 < c.length := List.length_pos_iff.mpr hc
  intro m
  induction m with
  | zero =>
    intro i last hi hl
    rw [show b.length + 1 - c.length - i = 0 by omega, List.range'_zero, show b.drop i = [] from List.drop_eq_nil_of_le (by omega), List.take_of_length_le (by omega)]
    unfold occF cutsAt splitGo
    rw [List.reverse_reverse]
  | succ m ih =>
    intro i last hi hl
    have hlt : i < b.length := by omega
    have hd : b.drop i = b[i] :: b.drop (i + 1) := List.drop_eq_getElem_cons hlt
    have step : ∀ (hf : (decide (i ≥ last) && pre c (b.drop i)) = false), occF (fun i => pre c (b.drop i)) c.length (List.range' i (b.length + 1 - c.length - i)) last = occF (fun i => pre c (b.drop i)) c.length (List.range' (i + 1) (b.length + 1 - c.length - (i + 1))) last := by
      intro hf
      by_cases hr : b.length + 1 - c.length - i = 0
      · rw [hr, show b.length + 1 - c.length - (i + 1) = 0 by omega, List.range'_zero, List.range'_zero]
      · rw [show b.length + 1 - c.length - i = (b.length + 1 - c.length - (i + 1)) + 1 by omega, List.range'_succ]
        conv => lhs; unfold occF
        rw [if_neg (by rw [hf]; exact Bool.false_ne_true)]
    by_cases h1 : i < last
    · have e1 : (b.take i).drop last = [] := List.drop_eq_nil_of_le (by rw [List.length_take]; omega)
      have e2 : (b.take (i + 1)).drop last = [] := List.drop_eq_nil_of_le (by rw [List.length_take]; omega)
      rw [step (by rw [decide_eq_false (by omega)]; rfl), ih (i + 1) last (by omega) hl, hd, show last - i = (last - (i + 1)) + 1 by omega, e1, e2]
      rfl
    · rw [show last - i = 0 by omega, hd]
      cases hp : pre c (b.drop i) with
      | true =>
        have hlen := congrArg List.length ((pre_iff _ _).mp hp)
        rw [List.length_take, List.length_drop] at hlen
        rw [show b.length + 1 - c.length - i = (b.length + 1 - c.length - (i + 1)) + 1 by omega, List.range'_succ]
        conv => lhs; unfold occF
        rw [if_pos (by rw [hp, decide_eq_true (by omega)]; rfl)]
        rw [show ∀ ps, cutsAt b c.length last (i :: ps) = ((b.take i).drop last) :: cutsAt b c.length (i + c.length) ps from fun _ => rfl, ih (i + 1) (i + c.length) (by omega) (by omega)]
        rw [hd] at hp
        rw [show ∀ cur t, splitGo c 0 cur (b[i] :: t) = if pre c (b[i] :: t) then cur.reverse :: splitGo c (c.length - 1) [] t else splitGo c 0 (b[i] :: cur) t from fun _ _ => rfl, if_pos hp, List.reverse_reverse,
          show i + c.length - (i + 1) = c.length - 1 by omega, show (b.take (i + 1)).drop (i + c.length) = [] from List.drop_eq_nil_of_le (by rw [List.length_take]; omega)]
        rfl
      | false =>
        rw [step (by rw [hp, Bool.and_false]), ih (i + 1) last (by omega) hl]
        rw [hd] at hp
        rw [show ∀ cur t, splitGo c 0 cur (b[i] :: t) = if pre c (b[i] :: t) then cur.reverse :: splitGo c (c.length - 1) [] t else splitGo c 0 (b[i] :: cur) t from fun _ _ => rfl, if_neg (by rw [hp]; exact Bool.false_ne_true),
          show last - (i + 1) = 0 by omega, List.take_add_one, List.getElem?_eq_getElem hlt, List.drop_append_of_le_length (by rw [List.length_take]; omega)]
        simp
theorem occF_length (f : Nat → Bool) (w : Nat) : ∀ (is : List Nat) (nf : Nat), (occF f w is nf).length ≤ is.length
  | [], _ => Nat.le_refl _
  | i :: is, nf => by
    unfold occF
    split
    · rw [List.length_cons, List.length_cons]; exact Nat.succ_le_succ (occF_length f w is _)
    · rw [List.length_cons]; exact Nat.le_succ_of_le (occF_length f w is _)
theorem split_eq (b c : Bs) (hc : c ≠ []) : BM.splitM b.toArray c.toArray = (lsplit c b).map List.toArray := by
  have e : (Bytes.occurrences b.toArray c.toArray 0 b.toArray.size).take (b.toArray.size + 1) = occF (fun i => pre c (b.drop i)) c.length (List.range' 0 (b.length + 1 - c.length - 0)) 0 := by
    rw [occ_eq, List.take_of_length_le (Nat.le_trans (occF_length _ _ _ _) (by rw [List.length_range]; omega)), List.range_eq_range']
    rw [show (fun i => b.toArray.extract i (i + c.toArray.size) == c.toArray) = fun i => pre c (b.drop i) from funext fun i => ext_iff b c i]
    rfl
  have key := cuts_split b c hc b.length 0 0 (by omega) (by omega)
  rw [← e] at key
  unfold BM.splitM lsplit
  simp only [Nat.sub_zero, List.take_zero, List.drop_nil, List.reverse_nil, List.drop_zero] at key
  rw [← key]
  split
  · rename_i h
    rw [List.isEmpty_iff.mp h]
    simp [cutsAt]
  · rw [between_eq]
    simp

/-- c.join(l) -/
noncomputable def ljoin (c : Bs) : List Bs → Bs
  | [] => []
  | [x] => x
  | x :: y :: l => x ++ c ++ ljoin c (y :: l)
theorem joined_go (c : Bs) : ∀ (l : List Bs) (k : Nat) (out : Array UInt8), 0 < k → ((l.map List.toArray).zipIdx k).foldl (fun out (x : Array UInt8 × Nat) => (if x.2 > 0 then out ++ c.toArray else out) ++ x.1) out = out ++ (l.flatMap fun x => c ++ x).toArray
  | [], k, out, _ => by simp
  | x :: l, k, out, hk => by
    rw [List.map_cons, List.zipIdx_cons, List.foldl_cons, joined_go c l (k + 1) _ (by omega), if_pos hk]
    simp
theorem ljoin_flat (c : Bs) : ∀ (l : List Bs) (x : Bs), ljoin c (x :: l) = x ++ l.flatMap fun x => c ++ x
  | [], x => by simp [ljoin]
  | y :: l, x => by
    show x ++ c ++ ljoin c (y :: l) = _
    rw [ljoin_flat c l y]
    simp
theorem join_eq (c : Bs) (l : List Bs) : Bytes.joined c.toArray (l.map List.toArray) = (ljoin c l).toArray := by
  unfold Bytes.joined
  cases l with
  | nil => rfl
  | cons x l =>
    rw [List.map_cons, List.zipIdx_cons, List.foldl_cons]
    have := joined_go c l 1 (x.toArray) (by omega)
    simp only [Nat.zero_add] at *
    rw [ljoin_flat]
    simpa using this
end Mine

end
section
namespace Mine
open PySem PySem.W PySem.Spec PySem.Calls PyProof.Rows PySem.Builtin

noncomputable abbrev mx : Nat := 16777216

theorem f_find2 {b c : Bs} (hc : c ≠ []) : FunV (.builtin "bytes.find") [.bytes b, .bytes c] (.int (findI c b 0)) := by
  refine .mk fun p w A E Q s G ρ vs hA hs hv hres => ?_
  obtain ⟨_, _, rfl, h1, h2⟩ := VRs.two_inv hv
  ·
      (first | obtain ⟨_, rfl⟩ := VR.int_inv h1 | obtain ⟨_, rfl⟩ := VR.bytes_inv h1 | obtain ⟨_, rfl⟩ := VR.str_inv h1 | obtain rfl := VR.none_inv h1 | obtain rfl := VR.bool_inv h1 | cases h1); (first | obtain ⟨_, rfl⟩ := VR.int_inv h2 | obtain ⟨_, rfl⟩ := VR.bytes_inv h2 | obtain ⟨_, rfl⟩ := VR.str_inv h2 | obtain rfl := VR.none_inv h2 | obtain rfl := VR.bool_inv h2 | cases h2)
      refine call_gives BM.slot_find (typeIs_bytes _ _ _) BM.entry_find (BM.args_find_2 _ _) (BM.gives_find2 _ _ _ _) ?_
      have e := find_eq b c 0 hc (Nat.zero_le _)
      rw [e]
      exact hres.now .int
theorem f_find3 {b c : Bs} {k : Nat} (hc : c ≠ []) (hk : k ≤ b.length) : FunV (.builtin "bytes.find") [.bytes b, .bytes c, .int k] (.int (findI c b k)) := by
  refine .mk fun p w A E Q s G ρ vs hA hs hv hres => ?_
  obtain ⟨_, _, _, rfl, h1, h2, h3⟩ := VRs.three_inv hv
  ·
        (first | obtain ⟨_, rfl⟩ := VR.int_inv h1 | obtain ⟨_, rfl⟩ := VR.bytes_inv h1 | obtain ⟨_, rfl⟩ := VR.str_inv h1 | obtain rfl := VR.none_inv h1 | obtain rfl := VR.bool_inv h1 | cases h1); (first | obtain ⟨_, rfl⟩ := VR.int_inv h2 | obtain ⟨_, rfl⟩ := VR.bytes_inv h2 | obtain ⟨_, rfl⟩ := VR.str_inv h2 | obtain rfl := VR.none_inv h2 | obtain rfl := VR.bool_inv h2 | cases h2); (first | obtain ⟨_, rfl⟩ := VR.int_inv h3 | obtain ⟨_, rfl⟩ := VR.bytes_inv h3 | obtain ⟨_, rfl⟩ := VR.str_inv h3 | obtain rfl := VR.none_inv h3 | obtain rfl := VR.bool_inv h3 | cases h3)
        refine call_gives BM.slot_find (typeIs_bytes _ _ _) BM.entry_find (BM.args_find_3 _ _ _) (BM.gives_find3 _ _ _ _ _ _) ?_
        rw [find_eq b c k hc hk]
        exact hres.now .int

theorem splitGo_len (c : Bs) : ∀ (b : Bs) (n : Nat) (cur : Bs), (splitGo c n cur b).length ≤ b.length + 1 ∧ ∀ x ∈ splitGo c n cur b, x.length ≤ cur.length + b.length
  | [], n, cur => by
    unfold splitGo
    exact ⟨by simp, fun x hx => by rw [List.mem_singleton.mp hx]; simp⟩
  | y :: t, n + 1, cur => by
    rw [show splitGo c (n + 1) cur (y :: t) = splitGo c n cur t from rfl]
    obtain ⟨h1, h2⟩ := splitGo_len c t n cur
    exact ⟨by rw [List.length_cons]; omega, fun x hx => by have := h2 x hx; rw [List.length_cons]; omega⟩
  | y :: t, 0, cur => by
    rw [show splitGo c 0 cur (y :: t) = if pre c (y :: t) then cur.reverse :: splitGo c (c.length - 1) [] t else splitGo c 0 (y :: cur) t from rfl]
    split
    · obtain ⟨h1, h2⟩ := splitGo_len c t (c.length - 1) []
      refine ⟨by rw [List.length_cons, List.length_cons]; omega, fun x hx => ?_⟩
      rw [List.length_cons]
      rcases List.mem_cons.mp hx with rfl | hx
      · rw [List.length_reverse]; omega
      · have := h2 x hx; simp only [List.length_nil] at this; omega
    · obtain ⟨h1, h2⟩ := splitGo_len c t 0 (y :: cur)
      refine ⟨by rw [List.length_cons]; omega, fun x hx => ?_⟩
      have := h2 x hx
      rw [List.length_cons] at this ⊢
      omega
theorem lsplit_len (c b : Bs) : (lsplit c b).length ≤ b.length + 1 ∧ ∀ x ∈ lsplit c b, x.length ≤ b.length := by
  have := splitGo_len c b 0 []
  simpa [lsplit] using this

theorem f_split {b c : Bs} (hc : c ≠ []) (hz : b.length ≤ 16777215) : FunV (.builtin "bytes.split") [.bytes b, .bytes c] (.list ((lsplit c b).map .bytes)) := by
  refine .mk fun p w A E Q s G ρ vs hA hs hv hres => ?_
  obtain ⟨_, _, rfl, h1, h2⟩ := VRs.two_inv hv
  ·
      (first | obtain ⟨_, rfl⟩ := VR.int_inv h1 | obtain ⟨_, rfl⟩ := VR.bytes_inv h1 | obtain ⟨_, rfl⟩ := VR.str_inv h1 | obtain rfl := VR.none_inv h1 | obtain rfl := VR.bool_inv h1 | cases h1); (first | obtain ⟨_, rfl⟩ := VR.int_inv h2 | obtain ⟨_, rfl⟩ := VR.bytes_inv h2 | obtain ⟨_, rfl⟩ := VR.str_inv h2 | obtain rfl := VR.none_inv h2 | obtain rfl := VR.bool_inv h2 | cases h2)
      have e := split_eq b c hc
      obtain ⟨z1, z2⟩ := lsplit_len c b
      refine call_meets BM.slot_split (typeIs_bytes _ _ _) BM.entry_split (BM.args_split_2 _ _) (BM.meets_split _ _ _ _ (by cases c with | nil => exact absurd rfl hc | cons => rfl) ?_ ?_) ?_
      · rw [e]
        intro x hx
        obtain ⟨y, hy, rfl⟩ := List.mem_map.mp hx
        have := z2 y hy
        rw [List.size_toArray]
        omega
      · rw [e, List.length_map]; omega
      · intro vs k hp
        refine hres.push (tk := k) rfl fun G' kG eo => ?_
        rw [e] at hp
        have hp' := hp G' ρ
        rw [List.map_map] at hp'
        exact .list hp' ⟨0, eo⟩

theorem parts_of {G ρ} : ∀ {l : List Bs} {vs : List Value}, VRs G ρ (l.map .bytes) vs → BM.Parts (l.map List.toArray) vs
  | [], _, .nil => fun _ _ => .nil
  | b :: l, _, .cons h t => fun G' ρ' => by
    cases h
    exact .cons .bytes (parts_of t G' ρ')
theorem ljoin_len (c : Bs) : ∀ l : List Bs, (ljoin c l).length ≤ c.length * (l.length - 1) + (l.map List.length).sum
  | [] => by simp [ljoin]
  | [x] => by simp [ljoin]
  | x :: y :: l => by
    have := ljoin_len c (y :: l)
    rw [show ljoin c (x :: y :: l) = x ++ c ++ ljoin c (y :: l) from rfl]
    simp only [List.length_append, List.length_cons, List.map_cons, List.sum_cons] at *
    rw [show l.length + 1 + 1 - 1 = (l.length + 1 - 1) + 1 by omega, Nat.mul_add]
    omega
theorem foldl_sizes : ∀ (l : List Bs) (k : Nat), (l.map List.toArray).foldl (fun x p => x + p.size) k = k + (l.map List.length).sum
  | [], k => by simp
  | x :: l, k => by
    rw [List.map_cons, List.foldl_cons, foldl_sizes l, List.map_cons, List.sum_cons, List.size_toArray]
    omega
theorem f_join {b : Bs} {l : List Bs} (hz : b.length * (l.length - 1) + (l.map List.length).sum ≤ 16777216) : FunV (.builtin "bytes.join") [.bytes b, .list (l.map .bytes)] (.bytes (ljoin b l)) := by
  refine .mk fun p w A E Q s G ρ vs hA hs hv hres => ?_
  obtain ⟨_, _, rfl, h1, h2⟩ := VRs.two_inv hv
  ·
      (first | obtain ⟨_, rfl⟩ := VR.int_inv h1 | obtain ⟨_, rfl⟩ := VR.bytes_inv h1 | obtain ⟨_, rfl⟩ := VR.str_inv h1 | obtain rfl := VR.none_inv h1 | obtain rfl := VR.bool_inv h1 | cases h1)
      obtain ⟨_, _, rfl, hvs, hl⟩ := VR.list_inv h2
      ·
        have hl' := isList_stays hs hl.isList
        have hp := parts_of hvs
        refine call_meets BM.slot_join (typeIs_bytes _ _ _) BM.entry_join (BM.args_join_2 _ _) (BM.meets_join _ _ _ (l.map List.toArray) _ hp ?_ ?_ ?_) ⟨hl', fun t' k => ?_⟩
        · unfold Bytes.tooLong
          rw [← Array.foldl_toList, foldl_sizes, List.length_map, List.size_toArray, sizeLine_eq]
          exact decide_eq_false (by omega)
        · rw [join_eq, List.size_toArray]
          exact Nat.le_trans (ljoin_len b l) hz
        · intro x hx
          match l, hx with
          | [y], hx => cases hx; rw [join_eq]; rfl
        · rw [join_eq]
          exact hres.now .bytes

theorem f_len_bytes {b : Bs} (hz : b.length ≤ 1099511627776) : FunV (.builtin "len") [.bytes b] (.int b.length) := by
  refine .mk fun p w A E Q s G ρ vs hA hs hv hres => ?_
  obtain ⟨_, rfl, h1⟩ := VRs.one_inv hv
  ·
    (first | obtain ⟨_, rfl⟩ := VR.int_inv h1 | obtain ⟨_, rfl⟩ := VR.bytes_inv h1 | obtain ⟨_, rfl⟩ := VR.str_inv h1 | obtain rfl := VR.none_inv h1 | obtain rfl := VR.bool_inv h1 | cases h1)
    refine len_bytes (by simpa using hz) ?_
    exact hres.now (tk := s.toks + 1 + 1) .int
theorem f_len_list {l : List D} (hz : l.length ≤ 1099511627776) : FunV (.builtin "len") [.list l] (.int l.length) := by
  refine .mk fun p w A E Q s G ρ vs hA hs hv hres => ?_
  obtain ⟨_, rfl, h1⟩ := VRs.one_inv hv
  ·
    obtain ⟨_, _, rfl, hvs, hl⟩ := VR.list_inv h1
    ·
      refine Calls.call_len_list (isList_stays hs hl.isList) (by rw [List.size_toArray, hvs.length]; omega) ?_
      rw [List.size_toArray, hvs.length]
      exact hres.now (tk := s.toks + 1 + 1) .int
theorem f_ord {c : Nat} : FunV (.builtin "ord") [.str ⟨#[c]⟩] (.int c) := by
  refine .mk fun p w A E Q s G ρ vs hA hs hv hres => ?_
  obtain ⟨_, rfl, h1⟩ := VRs.one_inv hv
  ·
    (first | obtain ⟨_, rfl⟩ := VR.int_inv h1 | obtain ⟨_, rfl⟩ := VR.bytes_inv h1 | obtain ⟨_, rfl⟩ := VR.str_inv h1 | obtain rfl := VR.none_inv h1 | obtain rfl := VR.bool_inv h1 | cases h1)
    exact P.ord_of_char (hres.now .int)
theorem f_str_int {i : Int} (hi : i.natAbs.log2 < 1920) : FunV (.type "str") [.int i] (.str (toString i)) := by
  refine .mk fun p w A E Q s G ρ vs hA hs hv hres => ?_
  obtain ⟨_, rfl, h1⟩ := VRs.one_inv hv
  ·
    (first | obtain ⟨_, rfl⟩ := VR.int_inv h1 | obtain ⟨_, rfl⟩ := VR.bytes_inv h1 | obtain ⟨_, rfl⟩ := VR.str_inv h1 | obtain rfl := VR.none_inv h1 | obtain rfl := VR.bool_inv h1 | cases h1)
    exact P.str_of_int hi (hres.now .str)
theorem ints_of {G ρ} : ∀ {l : List Int} {vs : List Value}, VRs G ρ (l.map .int) vs → IntsAre vs l
  | [], _, .nil => .nil
  | b :: l, _, .cons h t => by
    cases h
    exact .cons _ _ (ints_of t)
theorem f_bytes_list {l : List Int} (hr : ∀ n ∈ l, 0 ≤ n ∧ n < 256) (hz : l.length ≤ 16777216) : FunV (.type "bytes") [.list (l.map .int)] (.bytes (l.map fun n => n.toNat.toUInt8)) := by
  refine .mk fun p w A E Q s G ρ vs hA hs hv hres => ?_
  obtain ⟨_, rfl, h1⟩ := VRs.one_inv hv
  ·
    obtain ⟨_, _, rfl, hvs, hl⟩ := VR.list_inv h1
    ·
      refine call_bytes_ints (isList_stays hs hl.isList) (ints_of hvs) hr (by rw [hvs.length, List.length_map, sizeLine_eq]; exact hz) hA.handled fun h' t k hk => ?_
      exact hres _ h' k (fun b o e => hk b o e) fun G' kG _ => .bytes
end Mine

end
section
namespace Mine
open PySem PySem.W PySem.Spec PySem.Calls PyProof.Rows

/-! rules of clean stacks -/
section
variable {M : Model} {A : Around} {E : Value → Shared → Prop} {s : Shared} {env : Env}
theorem gx_execs_cons {st rest} {Q : Flow → Shared → Prop} (h : wpG M A (exec st env) (fun f s' => match f with | .next => wpG M A (execs rest env) Q E s' | f => Q f s') E s) : wpG M A (execs (st :: rest) env) Q E s := by
  rw [execs_cons]
  refine wpG_bind (wpG_mono h (fun f s' h' => ?_) fun _ _ x => x)
  cases f <;> first | exact h' | exact wpG_pure h'
theorem gx_If {test body orelse pos} {Q : Flow → Shared → Prop} (h : wpG M A (isTrue test env (eval test env)) (fun b s' => if b then wpG M A (execs body env) Q E s' else wpG M A (execs orelse env) Q E s') E s) : wpG M A (exec (.If test body orelse pos) env) Q E s := by
  rw [exec_If]
  refine wpG_bind (wpG_standAt (wpG_bind (wpG_mono h (fun b s' h' => ?_) fun _ _ x => x)))
  cases b <;> exact h'
theorem gx_Return {e pos} {Q : Flow → Shared → Prop} (h : wpG M A (eval e env) (fun v => Q (.ret v)) E s) : wpG M A (exec (.Return (some e) pos) env) Q E s := by
  rw [exec_Return_some]
  exact wpG_bind (wpG_standAt (wpG_bind (wpG_mono h (fun v s' h' => wpG_pure h') fun _ _ x => x)))
theorem gt_not {x pos whole} {Q : Bool → Shared → Prop} (h : wpG M A (isTrue x env (eval x env)) (fun c s' => Q (!c) s') E s) : wpG M A (isTrue (.UnaryOp .Not x pos) env whole) Q E s := by
  show wpG M A (do return !(← isTrue x env (eval x env))) Q E s
  exact wpG_bind (wpG_mono h (fun c s' h' => wpG_pure h') fun _ _ x => x)
theorem gt_or {x rest pos whole} {Q : Bool → Shared → Prop} (h : wpG M A (isTrue x env (eval x env)) (fun c s' => if c then Q true s' else wpG M A (isTrue (.BoolOp .Or rest pos) env whole) Q E s') E s) : wpG M A (isTrue (.BoolOp .Or (x :: rest) pos) env whole) Q E s := by
  show wpG M A (isTrue x env (eval x env) >>= _) Q E s
  refine wpG_bind (wpG_mono h (fun c s' h' => ?_) fun _ _ x => x)
  cases c with
  | false => exact h'
  | true => exact wpG_pure h'
theorem gt_plain {e : Expr} {whole : Sem Value} {Q : Bool → Shared → Prop} (h : wpG M A whole (fun v s₁ => wpG M A (truthy v) Q E s₁) E s)
    (he : isTrue e env whole = (do let v ← whole; standAt e.pos; holding [v] (truthy v)) := by rfl) : wpG M A (isTrue e env whole) Q E s := by
  rw [he]
  exact wpG_bind (wpG_mono h (fun v s₁ h₁ => wpG_bind (wpG_standAt (wpG_holding h₁))) fun _ _ x => x)
theorem ge_and {e₁ e₂ rest pos} {Q : Value → Shared → Prop} (h : wpG M A (eval e₁ env) (fun v s₁ => wpG M A (truthy v) (fun c s₂ => if c then wpG M A (eval (.BoolOp .And (e₂ :: rest) pos) env) Q E s₂ else Q v s₂) E s₁) E s) :
    wpG M A (eval (.BoolOp .And (e₁ :: e₂ :: rest) pos) env) Q E s := by
  show wpG M A (eval e₁ env >>= _) Q E s
  refine wpG_bind (wpG_mono h (fun v s₁ h₁ => ?_) fun _ _ x => x)
  refine wpG_bind (wpG_standAt (wpG_bind (wpG_holding (wpG_mono h₁ (fun c s₂ h₂ => ?_) fun _ _ x => x))))
  cases c with
  | false => exact wpG_pure h₂
  | true => exact h₂
theorem ge_one {e op pos} {Q : Value → Shared → Prop} (h : wpG M A (eval e env) Q E s) : wpG M A (eval (.BoolOp op [e] pos) env) Q E s := by
  first
    | exact h
    | (show wpG M A (eval e env >>= _) Q E s
       exact wpG_bind (wpG_mono h (fun v s₁ h₁ => wpG_pure h₁) fun _ _ x => x))
theorem wpG_operate {ops : List Value} {t : Sem Value} {Q : Value → Shared → Prop} (h : wpG M A t Q E s) : wpG M A (operate ops t) Q E s := fun Γ p hΓ hg => by
  rw [Sem.wp_operate]
  exact h Γ p hΓ hg
theorem ge_Compare1 {l op r pos} {Q : Value → Shared → Prop} (h : wpG M A (eval l env) (fun a s₁ => wpG M A (eval r env) (fun b s₂ => wpG M A (compareOp op a b) Q E s₂) E s₁) E s) (hm : behindInMarks op r = false := by with_unfolding_all rfl) :
    wpG M A (eval (.Compare l [op] [r] pos) env) Q E s := by
  rw [eval_Compare1, markedBehindIn_of_false hm]
  refine wpG_bind (wpG_mono h (fun a s₁ h₁ => ?_) fun _ _ x => x)
  refine wpG_bind (wpG_holding (wpG_mono h₁ (fun b s₂ h₂ => ?_) fun _ _ x => x))
  exact wpG_bind (wpG_standAt (wpG_operate h₂))
theorem ge_Subscript {value slice pos} {Q : Value → Shared → Prop} (h : wpG M A (eval value env) (fun o s₁ => wpG M A (eval slice env) (fun i s₂ => wpG M A (subscriptTail value slice o i) Q E s₂) E s₁) E s) : wpG M A (eval (.Subscript value slice pos) env) Q E s := by
  rw [eval_Subscript]
  exact wpG_bind (wpG_mono h (fun o s₁ h₁ => wpG_bind (wpG_holding (wpG_mono h₁ (fun i s₂ h₂ => wpG_bind (wpG_standAt h₂)) fun _ _ x => x))) fun _ _ x => x)
theorem ge_Tuple {elts : List Expr} {k : Nat} {pos : Pos} {Q : Value → Shared → Prop} (h : wpG M A (spliced (backTo pos (starEach elts env))) (fun vs s₁ => wpG M A (newTuple vs) Q E s₁) E s) : wpG M A (eval (.Tuple elts k pos) env) Q E s := by
  show wpG M A (do standAt pos; newTuple (← spliced (backTo pos (starEach elts env)))) Q E s
  exact wpG_bind (wpG_standAt (wpG_bind h))
theorem gs_cons {x : Sem Value} {rest : List (Bool × Sem Value)} {Q : List Value → Shared → Prop} (h : wpG M A x (fun v s₁ => wpG M A (spliced rest) (fun vs s₂ => Q (v :: vs) s₂) E s₁) E s) : wpG M A (spliced ((false, x) :: rest)) Q E s := by
  rw [spliced]
  refine wpG_bind (wpG_mono h (fun v s₁ h₁ => ?_) fun _ _ x => x)
  simp only [Bool.false_eq_true, if_false]
  exact wpG_bind (wpG_pure (wpG_bind (wpG_holding (wpG_mono h₁ (fun vs s₂ h₂ => wpG_pure h₂) fun _ _ x => x))))
theorem ga_plain {f : Value} {x : Sem Value} {rest : List (Bool × Sem Value)} {Q : Args → Shared → Prop} (h : wpG M A (spliced ((false, x) :: rest)) (fun vs s' => Q ⟨vs, []⟩ s') E s) : wpG M A (evalArgs f true ((false, x) :: rest) []) Q E s := by
  unfold evalArgs
  show wpG M A (spliced ((false, x) :: rest) >>= _) Q E s
  refine wpG_bind (wpG_mono h (fun vs s' h' => ?_) fun _ _ x => x)
  refine wpG_holding ?_
  exact wpG_bind (wpG_pure (wpG_bind (wpG_pure (wpG_pure h'))))
theorem ga_nil {f : Value} {Q : Args → Shared → Prop} (h : wpG M A (spliced []) (fun vs s' => Q ⟨vs, []⟩ s') E s) : wpG M A (evalArgs f true [] []) Q E s := by
  unfold evalArgs
  show wpG M A (spliced [] >>= _) Q E s
  refine wpG_bind (wpG_mono h (fun vs s' h' => ?_) fun _ _ x => x)
  refine wpG_bind (wpG_pure ?_)
  refine wpG_holding ?_
  exact wpG_bind (wpG_pure (wpG_bind (wpG_pure (wpG_pure h'))))
theorem wpG_keep {α : Type} {vs : List Value} {m : Sem α} {Q : α → Shared → Prop} (h : wpG M A m Q E s) : wpG M A (m.keep vs) Q E s := fun Γ p hΓ hg => by
  rw [Sem.wp_keep]
  exact h Γ p hΓ hg
theorem gc_with {f : Value} {first : List Value} {pos : Pos} {Q : Value → Shared → Prop} {P : Heap → Prop} {args : List (Bool × Sem Value)} (hplain : (args.any (·.1) || ([] : List (Option PySem.Str × Sem Value)).any (·.1.isNone)) = false)
    (hk : ∀ h, P h → ∃ k, (k = Keeper.frame ∨ k = Keeper.machine ∨ k = Keeper.boundFrame) ∧ Looks M h (keeperOf f) k)
    (h : wpG M A (evalArgs f true args []) (fun a s₁ => P s₁.heap ∧ wpG M A (call f (first ++ a.pos) a.kw) Q E s₁) E s) : wpG M A (callWith pos f first args []) Q E s := by
  unfold callWith
  refine wpG_bind (wpG_holding (wpG_mono h (fun a s₁ h₁ => wpG_bind (wpG_standAt ?_)) fun _ _ x => x))
  obtain ⟨k, hk', L⟩ := hk _ h₁.1
  simp only [hplain]
  refine wpG_bind (wpG_of (L.here ?_))
  have tail : ∀ {t : Sem Value}, wpG M A t Q E s₁ → wpG M A (t >>= fun r => holding [r] point >>= fun _ => pure r) Q E s₁ :=
    fun ht => wpG_bind (wpG_mono ht (fun r s₂ hr => wpG_bind (wpG_holding (wpG_point (wpG_pure hr)))) fun _ _ x => x)
  have marked (mk : Value) : wpG M A (callMarked mk f (first ++ a.pos) a.kw) Q E s₁ := by unfold callMarked; exact wpG_keep h₁.2
  rcases hk' with rfl | rfl | rfl <;> dsimp only <;> first | exact tail h₁.2 | (split <;> first | exact tail h₁.2 | exact tail (marked _))
end

/-! the calculus of clean stacks -/
structure AG {α β : Type} (V : Heap → List Addr → α → β → Prop) (g : Gl) (fc : FC) (t : Sem β) (Q : α → AS → Prop) (R : AS → Prop) (a : AS) : Prop where
  run : ∀ G ρ s, Rel g fc G a ρ s → wpG g.M fc.A t (PV V g fc G ρ Q) (PE g fc G ρ R) s
structure CallAtG (g : Gl) (fc : FC) (df : D) (ds : List D) (Q : D → AS → Prop) (R : AS → Prop) (a : AS) : Prop where
  run : ∀ G ρ s vf vs, Rel g fc G a ρ s → VR G ρ df vf → VRs G ρ ds vs → wpG g.M fc.A (call vf vs) (PV VR g fc G ρ Q) (PE g fc G ρ R) s
section
variable {α β γ : Type} {V : Heap → List Addr → α → β → Prop} {g : Gl} {fc : FC} {G G₀ : Heap} {ρ ρ₀ : List Addr} {s : Shared} {a : AS} {R : AS → Prop} {n : Nat} {sc : Scope}
theorem ag_of {t : Sem β} {Q : α → AS → Prop} (h : AW V g fc t Q R a) : AG V g fc t Q R a := .mk fun G ρ s hr => wpG_of (h.run G ρ s hr)
theorem cg_of {df : D} {ds : List D} {Q : D → AS → Prop} (h : CallAt g fc df ds Q R a) : CallAtG g fc df ds Q R a := .mk fun G ρ s vf vs hr h1 h2 => wpG_of (h.run G ρ s vf vs hr h1 h2)
theorem ag_then {t : Sem β} {Q : α → AS → Prop} {P : β → Shared → Prop} (h : AG V g fc t Q R a) (st : Step G₀ ρ₀ G ρ) (hr : Rel g fc G a ρ s)
    (k : ∀ G₁ ρ₁ d a₁ v s₁, Step G ρ G₁ ρ₁ → Step G₀ ρ₀ G₁ ρ₁ → Rel g fc G₁ a₁ ρ₁ s₁ → V G₁ ρ₁ d v → Q d a₁ → P v s₁) : wpG g.M fc.A t P (PE g fc G₀ ρ₀ R) s :=
  wpG_mono (h.run G ρ s hr) (fun _ _ ⟨_, _, _, _, h1, h2, h3, h4⟩ => k _ _ _ _ _ _ h1 (st.trans h1) h2 h3 h4) fun _ _ h => h.up st
theorem ag_last {t : Sem β} {Q : α → AS → Prop} (h : AG V g fc t Q R a) (st : Step G₀ ρ₀ G ρ) (hr : Rel g fc G a ρ s) : wpG g.M fc.A t (PV V g fc G₀ ρ₀ Q) (PE g fc G₀ ρ₀ R) s :=
  ag_then h st hr fun _ _ _ _ _ _ _ s2 r v q => ⟨_, _, _, _, s2, r, v, q⟩
theorem AG.mono {t : Sem β} {Q Q' : α → AS → Prop} {R' : AS → Prop} (h : AG V g fc t Q R a) (hQ : ∀ d a, Q d a → Q' d a) (hR : ∀ a, R a → R' a) : AG V g fc t Q' R' a :=
  .mk fun G ρ s hr => wpG_mono (h.run G ρ s hr) (fun _ _ ⟨G', ρ', a', d, h1, h2, h3, h4⟩ => ⟨G', ρ', a', d, h1, h2, h3, hQ _ _ h4⟩) fun _ _ ⟨G', ρ', a', h1, h2, h3⟩ => ⟨G', ρ', a', h1, h2, hR _ h3⟩
theorem ag_drop {t : Sem β} {Q : α → AS → Prop} {m' : List (PStr × D)} (h : ∀ x d, m'.lookup x = some d → a.m.lookup x = some d) (k : AG V g fc t Q R ⟨m', a.σ⟩) : AG V g fc t Q R a :=
  .mk fun G ρ s hr => k.run G ρ s (hr.mono_m h)

noncomputable abbrev KRG (g : Gl) (fc : FC) (e : Expr) (K : D → D → AS → Prop) (R : AS → Prop) : D → AS → Prop := fun d₁ a₁ => AG VR g fc (eval e fc.env) (K d₁) R a₁
noncomputable abbrev KLG (g : Gl) (fc : FC) (pos : Pos) (rest : List Expr) (Q : List D → AS → Prop) (R : AS → Prop) : D → AS → Prop := fun d a₁ => AG VRs g fc (spliced (backTo pos (starEach rest fc.env))) (KCn Q d) R a₁
noncomputable abbrev KCaG (g : Gl) (fc : FC) (df : D) (Q : D → AS → Prop) (R : AS → Prop) : List D → AS → Prop := fun ds a₂ => CallAtG g fc df ds Q R a₂
noncomputable abbrev KFnG (g : Gl) (fc : FC) (pos : Pos) (args : List Expr) (Q : D → AS → Prop) (R : AS → Prop) : D → AS → Prop := fun df a₁ => Keep g df ∧ AG VRs g fc (spliced (backTo pos (starEach args fc.env))) (KCaG g fc df Q R) R a₁
theorem kfnG {g : Gl} {fc : FC} {pos : Pos} {args : List Expr} {Q : D → AS → Prop} {R : AS → Prop} {df : D} {a : AS} (h : Keep g df) (q : AG VRs g fc (spliced (backTo pos (starEach args fc.env))) (KCaG g fc df Q R) R a) : KFnG g fc pos args Q R df a := ⟨h, q⟩

theorem ag_Cmp1 {l r op pos} {Q : D → AS → Prop} (ok : fc.Ok n) (h : AG VR g fc (eval l fc.env) (KRG g fc r (KOp (compareOp op) Q) R) R a) (hn : n ≤ 200 := by first | exact nup (by with_reducible assumption) (by rfl) | exact nup0 (by with_reducible assumption) (by rfl) | exact nupp (by with_reducible assumption) (by rfl) | omega)
    (hm : behindInMarks op r = false := by with_unfolding_all rfl) : AG VR g fc (eval (.Compare l [op] [r] pos) fc.env) Q R a := .mk fun G ρ s hr =>
  ge_Compare1 (ag_then h Step.refl hr fun G₁ ρ₁ d₁ a₁ v₁ s₁ _ st₁ r₁ hv₁ q₁ => ag_then q₁ st₁ r₁ fun G₂ ρ₂ d₂ a₂ v₂ s₂ st₁₂ st₂ r₂ hv₂ ⟨d, hop, hq⟩ =>
    wpG_of (hop.run _ _ _ _ _ _ G₂ ρ₂ _ _ ok.ao r₂.gs (hv₁.step st₁₂) hv₂ fun v tk hv => ⟨G₂, ρ₂, a₂, d, st₂, r₂.toks, hv, hq⟩)) hm
theorem ag_And {e₁ e₂ rest pos} {Q : D → AS → Prop} (ok : fc.Ok n) (h : AG VR g fc (eval e₁ fc.env) (KTa (AG VR g fc (eval (.BoolOp .And (e₂ :: rest) pos) fc.env) Q R) Q) R a) (hn : n ≤ 200 := by first | exact nup (by with_reducible assumption) (by rfl) | exact nup0 (by with_reducible assumption) (by rfl) | exact nupp (by with_reducible assumption) (by rfl) | omega) :
    AG VR g fc (eval (.BoolOp .And (e₁ :: e₂ :: rest) pos) fc.env) Q R a := .mk fun G ρ s hr =>
  ge_and (ag_then h Step.refl hr fun G₁ ρ₁ d₁ a₁ v₁ s₁ _ st₁ r₁ hv₁ ⟨b, hop, ht, hf⟩ => wpG_of (hop.run _ _ _ _ _ _ G₁ ρ₁ _ ok.ao r₁.gs hv₁ fun c tk hc => by
    subst hc
    cases c with
    | true => exact ag_last (ht rfl) st₁ r₁.toks
    | false => exact ⟨G₁, ρ₁, a₁, d₁, st₁, r₁.toks, hv₁, hf rfl⟩))
theorem ag_One {e op pos} {Q : D → AS → Prop} (h : AG VR g fc (eval e fc.env) Q R a) : AG VR g fc (eval (.BoolOp op [e] pos) fc.env) Q R a := .mk fun G ρ s hr => ge_one (h.run G ρ s hr)
theorem tg_Not {x pos whole} {Q : Bool → AS → Prop} (h : AG VB g fc (isTrue x fc.env (eval x fc.env)) (KNo Q) R a) : AG VB g fc (isTrue (.UnaryOp .Not x pos) fc.env whole) Q R a := .mk fun G ρ s hr =>
  gt_not (ag_then h Step.refl hr fun G₁ ρ₁ d₁ a₁ v₁ s₁ _ st₁ r₁ hv₁ q₁ => ⟨G₁, ρ₁, a₁, _, st₁, r₁, by rw [hv₁]; rfl, q₁⟩)
theorem tg_Or {x rest pos whole} {Q : Bool → AS → Prop} (h : AG VB g fc (isTrue x fc.env (eval x fc.env)) (KSp (Q true) (AG VB g fc (isTrue (.BoolOp .Or rest pos) fc.env whole) Q R)) R a) :
    AG VB g fc (isTrue (.BoolOp .Or (x :: rest) pos) fc.env whole) Q R a := .mk fun G ρ s hr =>
  gt_or (ag_then h Step.refl hr fun G₁ ρ₁ d₁ a₁ v₁ s₁ _ st₁ r₁ hv₁ q₁ => by
    cases hv₁
    cases d₁ with
    | false => exact ag_last (q₁.2 rfl) st₁ r₁
    | true => exact ⟨G₁, ρ₁, a₁, _, st₁, r₁, rfl, q₁.1 rfl⟩)
theorem tg_plain {e : Expr} {Q : Bool → AS → Prop} (ok : fc.Ok n) (h : AG VR g fc (eval e fc.env) (KTr Q) R a) (hn : n ≤ 200 := by first | exact nup (by with_reducible assumption) (by rfl) | exact nup0 (by with_reducible assumption) (by rfl) | exact nupp (by with_reducible assumption) (by rfl) | omega)
    (he : isTrue e fc.env (eval e fc.env) = (do let v ← (eval e fc.env); standAt e.pos; holding [v] (truthy v)) := by rfl) : AG VB g fc (isTrue e fc.env (eval e fc.env)) Q R a := .mk fun G ρ s hr =>
  gt_plain (ag_then h Step.refl hr fun G₁ ρ₁ d₁ a₁ v₁ s₁ _ st₁ r₁ hv₁ ⟨b, hop, hq⟩ => wpG_of (hop.run _ _ _ _ _ _ G₁ ρ₁ _ ok.ao r₁.gs hv₁ fun c tk hc => ⟨G₁, ρ₁, a₁, b, st₁, r₁.toks, hc.symm, hq⟩)) he
noncomputable def NxG (g : Gl) (fc : FC) (rest : List Stmt) (Q : Fl → AS → Prop) (R : AS → Prop) : Fl → AS → Prop
  | .next, a => AG VF g fc (execs rest fc.env) Q R a
  | f, a => Q f a
theorem xg_cons {st rest} {Q : Fl → AS → Prop} (h : AG VF g fc (exec st fc.env) (NxG g fc rest Q R) R a) : AG VF g fc (execs (st :: rest) fc.env) Q R a := .mk fun G ρ s hr =>
  gx_execs_cons (ag_then h Step.refl hr fun G₁ ρ₁ d₁ a₁ v₁ s₁ _ st₁ r₁ hv₁ q₁ => by
    cases hv₁ with
    | next => exact ag_last (show AG VF g fc _ Q R a₁ from q₁) st₁ r₁
    | ret hv => exact ⟨G₁, ρ₁, a₁, _, st₁, r₁, .ret hv, q₁⟩
    | brk => exact ⟨G₁, ρ₁, a₁, _, st₁, r₁, .brk, q₁⟩
    | cont => exact ⟨G₁, ρ₁, a₁, _, st₁, r₁, .cont, q₁⟩)
theorem xg_nil {Q : Fl → AS → Prop} (h : Q .next a) : AG VF g fc (execs [] fc.env) Q R a := ag_of (x_nil h)
theorem xg_Return {e pos} {Q : Fl → AS → Prop} (h : AG VR g fc (eval e fc.env) (KRt Q) R a) : AG VF g fc (exec (.Return (some e) pos) fc.env) Q R a := .mk fun G ρ s hr =>
  gx_Return (ag_then h Step.refl hr fun G₁ ρ₁ d₁ a₁ v₁ s₁ _ st₁ r₁ hv₁ q₁ => ⟨G₁, ρ₁, a₁, _, st₁, r₁, .ret hv₁, q₁⟩)
theorem xg_If {test body orelse pos} {Q : Fl → AS → Prop} (h : AG VB g fc (isTrue test fc.env (eval test fc.env)) (KSp (AG VF g fc (execs body fc.env) Q R) (AG VF g fc (execs orelse fc.env) Q R)) R a) :
    AG VF g fc (exec (.If test body orelse pos) fc.env) Q R a := .mk fun G ρ s hr =>
  gx_If (ag_then h Step.refl hr fun G₁ ρ₁ d₁ a₁ v₁ s₁ _ st₁ r₁ hv₁ q₁ => by
    cases hv₁
    cases d₁ with
    | true => exact ag_last (q₁.1 rfl) st₁ r₁
    | false => exact ag_last (q₁.2 rfl) st₁ r₁)
theorem lg_cons {pos : Pos} {e : Expr} {rest : List Expr} {Q : List D → AS → Prop} (h : AG VR g fc (eval e fc.env) (KLG g fc pos rest Q R) R a)
    (he : plainArg e = true := by rfl) : AG VRs g fc (spliced (backTo pos (starEach (e :: rest) fc.env))) Q R a := .mk fun G ρ s hr => by
  rw [star_ok he]
  exact gs_cons (ag_then h Step.refl hr fun G₁ ρ₁ d₁ a₁ v₁ s₁ _ st₁ r₁ hv₁ q₁ => ag_then q₁ st₁ r₁ fun G₂ ρ₂ d₂ a₂ v₂ s₂ st₁₂ st₂ r₂ hv₂ q₂ => ⟨G₂, ρ₂, a₂, _, st₂, r₂, .cons (hv₁.step st₁₂) hv₂, q₂⟩)
theorem lg_nil {pos : Pos} {Q : List D → AS → Prop} (h : Q [] a) : AG VRs g fc (spliced (backTo pos (starEach [] fc.env))) Q R a := ag_of (l_nil h)
theorem ag_Tuple {elts k pos} {Q : D → AS → Prop} (h : AG VRs g fc (spliced (backTo pos (starEach elts fc.env))) (KTp Q) R a) : AG VR g fc (eval (.Tuple elts k pos) fc.env) Q R a := .mk fun G ρ s hr =>
  ge_Tuple (ag_then h Step.refl hr fun G₁ ρ₁ d₁ a₁ v₁ s₁ _ st₁ r₁ hv₁ ⟨hz, q₁⟩ => wpG_of (wpAny_mono (new_tup (E := PE g fc G ρ R) r₁ hv₁ hz q₁) (fun _ _ p => p.up st₁) fun _ _ e => e))
theorem ag_Sub {value slice pos} {Q : D → AS → Prop} (ok : fc.Ok n) (h : AG VR g fc (eval value fc.env) (KRG g fc slice (KIt Q) R) R a) (hn : n ≤ 200 := by first | exact nup (by with_reducible assumption) (by rfl) | exact nup0 (by with_reducible assumption) (by rfl) | exact nupp (by with_reducible assumption) (by rfl) | omega)
    (hs : ∀ o i, subscripted slice false o i = operate [o, i] (getItem o i) := by intro _ _; rfl) : AG VR g fc (eval (.Subscript value slice pos) fc.env) Q R a := .mk fun G ρ s hr =>
  ge_Subscript (ag_then h Step.refl hr fun G₁ ρ₁ d₁ a₁ v₁ s₁ _ st₁ r₁ hv₁ q₁ => ag_then q₁ st₁ r₁ fun G₂ ρ₂ d₂ a₂ v₂ s₂ st₁₂ st₂ r₂ hv₂ ⟨d, hop, hq⟩ =>
    wpG_of (tail_item (hop.run _ _ _ _ _ _ G₂ ρ₂ _ _ ok.ao r₂.gs (hv₁.step st₁₂) hv₂ (r₂.res hq st₂)) (hs _ _)))
theorem ag_Call {func args pos} {Q : D → AS → Prop} (h : AG VR g fc (eval func fc.env) (KFnG g fc pos args Q R) R a)
    (he : eval (.Call func args [] pos) fc.env = (do callWith pos (← eval func fc.env) [] (backTo pos (starEach args fc.env)) (backToKw pos (keywordEach [] fc.env))) := by rfl)
    (hargs : args.all plainArg = true := by rfl) :
    AG VR g fc (eval (.Call func args [] pos) fc.env) Q R a := .mk fun G ρ s hr => by
  rw [he]
  refine wpG_bind (ag_then h Step.refl hr fun G₁ ρ₁ df a₁ vf s₁ _ st₁ r₁ hv₁ ⟨hk, q₁⟩ => ?_)
  have tail : ∀ (G₂ : Heap) (ρ₂ : List Addr) (ds : List D) (a₂ : AS) (vs : List Value) (s₂ : Shared), Step G₁ ρ₁ G₂ ρ₂ → Step G ρ G₂ ρ₂ → Rel g fc G₂ a₂ ρ₂ s₂ → VRs G₂ ρ₂ ds vs → CallAtG g fc df ds Q R a₂ →
      (g.B.StaysIn s₂.heap ∧ ∃ G', G'.StaysIn s₂.heap ∧ ∃ ρ', VR G' ρ' df vf) ∧ wpG g.M fc.A (call vf ([] ++ vs)) (PV VR g fc G ρ Q) (PE g fc G ρ R) s₂ := fun G₂ ρ₂ ds a₂ vs s₂ st₁₂ st₂ r₂ hv₂ q₂ =>
    ⟨⟨r₂.bs, G₂, r₂.gs, ρ₂, hv₁.step st₁₂⟩, wpG_mono (q₂.run G₂ ρ₂ s₂ vf vs r₂ (hv₁.step st₁₂) hv₂) (fun _ _ p => p.up st₂) fun _ _ e => e.up st₂⟩
  have hk' : ∀ h, (g.B.StaysIn h ∧ ∃ G', G'.StaysIn h ∧ ∃ ρ', VR G' ρ' df vf) → ∃ k, (k = Keeper.frame ∨ k = Keeper.machine ∨ k = Keeper.boundFrame) ∧ Looks g.M h (keeperOf vf) k := fun h ⟨b, G', k, ρ', v⟩ => hk _ h G' ρ' vf b k v
  rcases star_args (pos := pos) (env := fc.env) hargs with rfl | ⟨e, rest, rfl, hs, hp⟩
  · refine gc_with rfl hk' (ga_nil ?_)
    exact ag_then q₁ st₁ r₁ fun G₂ ρ₂ ds a₂ vs s₂ st₁₂ st₂ r₂ hv₂ q₂ => tail G₂ ρ₂ ds a₂ vs s₂ st₁₂ st₂ r₂ hv₂ q₂
  · have q₂ := q₁
    rw [hs] at q₂ ⊢
    refine gc_with (by show ((false || (backTo pos (starEach rest fc.env)).any (·.1)) || false) = false; rw [hp]; rfl) hk' (ga_plain ?_)
    exact ag_then q₂ st₁ r₁ fun G₂ ρ₂ ds a₂ vs s₂ st₁₂ st₂ r₂ hv₂ q₂ => tail G₂ ρ₂ ds a₂ vs s₂ st₁₂ st₂ r₂ hv₂ q₂
end
end Mine

end
section
namespace Mine
open PySem PySem.W PySem.Spec PySem.Calls PyProof.Rows

section
variable {prog : Program} {w : World} {A : Around} {E : Value → Shared → Prop} {s : Shared}
theorem cln_call {f : Value} {args : Args} : Cln (.call f args) := fun _ _ e => nomatch e
theorem cln_func {body env} : Cln (.func body env) := fun _ _ e => nomatch e
theorem codeG_func {R : Result → Shared → Prop} {body env}
    (h : wpG (model prog w) (A.deeper env) (execs body env) (fun f s' => R (.ok (.ret (match f with | .ret v => v | _ => .none))) s')
      (fun e s' => wpAny (model prog w) (A.deeper env) (leaving env e) (fun _ s'' => R (.error e) s'') (fun e' s'' => R (.error e') s'') s') s) : codeG (model prog w) A (.func body env) R s := by
  refine codeG_of_tree cln_func ?_
  show wpG _ (A.deeper env) (do point; match ← (execs body env).onRaise (leaving env) with | .ret v => ret v | _ => ret .none) _ _ s
  refine wpG_bind (wpG_point (wpG_bind (wpG_onRaise (wpG_mono h (fun f s' h' => ?_) fun _ _ h' => wpG_of h'))))
  cases f <;> exact wpG_pure h'
theorem codeG_call_def {R : Result → Shared → Prop} {a : Addr} {o : Obj} {fd : FuncData} {body : List Stmt} {args : Args} {binds : List (PySem.Str × Value)}
    (hroom : A.depth < recursionLimit) (ho : s.heap.get? a = some o) (hdata : o.data = .func fd) (hlim : s.heap.NoLimit) (hcd : s.heap.CodeRec fd.code fd.qualname)
    (hbody : fd.body = .stmts body) (hbind : bindArgs fd args = pure binds)
    (hcell : ∀ x ∈ fd.scope.names, x.2 ≠ .cell) (hloc : ∀ x ∈ binds, fd.scope.names.lookup x.1 = some .local)
    (h : ∀ h₀, h₀.Ns s.heap.objs.size (fun x => binds.reverse.lookup x) → (∀ b o, s.heap.get? b = some o → h₀.get? b = some o) →
      wpG (model prog w) (A.deeper (callEnv fd s.heap.objs.size a)) (execs body (callEnv fd s.heap.objs.size a)) (fun f s' => R (.ok (.ret (match f with | .ret v => v | _ => .none))) s')
        (fun e s' => wpAny (model prog w) (A.deeper (callEnv fd s.heap.objs.size a)) (leaving (callEnv fd s.heap.objs.size a) e) (fun _ s'' => R (.error e) s'') (fun e' s'' => R (.error e') s'') s')
        { s with heap := h₀, toks := s.toks + binds.length })
    (hco : fd.scope.isCoroutine = false := by rfl) (hgen : fd.scope.isGenerator = false := by rfl) (hk : fd.scope.kind = .function := by rfl) : codeG (model prog w) A (.call (.ref a) args) R s := by
  refine codeG_of_tree cln_call (wpG_of ?_)
  show wpAny _ A.in1 (callAny (.ref a) args) _ _ s
  simp only [callAny]
  refine wpAny_bind (wpAny_load ho ?_)
  have key : wpAny (model prog w) A.in1 (bindArgs fd args) (fun binds s₁ =>
      wpAny (model prog w) A.in1 (newFunctionEnv fd.scope fd.globals fd.closure binds (fd.qualname ++ ".<locals>.") (some a) fd.code none fd.builtins)
        (fun env s₂ => s₂.heap.NoLimit ∧ codeG (model prog w) A (.func body env) R s₂) (fun e s' => R (.error e) s') s₁) (fun e s' => R (.error e) s') s := by
    refine wpAny_of_eq hbind ?_
    refine wpAny_newFunctionEnv hcell hloc (fun h₀ hns₀ hsb₀ => ⟨hlim.fresh _ hsb₀, codeG_func (h h₀ hns₀ fun b o e => ?_)⟩) hk
    exact hsb₀.extBut b o (Nat.ne_of_lt (Heap.lt_size e)) (Heap.get?_push_of_some _ e)
  obtain ⟨c, oc, vs, tq, hc, hoc, hdc, hq⟩ := hcd
  simp only [hdata, callFunction, hco, hgen, hbody, hc]
  rw [hc] at key
  refine wpAny_bind (m := field (.ref c) 1) (wpAny_field hoc hdc hq (wpAny_bind (wpAny_pure ?_)))
  exact wpAny_bind (wpAny_mono key (fun binds s₁ h₁ => wpAny_bind (wpAny_mono h₁ (fun env s₂ h₂ => wpAny_bind (wpAny_enterFrame h₂.1 hroom
    (wpAny_pure (And.intro rfl h₂.2)))) fun _ _ h' => h')) fun _ _ h' => h')
end

section
variable {g : Gl} {fc : FC} {G G₀ : Heap} {ρ ρ₀ : List Addr} {s : Shared} {a : AS} {n : Nat} {sc : Scope}
/-- the call of a def of the text, clean stacks -/
theorem callG_def {name qual : PStr} {params : Arguments} {body : List Stmt} {scope : Scope} {dV kV doc pm cdv ct oc : Value} {an od : Option Addr} {osl : Array (Option Value)} {f : Addr} {names : List PStr} {ds : List D} {Q : D → AS → Prop} {R : AS → Prop}
    (g' : g.Ok) (ok : fc.Ok n) (ho : (Hd.hd.heap_1 g.w.params).lookup f = some ⟨oc, od, .func (fnOf name qual params body scope dV kV doc pm an cdv ct), osl⟩) (hcd : codeIn (Hd.hd.heap_1 g.w.params) cdv qual = true)
    (hb : ∀ vs : List Value, vs.length = ds.length → bindArgs (fnOf name qual params body scope dV kV doc pm an cdv ct) ⟨vs, []⟩ = pure (names.zip vs)) (hnd : names.Nodup)
    (hloc : ∀ x ∈ names, scope.names.lookup x = some .local) (hcell : ∀ x ∈ scope.names, x.2 ≠ .cell)
    (h : ∀ fc' : FC, fc'.Ok (n + 1) → fc'.env.scope = scope → AG VF g fc' (execs body fc'.env) (fun fl a' => Q (match fl with | .ret d => d | _ => .none) ⟨a.m, a'.σ⟩) (fun a' => R ⟨a.m, a'.σ⟩) ⟨names.zip ds, a.σ⟩)
    (hn : n ≤ 200 := by first | exact nup (by with_reducible assumption) (by rfl) | exact nup0 (by with_reducible assumption) (by rfl) | exact nupp (by with_reducible assumption) (by rfl) | omega) (hco : scope.isCoroutine = false := by rfl) (hgen : scope.isGenerator = false := by rfl) (hk : scope.kind = .function := by rfl) : CallAtG g fc (.glob (.ref f)) ds Q R a := by
  refine .mk fun G ρ s vf vs hr hvf hvs => ?_
  cases hvf
  have X := hr.K g'
  obtain ⟨m, h1, h2⟩ := hr.ns
  refine wpG_call (codeG_call_def (fd := fnOf name qual params body scope dV kV doc pm an cdv ct) (body := body) (binds := names.zip vs) (by have := ok.depth; show _ < 1000; omega) (X _ _ ho) rfl (hr.top g').nolimit (codeRec_of X hcd) rfl
    (hb vs hvs.length) hcell (fun x hx => hloc x.1 (List.of_mem_zip (a := x.1) (b := x.2) hx).1) (fun h₁ hns hk₁ => ?_) hco hgen hk)
  let env' : Env := envX qual scope s.heap.objs.size f cdv []
  have ok' : (inner fc env' s.heap.objs.size [] m).Ok (n + 1) := inner_ok ok rfl rfl rfl rfl hk
  have hnew : s.heap.get? s.heap.objs.size = none := Heap.get?_none_of_le (Nat.le_refl _)
  have hr' : Rel g (inner fc env' s.heap.objs.size [] m) G ⟨names.zip ds, a.σ⟩ ρ { s with heap := h₁, toks := s.toks + (names.zip vs).length } := by
    refine ⟨hr.bg, fun b o e => hk₁ b o (hr.gs b o e), fun x hx => ?_, List.nodup_cons.mpr ⟨hr.fresh, hr.nodup⟩, ⟨_, hns, fun x d e => ?_⟩, hr.st.keep (fun _ _ q => q) (List.prefix_refl _) (fun c _ o q => hk₁ _ _ q),
      fun P hP => (hr.tabs P hP).keep (fun _ _ q => q) (fun o q => hk₁ _ _ q), fun f hf => ?_, fun x k e => (by cases e), hr.sh⟩
    · rcases List.mem_cons.mp hx with rfl | hx
      · cases q : G.get? s.heap.objs.size with
        | none => rfl
        | some o => have := hr.gs _ _ q; rw [hnew] at this; cases this
      · exact hr.hidden x hx
    · obtain ⟨v, e1, e2⟩ := lookup_zip_rel hvs x d e
      exact ⟨v, lookup_reverse (zip_fst_nodup hnd) e1, e2⟩
    · rcases List.mem_cons.mp hf with rfl | hf
      · exact ns_keep (fun o q => hk₁ _ _ q) h1
      · exact ns_keep (fun o q => hk₁ _ _ q) (hr.outs f hf)
  refine wpG_mono ((h _ ok' rfl).run G ρ _ hr') (fun fl s' ⟨G₁, ρ₁, a₁, d, st₁, r₁, hv₁, q₁⟩ => ?_) (fun e s' ⟨G₁, ρ₁, a₁, st₁, x₁, q₁⟩ => ?_)
  · cases hv₁ with
    | ret hv => exact ⟨G₁, ρ₁, _, _, st₁, hr.out h2 st₁ r₁, hv, q₁⟩
    | next => exact ⟨G₁, ρ₁, _, _, st₁, hr.out h2 st₁ r₁, .none, q₁⟩
    | brk => exact ⟨G₁, ρ₁, _, _, st₁, hr.out h2 st₁ r₁, .none, q₁⟩
    | cont => exact ⟨G₁, ρ₁, _, _, st₁, hr.out h2 st₁ r₁, .none, q₁⟩
  · exact leave_exc ok rfl hr h2 st₁ x₁ fun s'' x₂ => ⟨G₁, ρ₁, _, st₁, x₂, q₁⟩
end
end Mine

end
section
namespace Mine
open PySem PySem.W PySem.Spec PySem.Calls PyProof.Rows Builtin Builtin.ObjectAttr

section
variable {prog : Program} {w : World} {A : Around} {E : Value → Shared → Prop} {P : Params}
noncomputable abbrev badMro : List Value := [.ref 52, .ref 39, .type "Exception", .type "BaseException", .type "object"]
theorem refuse_bad (self : Value) : refuseLoop self "__setattr__" badMro = pure () := by
  rw [refuseLoop_ref, refuseLoop_ref]; exact PySem.F.store_Exception.passes self

theorem told_set {s : Shared} {x : Addr} {vs : Array Value} {sl : Array (Option Value)} {v : Value} {Q : Unit → Shared → Prop} (X : (Hd.hd.heap_1 P).In s.heap) (hx : s.heap.get? x = some ⟨.ref 52, none, .fields vs, sl⟩)
    (hq : ∀ h' tk', (∀ b o, b ≠ x → s.heap.get? b = some o → h'.get? b = some o) → (∃ dx, h'.get? x = some ⟨.ref 52, some dx, .fields vs, sl⟩) → Q () { s with heap := h', toks := tk' }) :
    wpAny (model prog w) A (setAttr (.ref x) "told" v) Q E s := by
  obtain ⟨h, g, d, t, os⟩ := s
  dsimp only at hx hq X
  have I : InstAt h x ⟨.ref 52, none, .fields vs, sl⟩ 52 none := ⟨hx, rfl, rfl, trivial⟩
  refine set_plain (s := ⟨h, g, d, t, os⟩) X I (by with_unfolding_all rfl) ?_
  dsimp only
  have SF := PySem.F.store_object
  obtain ⟨cd, hc, ho⟩ : ∃ cd, clsIn (Hd.hd.heap_1 P) 52 = some cd ∧ cd.mro = badMro ∧ cd.hasDict = true := ⟨_, by with_unfolding_all rfl, rfl, rfl⟩
  obtain ⟨hm0, hd0⟩ := ho
  have sub : Looks (model prog w) h (isInstance (.ref x) (.type "object")) true := I.type.andThen (looks_mroIn X (by with_unfolding_all rfl))
  refine codeAny_call_builtin SF.slot.plain SF.entry (@check_slot (model prog w) _ _ ⟨h, g, d, t + 1, os⟩ "object.__setattr__" "object" "__setattr__" (.ref x) [.str "told" t, v] [] _ SF.kind SF.split sub (SF.args (.ref x) (.str "told" t) v) ?_)
  have ha : findIn (Hd.hd.heap_1 P) (.ref 52) "told" = some none := by with_unfolding_all rfl
  have hm : Looks (model prog w) h (mroOf (.ref 52)) badMro := by
    rw [← hm0]; exact (looks_clsIn X hc).andThen .now
  have L3 : Looks (model prog w) h (storeTaker? none) none := .now
  rw [osa_eq, refuse_eq]
  refine wpAny_bind (wpAny_bind (I.type.at (wpAny_bind (hm.at ?_))))
  rw [refuse_bad]
  refine wpAny_pure (wpAny_bind (I.type.at (wpAny_bind ((looks_findIn X ha).at (wpAny_bind (L3.at ?_))))))
  show wpAny _ _ (storeInOwnDict (.ref x) (.ref 52) (.str "told" t) "told" v false) _ _ _
  refine wpAny_bind (wpAny_pure (wpAny_bind (wpAny_bind (wpAny_loadPart hx (wpAny_bind ((looks_clsIn X hc).at ?_))))))
  rw [hd0]
  have hx₁ : (h.push { cls := .type "dict", data := .dict #[] }).get? x = some ⟨.ref 52, none, .fields vs, sl⟩ := Heap.get?_push_of_some _ hx
  have hxs : x ≠ h.objs.size := Nat.ne_of_lt (Heap.lt_size hx)
  refine wpAny_bind (wpAny_alloc' ?_)
  refine wpAny_bind (wpAny_update' hx₁ ?_)
  refine wpAny_pure ?_
  have hgd : ((h.push { cls := .type "dict", data := .dict #[] }).update x fun o => { cls := o.cls, dict := some h.objs.size, data := o.data, slots := o.slots }).get? h.objs.size
      = some { cls := .type "dict", data := .dict #[] } :=
    (Heap.get?_update_ne _ _ _ _ hxs.symm).trans (Heap.get?_push_at rfl rfl)
  have hnd : ((h.push { cls := .type "dict", data := .dict #[] }).update x fun o => { cls := o.cls, dict := some h.objs.size, data := o.data, slots := o.slots }).Ns h.objs.size (fun _ => none) :=
    ⟨_, #[], _, hgd, rfl, fun e he => absurd he (by simp), fun _ => rfl⟩
  show wpAny _ _ (storeInDict h.objs.size (.str "told" t) "told" v) _ _ _
  unfold storeInDict newKeyGuard
  refine wpAny_bind (wpAny_pure (wpAny_bind (wpAny_nsSet1 (Heap.Ns1.of_empty hnd) fun h' hn' hs => ?_)))
  obtain ⟨oD, esD, epD, hoD, hdD, hcD⟩ := hn'.count (Within.cons "told" v Within.nil)
  refine wpAny_bind (wpAny_lookBehind hoD (by rw [hdD]; exact pastItsLine_dict (Nat.le_trans hcD (by rw [List.length_cons, List.length_nil, sizeLine_eq]; omega))) ?_)
  refine wpAny_pure ?_
  refine hq h' _ (fun b o hb e => ?_) ⟨h.objs.size, ?_⟩
  · exact (hs.2 b (Nat.ne_of_lt (Heap.lt_size e))).trans ((Heap.get?_update_ne _ _ _ _ hb).trans (Heap.get?_push_of_some _ e))
  · exact (hs.2 x hxs).trans (Heap.get?_update_self _ hx₁ rfl)

noncomputable abbrev hC_ok (h : Heap) : Prop := h.get? 52 = some (excClassObj "BadPatch" "BadPatch" 52 51 [.ref 39] [.ref 39, .type "Exception", .type "BaseException", .type "object"] true [] [] false none none (some (.ref 43)) none (some (.str "BadPatch" 228)) (some (.str "BadPatch" 236)) (some (.bool true)) "Exception.__new__")
theorem hC_of {h : Heap} (X : (Hd.hd.heap_1 P).In h) : hC_ok h := X _ _ (by with_unfolding_all rfl)

noncomputable abbrev excTup (v : Value) : Obj := { cls := .type "tuple", data := .seq [v].toArray }
noncomputable abbrev excObj (a : Addr) : Obj := { cls := .ref 52, data := .fields #[.ref a, .none, .none, .none, .bool false, .none] }
theorem bad_new {R : Result → Shared → Prop} {h : Heap} {g : Array GenState} {d : Drawn} {t : Nat} {os : OsState} {v : Value} (hC : hC_ok h)
    (hq : R (.ok (.ret (.ref (h.objs.size + 1)))) ⟨(h.push (excTup v)).push (excObj h.objs.size), g, d, t, os⟩) :
    codeAny (model prog w) A (.call (.builtin "Exception.__new__") ⟨[.ref 52, v], []⟩) R ⟨h, g, d, t, os⟩ := by
  have Fn := PySem.F.excBase_Exception
  have hends := Fn.ends
  have hstar := Fn.noStar
  refine codeAny_call_builtin_code (Code.quiet_builtin _ Fn.quiet) ?_
  simp only [checkBuiltinCall, Fn.newKind, Fn.newSplit, Fn.newRow]
  repeat (first | refine wpAny_loadPart_at hC ?_ | (refine wpAny_isSubtype_exc hC ?_; rw [show ([Value.ref 52, .ref 39, .type "Exception", .type "BaseException", .type "object"]).contains (.type "Exception") = true from rfl]) | refine wpAny_staticBase_exc hC ?_ | refine wpAny_madeBy_exc hC ?_ | simp only [bne_self_eq_false, Bool.false_eq_true, if_false] | wp_step)
  refine codeAny_builtinAt Fn.entry ?_
  unfold Builtin.«BaseException.__new__»
  refine PySem.wpAt_bind ?_
  show PySem.wpAt _ _ _ (stack >>= _) _ _ _
  refine PySem.wpAt_bind (PySem.wpAt_stack fun p below => PySem.wpAt_of_wpAny ?_)
  wp_walk
  refine PySem.wpAt_of_wpAny ?_
  rw [Fn.owner]
  repeat (first | with_reducible refine wpAny_madeHere_exc Fn.canon hC ?_ | with_reducible refine wpAny_loadPart_at hC ?_ | (with_reducible refine wpAny_isSubtype_exc hC ?_; first | rw [show ([Value.ref 52, .ref 39, .type "Exception", .type "BaseException", .type "object"]).contains (.type "Exception") = true from rfl] | rw [show ([Value.ref 52, .ref 39, .type "Exception", .type "BaseException", .type "object"]).contains (.type "AttributeError") = false from rfl] | rw [show ([Value.ref 52, .ref 39, .type "Exception", .type "BaseException", .type "object"]).contains (.type "NameError") = false from rfl]) | wp_step)
  show R _ _
  rw [Heap.size_push]
  exact hq
end
end Mine

end
section
namespace Mine
open PySem PySem.W PySem.Spec PySem.Calls PyProof.Rows Builtin Builtin.ObjectAttr

section
variable {prog : Program} {w : World} {A : Around} {E : Value → Shared → Prop} {P : Params}
noncomputable abbrev initFn : FuncData := fnOf "__init__" "GitError.__init__" 
    { posonlyargs := [], args := [{ arg := "self", annotation := none, pos := ⟨8, 17, 8, 21⟩ }, { arg := "told", annotation := none, pos := ⟨8, 23, 8, 27⟩ }], vararg := none, kwonlyargs := [], kw_defaults := [], kwarg := none, defaults := [.Constant (.str "") 0 ⟨8, 28, 8, 30⟩] }
    [.Assign [.Attribute (.Name "self" ⟨9, 8, 9, 12⟩) "told" ⟨9, 8, 9, 17⟩] (.Name "told" ⟨9, 20, 9, 24⟩) ⟨9, 8, 9, 24⟩]
    { kind := .function, names := [("self", .local), ("told", .local)], isGenerator := false, isCoroutine := false }
    (.ref 29) .none .none (.str "gitcore.base" 194) none (.ref 35) .none
theorem init_in {h : Heap} (X : (Hd.hd.heap_1 P).In h) : ∃ o, h.get? 36 = some o ∧ o.data = .func initFn := ⟨_, X _ _ (by with_unfolding_all rfl), by with_unfolding_all rfl⟩

theorem init_call {R : Result → Shared → Prop} {s : Shared} {x : Addr} {vs : Array Value} {sl : Array (Option Value)} {v : Value} (X : (Hd.hd.heap_1 P).In s.heap) (hl : s.heap.NoLimit) (hd : A.depth < 900) (hx : s.heap.get? x = some ⟨.ref 52, none, .fields vs, sl⟩)
    (hq : ∀ h' tk', (∀ b o, b ≠ x → s.heap.get? b = some o → h'.get? b = some o) → (∃ dx, h'.get? x = some ⟨.ref 52, some dx, .fields vs, sl⟩) → R (.ok (.ret .none)) { s with heap := h', toks := tk' }) :
    codeAny (model prog w) A (.call (.ref 36) ⟨[.ref x, v], []⟩) R s := by
  obtain ⟨o, ho, hf⟩ := init_in X
  refine codeAny_call_def (fd := initFn) (binds := [("self", .ref x), ("told", v)]) (by show _ < 1000; omega) ho hf hl (codeRec_of X (by with_unfolding_all rfl)) rfl (BindsTo.of_defaults (T := 29) rfl (X _ _ rfl) rfl rfl rfl) (by decide) (fun y hy => by rcases List.mem_cons.mp hy with rfl | hy; exact rfl; rcases List.mem_cons.mp hy with rfl | hy; exact rfl; cases hy) (fun h₀ hns hk => ?_)
  refine wpAny_execs_cons ?_
  have X' : (Hd.hd.heap_1 P).In h₀ := X.keeps hk
  refine plainObj_wpAny_Assign_Attribute ?_ (by with_unfolding_all rfl)
  refine wpAny_Name (wpAny_loadName_local (m := _) rfl rfl hns (v := v) rfl ?_) (by decide)
  refine wpAny_Name (wpAny_loadName_local (m := _) rfl rfl hns (v := .ref x) rfl ?_) (by decide)
  refine told_set X' (hk _ _ hx) fun h' tk' h1 h2 => ?_
  refine wpAny_execs_nil ?_
  exact hq h' tk' (fun b o hb e => h1 b o hb (hk _ _ e)) h2

theorem call_bad {s : Shared} {v : Value} {Q : Value → Shared → Prop} (X : (Hd.hd.heap_1 P).In s.heap) (hl : s.heap.NoLimit) (hd : A.depth < 890)
    (hq : ∀ h' tk x a0, s.heap.StaysIn h' → s.heap.get? x = none → (∃ dx, h'.get? x = some ⟨.ref 52, some dx, .fields #[a0, .none, .none, .none, .bool false, .none], #[]⟩) → Q (.ref x) { s with heap := h', toks := tk }) :
    wpAny (model prog w) A (call (.ref 52) [v]) Q E s := by
  obtain ⟨h, g, d, t, os⟩ := s
  dsimp only at X hl hq
  have hC := hC_of X
  have f1 := tc_lookup
  have f2 := tc_bind (.ref 52)
  have hT : (⟨h, g, d, t, os⟩ : Shared).TypeIs (.ref 52) "type" := ⟨_, hC, rfl⟩
  refine wpAny_call (codeAny_of_tree ?_)
  show wpAny _ _ (callAny (.ref 52) _) _ _ _
  repeat (any_goals (first | assumption | with_reducible refine wpAny_loadPart_at hC ?_ | wp_step))
  refine ⟨rfl, ?_⟩
  refine codeAny_call_builtin_at (Code.quiet_builtin _ (by decide +kernel)) entry_typeCall (wpAny_check_type_call_sub hC ?_)
  repeat (first | with_reducible refine wpAny_loadPart_at hC ?_ | with_reducible refine wpAny_madeBy_exc hC ?_ | wp_step)
  refine bad_new hC ?_
  show wpAny _ _ _ _ _ _
  have k2 : ∀ b o, h.get? b = some o → ((h.push (excTup v)).push (excObj h.objs.size)).get? b = some o := fun b o e => Heap.get?_push_of_some _ (Heap.get?_push_of_some _ e)
  have X₂ : (Hd.hd.heap_1 P).In ((h.push (excTup v)).push (excObj h.objs.size)) := X.keeps k2
  have hget : ((h.push (excTup v)).push (excObj h.objs.size)).get? (h.objs.size + 1) = some (excObj h.objs.size) := by heap_get
  have hC₁ := hC_of X₂
  have hl₂ : ((h.push (excTup v)).push (excObj h.objs.size)).NoLimit := hl.keeps k2
  have hcC : ([Value.ref 52, .ref 39, .type "Exception", .type "BaseException", .type "object"]).contains (.ref 52) = true := by rfl
  unfold isInstance
  repeat (first | with_reducible refine wpAny_loadPart_at hget ?_ | (with_reducible refine wpAny_isSubtype_exc hC₁ ?_; rw [hcC]) | wp_step)
  show wpAny _ _ (typeLookup (.ref 52) _) _ _ _
  refine (looks_findIn X₂ (r := some (.ref 36)) (by with_unfolding_all rfl)).at ?_
  refine wpAny_holding (wpAny_bind ((bind_fn X₂ _ (by with_unfolding_all rfl)).at ?_))
  refine wpAny_bind (wpAny_call (init_call X₂ hl₂ ?_ hget fun h' tk' h1 h2 => ?_))
  · show A.depth + 1 < 900; omega
  · wp_walk
    refine hq h' tk' _ _ (fun b o e => h1 b o ?_ (k2 b o e)) (Heap.get?_none_of_le (Nat.le_succ _)) h2
    exact Nat.ne_of_lt (Nat.lt_succ_of_lt (Heap.lt_size e))
end
end Mine

end
section
namespace Mine
open PySem PySem.W PySem.Spec PySem.Calls PyProof.Rows Builtin Builtin.ObjectAttr

theorem raiseStmt_bad {P : Params} {M : Model} {A : Around} {E : Value → Shared → Prop} {env : Env} {s : Shared} {x : Sem Value} {Q : Flow → Shared → Prop} (hh : A.handled = none)
    (h : wpAny M A x (fun v s₁ => ∃ e dx t, v = .ref e ∧ (Hd.hd.heap_1 P).In s₁.heap ∧
      s₁.heap.get? e = some ⟨.ref 52, some dx, .fields #[t, .none, .none, .none, .bool false, .none], #[]⟩ ∧ E (.ref e) s₁) E s) :
    wpAny M A (raiseStmt env (some x) none) Q E s := by
  have hcB : ([Value.ref 52, .ref 39, .type "Exception", .type "BaseException", .type "object"]).contains (.type "BaseException") = true := by rfl
  unfold raiseStmt
  refine wpAny_bind (wpAny_mono h (fun v s₁ h₁ => ?_) fun _ _ x => x)
  obtain ⟨e, dx, t, rfl, X, he, hE⟩ := h₁
  have hC := hC_of X
  obtain ⟨hp, g, d, tk, os⟩ := s₁
  repeat (first | with_reducible refine wpAny_loadPart_at he ?_ | with_reducible refine wpAny_loadPart_at hC ?_ | (with_reducible refine wpAny_isSubtype_exc hC ?_; rw [hcB]) | wp_step)
  exact wpAny_raiseNew_none hh hE

section
variable {α β γ : Type} {V : Heap → List Addr → α → β → Prop} {g : Gl} {fc : FC} {G G₀ : Heap} {ρ ρ₀ : List Addr} {s : Shared} {a : AS} {R : AS → Prop} {n : Nat} {sc : Scope}

/-- what stands behind the frames -/
theorem hid_frames (fc : FC) (ρ : List Addr) : ∀ x ∈ fc.L :: fc.outs.map (·.L), x ∈ hid fc ρ := fun x hx => by
  unfold hid
  rcases List.mem_cons.mp hx with rfl | hx
  · exact List.mem_cons_self
  · exact List.mem_cons_of_mem _ (List.mem_append_left _ hx)
theorem outs_frames {base h : Heap} : ∀ {l : List Fm}, (∀ f ∈ l, f.env.frame = some f.L ∧ f.env.scope.kind = .function) → (∀ f ∈ l, h.Ns f.L f.m) → (∀ f ∈ l, base.get? f.L = none) → h.FunFrames base (l.map (·.env))
  | [], _, _, _ => trivial
  | f :: l, h1, h2, h3 => .cons (by rw [(h1 f (.head _)).2]; decide) (h1 f (.head _)).1 (h2 f (.head _)) (h3 f (.head _)) (outs_frames (fun f hf => h1 f (.tail _ hf)) (fun f hf => h2 f (.tail _ hf)) (fun f hf => h3 f (.tail _ hf)))

theorem Rel.stay (hr : Rel g fc G a ρ s) {h' : Heap} {t : Nat} (k : s.heap.StaysIn h') : Rel g fc G a ρ { s with heap := h', toks := t } := by
  refine ⟨hr.bg, fun b o e => k b o (hr.gs b o e), hr.hidden, hr.nodup, ?_, hr.st.keep (fun _ _ e => e) (List.prefix_refl _) (fun c _ o e => k c o e), fun P hP => (hr.tabs P hP).keep (fun _ _ e => e) (fun o e => k _ _ e),
    fun f hf => ns_keep (fun o e => k _ _ e) (hr.outs f hf), hr.cix, hr.sh⟩
  obtain ⟨m, h1, h2⟩ := hr.ns
  exact ⟨m, ns_keep (fun o e => k _ _ e) h1, h2⟩

theorem made_exc (ok : fc.Ok n) (hr : Rel g fc G a ρ s) {h' : Heap} {tk : Nat} {x : Addr} {oe : Obj} {vs : Array Value} {a0 : Value} (k : s.heap.StaysIn h') (hx : s.heap.get? x = none) (he : h'.get? x = some oe) (hc : oe.cls = .ref 52) (hd : oe.data = .fields vs) (h1 : vs[1]? = some .none) (h0 : vs[0]? = some a0) (hR : R a)
    (st : Step G₀ ρ₀ G ρ) : PE g fc G₀ ρ₀ R (.ref x) { s with heap := h', toks := tk } := by
  have z1 := hr.stay (h' := h') (t := tk) k
  have hxn : x ∉ hid fc ρ := fun hm => let ⟨o, ho⟩ := hr.alive x hm; by rw [hx] at ho; cases ho
  have hGx : G.get? x = none := by
    cases q : G.get? x with
    | none => rfl
    | some o => have := hr.gs _ _ q; rw [hx] at this; cases this
  have nd := hr.nodup
  unfold hid at nd
  refine ⟨G, ρ, a, st, ⟨x, hideAll h' (x :: fc.L :: fc.outs.map (·.L)), a0, rfl, z1, ?_, ?_, .inl ⟨fun b o e => of_hideAll _ e, hideAll_none _ (.head _), ?_, oe, vs, he, hc, hd, h1, h0⟩⟩, hR⟩
  · intro b o e
    refine hideAll_get _ (z1.gs b o e) fun hm => ?_
    rcases List.mem_cons.mp hm with rfl | hm
    · rw [hGx] at e; cases e
    · rw [hr.hidden b (hid_frames fc ρ b hm)] at e; cases e
  · intro y hy o e
    have hyh : y ∈ hid fc ρ := List.mem_cons_of_mem _ (List.mem_append_right _ hy)
    refine hideAll_get _ e fun hm => ?_
    rcases List.mem_cons.mp hm with rfl | hm
    · exact hxn hyh
    · rcases List.mem_cons.mp hm with rfl | hm
      · exact (List.nodup_cons.mp nd).1 (List.mem_append_right _ hy)
      · exact (List.nodup_append.mp (List.nodup_cons.mp nd).2).2.2 y hm y hy rfl
  · obtain ⟨m, hm, _⟩ := z1.ns
    exact .cons (by rw [ok.kind]; decide) ok.fr hm (hideAll_none _ (.tail _ (.head _))) (outs_frames ok.outsOk z1.outs fun f hf => hideAll_none _ (.tail _ (.tail _ (List.mem_map_of_mem hf))))

theorem x_Raise {e : Expr} {np cpos pos : Pos} {Q : Fl → AS → Prop} (g' : g.Ok) (ok : fc.Ok n) (hs : fc.env.scope = sc) (h : AW VR g fc (eval e fc.env) (fun _ a₁ => R a₁) R a)
    (hk : sc.names.lookup ("BadPatch" : PStr) = some .globalImplicit := by rfl) (hn : n ≤ 100 := by first | exact nup (by with_reducible assumption) (by rfl) | exact nup0 (by with_reducible assumption) (by rfl) | exact nupp (by with_reducible assumption) (by rfl) | omega) (hst : starEach [e] fc.env = (false, eval e fc.env) :: starEach [] fc.env := by rfl) :
    AW VF g fc (exec (.Raise (some (.Call (.Name "BadPatch" np) [e] [] cpos)) none pos) fc.env) Q R a := .mk fun G ρ s hr => by
  rw [arm_exec_Raise]
  refine wpAny_bind (wpAny_standAt ?_)
  have hdep := ok.depth
  refine raiseStmt_bad (P := g.w.params) (x := (do let v ← eval (.Call (.Name "BadPatch" np) [e] [] cpos) fc.env; standAt pos; pure v)) ok.handled (wpAny_bind (wpAny_mono (Q := fun v s₁ => ∃ x dx t, v = .ref x ∧ (Hd.hd.heap_1 g.w.params).In s₁.heap ∧
      s₁.heap.get? x = some ⟨.ref 52, some dx, .fields #[t, .none, .none, .none, .bool false, .none], #[]⟩ ∧ PE g fc G ρ R (.ref x) s₁) ?_ (fun v s₁ h₁ => wpAny_bind (wpAny_standAt (wpAny_pure h₁))) fun _ _ x => x))
  refine Call_ (aw_then (a_glob (Q := fun d a₁ => d = .glob (.ref 52) ∧ a₁ = a) g' ok hs (v := .ref 52) (by with_unfolding_all rfl) (fun _ _ => .glob) ⟨rfl, rfl⟩ hk) Step.refl hr fun G₁ ρ₁ df a₁ vf s₁ _ st₁ r₁ hv₁ ⟨e1, e2⟩ => ?_) (by rfl)
  subst e1 e2
  cases hv₁
  have hk' : ∀ h, g.B.StaysIn h → ∃ k, (k = Keeper.frame ∨ k = Keeper.machine ∨ k = Keeper.boundFrame) ∧ Looks g.M h (keeperOf (.ref 52)) k := fun h hb =>
    keep_k (f := .ref 52) g' (by with_unfolding_all rfl) _ _ h [] _ hb (fun _ _ e => e) .glob
  refine callWith_of (by rw [hst]; rfl) hk' ?_
  rw [hst]
  refine evalArgs_plain ?_
  refine spliced_cons (aw_then h st₁ r₁ fun G₂ ρ₂ d a₂ v s₂ st₁₂ st₂ r₂ hv₂ q₂ => spliced_nil ⟨r₂.bs, ?_⟩)
  refine call_bad (r₂.K g') (r₂.top g').nolimit (by omega) fun h' tk x a0 k hx ⟨dx, he⟩ => ?_
  exact ⟨x, dx, a0, rfl, (r₂.K g').keeps k, he, made_exc ok r₂ k hx he rfl rfl rfl rfl q₂ st₂⟩
end
end Mine

end
section
namespace Mine
open PySem PySem.W PySem.Spec PySem.Calls PyProof.Rows Builtin Builtin.ObjectAttr

section
variable {g : Gl} {fc : FC} {G G₀ : Heap} {ρ ρ₀ : List Addr} {s : Shared} {a : AS} {R : AS → Prop} {n : Nat} {sc : Scope}
theorem Rel.slots {base h' : Heap} (r : Rel g fc G a ρ s) (gb : G.StaysIn base) (tb : ∀ y ∈ tabPs ++ ρ, ∀ o, s.heap.get? y = some o → base.get? y = some o) (kb : base.StaysIn h') (up : s.heap.UpToSlots h') : Rel g fc G a ρ { s with heap := h' } := by
  have gs : G.StaysIn h' := fun b o q => kb b o (gb b o q)
  exact ⟨r.bg, gs, r.hidden, r.nodup, let ⟨m', e1, e2⟩ := r.ns; ⟨m', up.ns e1, e2⟩, r.st.keep (fun _ _ q => q) (List.prefix_refl _) (fun c hc o q => kb _ _ (tb c (List.mem_append_right _ hc) o q)),
      fun P hP => (r.tabs P hP).keep (fun _ _ q => q) (fun o q => kb _ _ (tb P (List.mem_append_left _ hP) o q)), fun f hf => up.ns (r.outs f hf), r.cix, r.sh⟩

theorem note_exc {x : Addr} {base : Heap} {a0 : Value} {M : Model} {E : Value → Shared → Prop} {Q : Unit → Shared → Prop} (ok : fc.Ok n)
    (hx : ((base.StaysIn s.heap ∧ base.get? x = none ∧ s.heap.FunFrames base (fc.env :: fc.outs.map (·.env)) ∧
        ∃ oe vs, s.heap.get? x = some oe ∧ oe.cls = .ref 52 ∧ oe.data = .fields vs ∧ vs[1]? = some .none ∧ vs[0]? = some a0) ∨
      Heap.FlyingW base (fc.env :: fc.outs.map (·.env)) x (.ref 52) a0 s.heap ∨ Heap.HeldW base (fc.env :: fc.outs.map (·.env)) x (.ref 52) a0 fc.L s.heap))
    (hQ : ∀ h', Heap.HeldW base (fc.env :: fc.outs.map (·.env)) x (.ref 52) a0 fc.L h' → s.heap.UpToSlots h' → Q () { s with heap := h' }) : wpAny M fc.A (noteFrame (.ref x) fc.env) Q E s := by
  rcases hx with ⟨kb, hn, hl, oe, vs, he, hc, hd, h1, h0⟩ | fl | hd
  · unfold noteFrame
    simp only [ok.fr]
    refine wpAny_bind (wpAny_field he hd h1 ?_)
    rw [if_neg (by decide)]
    exact wpAny_entryW ok.frames hl ok.fr he kb hn hd (Array.getElem?_eq_some_iff.mp h1).1 h0 fun h' ⟨k1, k2, k3, k4⟩ => hQ h' ⟨k1, hn, k2, hc ▸ k3⟩ k4
  · exact wpAny_looks_onW ok.frames ok.fr fl hQ
  · exact wpAny_noteFrame_againW ok.fr hd.2.2.2 (hQ _ hd (.refl _))

theorem xg_Heard {body : List Stmt} {np hp rp pos tp cp cp2 : Pos} {k1 k2 k3 : Nat} {st : Stmt} {Q : Fl → AS → Prop} (g' : g.Ok) (ok : fc.Ok n) (hs : fc.env.scope = sc) (h : AG VF g fc (execs body fc.env) (fun fl a => fl ≠ .next ∧ Q fl a) (fun a => Q (.ret (.tup [.str "refused", .none])) a) a)
    (hk : sc.names.lookup ("BadPatch" : PStr) = some .globalImplicit := by rfl) (hst : ∀ e : Env, spliced (backTo tp (starEach [.Constant (.str "refused") k1 cp, .Constant .none k2 cp2] e)) = spliced (backTo tp [(false, eval (.Constant (.str "refused") k1 cp) e), (false, eval (.Constant .none k2 cp2) e)]) := by intro _; rfl) :
    AG VF g fc (exec (.Try body [.ExceptHandler (some (.Name "BadPatch" np)) none [.Return (some (.Tuple [.Constant (.str "refused") k1 cp, .Constant .none k2 cp2] k3 tp)) rp] hp] [] [] pos) fc.env) Q R a := .mk fun G ρ s hr => by
  rw [arm_exec_Try]
  refine wpG_bind (wpG_standAt ?_)
  unfold tryStmt
  simp only [List.isEmpty_nil, if_true, List.isEmpty_cons, Bool.false_and, Bool.false_eq_true, if_false]
  refine wpG_bind (wpG_attempt (wpG_mono (h.run G ρ s hr) (fun f s₁ ⟨G', ρ', a', d, st₁, r₁, hv₁, hne, q₁⟩ => ?_) fun e s₁ h₁ => ?_))
  · cases hv₁ with
    | next => exact absurd rfl hne
    | ret hv => exact wpG_pure ⟨G', ρ', a', _, st₁, r₁, .ret hv, q₁⟩
    | brk => exact wpG_pure ⟨G', ρ', a', _, st₁, r₁, .brk, q₁⟩
    | cont => exact wpG_pure ⟨G', ρ', a', _, st₁, r₁, .cont, q₁⟩
  · obtain ⟨G', ρ', a', st₁, ⟨x, base, a0, rfl, r₁, gb, tb, hx⟩, q₁⟩ := h₁
    refine wpG_of (wpAny_bind (note_exc ok hx fun h₄ hd₄ up₄ => wpAny_bind (wpAny_landsW hd₄ fun h₅ hd₅ up₅ => ?_)))
    have r₅ : Rel g fc G' a' ρ' { s₁ with heap := h₅ } := r₁.slots gb tb hd₅.1 (up₄.trans up₅)
    obtain ⟨ob, hob, hobc⟩ := hd₅.there
    refine wpAny_handleBy_cons (codeAny_handlers_test ?_) (by intro q; cases q)
    have X₅ := r₅.K g'
    refine Name_function_global ok.kind (by unfold Env.kindOf; rw [hs]; exact hk) (loadGlobal_global (mg := g.mg) (by rw [ok.gl]; exact (r₅.top g').g) (mg_of g'.X g'.T.g (by with_unfolding_all rfl)) ?_) (by decide)
    obtain ⟨hh, gg, dd, tt, oo⟩ := s₁
    refine wpAny_excMatches_sub_self (hC_of X₅) hob hobc (by rfl) (codeAny_handlers_suite ?_)
    refine lands_againW hd₅ fun h₆ hd₆ up₆ => ?_
    have r₆ : Rel g fc G' a' ρ' ⟨h₆, gg, dd, tt, oo⟩ := r₁.slots gb tb hd₆.1 ((up₄.trans up₅).trans up₆)
    refine wpAny_execs_cons (wpAny_Return_some (Tuple_ ?_))
    rw [hst]
    dsimp only
    refine spliced_cons (Constant_str (k := k1) (pos := cp) (spliced_cons (Constant_none (k := k2) (pos := cp2) (spliced_nil ?_))))
    have r₇ : Rel g fc G' a' ρ' ⟨h₆, gg, dd, tt + 1, oo⟩ := r₆.toks
    refine wpAny_newObj_type ?_ (by show 2 ≤ sizeLine; rw [sizeLine_eq]; decide)
    have z := pv_push (Q := fun d a => Q (.ret d) a) (d := .tup [.str "refused", .none]) (o := { cls := .type "tuple", data := .seq #[.str "refused" tt, .none] }) r₇ rfl (fun G'' k e => .tup (.cons .str (.cons .none .nil)) ⟨_, e, rfl, 0, rfl⟩) q₁
    obtain ⟨G₈, ρ₈, a₈, d₈, st₈, r₈, v₈, q₈⟩ := z
    exact ⟨G₈, ρ₈, a₈, _, st₁.trans st₈, r₈, .ret v₈, q₈⟩
end
end Mine

end
section
namespace Mine
open PySem PySem.W PySem.Spec PySem.Calls PyProof.Rows

theorem setFlight_held {M : Model} {A : Around} {E : Value → Shared → Prop} {s : Shared} {base : Heap} {l : List Env} {e L : Addr} {cls a0 : Value} {Q : Unit → Shared → Prop} (R : Heap.HeldW base l e cls a0 L s.heap)
    (h : ∀ h', Heap.HeldW base l e cls a0 L h' → s.heap.UpToSlots h' → Q () { s with heap := h' }) :
    wpAny M A (do
      if (← field (.ref e) 1) == .none then unsupported "frame.own-activation:exception-without-traceback"
      setFlight (.ref e) (some L)) Q E s := by
  obtain ⟨hkb, hen, hl, oe, vs, T, oT, ts, he, hcls, hd, h1, hnT, hTe, hT, hdT, h3⟩ := R
  have hsz3 : 3 < ts.size := (Array.getElem?_eq_some_iff.mp h3).1
  have other : ∀ b, b ≠ T → (s.heap.update T (Obj.mapFields (·.setIfInBounds 3 ((some L).elim Value.none fun f => rawInt f)))).get? b = s.heap.get? b :=
    fun b hb => Heap.get?_update_other _ _ (Ne.symm hb)
  have noRecord : ∀ b o, s.heap.get? b = some o → (∀ vs, o.data ≠ .fields vs) → b ≠ T := fun b o hb hnf q => by
    rw [q, hT] at hb; injection hb with hb; subst hb; exact hnf ts hdT
  refine wpAny_bind (wpAny_field he hd h1 ?_)
  rw [if_neg (show ¬ ((Value.ref T == Value.none) = true) from by simp)]
  unfold setFlight
  refine wpAny_bind (wpAny_field he hd h1 ?_)
  rw [if_pos (show (Value.ref T != Value.none) = true from by simp)]
  refine wpAny_setField hT hdT hsz3 (h _ ⟨fun b o hbo => (other b fun q => by rw [q, hnT] at hbo; cases hbo).trans (hkb b o hbo), hen,
    hl.of_keeps fun b o hb hnf => ⟨o, (other b (noRecord b o hb hnf)).trans hb, rfl⟩, ?_⟩ fun b o hb hnf => ⟨o.slots, (other b (noRecord b o hb hnf)).trans hb⟩)
  exact ⟨oe, vs, T, _, _, (other e (Ne.symm hTe)).trans he, hcls, hd, h1, hnT, hTe, Heap.get?_update_self _ hT (Obj.isFreed_of_fields (Obj.data_mapFields hdT _)), Obj.data_mapFields hdT _, by simp [hsz3]⟩

section
variable {α β γ : Type} {V : Heap → List Addr → α → β → Prop} {g : Gl} {fc : FC} {G G₀ : Heap} {ρ ρ₀ : List Addr} {s : Shared} {a : AS} {R : AS → Prop} {n : Nat} {sc : Scope}

/-- an exception that came out of a code run within the frame -/
theorem own_exc {e : Value} (ok : fc.Ok n) (h : PE g fc G ρ R e s) : notedBy g.M fc.A fc.env (fun e s' => cameBackBy g.M fc.A fc.env (PE g fc G ρ R) e s') e s := by
  obtain ⟨G', ρ', a', st₁, ⟨x, base, a0, rfl, r₁, gb, tb, hx⟩, q₁⟩ := h
  refine note_exc ok hx fun h₄ hd₄ up₄ => ?_
  unfold cameBackBy
  rw [ok.fr]
  refine setFlight_held hd₄ fun h₅ hd₅ up₅ => ?_
  refine ⟨G', ρ', a', st₁, ⟨x, base, a0, rfl, r₁.slots gb tb hd₅.1 (up₄.trans up₅), gb, fun y hy o q => ?_, .inr (.inr hd₅)⟩, q₁⟩
  obtain ⟨o₀, ho₀⟩ := r₁.alive y (List.mem_cons_of_mem _ (List.mem_append_right _ hy))
  have z := tb y hy o₀ ho₀
  rw [show h₅.get? y = some o₀ from hd₅.1 _ _ z] at q
  cases q
  exact z

theorem wpG_run {M : Model} {A : Around} {E : Value → Shared → Prop} {c : Code} {h : Option Value} {Q : Flow → Shared → Prop}
    (hc : codeG M (A.mark h) c (fun r s' => match r with | .ok f => Q f s' | .error e => E e s') s) (hnb : h ≠ some byPass := by intro x; cases x) : wpG M A (run c h) Q E s := fun Γ p hΓ hg => by
  rw [Sem.wp_run]
  refine hc _ p rfl (hΓ.enter c h p hnb) fun x hx => ?_
  rcases List.mem_cons.mp (show x ∈ (Γ.code, p) :: Γ.below from hx) with rfl | hx
  · exact hg.code
  · exact hg.below x hx
noncomputable def LoopR (g : Gl) (fc : FC) (Q : Fl → AS → Prop) (R : AS → Prop) (G : Heap) (ρ : List Addr) : Result → Shared → Prop := fun r s' => match r with
  | .ok f => PV VF g fc G ρ Q f s'
  | .error e => cameBackBy g.M fc.A fc.env (PE g fc G ρ R) e s'
theorem LoopR.up {Q : Fl → AS → Prop} {r : Result} {s' : Shared} (st : Step G₀ ρ₀ G ρ) (h : LoopR g fc Q R G ρ r s') : LoopR g fc Q R G₀ ρ₀ r s' := by
  cases r with
  | ok f => exact PV.up st h
  | error e => exact wpAny_mono (show cameBackBy g.M fc.A fc.env (PE g fc G ρ R) e s' from h) (fun _ _ x => PE.up st x) fun _ _ x => PE.up st x

theorem wpG_noted {m : Sem α} {env : Env} {Q : α → Shared → Prop} {M : Model} {A : Around} {E : Value → Shared → Prop} (h : wpG M A m Q (notedBy M A env E) s) : wpG M A (m.onRaise fun x => do noteFrame x env; theTreesLotGoes x) Q E s :=
  wpG_onRaise (wpG_mono h (fun _ _ q => q) fun _ _ hx => wpG_of (wpAny_bind (wpAny_mono hx (fun _ _ e => wpAny_theTreesLotGoes e) fun _ _ e => e)))

/-- an exception of the turn goes on -/
theorem turn_exc {e : Value} (ok : fc.Ok n) (st : Step G₀ ρ₀ G ρ) (h : PE g fc G ρ R e s) (Q : Fl → AS → Prop) : notedBy g.M fc.A fc.env (fun e s' => LoopR g fc Q R G₀ ρ₀ (.error e) s') e s :=
  wpAny_mono (own_exc ok (h.up st)) (fun _ _ x => x) fun _ _ x => x

theorem cln_while {test body orelse env} : Cln (.whileLoop test body orelse env) := fun _ _ e => nomatch e
theorem xg_While {test : Expr} {body : List Stmt} {pos : Pos} {Q : Fl → AS → Prop} (I : Nat → AS → Prop) (ok : fc.Ok n)
    (hI : ∀ k a, I k a → AG VB g fc (isTrue test fc.env (eval test fc.env)) (fun c a₁ => (c = true → AG VF g fc (execs body fc.env) (fun fl a₂ => match fl with
        | .next => ∃ j, j < k ∧ I j a₂ | .cont => ∃ j, j < k ∧ I j a₂ | .brk => Q .next a₂ | .ret d => Q (.ret d) a₂) R a₁) ∧ (c = false → Q .next a₁)) R a)
    (k : Nat) (h : I k a) : AG VF g fc (exec (.While test body [] pos) fc.env) Q R a := .mk fun G ρ s hr => by
  rw [exec_While]
  refine wpG_bind (wpG_standAt ?_)
  have loop : ∀ k a G ρ s, I k a → Rel g fc G a ρ s → codeG g.M fc.A (.whileLoop test body [] fc.env) (LoopR g fc Q R G ρ) s := by
    intro k
    induction k using Nat.strongRecOn with
    | _ k ih =>
      intro a G ρ s hk hr
      refine codeG_of_tree cln_while ?_
      show wpG _ fc.A ((whileTurn test body [] fc.env).onRaise (fun x => do noteFrame x fc.env; theTreesLotGoes x)) _ _ s
      refine wpG_noted ?_
      simp only [whileTurn]
      refine wpG_bind (wpG_mono ((hI k a hk).run G ρ s hr) (fun c s₁ ⟨G₁, ρ₁, a₁, d₁, st₁, r₁, hv₁, q₁⟩ => ?_) fun e s₁ he => turn_exc ok Step.refl he Q)
      have hv₂ : d₁ = c := hv₁
      subst hv₂
      cases d₁ with
      | false =>
        refine wpG_bind (wpG_of (wpAny_execs_nil (wpG_pure ?_)))
        exact ⟨G₁, ρ₁, a₁, .next, st₁, r₁, .next, q₁.2 rfl⟩
      | true =>
        refine wpG_bind (wpG_mono ((q₁.1 rfl).run G₁ ρ₁ s₁ r₁) (fun f s₂ ⟨G₂, ρ₂, a₂, fl, st₂, r₂, hv₂, q₂⟩ => ?_) fun e s₂ he => turn_exc ok st₁ he Q)
        cases hv₂ with
        | next =>
          obtain ⟨j, hj, hIj⟩ := q₂
          exact wpG_pure ⟨rfl, fun Γ p h1 h2 h3 => PySem.wpCode_mono (fun r s' hR => LoopR.up (st₁.trans st₂) hR) (ih j hj a₂ G₂ ρ₂ s₂ hIj r₂ Γ p h1 h2 h3)⟩
        | cont =>
          obtain ⟨j, hj, hIj⟩ := q₂
          exact wpG_pure ⟨rfl, fun Γ p h1 h2 h3 => PySem.wpCode_mono (fun r s' hR => LoopR.up (st₁.trans st₂) hR) (ih j hj a₂ G₂ ρ₂ s₂ hIj r₂ Γ p h1 h2 h3)⟩
        | brk => exact wpG_pure ⟨G₂, ρ₂, a₂, .next, st₁.trans st₂, r₂, .next, q₂⟩
        | ret hv => exact wpG_pure ⟨G₂, ρ₂, a₂, _, st₁.trans st₂, r₂, .ret hv, q₂⟩
  unfold runOwn
  refine wpG_onRaise (wpG_run (fun Γ p h1 h2 h3 => PySem.wpCode_mono (fun r s' hR => ?_) (loop k a G ρ s h hr Γ p h1 h2 h3)))
  cases r with
  | ok f => exact hR
  | error e => exact wpG_of hR
end
end Mine

end
section
namespace Mine
open PySem PySem.W PySem.Spec PySem.Calls PyProof.Rows PySem.Builtin

section
variable {M : Model} {A : Around} {E : Value → Shared → Prop} {s : Shared}
theorem wpG_exported {self : Value} {Q : Bool → Shared → Prop} (h : Q false s) : wpG M A (Bytes.exported self) Q E s := by
  unfold Bytes.exported
  refine wpG_stack fun l hl => wpG_pure ?_
  rw [List.any_eq_false.mpr ?_]
  · exact h
  · intro x hx
    have hc := hl x hx
    obtain ⟨c, p⟩ := x
    have key : ∀ id args, c = .builtin id args → badIds.contains id = false := hc
    rw [Bool.not_eq_true]
    delta Bytes.exported.match_1
    dsimp only
    cases c with
    | builtin id args =>
      have k := key id args rfl
      have n1 : id ≠ "bytearray.__contains__" := fun e => absurd (e ▸ k) (by decide +kernel)
      have n2 : id ≠ "bytearray.__mod__" := fun e => absurd (e ▸ k) (by decide +kernel)
      have n3 : id ≠ "bytearray.__rmod__" := fun e => absurd (e ▸ k) (by decide +kernel)
      have n4 : id ≠ "_struct.pack_into.held" := fun e => absurd (e ▸ k) (by decide +kernel)
      have n5 : id ≠ "bytearray.find.held" := fun e => absurd (e ▸ k) (by decide +kernel)
      unfold badIds at k
      rw [List.contains_append, Bool.or_eq_false_iff] at k
      obtain ⟨l, kw⟩ := args
      refine (dif_neg n1).trans ?_
      refine (dif_neg n2).trans ?_
      refine (dif_neg n3).trans ?_
      refine (dif_neg n4).trans ?_
      refine (dif_neg n5).trans ?_
      cases l with
      | nil => rfl
      | cons v r =>
        show (Bytes.sameRef v self && Bytes.decodersThatHold.contains id) = false
        rw [k.2, Bool.and_false]
    | _ => rfl
theorem wpG_resize {x : Addr} {o : Obj} {b : Array UInt8} {Q : Unit → Shared → Prop} (ho : s.heap.get? x = some o) (hd : o.data = .bytearray b 0) (h : Q () s) : wpG M A (Bytes.checkResize (.ref x)) Q E s := by
  unfold Bytes.checkResize
  refine wpG_bind (wpG_bind (wpG_exported ?_))
  refine wpG_of (wpAny_bind ?_)
  unfold Bytes.exportsOf
  refine wpAny_bind (wpAny_load ho ?_)
  rw [hd]
  refine wpAny_pure (wpAny_pure ?_)
  show wpG _ _ (if (decide (0 > 0)) = true then _ else _) _ _ _
  rw [if_neg (by decide)]
  exact wpG_pure h
end

namespace BA
theorem mro : mroOf (.type "bytearray") = pure [.type "bytearray", .type "object"] := by rw [mroOf_type]; kernel_rfl
theorem lookup_new : typeLookup (.type "bytearray") "__new__" = pure (some (.builtin "bytearray.__new__")) := by rw [typeLookup_type, builtinLookup_eq_fast]; kernel_rfl
theorem slot_init : Slot "bytearray" "__init__" "bytearray.__init__" :=
  .of (owner := "bytearray") (n := "__init__") (by rw [typeLookup_type, builtinLookup_eq_fast]; kernel_rfl) (by decide +kernel) (by decide +kernel) (by decide +kernel)
    (by first | exact .inl (by decide +kernel) | exact .inr (by decide +kernel)) (by rw [isSubtype_type]; kernel_rfl)
theorem called : TypeCalled "bytearray" "bytearray.__new__" "bytearray.__init__" :=
  ⟨by decide +kernel, by decide +kernel, ⟨_, _, mro⟩, madeBy_type mro lookup_new (by decide +kernel), by decide +kernel, by rw [isSubtype_type]; kernel_rfl, slot_init⟩
theorem typeCall : checkTypeCall "bytearray" ⟨[], []⟩ = pure () := by kernel_rfl
theorem newCall : checkBuiltinCall "bytearray.__new__" ⟨[.type "bytearray"], []⟩ = pure () := by kernel_rfl
theorem entry_new : entryFor table "bytearray.__new__" = some Builtin.«list.__new__» :=
  entryFor_alias (id' := "list.__new__") (by rw [fastTable_eq_tree]; kernel_rfl) (by first | rfl | decide +kernel) (by decide +kernel) (by rw [fastTable_eq_tree]; kernel_rfl)
theorem plain_new : plainId "bytearray.__new__" = true := by decide +kernel
theorem sub_self : isSubtype (.type "bytearray") (.type "bytearray") = pure true := by rw [isSubtype_type]; kernel_rfl
set_option maxRecDepth 1000000 in
set_option maxHeartbeats 4000000 in
theorem owner_new : ("bytearray.__new__".splitOn ".__new__").headD "" = "bytearray" := by simp +decide [String.splitOn, String.splitOnAux]
theorem slot_append : Slot "bytearray" "append" "bytearray.append" :=
  .of (owner := "bytearray") (n := "append") (by rw [typeLookup_type, builtinLookup_eq_fast]; kernel_rfl) (by decide +kernel) (by decide +kernel) (by decide +kernel)
    (by first | exact .inl (by decide +kernel) | exact .inr (by decide +kernel)) (by rw [isSubtype_type]; kernel_rfl)
theorem type_append : typeOf (.builtin "bytearray.append") = pure (.type "method_descriptor") := by show builtinType _ = _; rw [builtinType_eq_fast]; kernel_rfl
theorem entry_append : entryFor table "bytearray.append" = some Builtin.«bytearray.append» := entryFor_of_tree (by kernel_rfl)
theorem entry_init : entryFor table "bytearray.__init__" = some Builtin.«bytearray.__init__» := entryFor_of_tree (by kernel_rfl)
theorem args_append (a b : Value) : argsOk "bytearray.append" ⟨[a, b], []⟩ := by unfold argsOk; kernel_rfl
theorem args_init (a : Value) : argsOk "bytearray.__init__" ⟨[a], []⟩ := by unfold argsOk; kernel_rfl
theorem slot_rel : typeLookup (.type "bytearray") "__release_buffer__" = pure (some (.builtin "bytearray.__release_buffer__")) := by rw [typeLookup_type, builtinLookup_eq_fast]; kernel_rfl
theorem bind_init : Bytes.bindOptional "bytearray.__init__" "bytearray" ["source", "encoding", "errors"] [] [] = pure [none, none, none] := by kernel_rfl
end BA

section
variable {prog : Program} {w : World} {A : Around} {E : Value → Shared → Prop} {s : Shared}
theorem codeG_call_builtin {id : String} {args : Args} {b : Builtin} {R : Result → Shared → Prop} (hc : badIds.contains id = false) (hq : plainId id = true) (hb : entryFor table id = some b)
    (h : wpAny (model prog w) A.in1 (checkBuiltinCall id args) (fun _ s₁ => wpG (model prog w) A.in1 (b args)
      (fun fin s' => match fin with | .done f => R (.ok f) s' | .again c' => c'.quiet = true ∧ codeG (model prog w) A c' R s') (fun e s' => R (.error e) s') s₁)
      (fun e s' => R (.error e) s') s) : codeG (model prog w) A (.call (.builtin id) args) R s := by
  refine codeG_of_tree cln_call ?_
  show wpG _ A.in1 (do checkBuiltinCall id args; again (.builtin id args)) _ _ s
  refine wpG_bind (wpG_of (wpAny_mono h (fun _ s₁ h₁ => wpG_pure ⟨plainId_quiet hq args, codeG_of_tree (fun id' args' e => by cases e; exact hc) ?_⟩) fun _ _ h' => h'))
  rw [Around.under_plainId hq args]
  show wpG _ _ (match entryFor table id with | some b => b args | none => unsupported ((withoutEnding? id "#data").getD id)) _ _ s₁
  rw [hb]; exact h₁

theorem codeG_builtin {id : String} {args : Args} {b : Builtin} {R : Result → Shared → Prop} (hc : badIds.contains id = false) (hb : entryFor table id = some b)
    (h : wpG (model prog w) (A.under (.builtin id args)) (b args)
      (fun fin s' => match fin with | .done f => R (.ok f) s' | .again c' => c'.quiet = true ∧ codeG (model prog w) A c' R s') (fun e s' => R (.error e) s') s) :
    codeG (model prog w) A (.builtin id args) R s := by
  refine codeG_of_tree (fun id' args' e => by cases e; exact hc) ?_
  show wpG _ _ (match entryFor table id with | some b => b args | none => unsupported ((withoutEnding? id "#data").getD id)) _ _ s
  rw [hb]; exact h

noncomputable abbrev barrObj (b : Bs) : Obj := ⟨.type "bytearray", none, .bytearray b.toArray 0, #[]⟩
theorem barr_append {x : Addr} {b : Bs} {c : Int} {t : Tok} {Q : Value → Shared → Prop} (ho : s.heap.get? x = some (barrObj b)) (h0 : 0 ≤ c) (h1 : c < 256) (hz : b.length ≤ 10000)
    (h : ∀ h', Heap.SameBut x s.heap h' → h'.get? x = some (barrObj (b ++ [c.toNat.toUInt8])) → Q .none { s with heap := h' }) : wpG (model prog w) A (call (.builtin "bytearray.append") [.ref x, .int c t]) Q E s := by
  refine wpG_call (codeG_call_builtin (by decide +kernel) BA.slot_append.plain BA.entry_append (BA.slot_append.check _ _ _ _ _ _ _ _ ⟨_, ho, rfl⟩ (BA.args_append _ _) ?_))
  unfold Builtin.«bytearray.append»
  refine wpG_bind (wpG_of (wpAny_of_eq (a := (Value.ref x, Value.int c t)) rfl ?_))
  show wpG _ _ (Bytes.byteValue (.int c t) >>= fun c => _) _ _ _
  unfold Bytes.byteValue
  refine wpG_bind (wpG_of (wpAny_bind (wpAny_of_eq (a := c) rfl ?_)))
  rw [if_neg (by simp only [Bool.or_eq_true, decide_eq_true_eq]; omega)]
  refine wpAny_pure ?_
  refine wpG_bind (wpG_resize ho rfl ?_)
  refine wpG_of (wpAny_bind ?_)
  show wpAny _ _ (updateBytearray x (·.push c.toNat.toUInt8)) _ _ _
  unfold updateBytearray
  refine wpAny_bind (wpAny_load ho ?_)
  show wpAny _ _ (update x (Obj.mapBytearray (·.push c.toNat.toUInt8)) >>= fun _ => lookBehind x) _ _ _
  refine wpAny_bind (wpAny_update ho ?_)
  have e : Obj.mapBytearray (·.push c.toNat.toUInt8) (barrObj b) = barrObj (b ++ [c.toNat.toUInt8]) := by
    show Obj.mk _ _ (.bytearray (b.toArray.push _) 0) _ = _
    rw [List.push_toArray]
  have hx := Heap.get?_update_self (Obj.mapBytearray (·.push c.toNat.toUInt8)) ho rfl
  rw [e] at hx
  refine wpAny_lookBehind hx ?_ ?_
  · show (if (b ++ [c.toNat.toUInt8]).toArray.size > sizeLine then some "bytearray:memory" else none) = none
    exact if_neg (by rw [sizeLine_eq, List.size_toArray, List.length_append, List.length_singleton]; omega)
  · exact wpAny_pure (h _ (.update ..) hx)

theorem gite_no {α : Type} {M : Model} {c : Prop} [Decidable c] {a b : Sem α} {Q : α → Shared → Prop} (hc : ¬ c) (h : wpG M A b Q E s) : wpG M A (if c then a else b) Q E s := by rw [if_neg hc]; exact h
theorem code_barr_new {R : Result → Shared → Prop} (h : R (.ok (.ret (.ref s.heap.objs.size))) { s with heap := s.heap.push (barrObj []) }) :
    codeAny (model prog w) A (.call (.builtin "bytearray.__new__") ⟨[.type "bytearray"], []⟩) R s := by
  refine codeAny_of_tree ?_
  show wpAny _ A.in1 (do checkBuiltinCall "bytearray.__new__" ⟨[.type "bytearray"], []⟩; again (.builtin "bytearray.__new__" ⟨[.type "bytearray"], []⟩)) _ _ s
  refine wpAny_bind (wpAny_of_eq BA.newCall (wpAny_pure ⟨plainId_quiet BA.plain_new _, codeAny_builtin_stack BA.entry_new rfl fun p st => ?_⟩))
  rw [Around.under_plainId BA.plain_new _]
  have hsub := BA.sub_self
  have hown := BA.owner_new
  obtain ⟨hp, g, d, tk, os⟩ := s
  simp only [hown]
  wp_walk
  exact h

theorem rel_id : (!"bytearray.__release_buffer__".endsWith ("." ++ "__release_buffer__")) = false := by decide +kernel
theorem rel_drop : "bytearray.__release_buffer__".dropRight ("__release_buffer__".length + 1) = "bytearray" := by decide +kernel
theorem own_rel {x : Addr} {M : Model} {Q : Bool → Shared → Prop} (hT : s.TypeIs (.ref x) "bytearray") (h : Q false s) : wpAny M A (Bytes.ownRelease (.ref x)) Q E s := by
  unfold Bytes.ownRelease
  refine wpAny_bind ?_
  unfold Bytes.slotIsOwn
  refine wpAny_bind (wpAny_specialOf hT BA.slot_rel ?_)
  dsimp only
  rw [rel_id, if_neg Bool.false_ne_true, rel_drop]
  exact wpAny_isInstance hT BA.sub_self (wpAny_pure h)
theorem barr_new {Q : Value → Shared → Prop} (h : ∀ h', (∀ b o, s.heap.get? b = some o → h'.get? b = some o) → h'.get? s.heap.objs.size = some (barrObj []) → Q (.ref s.heap.objs.size) { s with heap := h' }) :
    wpG (model prog w) A (call (.type "bytearray") []) Q E s := by
  have ft := BA.called
  obtain ⟨c, tl, hmro⟩ := ft.mro
  have hmade := ft.made
  have hsub := ft.sub
  refine wpG_call (codeG_of_tree cln_call ?_)
  show wpG _ _ (callAny (.type "bytearray") _) _ _ _
  refine wpG_pure ⟨Code.quiet_builtin _ (by decide +kernel), codeG_builtin (by decide +kernel) PySem.F.entry_type_call ?_⟩
  rw [Around.under_plain (weight_type_call_type "bytearray" [] []) rfl]
  have h1 := ft.notType
  have h2 := ft.canCreate
  show wpG _ _ (Builtin.«type.__call__» ⟨[.type "bytearray"], []⟩) _ _ _
  unfold Builtin.«type.__call__»
  refine gite_no (fun q => Bool.noConfusion (h1.symm.trans q)) ?_
  refine gite_no (fun q => Bool.noConfusion (h2.symm.trans q)) ?_
  refine wpG_bind (wpG_of (wpAny_of_eq BA.typeCall ?_))
  refine wpG_bind (wpG_of (wpAny_of_eq hmro ?_))
  refine gite_no (fun q => Bool.noConfusion q) ?_
  refine wpG_bind (wpG_of (wpAny_of_eq hmade ?_))
  refine wpG_bind (wpG_pure ?_)
  refine wpG_bind (wpG_holding (wpG_of (wpAny_call (code_barr_new ?_))))
  have hget : (s.heap.push (barrObj [])).get? s.heap.objs.size = some (barrObj []) := Heap.get?_push_size _ rfl
  have hT : ({ s with heap := s.heap.push (barrObj []) } : Shared).TypeIs (.ref s.heap.objs.size) "bytearray" := ⟨_, hget, rfl⟩
  refine wpG_bind (wpG_of (wpAny_isInstance hT hsub ?_))
  refine gite_no (fun q => Bool.noConfusion q) ?_
  refine wpG_bind (wpG_holding ?_)
  unfold callSpecial?
  refine wpG_bind (wpG_of (wpAny_specialOf hT ft.init.lookup ?_))
  refine wpG_holding (wpG_bind ?_)
  rw [ft.init.bind]
  refine wpG_pure (wpG_bind (wpG_call (codeG_call_builtin (by decide +kernel) BA.slot_init.plain BA.entry_init (BA.slot_init.check _ _ _ _ _ _ _ _ hT (BA.args_init _) ?_))))
  unfold Builtin.«bytearray.__init__»
  refine wpG_bind (wpG_of (own_rel hT ?_))
  refine gite_no (fun q => Bool.noConfusion q) ?_
  refine wpG_bind (wpG_of (wpAny_of_eq BA.bind_init ?_))
  refine wpG_bind (wpG_of (wpAny_of_eq (a := ()) rfl ?_))
  refine wpG_bind (wpG_of (wpAny_of_eq (a := ()) rfl ?_))
  refine wpG_bind (wpG_bind (wpG_exported ?_))
  refine wpG_of (wpAny_bind ?_)
  unfold Bytes.exportsOf
  refine wpAny_bind (wpAny_load hget ?_)
  refine wpAny_pure (wpAny_pure ?_)
  refine gite_no (fun q => Bool.noConfusion q) ?_
  refine wpG_bind (wpG_of ?_)
  show wpAny _ _ (updateBytearray s.heap.objs.size (fun _ => #[])) _ _ _
  unfold updateBytearray
  refine wpAny_bind (wpAny_load hget ?_)
  show wpAny _ _ (update s.heap.objs.size (Obj.mapBytearray (fun _ => #[])) >>= fun _ => lookBehind s.heap.objs.size) _ _ _
  refine wpAny_bind (wpAny_update hget ?_)
  have hx := Heap.get?_update_self (Obj.mapBytearray (fun _ => #[])) hget rfl
  refine wpAny_lookBehind hx rfl ?_
  refine wpG_bind (gite_no (fun q => Bool.noConfusion q) (gite_no (fun q => Bool.noConfusion q) (wpG_pure ?_)))
  refine wpG_pure ?_
  refine wpG_pure ?_
  refine gite_no (show ¬ ((Value.none != Value.none) = true) by decide) (wpG_pure ?_)
  refine h _ (fun b o e => ?_) hx
  exact (Heap.get?_update_other _ _ (Nat.ne_of_gt (Heap.lt_size e))).trans (Heap.get?_push_of_some _ e)

section
variable {g : Gl} {fc : FC} {G G₀ : Heap} {ρ ρ₀ : List Addr} {s : Shared} {a : AS} {R : AS → Prop} {n : Nat} {sc : Scope}
theorem SR.snoc {G : Heap} {ρ₀ : List Addr} {h : Heap} {x : Addr} {o : Obj} {y : AObj} (hx : h.get? x = some o) (ho : OR G ρ₀ y o) : ∀ {ρ : List Addr} {σ : List AObj}, SR G ρ₀ h ρ σ → SR G ρ₀ h (ρ ++ [x]) (σ ++ [y])
  | _, _, .nil => .cons hx ho .nil
  | _, _, .cons h1 h2 r => .cons h1 h2 (SR.snoc hx ho r)
theorem SR.length {G : Heap} {ρ₀ : List Addr} {h : Heap} : ∀ {ρ : List Addr} {σ : List AObj}, SR G ρ₀ h ρ σ → ρ.length = σ.length
  | _, _, .nil => rfl
  | _, _, .cons _ _ r => by simp [SR.length r]
/-- a new object of the store -/
theorem Rel.more (hr : Rel g fc G a ρ s) {h' : Heap} {t : Nat} {x : Addr} {o : Obj} {y : AObj} (k : s.heap.StaysIn h') (hx : s.heap.get? x = none) (ho : h'.get? x = some o) (hy : OR G (ρ ++ [x]) y o) :
    Rel g fc G ⟨a.m, a.σ ++ [y]⟩ (ρ ++ [x]) { s with heap := h', toks := t } ∧ Step G ρ G (ρ ++ [x]) := by
  have z := hr.stay (h' := h') (t := t) k
  have hpre : ρ <+: ρ ++ [x] := List.prefix_append _ _
  have hxn : x ∉ hid fc ρ := fun hm => let ⟨o, ho⟩ := hr.alive x hm; by rw [hx] at ho; cases ho
  have hGx : G.get? x = none := by
    cases q : G.get? x with
    | none => rfl
    | some o => have := hr.gs _ _ q; rw [hx] at this; cases this
  have e : hid fc (ρ ++ [x]) = hid fc ρ ++ [x] := by unfold hid; simp
  refine ⟨⟨z.bg, z.gs, fun b hb => ?_, ?_, ?_, (z.st.keep (fun _ _ q => q) hpre (fun _ _ _ q => q)).snoc ho hy, z.tabs, z.outs, fun y' k' e' => let ⟨c, h1, h2⟩ := z.cix y' k' e'; ⟨c, h1, getElem?_pre hpre h2⟩, z.sh⟩, fun _ _ q => q, hpre⟩
  · rw [e] at hb
    rcases List.mem_append.mp hb with hb | hb
    · exact hr.hidden b hb
    · rw [List.mem_singleton.mp hb]; exact hGx
  · rw [e, List.nodup_append]
    exact ⟨hr.nodup, by simp, fun b hb c hc q => hxn (by rw [← List.mem_singleton.mp hc, ← q]; exact hb)⟩
  · obtain ⟨m, h1, h2⟩ := z.ns
    exact ⟨m, h1, fun x d e => let ⟨v, e1, e2⟩ := h2 x d e; ⟨v, e1, e2.mono (fun _ _ q => q) hpre⟩⟩

theorem c_barr {Q : D → AS → Prop} (hq : Q (.mut a.σ.length) ⟨a.m, a.σ ++ [.barr []]⟩) : CallAtG g fc (.glob (.type "bytearray")) [] Q R a := .mk fun G ρ s vf vs hr hf hv => by
  obtain rfl := VR.glob_inv hf
  cases hv
  refine barr_new fun h' k hx => ?_
  obtain ⟨z1, z2⟩ := hr.more (t := s.toks) k (Heap.get?_none_of_le (Nat.le_refl _)) hx (y := .barr []) .barr
  exact ⟨G, _, _, _, z2, z1, .mut (by rw [← hr.st.length]; simp), hq⟩
theorem c_append {k : Nat} {b : Bs} {c : Int} {Q : D → AS → Prop} (hσ : a.σ[k]? = some (.barr b)) (h0 : 0 ≤ c) (h1 : c < 256) (hz : b.length ≤ 10000) (hq : Q .none ⟨a.m, a.σ.set k (.barr (b ++ [c.toNat.toUInt8]))⟩) :
    CallAtG g fc (.glob (.builtin "bytearray.append")) [.mut k, .int c] Q R a := .mk fun G ρ s vf vs hr hf hv => by
  obtain rfl := VR.glob_inv hf
  obtain ⟨_, _, rfl, hv1, hv2⟩ := VRs.two_inv hv
  ·
      (first | obtain ⟨_, rfl⟩ := VR.int_inv hv2 | obtain ⟨_, rfl⟩ := VR.bytes_inv hv2 | obtain ⟨_, rfl⟩ := VR.str_inv hv2 | obtain rfl := VR.none_inv hv2 | obtain rfl := VR.bool_inv hv2 | cases hv2)
      obtain ⟨_, rfl, hk⟩ := VR.mut_inv hv1
      ·
        obtain ⟨o, h3, h4⟩ := hr.st.get hk hσ
        (first | obtain ⟨_, rfl⟩ := VR.int_inv h4 | obtain ⟨_, rfl⟩ := VR.bytes_inv h4 | obtain ⟨_, rfl⟩ := VR.str_inv h4 | obtain rfl := VR.none_inv h4 | obtain rfl := VR.bool_inv h4 | cases h4)
        refine barr_append h3 h0 h1 hz fun h' hs hx => ?_
        obtain ⟨z1, z2⟩ := hr.upd (t := s.toks) hk (fun b hb o e => (hs.2 b hb).trans e) hx (x' := .barr (b ++ [c.toNat.toUInt8])) .barr
        exact ⟨_, ρ, _, .none, z2, z1, .none, hq⟩
end
end
end Mine

end
section
namespace Mine
open PySem PySem.W PySem.Spec PySem.Calls PyProof.Rows PySem.Builtin

namespace BA
theorem no_bytes : typeLookup (.type "bytearray") "__bytes__" = pure none := by rw [typeLookup_type, builtinLookup_eq_fast]; kernel_rfl
theorem noIndex : typeLookup (.type "bytearray") "__index__" = pure none := by rw [typeLookup_type, builtinLookup_eq_fast]; kernel_rfl
theorem buffer : typeLookup (.type "bytearray") "__buffer__" = pure (some (.builtin "bytearray.__buffer__")) := by rw [typeLookup_type, builtinLookup_eq_fast]; kernel_rfl
theorem buf_id : (!"bytearray.__buffer__".endsWith ("." ++ "__buffer__")) = false := by decide +kernel
theorem buf_drop : "bytearray.__buffer__".dropRight ("__buffer__".length + 1) = "bytearray" := by decide +kernel
end BA
section
variable {prog : Program} {w : World} {A : Around} {E : Value → Shared → Prop} {s : Shared}
theorem barr_payload {x : Addr} {b : Bs} {M : Model} {Q : Array UInt8 → Shared → Prop} (ho : s.heap.get? x = some (barrObj b)) (h : Q b.toArray s) : wpAny M A (Bytes.payload (.ref x)) Q E s := by
  unfold Bytes.payload Bytes.payload?
  refine wpAny_bind (wpAny_bind (wpAny_load ho ?_))
  exact wpAny_pure (wpAny_pure h)
theorem barr_buffer {x : Addr} {b : Bs} {M : Model} {id : String} {Q : Option (Array UInt8) → Shared → Prop} (ho : s.heap.get? x = some (barrObj b)) (h : Q (some b.toArray) s) : wpAny M A (Bytes.buffer? id (.ref x) true) Q E s := by
  have hT : s.TypeIs (.ref x) "bytearray" := ⟨_, ho, rfl⟩
  unfold Bytes.buffer?
  refine wpAny_bind (wpAny_specialOf hT BA.buffer ?_)
  refine wpAny_bind ?_
  unfold Bytes.slotIsOwn
  refine wpAny_bind (wpAny_specialOf hT BA.buffer ?_)
  dsimp only
  rw [BA.buf_id, if_neg Bool.false_ne_true, BA.buf_drop]
  refine wpAny_isInstance hT BA.sub_self ?_
  refine bm_if_false rfl ?_
  refine wpAny_bind (wpAny_specialOf hT BA.buffer ?_)
  refine wpAny_bind (own_rel hT ?_)
  refine bm_if_false rfl ?_
  exact wpAny_bind (barr_payload ho (wpAny_pure h))
theorem bytes_of_barr {x : Addr} {b : Bs} {Q : Value → Shared → Prop} (ho : s.heap.get? x = some (barrObj b)) (hz : b.length ≤ 10001) (hQ : ∀ t k, Q (.bytes b.toArray t) { s with toks := k }) : wpAny (model prog w) A (call (.type "bytes") [.ref x]) Q E s := by
  refine callType_codes (Q₁ := fun obj s₁ => s₁.TypeIs obj "bytes" ∧ Q obj s₁) PySem.F.bm_called (PySem.F.bm_typeCall _) PySem.F.entry_object_init ?_ fun obj s₁ h₁ =>
    ⟨h₁.1, PySem.F.args_object_init_2 obj _, object_init_meets PySem.F.bm_called.init.lookup PySem.F.bm_called.made (by decide) prog w A.in1 _ s₁ ⟨h₁.1, rfl, h₁.2⟩⟩
  refine codeAny_of_tree ?_
  show wpAny _ A.in1.in1 (do checkBuiltinCall "bytes.__new__" ⟨[.type "bytes", .ref x], []⟩; again (.builtin "bytes.__new__" ⟨[.type "bytes", .ref x], []⟩)) _ _ s
  refine wpAny_bind (wpAny_of_eq (PySem.F.bm_newCall _) (wpAny_pure ⟨plainId_quiet PySem.F.bm_plain _, codeAny_builtin PySem.F.bm_entry ?_⟩))
  rw [Around.under_plainId PySem.F.bm_plain _]
  have hT : s.TypeIs (.ref x) "bytearray" := ⟨_, ho, rfl⟩
  unfold Builtin.«bytes.__new__»
  refine wpAny_bind (wpAny_of_eq (a := true) rfl ?_)
  refine bm_if_false rfl ?_
  refine wpAny_bind (wpAny_of_eq PySem.F.bm_sub ?_)
  refine bm_if_false rfl ?_
  refine wpAny_bind (wpAny_of_eq (PySem.F.bm_bind _) ?_)
  refine wpAny_bind (wpAny_of_eq (a := ()) rfl ?_)
  refine wpAny_bind (wpAny_of_eq (a := ()) rfl ?_)
  refine bm_if_false rfl ?_
  refine wpAny_bind (wpAny_specialOf hT BA.no_bytes ?_)
  refine wpAny_bind (wpAny_bind ?_)
  show wpAny _ _ (load x >>= _) _ _ _
  refine wpAny_bind (wpAny_load ho ?_)
  refine wpAny_pure (wpAny_pure ?_)
  refine bm_if_false rfl ?_
  refine wpAny_bind (wpAny_specialOf hT BA.noIndex ?_)
  refine bm_if_true rfl ?_
  refine wpAny_bind (barr_buffer ho ?_)
  refine wpAny_bind (wpAny_rule (wpAny_bind (wpAny_mkBytes ?_ (by rw [sizeLine_eq, List.size_toArray]; omega))))
  show wpAny _ _ (if (Value.type "bytes" == Value.type "bytes") = true then _ else _) _ _ _
  refine bm_if_true (by decide) ?_
  first
    | exact wpAny_pure ⟨typeIs_bytes _ _ _, hQ _ _⟩
    | exact wpAny_bind (wpAny_pure (wpAny_pure ⟨typeIs_bytes _ _ _, hQ _ _⟩))
theorem f_bytes_mut {g : Gl} {fc : FC} {a : AS} {R : AS → Prop} {k n : Nat} {b : Bs} {Q : D → AS → Prop} (hσ : a.σ[k]? = some (.barr b)) (hz : b.length ≤ 10001) (hq : Q (.bytes b) a) :
    CallAt g fc (.glob (.type "bytes")) [.mut k] Q R a := .mk fun G ρ s vf vs hr hf hv => by
  obtain rfl := VR.glob_inv hf
  obtain ⟨_, rfl, hv1⟩ := VRs.one_inv hv
  ·
    obtain ⟨_, rfl, hk⟩ := VR.mut_inv hv1
    ·
      obtain ⟨o, h3, h4⟩ := hr.st.get hk hσ
      (first | obtain ⟨_, rfl⟩ := VR.int_inv h4 | obtain ⟨_, rfl⟩ := VR.bytes_inv h4 | obtain ⟨_, rfl⟩ := VR.str_inv h4 | obtain rfl := VR.none_inv h4 | obtain rfl := VR.bool_inv h4 | cases h4)
      exact bytes_of_barr h3 hz fun t k' => ⟨G, ρ, a, _, Step.refl, hr.toks, .bytes, hq⟩
end
end Mine

end
section
namespace Mine
open PySem PySem.W PySem.Spec PySem.Calls PyProof.Rows

section
variable {prog : Program} {w : World} {A : Around} {E : Value → Shared → Prop} {s : Shared}
theorem codeG_call_fn {R : Result → Shared → Prop} {a : Addr} {o : Obj} {fd : FuncData} {body : List Stmt} {args : Args}
    (hroom : A.depth < recursionLimit) (ho : s.heap.get? a = some o) (hdata : o.data = .func fd) (hcd : s.heap.CodeRec fd.code fd.qualname) (hbody : fd.body = .stmts body)
    (h : wpAny (model prog w) A.in1 (bindArgs fd args) (fun binds s₁ =>
      wpAny (model prog w) A.in1 (newFunctionEnv fd.scope fd.globals fd.closure binds (fd.qualname ++ ".<locals>.") (some a) fd.code none fd.builtins)
        (fun env s₂ => s₂.heap.NoLimit ∧ codeG (model prog w) A (.func body env) R s₂) (fun e s' => R (.error e) s') s₁) (fun e s' => R (.error e) s') s)
    (hco : fd.scope.isCoroutine = false := by rfl) (hgen : fd.scope.isGenerator = false := by rfl) : codeG (model prog w) A (.call (.ref a) args) R s := by
  refine codeG_of_tree cln_call (wpG_of ?_)
  show wpAny _ A.in1 (callAny (.ref a) args) _ _ s
  simp only [callAny]
  refine wpAny_bind (wpAny_load ho ?_)
  obtain ⟨c, oc, vs, tq, hc, hoc, hdc, hq⟩ := hcd
  simp only [hdata, callFunction, hco, hgen, hbody, hc]
  rw [hc] at h
  refine wpAny_bind (m := field (.ref c) 1) (wpAny_field hoc hdc hq (wpAny_bind (wpAny_pure ?_)))
  exact wpAny_bind (wpAny_mono h (fun binds s₁ h₁ => wpAny_bind (wpAny_mono h₁ (fun env s₂ h₂ => wpAny_bind (wpAny_enterFrame h₂.1 hroom
    (wpAny_pure (And.intro rfl h₂.2)))) fun _ _ h' => h')) fun _ _ h' => h')
theorem cln_expr {e env} : Cln (.expr e env) := fun _ _ e => nomatch e
theorem codeG_expr {e : Expr} {env : Env} {R : Result → Shared → Prop}
    (h : wpG (model prog w) (A.deeper env) (eval e env) (fun v s' => R (.ok (.ret v)) s')
      (fun e' s' => wpAny (model prog w) (A.deeper env) (leaving env e') (fun _ s'' => R (.error e') s'') (fun e'' s'' => R (.error e'') s'') s') s) :
    codeG (model prog w) A (.expr e env) R s := by
  refine codeG_of_tree cln_expr ?_
  show wpG _ (A.deeper env) (do point; ret (← (eval e env).onRaise (leaving env))) _ _ s
  exact wpG_bind (wpG_point (wpG_bind (wpG_onRaise (wpG_mono h (fun v s' h' => wpG_pure h') fun _ _ h' => wpG_of h'))))
theorem codeG_call_lam {R : Result → Shared → Prop} {a : Addr} {o : Obj} {fd : FuncData} {body : Expr} {args : Args}
    (hroom : A.depth < recursionLimit) (ho : s.heap.get? a = some o) (hdata : o.data = .func fd) (hcd : s.heap.CodeRec fd.code fd.qualname) (hbody : fd.body = .expr body)
    (h : wpAny (model prog w) A.in1 (bindArgs fd args) (fun binds s₁ =>
      wpAny (model prog w) A.in1 (newFunctionEnv fd.scope fd.globals fd.closure binds (fd.qualname ++ ".<locals>.") (some a) fd.code none fd.builtins)
        (fun env s₂ => s₂.heap.NoLimit ∧ codeG (model prog w) A (.expr body env) R s₂) (fun e s' => R (.error e) s') s₁) (fun e s' => R (.error e) s') s)
    (hco : fd.scope.isCoroutine = false) (hgen : fd.scope.isGenerator = false) : codeG (model prog w) A (.call (.ref a) args) R s := by
  refine codeG_of_tree cln_call (wpG_of ?_)
  show wpAny _ A.in1 (callAny (.ref a) args) _ _ s
  simp only [callAny]
  refine wpAny_bind (wpAny_load ho ?_)
  obtain ⟨c, oc, vs, tq, hc, hoc, hdc, hq⟩ := hcd
  simp only [hdata, callFunction, hco, hgen, hbody, hc]
  rw [hc] at h
  refine wpAny_bind (m := field (.ref c) 1) (wpAny_field hoc hdc hq (wpAny_bind (wpAny_pure ?_)))
  exact wpAny_bind (wpAny_mono h (fun binds s₁ h₁ => wpAny_bind (wpAny_mono h₁ (fun env s₂ h₂ => wpAny_bind (wpAny_enterFrame h₂.1 hroom
    (wpAny_pure (And.intro rfl h₂.2)))) fun _ _ h' => h')) fun _ _ h' => h')
end

section
variable {g : Gl} {fc : FC} {G G₀ : Heap} {ρ ρ₀ : List Addr} {s : Shared} {a : AS} {n : Nat} {sc : Scope}
/-- what stands in the frame of a lambda -/
theorem Rel.enter {m : PStr → Option Value} (hr : Rel g fc G a ρ s) (h1 : s.heap.Ns fc.L m) {h₁ : Heap} {tk : Nat} {L' : Addr} {env' : Env} {cix : List (PStr × Nat)} {m' : PStr → Option Value} {ml : List (PStr × D)}
    (hL : s.heap.objs.size ≤ L') (hk₁ : s.heap.StaysIn h₁) (hns : h₁.Ns L' m') (hm : ∀ x d, ml.lookup x = some d → ∃ v, m' x = some v ∧ VR G ρ d v)
    (hcix : ∀ x k, cix.lookup x = some k → ∃ c, env'.cells.lookup x = some c ∧ ρ[k]? = some c) : Rel g (inner fc env' L' cix m) G ⟨ml, a.σ⟩ ρ { s with heap := h₁, toks := tk } := by
  have hnew : s.heap.get? L' = none := Heap.get?_none_of_le hL
  refine ⟨hr.bg, fun b o e => hk₁ b o (hr.gs b o e), fun x hx => ?_, List.nodup_cons.mpr ⟨fun hmem => ?_, hr.nodup⟩, ⟨_, hns, hm⟩, hr.st.keep (fun _ _ q => q) (List.prefix_refl _) (fun c _ o q => hk₁ _ _ q),
      fun P hP => (hr.tabs P hP).keep (fun _ _ q => q) (fun o q => hk₁ _ _ q), fun f hf => ?_, hcix, hr.sh⟩
  · rcases List.mem_cons.mp hx with rfl | hx
    · cases q : G.get? x with
      | none => rfl
      | some o => have := hr.gs _ _ q; rw [hnew] at this; cases this
    · exact hr.hidden x hx
  · obtain ⟨o, ho⟩ := hr.alive _ hmem
    rw [hnew] at ho
    cases ho
  · rcases List.mem_cons.mp hf with rfl | hf
    · exact ns_keep (fun o q => hk₁ _ _ q) h1
    · exact ns_keep (fun o q => hk₁ _ _ q) (hr.outs f hf)

theorem ClR.lookup {ρ : List Addr} : ∀ {cl : List (PStr × Nat)} {clos : List (PStr × Addr)}, ClR ρ cl clos → ∀ x k, cl.lookup x = some k → ∃ c, clos.lookup x = some c ∧ ρ[k]? = some c
  | _, _, .nil, x, k, e => by cases e
  | _, _, .cons (x := y) (k := j) hj r, x, k, e => by
    rw [List.lookup_cons] at e
    cases hq : x == y with
    | true => rw [hq] at e; cases e; exact ⟨_, by rw [List.lookup_cons, hq], hj⟩
    | false =>
      rw [hq] at e
      obtain ⟨c, h1, h2⟩ := r.lookup x k e
      exact ⟨c, by rw [List.lookup_cons, hq]; exact h1, h2⟩

/-- the call of a lambda without parameters -/
theorem callG_lam {params : Arguments} {body : Expr} {scope : Scope} {qual : PStr} {cl : List (PStr × Nat)} {Q : D → AS → Prop} {R : AS → Prop} (g' : g.Ok) (ok : fc.Ok n)
    (hb : ∀ name clos pm c ct, bindArgs (kla_fn name qual params body scope clos pm c ct) ⟨[], []⟩ = pure []) (hcell : ∀ x ∈ scope.names, x.2 ≠ .cell)
    (h : ∀ fc' : FC, fc'.Ok (n + 1) → fc'.env.scope = scope → fc'.cix = cl → AG VR g fc' (eval body fc'.env) (fun d a' => Q d ⟨a.m, a'.σ⟩) (fun a' => R ⟨a.m, a'.σ⟩) ⟨[], a.σ⟩)
    (hn : n ≤ 200 := by first | exact nup (by with_reducible assumption) (by rfl) | exact nup0 (by with_reducible assumption) (by rfl) | exact nupp (by with_reducible assumption) (by rfl) | omega) (hco : scope.isCoroutine = false := by rfl) (hgen : scope.isGenerator = false := by rfl) (hk : scope.kind = .function := by rfl) : CallAtG g fc (.lam params body scope qual cl) [] Q R a := by
  refine .mk fun G ρ s vf vs hr hvf hvs => ?_
  cases hvs
  cases hvf with
  | lam H =>
    rename_i f
    obtain ⟨name, pm, c', ctv, clos, hf, hcode, hcl⟩ := H
    have X := hr.K g'
    obtain ⟨m, h1, h2⟩ := hr.ns
    refine wpG_call (codeG_call_lam (fd := kla_fn name qual params body scope clos pm (.ref c') ctv) (body := body) (by have := ok.depth; show _ < 1000; omega) (hr.gs _ _ hf) rfl (codeRec_stays hr.gs hcode) rfl ?_ hco hgen)
    rw [hb]
    refine wpAny_pure (wpAny_newFunctionEnv hcell (fun x hx => nomatch hx) (fun h₁ hns hsb => ⟨((hr.top g').nolimit).fresh _ hsb, ?_⟩) hk)
    have hk₁ : s.heap.StaysIn h₁ := fun b o e => hsb.extBut b o (Nat.ne_of_lt (Heap.lt_size e)) (Heap.get?_push_of_some _ e)
    let env' : Env := envX qual scope s.heap.objs.size f (.ref c') clos
    have ok' : (inner fc env' s.heap.objs.size cl m).Ok (n + 1) := inner_ok ok rfl rfl rfl rfl hk
    have hr' : Rel g (inner fc env' s.heap.objs.size cl m) G ⟨[], a.σ⟩ ρ { s with heap := h₁ } := hr.enter (tk := s.toks) h1 (Nat.le_refl _) hk₁ hns (fun x d e => nomatch e) hcl.lookup
    refine codeG_expr (wpG_mono ((h _ ok' rfl rfl).run G ρ _ hr') (fun v s' ⟨G₁, ρ₁, a₁, d, st₁, r₁, hv₁, q₁⟩ => ?_) (fun e s' ⟨G₁, ρ₁, a₁, st₁, x₁, q₁⟩ => ?_))
    · exact ⟨G₁, ρ₁, _, _, st₁, hr.out h2 st₁ r₁, hv₁, q₁⟩
    · exact leave_exc ok rfl hr h2 st₁ x₁ fun s'' x₂ => ⟨G₁, ρ₁, _, st₁, x₂, q₁⟩

/-- cells of a new frame -/
theorem SR.app {G : Heap} {ρ₀ : List Addr} {h : Heap} : ∀ {ρ ρ₂ : List Addr} {σ σ₂ : List AObj}, SR G ρ₀ h ρ σ → SR G ρ₀ h ρ₂ σ₂ → SR G ρ₀ h (ρ ++ ρ₂) (σ ++ σ₂)
  | _, _, _, _, .nil, r => r
  | _, _, _, _, .cons h1 h2 r', r => .cons h1 h2 (SR.app r' r)
theorem zipIdx_lookup {cs : List (PStr × Addr)} : ∀ (j : Nat) (x : PStr) (k : Nat), ((cs.map (·.1)).zipIdx j).lookup x = some k → ∃ c, cs.lookup x = some c ∧ j ≤ k ∧ (cs.map (·.2))[k - j]? = some c := by
  induction cs with
  | nil => intro j x k e; simp at e
  | cons q cs ih =>
    intro j x k e
    obtain ⟨y, c⟩ := q
    rw [List.map_cons, List.zipIdx_cons, List.lookup_cons] at e
    rw [List.lookup_cons]
    cases hq : x == y with
    | true => rw [hq] at e; cases e; exact ⟨c, rfl, Nat.le_refl _, by simp⟩
    | false =>
      rw [hq] at e
      obtain ⟨c', e1, e2, e3⟩ := ih (j + 1) x k e
      refine ⟨c', e1, by omega, ?_⟩
      rw [show k - j = (k - (j + 1)) + 1 by omega]
      simpa using e3

theorem Rel.enterC {m : PStr → Option Value} (hr : Rel g fc G a ρ s) (h1 : s.heap.Ns fc.L m) {h₁ : Heap} {tk : Nat} {L' : Addr} {env' : Env} {m' : PStr → Option Value} {ml : List (PStr × D)} {cs : List (PStr × Addr)} {cd : List AObj}
    (hL : s.heap.objs.size ≤ L') (hk₁ : s.heap.StaysIn h₁) (hns : h₁.Ns L' m') (hm : ∀ x d, ml.lookup x = some d → ∃ v, m' x = some v ∧ VR G ρ d v) (henv : env'.cells = cs)
    (hnd : (cs.map (·.2)).Nodup) (hab : ∀ c ∈ cs.map (·.2), L' < c) (hst : SR G ρ h₁ (cs.map (·.2)) cd) :
    Rel g (inner fc env' L' ((cs.map (·.1)).zipIdx a.σ.length) m) G ⟨ml, a.σ ++ cd⟩ (ρ ++ cs.map (·.2)) { s with heap := h₁, toks := tk } ∧ Step G ρ G (ρ ++ cs.map (·.2)) := by
  have hnew : ∀ b, L' ≤ b → s.heap.get? b = none := fun b hb => Heap.get?_none_of_le (Nat.le_trans hL hb)
  have hG : ∀ b, L' ≤ b → G.get? b = none := fun b hb => by
    cases q : G.get? b with
    | none => rfl
    | some o => have := hr.gs _ _ q; rw [hnew b hb] at this; cases this
  have hold : ∀ b, b ∈ hid fc ρ → b < L' := fun b hb => Nat.lt_of_lt_of_le (hr.lt b hb) hL
  have hpre : ρ <+: ρ ++ cs.map (·.2) := List.prefix_append _ _
  have e : hid (inner fc env' L' ((cs.map (·.1)).zipIdx a.σ.length) m) (ρ ++ cs.map (·.2)) = L' :: (hid fc ρ ++ cs.map (·.2)) := by
    unfold hid
    simp
  refine ⟨⟨hr.bg, fun b o q => hk₁ b o (hr.gs b o q), fun x hx => ?_, ?_, ⟨_, hns, fun x d q => let ⟨v, e1, e2⟩ := hm x d q; ⟨v, e1, e2.mono (fun _ _ q => q) hpre⟩⟩,
    (hr.st.keep (fun _ _ q => q) hpre (fun c _ o q => hk₁ _ _ q)).app (hst.keep (fun _ _ q => q) hpre (fun c _ o q => q)),
      fun P hP => (hr.tabs P hP).keep (fun _ _ q => q) (fun o q => hk₁ _ _ q), fun f hf => ?_, fun x k q => ?_, hr.sh⟩, fun _ _ q => q, hpre⟩
  · rw [e] at hx
    rcases List.mem_cons.mp hx with rfl | hx
    · exact hG x (Nat.le_refl _)
    · rcases List.mem_append.mp hx with hx | hx
      · exact hr.hidden x hx
      · exact hG x (Nat.le_of_lt (hab x hx))
  · rw [e, List.nodup_cons, List.nodup_append]
    refine ⟨fun hmem => ?_, hr.nodup, hnd, fun b hb c hc q => ?_⟩
    · rcases List.mem_append.mp hmem with hmem | hmem
      · exact Nat.lt_irrefl _ (hold _ hmem)
      · exact Nat.lt_irrefl _ (hab _ hmem)
    · exact Nat.lt_irrefl _ (Nat.lt_trans (hold b hb) (q ▸ hab c hc))
  · rcases List.mem_cons.mp hf with rfl | hf
    · exact ns_keep (fun o q => hk₁ _ _ q) h1
    · exact ns_keep (fun o q => hk₁ _ _ q) (hr.outs f hf)
  · obtain ⟨c, e1, e2, e3⟩ := zipIdx_lookup _ x k q
    refine ⟨c, by rw [henv]; exact e1, ?_⟩
    rw [← hr.st.length] at e2 e3
    rw [List.getElem?_append_right e2]
    exact e3
end
end Mine

end
section
namespace Mine
open PySem PySem.W PySem.Spec PySem.Calls PyProof.Rows

noncomputable def bindLD (k : PStr → Option NameKind) : List (PStr × D) → List (PStr × D) → List (PStr × D)
  | [], m => m
  | (x, v) :: r, m => bindLD k r (if k x = some .local then (x, v) :: m else m)
noncomputable def bindCD (k : PStr → Option NameKind) : List (PStr × D) → List (PStr × D) → List (PStr × D)
  | [], m => m
  | (x, v) :: r, m => bindCD k r (if k x = some .local then m else (x, v) :: m)
noncomputable def Mat (G : Heap) (ρ : List Addr) (md : List (PStr × D)) (m : PStr → Option Value) : Prop := ∀ x, match md.lookup x with | some d => ∃ v, m x = some v ∧ VR G ρ d v | none => m x = none
section
variable {G : Heap} {ρ : List Addr} {k : PStr → Option NameKind}
theorem Mat.nil : Mat G ρ [] fun _ => none := fun x => rfl
theorem Mat.cons {md m x d v} (h : Mat G ρ md m) (hv : VR G ρ d v) : Mat G ρ ((x, d) :: md) (fun y => if y = x then some v else m y) := fun y => by
  rw [List.lookup_cons]
  cases hq : y == x with
  | true => exact ⟨v, by show (if y = x then some v else m y) = some v; rw [if_pos (eq_of_beq hq)], hv⟩
  | false =>
    have := h y
    dsimp only
    rw [if_neg (fun q => by rw [q] at hq; simp at hq)]
    exact this
theorem Mat.get {md m} (h : Mat G ρ md m) {x d} (e : md.lookup x = some d) : ∃ v, m x = some v ∧ VR G ρ d v := by
  have := h x
  rw [e] at this
  exact this
theorem bindL_rel : ∀ {names : List PStr} {ds : List D} {vs : List Value} {md m}, VRs G ρ ds vs → Mat G ρ md m → Mat G ρ (bindLD k (names.zip ds) md) (bindL k (names.zip vs) m)
  | [], _, _, _, _, _, h => by simpa [bindLD, bindL] using h
  | _ :: _, _, _, _, _, .nil, h => by simpa [bindLD, bindL] using h
  | x :: names, _, _, md, m, .cons hv t, h => by
    rw [List.zip_cons_cons, List.zip_cons_cons]
    unfold bindLD bindL
    split
    · exact bindL_rel t (h.cons hv)
    · exact bindL_rel t h
theorem bindC_rel : ∀ {names : List PStr} {ds : List D} {vs : List Value} {md m}, VRs G ρ ds vs → Mat G ρ md m → Mat G ρ (bindCD k (names.zip ds) md) (bindC k (names.zip vs) m)
  | [], _, _, _, _, _, h => by simpa [bindCD, bindC] using h
  | _ :: _, _, _, _, _, .nil, h => by simpa [bindCD, bindC] using h
  | x :: names, _, _, md, m, .cons hv t, h => by
    rw [List.zip_cons_cons, List.zip_cons_cons]
    unfold bindCD bindC
    split
    · exact bindC_rel t h
    · exact bindC_rel t (h.cons hv)
theorem lookup_some_of_mem {l : List (PStr × Addr)} {x : PStr} (h : x ∈ l.map (·.1)) : (l.lookup x).isSome = true := by
  induction l with
  | nil => cases h
  | cons q l ih =>
    obtain ⟨y, c⟩ := q
    rw [List.lookup_cons]
    cases hq : x == y with
    | true => rfl
    | false =>
      rcases List.mem_cons.mp h with e | h
      · rw [e] at hq; simp at hq
      · exact ih h
theorem cells_sr {h : Heap} {cm : PStr → Option Value} {md : List (PStr × D)} (hM : Mat G ρ md cm) : ∀ {cs : List (PStr × Addr)}, (∀ x c, (x, c) ∈ cs → h.IsCell c (cm x)) → SR G ρ h (cs.map (·.2)) ((cs.map (·.1)).map fun x => .cell (md.lookup x))
  | [], _ => .nil
  | (x, c) :: cs, hc => by
    obtain ⟨o, ho, hd⟩ := hc x c (.head _)
    refine .cons ho ?_ (cells_sr hM fun y c' hm => hc y c' (.tail _ hm))
    have := hM x
    cases q : md.lookup x with
    | none => rw [q] at this; rw [this] at hd; show OR G ρ (.cell (md.lookup x)) o; rw [q]; exact .cellN hd
    | some d =>
      rw [q] at this
      obtain ⟨v, e1, e2⟩ := this
      rw [e1] at hd
      show OR G ρ (.cell (md.lookup x)) o
      rw [q]
      exact .cellS e2 hd
end

section
variable {g : Gl} {fc : FC} {G G₀ : Heap} {ρ ρ₀ : List Addr} {s : Shared} {a : AS} {n : Nat} {sc : Scope}
/-- the call of a def whose names are captured -/
theorem callG_defC {name qual : PStr} {params : Arguments} {body : List Stmt} {scope : Scope} {dV kV doc pm cdv ct oc : Value} {an od : Option Addr} {osl : Array (Option Value)} {f : Addr} {names : List PStr} {ds : List D} {Q : D → AS → Prop} {R : AS → Prop} (cn : List PStr)
    (g' : g.Ok) (ok : fc.Ok n) (ho : (Hd.hd.heap_1 g.w.params).lookup f = some ⟨oc, od, .func (fnOf name qual params body scope dV kV doc pm an cdv ct), osl⟩) (hcd : codeIn (Hd.hd.heap_1 g.w.params) cdv qual = true)
    (hb : ∀ vs : List Value, vs.length = ds.length → bindArgs (fnOf name qual params body scope dV kV doc pm an cdv ct) ⟨vs, []⟩ = pure (names.zip vs))
    (hcn : (cellsFrom 0 scope.names []).map (·.1) = cn) (hnd : cn.Nodup)
    (hkind : ∀ x ∈ names, scope.names.lookup x = some .local ∨ (scope.names.lookup x = some .cell ∧ x ∈ cn))
    (h : ∀ fc' : FC, fc'.Ok (n + 1) → fc'.env.scope = scope → fc'.env.code = cdv → fc'.env.qual = qual ++ ".<locals>." → fc'.cix = cn.zipIdx a.σ.length →
      AG VF g fc' (execs body fc'.env) (fun fl a' => Q (match fl with | .ret d => d | _ => .none) ⟨a.m, a'.σ⟩) (fun a' => R ⟨a.m, a'.σ⟩)
        ⟨bindLD (fun x => scope.names.lookup x) (names.zip ds) [], a.σ ++ cn.map fun x => .cell ((bindCD (fun x => scope.names.lookup x) (names.zip ds) []).lookup x)⟩)
    (hn : n ≤ 200 := by first | exact nup (by with_reducible assumption) (by rfl) | exact nup0 (by with_reducible assumption) (by rfl) | exact nupp (by with_reducible assumption) (by rfl) | omega) (hco : scope.isCoroutine = false := by rfl) (hgen : scope.isGenerator = false := by rfl) (hk : scope.kind = .function := by rfl) : CallAtG g fc (.glob (.ref f)) ds Q R a := by
  refine .mk fun G ρ s vf vs hr hvf hvs => ?_
  cases hvf
  have X := hr.K g'
  obtain ⟨m, h1, h2⟩ := hr.ns
  have hcn' : ∀ n, (cellsFrom n scope.names []).map (·.1) = cn := fun n => (cellsFrom_names scope.names n 0 [] [] rfl).trans hcn
  refine wpG_call (codeG_call_fn (fd := fnOf name qual params body scope dV kV doc pm an cdv ct) (body := body) (by have := ok.depth; show _ < 1000; omega) (X _ _ ho) rfl (codeRec_of X hcd) rfl ?_ hco hgen)
  rw [hb vs hvs.length]
  refine wpAny_pure (wpAny_newFunctionEnv_cells hk (fun x hx => ?_) fun env' he s' x => ?_)
  · rcases hkind x.1 (List.of_mem_zip (a := x.1) (b := x.2) hx).1 with h | ⟨h, hm⟩
    · exact .inl h
    · exact .inr ⟨h, lookup_some_of_mem (by rw [hcn']; exact hm)⟩
  · subst he
    refine ⟨(hr.top g').nolimit.keeps x.toInCall.keep, ?_⟩
    obtain ⟨h₁, tk, rfl, _⟩ := x.done
    have hk₁ : s.heap.StaysIn h₁ := x.toInCall.keep
    let cs := cellsFrom (s.heap.objs.size + 1) scope.names []
    let env' : Env := envX qual scope s.heap.objs.size f cdv cs
    have hcs : cs.map (·.1) = cn := hcn' _
    have hM := bindL_rel (k := fun y => scope.names.lookup y) (names := names) hvs (Mat.nil (G := G) (ρ := ρ))
    have hC := bindC_rel (k := fun y => scope.names.lookup y) (names := names) hvs (Mat.nil (G := G) (ρ := ρ))
    have hst : SR G ρ h₁ (cs.map (·.2)) ((cs.map (·.1)).map fun x => .cell ((bindCD (fun y => scope.names.lookup y) (names.zip ds) []).lookup x)) :=
      cells_sr hC fun y c hm => x.cell y c (lookup_of_mem_nodup (by show (cs.map (·.1)).Nodup; rw [hcs]; exact hnd) hm)
    have hnda : (cs.map (·.2)).Nodup := by
      have := x.apart
      rw [List.Nodup, List.pairwise_map]
      exact this
    have z := hr.enterC (fc := fc) (m := m) (env' := env') (cs := cs) (ml := bindLD (fun y => scope.names.lookup y) (names.zip ds) []) (tk := tk) h1 (Nat.le_refl _) hk₁ x.toInCall.ns (fun y d e => hM.get e) rfl hnda (fun c hm => by
      obtain ⟨q, hq, rfl⟩ := List.mem_map.mp hm
      exact x.above q.1 q.2 hq) hst
    rw [hcs] at z
    obtain ⟨hr', st'⟩ := z
    have ok' : (inner fc env' s.heap.objs.size (cn.zipIdx a.σ.length) m).Ok (n + 1) := inner_ok ok rfl rfl rfl rfl hk
    refine codeG_func (wpG_mono ((h _ ok' rfl rfl rfl rfl).run G _ _ hr') (fun fl s' ⟨G₁, ρ₁, a₁, d, st₁, r₁, hv₁, q₁⟩ => ?_) (fun e s' ⟨G₁, ρ₁, a₁, st₁, x₁, q₁⟩ => ?_))
    · have st₂ := st'.trans st₁
      cases hv₁ with
      | ret hv => exact ⟨G₁, ρ₁, _, _, st₂, hr.out h2 st₂ r₁, hv, q₁⟩
      | next => exact ⟨G₁, ρ₁, _, _, st₂, hr.out h2 st₂ r₁, .none, q₁⟩
      | brk => exact ⟨G₁, ρ₁, _, _, st₂, hr.out h2 st₂ r₁, .none, q₁⟩
      | cont => exact ⟨G₁, ρ₁, _, _, st₂, hr.out h2 st₂ r₁, .none, q₁⟩
    · have st₂ := st'.trans st₁
      exact leave_exc ok rfl hr h2 st₂ x₁ fun s'' x₂ => ⟨G₁, ρ₁, _, st₂, x₂, q₁⟩
end
end Mine

end
section
namespace Mine
open PySem PySem.W PySem.Spec PySem.Calls PyProof.Rows

theorem codeAmong_snoc' {p q : Pos} {c v : Value} : ∀ (l : List Value), TriplesOk l → codeAmong q (l ++ [rawInt p.line, rawInt p.col, c]) = some v → codeAmong q l = some v ∨ v = c
  | [], _, h => by
    unfold codeAmong rawInt at h
    simp only [List.nil_append] at h
    split at h
    · cases h; exact .inr rfl
    · cases h
  | .int line _ :: .int col _ :: d :: rest, ht, h => by
    unfold codeAmong
    rw [List.cons_append, List.cons_append, List.cons_append] at h
    unfold codeAmong at h
    split at h
    · rename_i e
      rw [if_pos e]
      exact .inl h
    · rename_i e
      rw [if_neg e]
      exact codeAmong_snoc' rest ht h

section
variable {g : Gl} {fc : FC} {G G₀ : Heap} {ρ ρ₀ : List Addr} {s : Shared} {a : AS} {R : AS → Prop} {n : Nat} {sc : Scope}
/-- a table of codes grows -/
theorem Rel.tab (hr : Rel g fc G a ρ s) {h' : Heap} {t : Nat} {P : Addr} (hP : P ∈ tabPs) (hx : Heap.ExtBut P s.heap h') (ht : TabOk (frz fc ρ h') h' P) :
    Rel g fc (frz fc ρ h') a ρ { s with heap := h', toks := t } ∧ Step G ρ (frz fc ρ h') ρ := by
  have nd := hr.nodup
  unfold hid at nd
  have nd1 := List.nodup_cons.mp nd
  have nd2 := List.nodup_append.mp nd1.2
  have nd3 := List.nodup_append.mp nd2.2.1
  have hPh : P ∈ hid fc ρ := List.mem_cons_of_mem _ (List.mem_append_right _ (List.mem_append_left _ hP))
  have st : G.StaysIn (frz fc ρ h') := hr.frz_step fun b o nb e => hx b o (fun q => nb (by rw [q]; exact hPh)) e
  have nL : fc.L ≠ P := fun q => nd1.1 (by rw [q]; exact List.mem_append_right _ (List.mem_append_left _ hP))
  refine ⟨⟨fun b o e => st b o (hr.bg b o e), fun b o e => of_hideAll _ e, fun x hx => hideAll_none _ hx, hr.nodup, ?_, hr.st.keep st (List.prefix_refl _) (fun c hc o e => hx c o (fun q => nd3.2.2 P hP c hc q.symm) e),
    fun P' hP' => ?_, fun f hf => ns_keep (fun o e => hx f.L o (fun q => nd2.2.2 f.L (List.mem_map_of_mem hf) P (List.mem_append_left _ hP) q) e) (hr.outs f hf), hr.cix, hr.sh⟩, st, List.prefix_refl _⟩
  · obtain ⟨m, h1, h2⟩ := hr.ns
    exact ⟨m, ns_keep (fun o e => hx fc.L o nL e) h1, fun x d e => let ⟨v, e1, e2⟩ := h2 x d e; ⟨v, e1, e2.mono st (List.prefix_refl _)⟩⟩
  · by_cases q : P' = P
    · rw [q]; exact ht
    · exact (hr.tabs P' hP').keep st (fun o e => hx P' o q e)

theorem a_Lambda {params : Arguments} {body : Expr} {scope : Scope} {pos : Pos} {cl : List (PStr × Nat)} {c P : Addr} {Q : D → AS → Prop} (g' : g.Ok) (ok : fc.Ok n) (hcode : fc.env.code = .ref c) (hC : CodeHd g.B c P) (hP : P ∈ tabPs)
    (hqual : fc.env.qual ++ "<lambda>" = qualOf P) (hcl : ∀ G ρ s, Rel g fc G a ρ s → ∃ clos, closureFor scope fc.env = pure clos ∧ ClR ρ cl clos) (hdef : defaultsOf params fc.env = ([], []))
    (h : Q (.lam params body scope (qualOf P) cl) a) : AW VR g fc (eval (.Lambda params body scope pos) fc.env) Q R a := .mk fun G ρ s hr => by
  obtain ⟨clos, hclos, hclr⟩ := hcl G ρ s hr
  obtain ⟨ps, hps, htr, hcodes⟩ := hr.tabs P hP
  have T := hr.top g'
  obtain ⟨bm, ob, b1, b2, b3, b4, b5, b6⟩ := T.bmain
  have hgP : mainGlobals ≠ P := fun q => by
    obtain ⟨o, es, ep, e, hd, _⟩ := T.g
    rw [q, hps] at e; cases e; cases hd
  have hbP : bm ≠ P := fun q => by
    rw [q, hps] at b3; cases b3; cases b4
  have hbG : bm ≠ mainGlobals := fun q => by
    obtain ⟨o, es, ep, e, hd, _⟩ := T.g
    rw [q, e] at b3; cases b3; rw [hd] at b6; cases b6
  refine kla_eval hdef ?_
  rw [hqual]
  have Cs : CodeHd s.heap c P := hC.keeps hr.bs
  have fin : ∀ (h' : Heap) (tk : Nat) (c' : Addr) (ctv : Value) (r : Rel g fc (frz fc ρ h') a ρ { s with heap := h', toks := tk } ∧ Step G ρ (frz fc ρ h') ρ), (frz fc ρ h').CodeRec (.ref c') (qualOf P) →
      PV VR g fc G ρ Q (.ref h'.objs.size) { s with heap := h'.push (kla_obj "<lambda>" (qualOf P) params body scope clos ((g.mg "__name__").getD .none) c' ctv), toks := tk } := fun h' tk c' ctv r hrec => by
    have z := pv_push (Q := Q) (d := .lam params body scope (qualOf P) cl) (o := kla_obj "<lambda>" (qualOf P) params body scope clos ((g.mg "__name__").getD .none) c' ctv) r.1 rfl
      (fun G'' k e => .lam ⟨_, _, c', ctv, clos, e, codeRec_stays k hrec, hclr⟩) h
    exact z.up r.2
  cases hca : codeAmong pos ps.toList with
  | some v =>
    obtain ⟨⟨c', rfl⟩, hrec⟩ := hcodes pos v hca
    refine kla_makeFunctionHit (mg := g.mg) hclos ok.gl T.g hcode Cs hps htr hca ⟨bm, ob, b1, b2, hbG, hbP, b3, b4, b5, b6⟩ fun ctv h' tk hk hsz => ?_
    have r := hr.ext (t := tk) hk
    exact fin h' tk c' ctv r (codeRec_stays r.2.1 hrec)
  | none =>
    refine kla_makeFunction (mg := g.mg) hclos ok.gl T.g hcode Cs hps htr hca hgP ⟨bm, ob, b1, b2, hbG, hbP, b3, b4, b5, b6⟩ fun c' ctv h' tk hx hge hlt hrec htb => ?_
    have hPh : P ∈ hid fc ρ := List.mem_cons_of_mem _ (List.mem_append_right _ (List.mem_append_left _ hP))
    have st : G.StaysIn (frz fc ρ h') := hr.frz_step fun b o nb e => hx b o (fun q => nb (by rw [q]; exact hPh)) e
    have hrec' : (frz fc ρ h').CodeRec (.ref c') (qualOf P) := by
      obtain ⟨c₂, oc, vs, tq, e2, hoc, hd, hv⟩ := hrec
      cases e2
      exact ⟨c', oc, vs, tq, rfl, hideAll_get _ hoc fun hm => absurd (hr.lt c' hm) (Nat.not_lt.mpr hge), hd, hv⟩
    have r := hr.tab (t := tk) hP hx ⟨_, htb, by rw [Array.toList_append]; exact TriplesOk_snoc _ _ _ _ htr, fun q v e => ?_⟩
    · exact fin h' tk c' ctv r hrec'
    · rw [Array.toList_append] at e
      rcases codeAmong_snoc' _ htr e with e | rfl
      · exact ⟨(hcodes q v e).1, codeRec_stays st (hcodes q v e).2⟩
      · exact ⟨⟨_, rfl⟩, hrec'⟩

theorem clo1 {x y : PStr} {k : Nat} {sc' : Scope} (hs : sc'.names = [(x, .free), (y, .globalImplicit)]) (hx : fc.cix.lookup x = some k) : ∀ G ρ s, Rel g fc G a ρ s → ∃ clos, closureFor sc' fc.env = pure clos ∧ ClR ρ [(x, k)] clos := fun G ρ s hr => by
  obtain ⟨c, h1, h2⟩ := hr.cix x k hx
  refine ⟨[(x, c)], ?_, .cons h2 .nil⟩
  unfold closureFor
  rw [hs]
  simp only [List.forIn_cons, List.forIn_nil]
  have : cellOf fc.env x = pure c := by unfold cellOf; rw [h1]
  simp only [this, show (NameKind.free == NameKind.free) = true from rfl, show (NameKind.globalImplicit == NameKind.free) = false from rfl, if_true, Bool.false_eq_true, if_false, pure_bind]
theorem clo2 {x y u w : PStr} {k j : Nat} {sc' : Scope} (hs : sc'.names = [(x, .free), (y, .free), (u, .globalImplicit), (w, .globalImplicit)]) (hx : fc.cix.lookup x = some k) (hy : fc.cix.lookup y = some j) :
    ∀ G ρ s, Rel g fc G a ρ s → ∃ clos, closureFor sc' fc.env = pure clos ∧ ClR ρ [(y, j), (x, k)] clos := fun G ρ s hr => by
  obtain ⟨c, h1, h2⟩ := hr.cix x k hx
  obtain ⟨c', h1', h2'⟩ := hr.cix y j hy
  refine ⟨[(y, c'), (x, c)], ?_, .cons h2' (.cons h2 .nil)⟩
  unfold closureFor
  rw [hs]
  simp only [List.forIn_cons, List.forIn_nil]
  have e1 : cellOf fc.env x = pure c := by unfold cellOf; rw [h1]
  have e2 : cellOf fc.env y = pure c' := by unfold cellOf; rw [h1']
  simp only [e1, e2, show (NameKind.free == NameKind.free) = true from rfl, show (NameKind.globalImplicit == NameKind.free) = false from rfl, if_true, Bool.false_eq_true, if_false, pure_bind]
end
end Mine

end
section
namespace Mine
open PySem PySem.W PySem.Spec PySem.Calls PyProof.Rows

section
variable {g : Gl} {fc : FC} {G G₀ : Heap} {ρ ρ₀ : List Addr} {s : Shared} {a : AS} {R : AS → Prop} {n : Nat} {sc : Scope}
noncomputable def Stores (g : Gl) (fc : FC) (t : Value → Sem Unit) (x : PStr) : Prop := ∀ v (P : Unit → Shared → Prop) (E : Value → Shared → Prop) (s : Shared), wpAny g.M fc.A (storeName fc.env x v) P E s → wpAny g.M fc.A (t v) P E s
theorem stores_bind {x : PStr} : Stores g fc (fun v => bindName fc.env x v) x := fun v P E s h => bindName_ h
theorem stores_assign {x : PStr} {pos : Pos} : Stores g fc (fun v => assign (.Name x pos) fc.env v) x := fun v P E s h => assign_Name h
inductive StAll (g : Gl) (fc : FC) (sc : Scope) : List (Value → Sem Unit) → List PStr → Prop
  | nil : StAll g fc sc [] []
  | cons {t x ts xs} : Stores g fc t x → sc.names.lookup x = some .local → StAll g fc sc ts xs → StAll g fc sc (t :: ts) (x :: xs)
theorem store_all {ts : List (Value → Sem Unit)} {xs : List PStr} (ht : StAll g fc sc ts xs) (ok : fc.Ok n) (hs : fc.env.scope = sc) : ∀ {ds : List D} {vs : List Value} {G : Heap} {a : AS} {s : Shared} {P : Unit → Shared → Prop} {E : Value → Shared → Prop},
    Rel g fc G a ρ s → VRs G ρ ds vs → xs.length = ds.length → (∀ G' s', Step G ρ G' ρ → Rel g fc G' ⟨(xs.zip ds).reverse ++ a.m, a.σ⟩ ρ s' → P () s') → wpAny g.M fc.A (assignInOrder ts vs) P E s := by
  induction ht with
  | nil =>
    intro ds vs G a s P E hr hv hl h
    cases hv with
    | nil =>
      unfold assignInOrder
      exact wpAny_pure (h G s Step.refl hr)
    | cons _ _ => cases hl
  | cons hst hk _ ih =>
    intro ds vs G a s P E hr hv hl h
    cases hv with
    | nil => cases hl
    | cons hv1 hvr =>
      unfold assignInOrder
      refine wpAny_bind (wpAny_holding (hst _ _ _ _ (setL ok hs hr hv1 (fun G' s' st' r' => ?_) hk)))
      refine ih r' (hvr.step st') (by simpa using hl) fun G'' s'' st'' r'' => h G'' s'' (st'.trans st'') ?_
      simpa using r''

theorem unpack_all {ts : List (Value → Sem Unit)} {xs : List PStr} (ht : StAll g fc sc ts xs) (ok : fc.Ok n) (hs : fc.env.scope = sc) {ds : List D} {v : Value} {P : Unit → Shared → Prop} {E : Value → Shared → Prop}
    (hr : Rel g fc G a ρ s) (hv : VR G ρ (.tup ds) v) (hl : ds.length = xs.length) (k : List Value → List Value) (kd : List D → List D) (hk : ∀ {G ds vs}, VRs G ρ ds vs → VRs G ρ (kd ds) (k vs)) (hkl : ∀ l, (kd l).length = l.length)
    (h : ∀ G' s', Step G ρ G' ρ → Rel g fc G' ⟨(xs.zip (kd ds)).reverse ++ a.m, a.σ⟩ ρ s' → P () s') : wpAny g.M fc.A (unpackItems v xs.length none >>= fun items => assignInOrder ts (k items)) P E s := by
  cases hv with
  | tup hvs hT =>
    have hT' := isTup_stays hr.gs hT
    refine wpAny_bind ?_
    rw [show xs.length = (List.toArray _).size from by rw [List.size_toArray, hvs.length, hl]]
    refine unpackItems_tuple ok.handled hT' fun h' he => ?_
    have z := hr.stay (t := s.toks) (h' := h') fun b o e => he b o (Nat.ne_of_lt (Heap.lt_size e)) e
    exact store_all ht ok hs z (hk hvs) (by rw [hkl, hl]) h

noncomputable abbrev tupK (g : Gl) (fc : FC) (xs : List PStr) (f : List D → List D) (Q : Fl → AS → Prop) : D → AS → Prop := fun d a₁ => ∃ ds, d = .tup ds ∧ ds.length = xs.length ∧ Q .next ⟨(xs.zip (f ds)).reverse ++ a₁.m, a₁.σ⟩

theorem asg_tup {elts : List Expr} {k : Nat} {tpos : Pos} {xs : List PStr} (ht : StAll g fc sc ((assignEach elts fc.env).map (·.2)) xs) (ok : fc.Ok n) (hs : fc.env.scope = sc) {ds : List D} {v : Value} {P : Unit → Shared → Prop} {E : Value → Shared → Prop}
    (hr : Rel g fc G a ρ s) (hv : VR G ρ (.tup ds) v) (hl : ds.length = xs.length) (hn : (assignEach elts fc.env).length = xs.length) (hstar : (assignEach elts fc.env).findIdx? (·.1) = none)
    (h : ∀ G' s', Step G ρ G' ρ → Rel g fc G' ⟨(xs.zip ds).reverse ++ a.m, a.σ⟩ ρ s' → P () s') : wpAny g.M fc.A (assign (.Tuple elts k tpos) fc.env v) P E s := by
  cases hv with
  | tup hvs hT =>
    have hT' := isTup_stays hr.gs hT
    refine assign_Tuple_tuple ok.handled hT' (by rw [hn, List.size_toArray, hvs.length, hl]) hstar fun h' he => ?_
    have z := hr.stay (t := s.toks) (h' := h') fun b o e => he b o (Nat.ne_of_lt (Heap.lt_size e)) e
    exact store_all ht ok hs z hvs hl.symm h

theorem xg_Tup {elts k tpos value pos} {Q : Fl → AS → Prop} (xs : List PStr) (ok : fc.Ok n) (hs : fc.env.scope = sc) (ht : StAll g fc sc ((assignEach elts fc.env).map (·.2)) xs) (h : AG VR g fc (eval value fc.env) (tupK g fc xs id Q) R a)
    (hsw : swapsWithSole [.Tuple elts k tpos] value pos.line fc.env = pure false := by rfl) (hw : swappedStores [.Tuple elts k tpos] value fc.env = pure none := by rfl)
    (hn : (assignEach elts fc.env).length = xs.length := by rfl) (hstar : (assignEach elts fc.env).findIdx? (·.1) = none := by rfl) : AG VF g fc (exec (.Assign [.Tuple elts k tpos] value pos) fc.env) Q R a := .mk fun G ρ s hr => by
  rw [PyProof.Rows.exec_Assign]
  refine wpG_bind (wpG_standAt ?_)
  rw [hsw]
  refine wpG_bind (wpG_pure ?_)
  rw [if_neg (by decide)]
  refine wpG_bind (ag_then h Step.refl hr fun G₁ ρ₁ d a₁ v s₁ _ st₁ r₁ hv ⟨ds, e, hl, q⟩ => wpG_of ?_)
  subst e
  rw [hw]
  refine wpAny_bind (wpAny_pure ?_)
  show wpAny _ _ (assign (.Tuple elts k tpos) fc.env v >>= fun _ => pure Flow.next) _ _ _
  exact wpAny_bind (asg_tup ht ok hs r₁ hv hl hn hstar fun G' s' st' r' => wpAny_pure ⟨G', ρ₁, _, .next, st₁.trans st', r', .next, q⟩)
theorem x_Tup {elts k tpos value pos} {Q : Fl → AS → Prop} (xs : List PStr) (ok : fc.Ok n) (hs : fc.env.scope = sc) (ht : StAll g fc sc ((assignEach elts fc.env).map (·.2)) xs) (h : AW VR g fc (eval value fc.env) (tupK g fc xs id Q) R a)
    (hsw : swapsWithSole [.Tuple elts k tpos] value pos.line fc.env = pure false := by rfl) (hw : swappedStores [.Tuple elts k tpos] value fc.env = pure none := by rfl)
    (hn : (assignEach elts fc.env).length = xs.length := by rfl) (hstar : (assignEach elts fc.env).findIdx? (·.1) = none := by rfl) : AW VF g fc (exec (.Assign [.Tuple elts k tpos] value pos) fc.env) Q R a := .mk fun G ρ s hr =>
  Assign_Tuple (aw_then h Step.refl hr fun G₁ ρ₁ d a₁ v s₁ _ st₁ r₁ hv ⟨ds, e, hl, q⟩ => by
    subst e
    exact asg_tup ht ok hs r₁ hv hl hn hstar fun G' s' st' r' => ⟨G', ρ₁, _, .next, st₁.trans st', r', .next, q⟩) hsw hw
theorem x_TupS {elts k tpos value pos} {Q : Fl → AS → Prop} (xs : List PStr) (ok : fc.Ok n) (hs : fc.env.scope = sc) (ht : StAll g fc sc (xs.reverse.map fun x v => bindName fc.env x v) xs.reverse) (h : AW VR g fc (eval value fc.env) (tupK g fc xs.reverse List.reverse Q) R a)
    (hsw : swapsWithSole [.Tuple elts k tpos] value pos.line fc.env = pure false := by rfl) (hw : swappedStores [.Tuple elts k tpos] value fc.env = pure (some xs) := by rfl) :
    AW VF g fc (exec (.Assign [.Tuple elts k tpos] value pos) fc.env) Q R a := .mk fun G ρ s hr =>
  Assign_Tuple_swapped (aw_then h Step.refl hr fun G₁ ρ₁ d a₁ v s₁ _ st₁ r₁ hv ⟨ds, e, hl, q⟩ => by
    subst e
    cases hv with
    | tup hvs hT =>
      have hT' := isTup_stays r₁.gs hT
      rw [show xs.length = (List.toArray _).size from by rw [List.size_toArray, hvs.length, hl, List.length_reverse]]
      refine unpackItems_tuple ok.handled hT' fun h' he => ?_
      have z := r₁.stay (t := s₁.toks) (h' := h') fun b o e => he b o (Nat.ne_of_lt (Heap.lt_size e)) e
      exact store_all ht ok hs z hvs.reverse (by simp only [List.length_reverse] at hl ⊢; exact hl.symm) fun G' s' st' r' => ⟨G', ρ₁, _, .next, st₁.trans st', r', .next, q⟩) hsw hw

theorem xg_Expr {e pos} {Q : Fl → AS → Prop} (h : AG VR g fc (eval e fc.env) (fun _ a₁ => Q .next a₁) R a) (hi : interactive fc.env = false := by rfl) (hs : swapsWith e none pos.line fc.env = pure false := by rfl) :
    AG VF g fc (exec (.Expr e pos) fc.env) Q R a := .mk fun G ρ s hr => by
  rw [exec_Expr fc.env e pos hi hs]
  exact wpG_bind (wpG_standAt (wpG_bind (ag_then h Step.refl hr fun G₁ ρ₁ d a₁ v s₁ _ st₁ r₁ hv q => wpG_of (wpAny_dropValue ⟨G₁, ρ₁, a₁, .next, st₁, r₁, .next, q⟩))))
theorem xg_Assign {x : PStr} {pos' value pos} {Q : Fl → AS → Prop} (ok : fc.Ok n) (hs : fc.env.scope = sc) (h : AG VR g fc (eval value fc.env) (KAs x Q) R a)
    (hk : sc.names.lookup x = some .local := by rfl) (hsw : swapsWith value (some (.Name x pos')) pos.line fc.env = pure false := by rfl) : AG VF g fc (exec (.Assign [.Name x pos'] value pos) fc.env) Q R a := .mk fun G ρ s hr => by
  rw [exec_Assign_Name fc.env x pos' value pos hsw]
  exact wpG_bind (wpG_standAt (wpG_bind (ag_then h Step.refl hr fun G₁ ρ₁ d₁ a₁ v₁ s₁ _ st₁ r₁ hv₁ q₁ => wpG_of (wpAny_bind (wpAny_standAt (wpAny_bind (bindName_ (setL ok hs r₁ hv₁ (fun G' s' st' r' => wpAny_pure ⟨G', ρ₁, _, .next, st₁.trans st', r', .next, q₁⟩) hk))))))))

theorem tg_Cmp1 {l r op pos whole} {Q : Bool → AS → Prop} (ok : fc.Ok n) (h : AG VR g fc (eval l fc.env) (KRG g fc r (KOb (compareOp op) Q) R) R a) (hn : n ≤ 200 := by first | exact nup (by with_reducible assumption) (by rfl) | exact nup0 (by with_reducible assumption) (by rfl) | exact nupp (by with_reducible assumption) (by rfl) | omega)
    (hm : behindInMarks op r = false := by with_unfolding_all rfl) : AG VB g fc (isTrue (.Compare l [op] [r] pos) fc.env whole) Q R a := .mk fun G ρ s hr => by
  rw [isTrue_Compare1, markedBehindIn_of_false hm]
  refine wpG_bind (ag_then h Step.refl hr fun G₁ ρ₁ d₁ a₁ v₁ s₁ _ st₁ r₁ hv₁ q₁ => ?_)
  refine wpG_bind (wpG_holding (ag_then q₁ st₁ r₁ fun G₂ ρ₂ d₂ a₂ v₂ s₂ st₁₂ st₂ r₂ hv₂ ⟨b, hop, hq⟩ => ?_))
  refine wpG_bind (wpG_standAt (wpG_bind (wpG_operate (wpG_of (hop.run _ _ _ _ _ _ G₂ ρ₂ _ _ ok.ao r₂.gs (hv₁.step st₁₂) hv₂ fun v tk hv => ?_)))))
  cases hv
  exact wpG_of (wpAny_holding (wpAny_truthy_bool ⟨G₂, ρ₂, a₂, b, st₂, r₂.toks, rfl, hq⟩))

noncomputable abbrev KCmG (g : Gl) (fc : FC) (id : String) (d₁ : D) (Q : D → AS → Prop) (R : AS → Prop) : List D → AS → Prop := fun ds a₂ => CallAtG g fc (.glob (.builtin id)) (d₁ :: ds) Q R a₂
noncomputable abbrev KMeG (g : Gl) (fc : FC) (name : PStr) (pos : Pos) (args : List Expr) (Q : D → AS → Prop) (R : AS → Prop) : D → AS → Prop := fun d₁ a₁ =>
  ∃ T id, MethT T name id ∧ IsM g fc d₁ a₁ T ∧ AG VRs g fc (spliced (backTo pos (starEach args fc.env))) (KCmG g fc id d₁ Q R) R a₁
theorem kmeG {g : Gl} {fc : FC} {name : PStr} {pos : Pos} {args : List Expr} {Q : D → AS → Prop} {R : AS → Prop} {d₁ : D} {a : AS} {T id : String} (h : MethT T name id) (hm : IsM g fc d₁ a T) (q : AG VRs g fc (spliced (backTo pos (starEach args fc.env))) (KCmG g fc id d₁ Q R) R a) : KMeG g fc name pos args Q R d₁ a := ⟨T, id, h, hm, q⟩

theorem ag_Meth {o : Expr} {name : PStr} {apos pos : Pos} {args : List Expr} {Q : D → AS → Prop}
    (h : AG VR g fc (eval o fc.env) (KMeG g fc name pos args Q R) R a)
    (hbase : attributeBase o name fc.env (eval o fc.env) = eval o fc.env := by rfl)
    (hfew : ((backTo pos (starEach args fc.env)).all (fun x => !x.1) && (backToKw pos (keywordEach [] fc.env)).all (fun x => x.1.isSome)
      && decide (args.length + ([] : List Keyword).length + (if ([] : List Keyword).isEmpty then 0 else 1) < 30)) = true := by rfl)
    (hline : (apos.endLine == pos.line) = true := by rfl)
    (hargs : (!args.isEmpty && args.all plainArg) = true := by rfl) :
    AG VR g fc (eval (.Call (.Attribute o name apos) args [] pos) fc.env) Q R a := .mk fun G ρ s hr => by
  rw [arm_eval_Call, hbase]
  refine wpG_bind (ag_then h Step.refl hr fun G₁ ρ₁ d₁ a₁ v₁ s₁ _ st₁ r₁ hv₁ ⟨T, id, hm, ht, q₁⟩ => ?_)
  refine wpG_bind (wpG_standAt ?_)
  have hform : methodCallForm (args.length + ([] : List Keyword).length) (backTo pos (starEach args fc.env)) (backToKw pos (keywordEach [] fc.env)) = true := hfew
  have hpos : methodCallPos true o fc.env apos pos = pure pos := by unfold methodCallPos; simp [hline]
  unfold methodCall
  rw [hform]
  refine wpG_bind (wpG_holding (wpG_of (getMethod_builtin (ht _ _ _ _ r₁ hv₁).1 hm.pa hm.slot hm.ty (ht _ _ _ _ r₁ hv₁).2 ?_)))
  refine wpG_bind (wpG_of (wpAny_of_eq hpos ?_))
  obtain ⟨hne, hall⟩ := Bool.and_eq_true_iff.mp hargs
  obtain ⟨e, rest, rfl, hs, hp⟩ := (star_args (pos := pos) (env := fc.env) hall).resolve_left (fun e => by subst e; cases hne)
  have q₂ := q₁
  rw [hs] at q₂ ⊢
  refine gc_with (P := fun _ => True) (by show ((false || (backTo pos (starEach rest fc.env)).any (·.1)) || false) = false; rw [hp]; rfl) (fun h _ => ⟨_, .inr (.inl rfl), fun A Q E s _ q => wpAny_pure q⟩) (ga_plain ?_)
  refine ag_then q₂ st₁ r₁ fun G₂ ρ₂ ds a₂ vs s₂ st₁₂ st₂ r₂ hv₂ q₃ => ⟨trivial, ?_⟩
  exact wpG_mono (q₃.run G₂ ρ₂ s₂ _ (v₁ :: vs) r₂ .glob (.cons (hv₁.step st₁₂) hv₂)) (fun r s₃ hr' => hr'.up st₂) fun _ _ e => e.up st₂
end
end Mine

end
section
namespace Mine
open PySem PySem.W PySem.Spec PySem.Calls PyProof.Rows

structure Turns (p : Program) (w : World) (G : Heap) (ρ : List Addr) (ds : List D) (h h' : Heap) (I : Addr) (fp : List Addr) (P : Nat → Value → Prop) (St : Nat → Heap → Prop) : Prop where
  walk : ∀ A : Around, A.handled = none → Walks p w A I fp [I] ds.length P St
  start : St 0 h'
  new : h.get? I = none
  stays : h.StaysIn h'
  fps : ∀ b ∈ fp, b = I ∨ ∃ o, G.get? b = some o
  items : ∀ i v, i < ds.length → P i v → ∃ d, ds[i]? = some d ∧ VR G ρ d v
  alive : ∀ i h, St i h → ∃ o, h.get? I = some o
  fin : ∀ (A : Around) (s : Shared) (Q : Option Value → Shared → Prop) (E : Value → Shared → Prop), A.handled = none → St ds.length s.heap →
    (∀ h', Heap.ExtBut I s.heap h' → (∃ o, h'.get? I = some o) → Q none { s with heap := h' }) → wpAny (model p w) A (pyNext (.ref I)) Q E s
/-- what a for goes over -/
structure Iter (d : D) (ds : List D) : Prop where
  run : ∀ (p : Program) (w : World) (A : Around) (E : Value → Shared → Prop) (Q : Value → Shared → Prop) (s : Shared) (G : Heap) (ρ : List Addr) (v : Value), AOk A → G.StaysIn s.heap → VR G ρ d v →
  (∀ I fp P St h' tk, Turns p w G ρ ds s.heap h' I fp P St → Q (.ref I) { s with heap := h', toks := tk }) → wpAny (model p w) A (pyIter v) Q E s

theorem turns_frame {p w G ρ ds h h' I fp P St} (T : Turns p w G ρ ds h h' I fp P St) {A : Around} (hA : A.handled = none) {i : Nat} {h₁ h₂ : Heap} (g1 : G.StaysIn h₁) (g2 : G.StaysIn h₂) (e : h₁.get? I = h₂.get? I) (st : St i h₁) : St i h₂ :=
  (T.walk A hA).frame i h₁ h₂ st fun b hb o q => by
    rcases T.fps b hb with rfl | ⟨o', ho⟩
    · rw [← e]; exact q
    · rw [g1 _ _ ho] at q; cases q; exact g2 _ _ ho


section
variable {prog : Program} {w : World} {A : Around} {E : Value → Shared → Prop} {s : Shared}
theorem bytes_end {b : Array UInt8} {t : Tok} {it : Addr} {i : Nat} {Q : Option Value → Shared → Prop} (hh : A.handled = none) (hit : KBw.IsBytesIter s.heap it b t i) (hx : b[i]? = none)
    (hQ : ∀ h', Heap.ExtBut it s.heap h' → (∃ o, h'.get? it = some o) → Q none { s with heap := h' }) : wpAny (model prog w) A (pyNext (.ref it)) Q E s := by
  obtain ⟨o, ho, hc, hd⟩ := id hit
  unfold pyNext
  refine wpAny_bind (wpAny_attempt (wpAny_callSpecial?_slot (name := PySem.Str.ofString "__next__") (KBw.iter_typeIs hit) KBw.slot_next
    (wpAny_call_entry KBw.slot_next (KBw.iter_typeIs hit) KBw.entry_next ?_ (KBw.args_next _))))
  show wpAny _ _ (field (.ref it) 0 >>= _) _ _ s
  refine wpAny_bind (wpAny_field ho hd (x := .bytes b t) rfl ?_)
  show wpAny _ _ (if (Value.bytes b t == Value.none) = true then _ else _) _ _ s
  rw [if_neg (show ¬ ((Value.bytes b t == Value.none) = true) from Bool.false_ne_true)]
  show wpAny _ _ (field (.ref it) 1 >>= _) _ _ s
  refine wpAny_bind (wpAny_field ho hd (x := .int i 0) rfl ?_)
  refine wpAny_bind (wpAny_of_eq (a := b) rfl ?_)
  simp only [Int.toNat_natCast, hx]
  refine wpAny_bind (wpAny_rule (wpAny_bind (wpAny_setField ho hd (by simp) ?_)))
  show wpAny _ _ (newExc (.type "StopIteration") [] >>= _) _ _ _
  refine wpAny_bind ?_
  simp only [newExc, newTuple]
  refine wpAny_bind (wpAny_newObj_type ?_ (by size_fits))
  refine wpAny_bind (m := firstArgMember _ _) (wpAny_of_eq (a := Value.none) (by first | rfl | (simp only [firstArgMember]; rfl)) ?_)
  refine wpAny_newObj_type ?_ (by size_fits)
  simp only [raiseNew]
  refine wpAny_bind (wpAny_handled ?_)
  rw [show A.in1.handled = none from hh]
  refine wpAny_bind (wpAny_pure (wpAny_throw ?_))
  refine wpAny_bind (wpAny_isInstance (T := "StopIteration") (b := true) ⟨_, Heap.get?_push_size _ rfl, rfl⟩ isSubtype_stop ?_)
  exact wpAny_pure (hQ _ (((Heap.SameBut.update ..).extBut.push _).push _) ⟨_, Heap.get?_push_of_some _ (Heap.get?_push_of_some _ (Heap.get?_update_self _ ho (Obj.isFreed_of_fields (Obj.data_mapFields hd _))))⟩)
theorem range_end {it : Addr} {x left step : Int} {Q : Option Value → Shared → Prop} (hh : A.handled = none) (hit : IsRangeIter s.heap it x left step) (hleft : left ≤ 0)
    (hQ : ∀ h', Heap.ExtBut it s.heap h' → (∃ o, h'.get? it = some o) → Q none { s with heap := h' }) : wpAny (model prog w) A (pyNext (.ref it)) Q E s := by
  have hT : s.TypeIs (.ref it) "range_iterator" := ⟨_, hit, rfl⟩
  unfold pyNext
  refine wpAny_bind (wpAny_attempt (wpAny_callSpecial?_slot (name := PySem.Str.ofString "__next__") hT PySem.F.slot_range_iterator_next
    (wpAny_call_entry PySem.F.slot_range_iterator_next hT PySem.F.entry_range_iterator_next ?_ (PySem.F.args_range_iterator_next_1 _))))
  show wpAny _ _ (field (.ref it) 0 >>= _) _ _ s
  refine wpAny_bind (wpAny_field hit rfl (x := rawInt x) rfl ?_)
  show wpAny _ _ (field (.ref it) 1 >>= _) _ _ s
  refine wpAny_bind (wpAny_field hit rfl (x := rawInt left) rfl ?_)
  show wpAny _ _ (field (.ref it) 2 >>= _) _ _ s
  refine wpAny_bind (wpAny_field hit rfl (x := rawInt step) rfl ?_)
  show wpAny _ _ (if left ≤ 0 then _ else _) _ _ s
  rw [if_pos hleft]
  refine wpAny_bind (wpAny_rule ?_)
  refine wpAny_bind ?_
  show wpAny _ _ (newExc (.type "StopIteration") [] >>= _) _ _ _
  refine wpAny_bind ?_
  simp only [newExc, newTuple]
  refine wpAny_bind (wpAny_newObj_type ?_ (by size_fits))
  refine wpAny_bind (m := firstArgMember _ _) (wpAny_of_eq (a := Value.none) (by first | rfl | (simp only [firstArgMember]; rfl)) ?_)
  refine wpAny_newObj_type ?_ (by size_fits)
  simp only [raiseNew]
  refine wpAny_bind (wpAny_handled ?_)
  rw [show A.in1.handled = none from hh]
  refine wpAny_bind (wpAny_pure (wpAny_throw ?_))
  refine wpAny_bind (wpAny_isInstance (T := "StopIteration") (b := true) ⟨_, Heap.get?_push_size _ rfl, rfl⟩ isSubtype_stop ?_)
  exact wpAny_pure (hQ _ (fun b o _ e => Heap.get?_push_of_some _ (Heap.get?_push_of_some _ e)) ⟨_, Heap.get?_push_of_some _ (Heap.get?_push_of_some _ hit)⟩)
end

theorem it_bytes' {b : Bs} : Iter (.bytes b) (b.map fun c => .int c.toNat) := by
  refine .mk fun p w A E Q s G ρ v hA hs hv h => ?_
  obtain ⟨_, rfl⟩ := VR.bytes_inv hv
  ·
    rename_i t
    refine KBw.pyIter_bytes ?_
    refine h s.heap.objs.size [s.heap.objs.size] (fun i v => ∃ c u, b.toArray[i]? = some c ∧ v = .int (c.toNat : Int) u) (fun i h => KBw.IsBytesIter h s.heap.objs.size b.toArray t i) _ s.toks
      { walk := fun A' hA' => ?_, start := ⟨_, Heap.get?_push_size _ rfl, rfl, rfl⟩, new := Heap.get?_none_of_le (Nat.le_refl _), stays := fun b o e => Heap.get?_push_of_some _ e, fps := fun b hb => .inl (List.mem_singleton.mp hb),
        items := fun i v _ hv => ?_, alive := fun i h hst => ?_, fin := fun A' s' Q' E' hA' hst hQ => ?_ }
    · have := KBw.walks (prog := p) (w := w) hA' s.heap.objs.size b.toArray t
      rw [List.length_map]
      exact this
    · obtain ⟨c, u, hc, rfl⟩ := hv
      refine ⟨_, ?_, .int⟩
      rw [List.getElem?_map]
      simp at hc
      rw [hc]
      rfl
    · obtain ⟨o, ho, _⟩ := hst
      exact ⟨o, ho⟩
    · rw [List.length_map] at hst
      exact bytes_end hA' hst (by simp) hQ
theorem rng_size (a b : Int) : (Builtin.Range.rangeSize a b 1) = ((b - a).toNat : Int) := by
  unfold Builtin.Range.rangeSize
  rw [if_pos (by decide)]
  split
  · rw [Int.ediv_one]; omega
  · omega
theorem it_rng {a b : Int} (hsmall : Builtin.Range.small a b 1 = true) : Iter (.rng a b) ((List.range (b - a).toNat).map fun i : Nat => .int (a + (i : Int))) := by
  refine .mk fun p w A E Q s G ρ v hA hs hv h => ?_
  obtain ⟨_, _, _, _, rfl, hr⟩ := VR.rng_inv hv
  ·
    refine wpAny_pyIter_range (hs _ _ hr) hsmall ?_
    rw [rng_size]
    refine h s.heap.objs.size [s.heap.objs.size] (fun i v => ∃ t, v = .int (a + (i : Int) * 1) t) (fun i h => IsRangeIter h s.heap.objs.size (a + (i : Nat) * 1) (((b - a).toNat : Int) - (i : Nat)) 1) _ s.toks
      { walk := fun A' hA' => ?_, start := ?_, new := Heap.get?_none_of_le (Nat.le_refl _), stays := fun b o e => Heap.get?_push_of_some _ e, fps := fun b hb => .inl (List.mem_singleton.mp hb),
        items := fun i v hi hv => ?_, alive := fun i h hst => ⟨_, hst⟩, fin := fun A' s' Q' E' hA' hst hQ => ?_ }
    · have := Walks.range (prog := p) (w := w) hA' s.heap.objs.size a 1 (b - a).toNat
      rw [List.length_map, List.length_range]
      exact this
    · show IsRangeIter _ _ _ _ _
      rw [show a + ((0 : Nat) : Int) * 1 = a by simp, show ((b - a).toNat : Int) - ((0 : Nat) : Int) = ((b - a).toNat : Int) by omega]
      exact Heap.get?_push_size _ rfl
    · obtain ⟨t, rfl⟩ := hv
      rw [List.length_map, List.length_range] at hi
      refine ⟨_, ?_, .int⟩
      rw [List.getElem?_map, List.getElem?_range hi]
      simp
    · rw [List.length_map, List.length_range] at hst
      exact range_end hA' hst (by omega) hQ

section
variable {g : Gl} {fc : FC} {G G₀ : Heap} {ρ ρ₀ : List Addr} {s : Shared} {a : AS} {R : AS → Prop} {n : Nat} {sc : Scope}
theorem x_For {x : PStr} {px : Pos} {iter : Expr} {body : List Stmt} {pos : Pos} {Q : Fl → AS → Prop} (Inv : Nat → List (PStr × D) → Prop) (ok : fc.Ok n) (hs : fc.env.scope = sc)
    (h : AW VR g fc (eval iter fc.env) (fun d a₁ => ∃ ds, Iter d ds ∧ Inv 0 a₁.m ∧
      (∀ i m e o, ds[i]? = some e → Inv i m → AW VF g fc (execs body fc.env) (fun fl a₂ => match fl with
        | .next => a₂.σ = a₁.σ ++ [.raw o] ∧ Inv (i + 1) a₂.m
        | .cont => a₂.σ = a₁.σ ++ [.raw o] ∧ Inv (i + 1) a₂.m
        | .brk => Q .next a₂
        | .ret d => Q (.ret d) a₂) R ⟨(x, e) :: m, a₁.σ ++ [.raw o]⟩) ∧
      ∀ m o, Inv ds.length m → Q .next ⟨m, a₁.σ ++ [.raw o]⟩) R a)
    (hk : sc.names.lookup x = some .local := by rfl) (hn : n ≤ 200 := by first | exact nup (by with_reducible assumption) (by rfl) | exact nup0 (by with_reducible assumption) (by rfl) | exact nupp (by with_reducible assumption) (by rfl) | omega) (hsi : ∀ y, foldedSetIterable iter fc.env y = pure y := by intro _; rfl) : AW VF g fc (exec (.For (.Name x px) iter body [] pos) fc.env) Q R a := .mk fun G ρ s hr => by
  refine wpAny_For (aw_then h Step.refl hr fun G₁ ρ₁ d a₁ v s₁ _ st₁ r₁ hv ⟨ds, hit, h0, hbody, hend⟩ => ?_) hsi
  refine hit.run _ _ _ _ _ _ G₁ ρ₁ _ ok.ao r₁.gs hv fun I fp P St h' tk T => ?_
  obtain ⟨o₀, ho₀⟩ := T.alive 0 h' T.start
  have hlen := r₁.st.length
  have W := T.walk fc.A ok.handled
  obtain ⟨r₂, st₂⟩ := r₁.more (t := tk) T.stays T.new ho₀ (y := .raw o₀) .raw
  have hI : (ρ₁ ++ [I])[a₁.σ.length]? = some I := by rw [← hlen]; simp
  refine codeAny_forLoop (fun k s => ∃ i G₂ m o, k = ds.length - i ∧ i ≤ ds.length ∧ Step G₁ (ρ₁ ++ [I]) G₂ (ρ₁ ++ [I]) ∧ Rel g fc G₂ ⟨m, a₁.σ ++ [.raw o]⟩ (ρ₁ ++ [I]) s ∧ St i s.heap ∧ Inv i m) (fun k s ⟨i, G₂, m, o, hki, hi, st₃, r₃, hSt, hInv⟩ => ?_)
    ds.length ⟨0, G₁, a₁.m, o₀, by omega, Nat.zero_le _, Step.refl, r₂, T.start, h0⟩
  subst hki
  by_cases hlt : i < ds.length
  · refine W.item i s _ _ hlt hSt fun v h₄ tk₄ hP hSt₄ hk₄ => ?_
    obtain ⟨e, he, hve⟩ := T.items i v hlt hP
    obtain ⟨o₄, ho₄⟩ := T.alive _ _ hSt₄
    obtain ⟨r₄, st₄⟩ := r₃.upd (t := tk₄) hI (fun b hb o e => hk₄ b o (by simpa using hb) e) ho₄ (x' := .raw o₄) .raw
    have hset : (a₁.σ ++ [AObj.raw o]).set a₁.σ.length (.raw o₄) = a₁.σ ++ [.raw o₄] := by rw [List.set_append_right _ _ (Nat.le_refl _)]; simp
    rw [show (⟨m, a₁.σ ++ [.raw o]⟩ : AS).σ.set a₁.σ.length (.raw o₄) = a₁.σ ++ [.raw o₄] from hset] at r₄
    refine wpAny_assign_Name (setL ok hs r₄ (hve.step ((st₂.trans st₃).trans st₄)) (fun G₅ s₅ st₅ r₅ => ?_) hk)
    have hst₅ := (st₃.trans st₄).trans st₅
    refine wpAny_mono ((hbody i m e o₄ he hInv).run G₅ _ s₅ r₅) (fun f s₆ ⟨G₆, ρ₆, a₆, fl, st₆, r₆, hv₆, q₆⟩ => ?_) fun e s₆ he => turn_exc ok ((st₁.trans st₂).trans hst₅) he Q
    have cont : a₆.σ = a₁.σ ++ [.raw o₄] → Inv (i + 1) a₆.m → ∃ k, k < ds.length - i ∧ ∃ j G₂ m o, k = ds.length - j ∧ j ≤ ds.length ∧ Step G₁ (ρ₁ ++ [I]) G₂ (ρ₁ ++ [I]) ∧ Rel g fc G₂ ⟨m, a₁.σ ++ [.raw o]⟩ (ρ₁ ++ [I]) s₆ ∧ St j s₆.heap ∧ Inv j m := fun hσ hI6 => by
      have hρ : ρ₆ = ρ₁ ++ [I] := by
        obtain ⟨t, rfl⟩ := st₆.2
        have := r₆.st.length
        rw [hσ, List.length_append, List.length_append, List.length_append, hlen] at this
        have : t = [] := List.length_eq_zero_iff.mp (by simp only [List.length_singleton] at this; omega)
        rw [this, List.append_nil]
      subst hρ
      obtain ⟨m₆, σ₆⟩ := a₆
      dsimp only at hσ hI6
      subst hσ
      refine ⟨ds.length - (i + 1), by omega, i + 1, G₆, m₆, o₄, rfl, hlt, hst₅.trans st₆, r₆, ?_, hI6⟩
      obtain ⟨o', e1, e2⟩ := r₆.st.get hI (x := .raw o₄) (by simp)
      cases e2
      have g₁ := ((st₁.trans st₂).1)
      refine turns_frame T ok.handled (fun b o e => r₅.gs b o (hst₅.1 b o e)) (fun b o e => r₆.gs b o ((hst₅.trans st₆).1 b o e)) ?_ ?_ (h₁ := s₅.heap)
      · obtain ⟨o'', e3, e4⟩ := r₅.st.get hI (x := .raw o₄) (by simp)
        cases e4
        rw [e3, e1]
      · obtain ⟨o'', e3, e4⟩ := r₅.st.get hI (x := .raw o₄) (by simp)
        cases e4
        exact turns_frame T ok.handled (fun b o e => r₄.gs b o ((st₃.trans st₄).1 b o e)) (fun b o e => r₅.gs b o (hst₅.1 b o e)) (by show h₄.get? I = _; rw [ho₄, e3]) hSt₄
    cases hv₆ with
    | next => exact cont q₆.1 q₆.2
    | cont => exact cont q₆.1 q₆.2
    | brk => exact ⟨G₆, ρ₆, a₆, .next, ((st₁.trans st₂).trans hst₅).trans st₆, r₆, .next, q₆⟩
    | ret hv => exact ⟨G₆, ρ₆, a₆, _, ((st₁.trans st₂).trans hst₅).trans st₆, r₆, .ret hv, q₆⟩
  · obtain rfl : i = ds.length := by omega
    refine T.fin fc.A s _ _ ok.handled hSt fun h₄ hk₄ ⟨o₄, ho₄⟩ => ?_
    refine wpAny_execs_nil ?_
    obtain ⟨r₄, st₄⟩ := r₃.upd (t := s.toks) hI (fun b hb o e => hk₄ b o hb e) ho₄ (x' := .raw o₄) .raw
    have hset : (a₁.σ ++ [AObj.raw o]).set a₁.σ.length (.raw o₄) = a₁.σ ++ [.raw o₄] := by rw [List.set_append_right _ _ (Nat.le_refl _)]; simp
    rw [show (⟨m, a₁.σ ++ [.raw o]⟩ : AS).σ.set a₁.σ.length (.raw o₄) = a₁.σ ++ [.raw o₄] from hset] at r₄
    exact ⟨_, _, _, .next, ((st₁.trans st₂).trans st₃).trans st₄, r₄, .next, hend m o₄ hInv⟩
end
end Mine

end
section
namespace Mine
open PySem PySem.W PySem.Spec PySem.Calls PyProof.Rows

structure TurnsC (p : Program) (w : World) (G : Heap) (ρ : List Addr) (ds : List D) (h h' : Heap) (I : Addr) (fp : List Addr) (P : Nat → Value → Prop) (St : Nat → Heap → Prop) : Prop where
  walk : ∀ A : Around, A.handled = none → Walks p w A I fp [I] ds.length P St
  start : St 0 h'
  new : h.get? I = none
  stays : h.StaysIn h'
  fps : ∀ b ∈ fp, b = I ∨ ∃ o, G.get? b = some o
  items : ∀ i v, i < ds.length → P i v → ∃ d, ds[i]? = some d ∧ VR G ρ d v
  alive : ∀ i h, St i h → ∃ o, h.get? I = some o
structure IterC (g : Gl) (d : D) (ds : List D) : Prop where
  run : ∀ (p : Program) (w : World) (A : Around) (E : Value → Shared → Prop) (Q : Value → Shared → Prop) (s : Shared) (G : Heap) (ρ : List Addr) (v : Value), AOk A → g.B.StaysIn G → G.StaysIn s.heap → VR G ρ d v →
  (∀ I fp P St h' tk, TurnsC p w G ρ ds s.heap h' I fp P St → Q (.ref I) { s with heap := h', toks := tk }) → wpAny (model p w) A (pyIter v) Q E s
noncomputable def EltC (g : Gl) (fc : FC) (scope : Scope) (elt : Expr) (x : PStr) (ds : List D) (f : D → D) : Prop :=
  ∀ d ∈ ds, ∀ (C : Addr) (v : Value) (m : PStr → Option Value) (s : Shared) (G : Heap) (ρ : List Addr) (Q : Value → Shared → Prop) (E : Value → Shared → Prop), g.B.StaysIn G → G.StaysIn s.heap → VR G ρ d v → s.heap.Ns C m → m x = some v → Res G ρ (f d) s Q →
    wpAny g.M fc.A (eval elt (compEnv scope C fc.env)) Q E s

section
variable {g : Gl} {fc : FC} {G G₀ : Heap} {ρ ρ₀ : List Addr} {s : Shared} {a : AS} {R : AS → Prop} {n : Nat} {sc : Scope}
theorem a_Comp {elt iter : Expr} {x : PStr} {px : Pos} {scope : Scope} {pos : Pos} {Q : D → AS → Prop} (f : D → D) (g' : g.Ok) (ok : fc.Ok n)
    (h : AW VR g fc (eval iter fc.env) (fun d a₁ => ∃ ds, IterC g d ds ∧ ds.length ≤ 16777000 ∧ EltC g fc scope elt x ds f ∧ Q (.list (ds.map f)) a₁) R a)
    (hfree : ∀ y ∈ scope.names, y.2 ≠ .free) (hcell : ∀ y ∈ scope.names, y.2 ≠ .cell) (hkind : scope.kind = .function) (hnames : ∀ y ∈ scope.names, y.2 = .local → scope.names.lookup y.1 = some .local) (hx : scope.names.lookup x = some .local)
    (hn : n ≤ 200 := by first | exact nup (by with_reducible assumption) (by rfl) | exact nup0 (by with_reducible assumption) (by rfl) | exact nupp (by with_reducible assumption) (by rfl) | omega) (hsi : ∀ y, foldedSetIterable iter fc.env y = pure y := by intro _; rfl) : AW VR g fc (eval (.ListComp elt [⟨.Name x px, iter, [], 0⟩] scope pos) fc.env) Q R a := .mk fun G ρ s hr => by
  refine wpAny_ListComp hfree hkind hnames (aw_then h Step.refl hr fun G₁ ρ₁ d a₁ v s₁ _ st₁ r₁ hv ⟨ds, hit, hlen, helt, q⟩ => ?_) hsi
  refine hit.run _ _ _ _ _ _ G₁ ρ₁ _ ok.ao r₁.bg r₁.gs hv fun I fp P St h₂ tk T => ?_
  refine wpAny_newObj_type (hd := by size_fits) (wpAny_newFunctionEnv hcell (by intro y hy; simp at hy) (fun h₃ hns₃ hsb₃ => ?_) hkind)
  dsimp only at hns₃ hsb₃ ⊢
  have W := T.walk fc.A ok.handled
  obtain ⟨oI, hoI⟩ := T.alive 0 h₂ T.start
  have hI₂ : I < h₂.objs.size := Heap.lt_size hoI
  generalize hH2 : h₂.push { cls := .type "list", dict := none, data := .seq ([] : List Value).toArray } = H2 at hns₃ hsb₃ ⊢
  have hH2s : H2.objs.size = h₂.objs.size + 1 := by rw [← hH2, Heap.size_push]
  generalize hDd : h₂.objs.size = Dd at hH2s hI₂ ⊢
  generalize hC : H2.objs.size = C at hns₃ hsb₃ hH2s ⊢
  have hlDC : Nat.lt Dd C := by rw [hH2s]; exact Nat.lt_succ_self _
  have hDC : Dd ≠ C := Nat.ne_of_lt hlDC
  have hIC : I ≠ C := Nat.ne_of_lt (Nat.lt_trans hI₂ hlDC)
  have hID : I ≠ Dd := Nat.ne_of_lt hI₂
  have keep₂ : h₂.StaysIn h₃ := fun b o e => hsb₃.extBut b o (Nat.ne_of_lt (Nat.lt_trans (Nat.lt_of_lt_of_eq (Heap.lt_size e) hDd) hlDC)) (Heap.get?_push_of_some _ (hH2 ▸ Heap.get?_push_of_some _ e))
  have old : s₁.heap.StaysIn h₃ := fun b o e => keep₂ b o (T.stays b o e)
  have hl₃ : h₃.PlainList Dd #[] := ⟨0, hsb₃.extBut Dd _ hDC (Heap.get?_push_of_some _ (hH2 ▸ hDd ▸ Heap.get?_push_size _ rfl))⟩
  have hnewI : I ∉ hid fc ρ₁ := fun hm => let ⟨o, ho⟩ := r₁.alive I hm; by rw [T.new] at ho; cases ho
  have lt₂ : ∀ b o, s₁.heap.get? b = some o → b < Dd := fun b o e => hDd ▸ Heap.lt_size (T.stays b o e)
  have sep : ∀ b o, s₁.heap.get? b = some o → b ≠ I ∧ b ≠ Dd ∧ b ≠ C := fun b o e => by
    refine ⟨fun q => ?_, Nat.ne_of_lt (lt₂ b o e), Nat.ne_of_lt (Nat.lt_trans (lt₂ b o e) hlDC)⟩
    rw [q, T.new] at e
    cases e
  let hh : List Addr := hid fc ρ₁ ++ [I, Dd, C]
  have memh : ∀ b, b ∉ hid fc ρ₁ → b ≠ I → b ≠ Dd → b ≠ C → b ∉ hh := fun b h1 h2 h3 h4 hm => by
    rcases List.mem_append.mp hm with hm | hm
    · exact h1 hm
    · simp only [List.mem_cons, List.not_mem_nil, or_false] at hm
      rcases hm with rfl | rfl | rfl
      · exact h2 rfl
      · exact h3 rfl
      · exact h4 rfl
  have GG : ∀ h h' : Heap, (∀ b o, b ≠ I → b ≠ Dd → b ≠ C → h.get? b = some o → h'.get? b = some o) → (hideAll h hh).StaysIn (hideAll h' hh) := fun h h' k b o e => by
    have nb : b ∉ hh := fun hm => by rw [hideAll_none _ hm] at e; cases e
    exact hideAll_get _ (k b o (fun q => nb (q ▸ List.mem_append_right _ (.head _))) (fun q => nb (q ▸ List.mem_append_right _ (.tail _ (.head _)))) (fun q => nb (q ▸ List.mem_append_right _ (.tail _ (.tail _ (.head _))))) (of_hideAll _ e)) nb
  have G1 : ∀ h' : Heap, s₁.heap.StaysIn h' → G₁.StaysIn (hideAll h' hh) := fun h' k b o e => by
    have e1 := r₁.gs b o e
    obtain ⟨q1, q2, q3⟩ := sep b o e1
    exact hideAll_get _ (k b o e1) (memh b (fun hm => by rw [r₁.hidden b hm] at e; cases e) q1 q2 q3)
  have fr : ∀ (i : Nat) (h h' : Heap), s₁.heap.StaysIn h → s₁.heap.StaysIn h' → h.get? I = h'.get? I → St i h → St i h' := fun i h h' k1 k2 e st => W.frame i h h' st fun b hb o q => by
    rcases T.fps b hb with rfl | ⟨o', ho⟩
    · rw [← e]; exact q
    · rw [k1 _ _ (r₁.gs _ _ ho)] at q; cases q; exact k2 _ _ (r₁.gs _ _ ho)
  have post : ∀ (i : Nat) (h : Heap) (tk' : Nat) (vs : List Value) (m : PStr → Option Value), i = ds.length → s₁.heap.StaysIn h → h.PlainList Dd vs.toArray → h.Ns C m → VRs (hideAll h hh) ρ₁ ((ds.take i).map f) vs → ∀ h', Heap.SameBut C h h' →
      PV VR g fc G ρ Q (.ref Dd) { s₁ with heap := h', toks := tk' } := fun i h tk' vs m hi k hl hns hvs h' hs' => by
    have k' : s₁.heap.StaysIn h' := fun b o e => hs'.extBut b o (sep b o e).2.2 (k b o e)
    obtain ⟨z1, z2⟩ := r₁.ext (t := tk') k'
    refine ⟨_, ρ₁, a₁, _, st₁.trans z2, z1, .list (vs := vs) ?_ ?_, q⟩
    · rw [hi, List.take_length] at hvs
      refine hvs.mono (fun b o e => ?_) (List.prefix_refl _)
      have nb : b ∉ hh := fun hm => by rw [hideAll_none _ hm] at e; cases e
      exact hideAll_get _ (hs'.extBut b o (fun q => nb (q ▸ List.mem_append_right _ (.tail _ (.tail _ (.head _))))) (of_hideAll _ e)) fun hm => nb (List.mem_append_left _ hm)
    · obtain ⟨k0, ho⟩ := hl
      exact ⟨k0, hideAll_get _ (hs'.extBut Dd _ hDC ho) fun hm => (sep Dd _ (r₁.alive Dd hm).choose_spec).2.1 rfl⟩
  let cenv : Env := compEnv scope C fc.env
  have loop : ∀ s₂ : Shared, s₂ = { s₁ with heap := h₃, toks := tk + ([] : List (PStr × Value)).length } →
      codeAny g.M fc.A (.compLoop (.ListComp elt [⟨.Name x px, iter, [], 0⟩] scope pos) 0 (.ref I) (.ref Dd) cenv)
        (fun r s' => ∃ m, s'.heap.Ns C m ∧ ∀ h', Heap.SameBut C s'.heap h' →
          match r with | .ok _ => PV VR g fc G ρ Q (.ref Dd) { s' with heap := h' } | .error x => wpAny g.M fc.A (passOn "comprehension.variables-let-go" x cenv) (PV VR g fc G ρ Q) (PE g fc G ρ R) { s' with heap := h' }) s₂ := by
    rintro s₂ rfl
    refine codeAny_compLoop_list (fun k s => ∃ i h tk' vs m, k = ds.length - i ∧ i ≤ ds.length ∧ s = { s₁ with heap := h, toks := tk' } ∧ St i h ∧ s₁.heap.StaysIn h ∧ h.PlainList Dd vs.toArray ∧ h.Ns C m ∧ VRs (hideAll h hh) ρ₁ ((ds.take i).map f) vs)
      (fun k s ⟨i, h, tk', vs, m, hki, hi, hse, hSt, hk, hl, hns, hvs⟩ => ?_) ds.length ⟨0, h₃, _, [], _, by omega, Nat.zero_le _, rfl, fr 0 h₂ h₃ T.stays old (by rw [hoI]; exact (keep₂ I oI hoI).symm) T.start, old, hl₃, hns₃, .nil⟩
    subst hki hse
    by_cases hlt : i < ds.length
    · refine W.item i _ _ _ hlt hSt fun v h₄ tk₄ hP hSt₄ hk₄ => ?_
      have hk₄' : ∀ b o, b ≠ I → h.get? b = some o → h₄.get? b = some o := fun b o hb e => hk₄ b o (by simpa using hb) e
      obtain ⟨e, he, hve⟩ := T.items i v hlt hP
      have hns₄ : h₄.Ns C m := ns_keep (fun o e => hk₄' C o hIC.symm e) hns
      refine wpAny_assign_Name (wpAny_storeName_local (m := m) (by show scope.names.lookup x = _; exact hx) hns₄ (fun h₅ hn₅ hs₅ => ?_) (by show (scope.kind == .class || (scope.kind == .module && _)) = false; rw [hkind]; rfl))
      have hs₅' : ∀ b o, b ≠ C → h₄.get? b = some o → h₅.get? b = some o := fun b o hb e => hs₅.extBut b o hb e
      have k₅ : s₁.heap.StaysIn h₅ := fun b o e => hs₅' b o (sep b o e).2.2 (hk₄' b o (sep b o e).1 (hk b o e))
      obtain ⟨oI₄, hoI₄⟩ := T.alive _ _ hSt₄
      have hoI₅ := hs₅' I oI₄ hIC hoI₄
      obtain ⟨kD, hoD⟩ := hl
      have hoD₅ := hs₅' Dd _ hDC (hk₄' Dd _ hID.symm hoD)
      have hve₅ : VR (hideAll h₅ hh) ρ₁ e v := hve.mono (G1 h₅ k₅) (List.prefix_refl _)
      refine helt e (List.mem_of_getElem? he) C v _ { s₁ with heap := h₅, toks := tk₄ + 1 } (hideAll h₅ hh) ρ₁ _ _ (fun b o q => G1 h₅ k₅ b o (r₁.bg b o q)) (fun b o q => of_hideAll _ q) hve₅ hn₅ (by simp) fun v' h₆ tk₆ k₆ hv₆ => ?_
      have k₆' : h₅.StaysIn h₆ := k₆
      have hsz : vs.length ≤ 16777000 := by rw [hvs.length, List.length_map, List.length_take]; omega
      refine wpAny_list_append_plain (items := vs.toArray) ⟨kD, k₆' _ _ hoD₅⟩ (fun h₇ hl₇ hs₇ => ?_) (by rw [List.size_toArray, sizeLine_eq]; omega)
      have hs₇' : ∀ b o, b ≠ Dd → h₆.get? b = some o → h₇.get? b = some o := fun b o hb e => hs₇.extBut b o hb e
      have k₇ : s₁.heap.StaysIn h₇ := fun b o e => hs₇' b o (sep b o e).2.1 (k₆' b o (k₅ b o e))
      refine ⟨ds.length - (i + 1), by omega, i + 1, h₇, tk₆, vs ++ [v'], _, rfl, hlt, rfl, ?_, k₇, ?_, (hn₅.keeps k₆').sameBut hs₇ hDC.symm, ?_⟩
      · refine fr (i + 1) h₄ h₇ (fun b o e => hk₄' b o (sep b o e).1 (hk b o e)) k₇ ?_ hSt₄
        rw [hoI₄, hs₇' I oI₄ hID (k₆' I oI₄ hoI₅)]
      · rw [← List.push_toArray]; exact hl₇
      · have e1 : (ds.take (i + 1)).map f = (ds.take i).map f ++ [f e] := by rw [List.take_add_one, he]; simp
        rw [e1]
        refine (hvs.mono (GG h h₇ fun b o h1 h2 h3 q => hs₇' b o h2 (k₆' b o (hs₅' b o h3 (hk₄' b o h1 q)))) (List.prefix_refl _)).append (.cons (hv₆ _ (GG h₅ h₇ fun b o h1 h2 h3 q => hs₇' b o h2 (k₆' b o q)) fun b o hb q => ?_) .nil)
        have hb' : h₅.objs.size ≤ b := hb
        have n1 : b ≠ I := fun q => Nat.lt_irrefl _ (Nat.lt_of_lt_of_le (Heap.lt_size hoI₅) (q ▸ hb'))
        have n2 : b ≠ Dd := fun q => Nat.lt_irrefl _ (Nat.lt_of_lt_of_le (Heap.lt_size hoD₅) (q ▸ hb'))
        have n3 : b ≠ C := fun q => Nat.lt_irrefl _ (Nat.lt_of_lt_of_le (show Nat.lt C h₅.objs.size from hn₅.lt) (q ▸ hb'))
        exact hideAll_get _ (hs₇' b o n2 q) (memh b (fun hm => by obtain ⟨o', ho'⟩ := r₁.alive b hm; exact Nat.lt_irrefl _ (Nat.lt_of_lt_of_le (Heap.lt_size (k₅ b o' ho')) hb')) n1 n2 n3)
    · have hie : i = ds.length := by omega
      refine W.done _ _ _ (hie ▸ hSt) fun h₄ tk₄ hk₄ => ?_
      have hk₄' : ∀ b o, b ≠ I → h.get? b = some o → h₄.get? b = some o := fun b o hb e => hk₄ b o (by simpa using hb) e
      obtain ⟨kD, hoD⟩ := hl
      exact ⟨m, ns_keep (fun o e => hk₄' C o hIC.symm e) hns, fun h' hs' => post i h₄ tk₄ vs m hie (fun b o e => hk₄' b o (sep b o e).1 (hk b o e)) ⟨kD, hk₄' Dd _ hID.symm hoD⟩ (ns_keep (fun o e => hk₄' C o hIC.symm e) hns)
        (hvs.mono (GG h h₄ fun b o h1 _ _ q => hk₄' b o h1 q) (List.prefix_refl _)) h' hs'⟩
  exact codeAny_compStart_list (loop _ rfl) (W.self 0 _ _ _ (fr 0 h₂ h₃ T.stays old (by rw [hoI]; exact (keep₂ I oI hoI).symm) T.start) (loop _ rfl))
end
end Mine

end
section
namespace Mine
open PySem PySem.W PySem.Spec PySem.Calls PyProof.Rows

noncomputable def escPairs : List (Int × Nat × Nat) := [(7, 97, 347), (8, 98, 349), (9, 116, 351), (10, 110, 353), (11, 118, 355), (12, 102, 357), (13, 114, 359), (34, 34, 361), (92, 92, 363)]
noncomputable def escKvs : List (Int × Value) := escPairs.map fun p => (p.1, .bytes #[p.2.1.toUInt8] p.2.2)
noncomputable abbrev escEs : Array DictEntry := #[⟨7, .int 7 346, .bytes #[97] 347⟩, ⟨8, .int 8 348, .bytes #[98] 349⟩, ⟨9, .int 9 350, .bytes #[116] 351⟩, ⟨10, .int 10 352, .bytes #[110] 353⟩, ⟨11, .int 11 354, .bytes #[118] 355⟩,
  ⟨12, .int 12 356, .bytes #[102] 357⟩, ⟨13, .int 13 358, .bytes #[114] 359⟩, ⟨34, .int 34 360, .bytes #[34] 361⟩, ⟨92, .int 92 362, .bytes #[92] 363⟩]
theorem esc_at {P : Params} {h : Heap} (X : (Hd.hd.heap_1 P).In h) : h.get? 124 = some ⟨.type "dict", none, .dict escEs 9, #[]⟩ := X _ _ (by with_unfolding_all rfl)
theorem esc_keys : ∀ e ∈ escEs, ∃ k t, e.key = .int k t ∧ e.hash = hashInt k := by
  intro e he
  simp only [escEs, List.mem_toArray, List.mem_cons, List.not_mem_nil, or_false] at he
  rcases he with rfl | rfl | rfl | rfl | rfl | rfl | rfl | rfl | rfl <;> exact ⟨_, _, rfl, by decide⟩
theorem esc_map {P : Params} {h : Heap} (X : (Hd.hd.heap_1 P).In h) : h.IntMap 124 (findBy Value.isInt escEs) := ⟨_, _, _, esc_at X, rfl, rfl, esc_keys, fun _ => rfl⟩
theorem esc_dict {P : Params} {h : Heap} (p : Program) (w : World) (X : (Hd.hd.heap_1 P).In h) : h.DictAt (intKind p w) 124 escKvs 9 := by
  refine ⟨_, _, esc_at X, ⟨rfl, rfl, rfl⟩, rfl, fun e he => ?_, ?_, by decide⟩
  · obtain ⟨k, t, h1, h2⟩ := esc_keys e he
    exact ⟨k, by rw [h1]; simp [intKind, Value.isInt], h2⟩
  · show Pairs (intKind p w) _ [(7, .bytes #[97] 347), (8, .bytes #[98] 349), (9, .bytes #[116] 351), (10, .bytes #[110] 353), (11, .bytes #[118] 355), (12, .bytes #[102] 357), (13, .bytes #[114] 359), (34, .bytes #[34] 361), (92, .bytes #[92] 363)]
    repeat (first | exact .nil | refine .cons (by simp [intKind, Value.isInt]) rfl ?_)

section
variable {g : Gl} {fc : FC} {n : Nat}
theorem itc_str {x : PStr} : IterC g (.str x) (x.cps.toList.map fun c => .str ⟨#[c]⟩) := by
  refine .mk fun p w A E Q s G ρ v hA hg hs hv h => ?_
  obtain ⟨_, rfl⟩ := VR.str_inv hv
  ·
    rename_i t
    have items : ∀ i v, i < (x.cps.toList.map fun c => D.str ⟨#[c]⟩).length → SignAt x i v → ∃ d, (x.cps.toList.map fun c => D.str ⟨#[c]⟩)[i]? = some d ∧ VR G ρ d v := fun i v _ ⟨c, u, hc, hv⟩ => by
      subst hv
      refine ⟨_, ?_, .str⟩
      rw [List.getElem?_map, Array.getElem?_toList, hc]
      rfl
    cases ha : x.cps.all (· < 128)
    · refine wpAny_pyIter_wide ha ?_
      refine h s.heap.objs.size [s.heap.objs.size] (SignAt x) (fun i h => h.IsStrIter s.heap.objs.size "str_iterator" x t i) _ s.toks
        { walk := fun A' hA' => ?_, start := ⟨_, Heap.get?_push_size _ rfl, rfl, rfl⟩, new := Heap.get?_none_of_le (Nat.le_refl _), stays := fun b o e => Heap.get?_push_of_some _ e, fps := fun b hb => .inl (List.mem_singleton.mp hb),
          items := items, alive := fun i h hst => let ⟨o, ho, _⟩ := hst; ⟨o, ho⟩ }
      rw [List.length_map, Array.length_toList]
      exact Walks.strWide hA' _ x t
    · refine wpAny_pyIter_ascii ha ?_
      refine h s.heap.objs.size [s.heap.objs.size] (SignAt x) (fun i h => h.IsStrIter s.heap.objs.size "str_ascii_iterator" x t i) _ s.toks
        { walk := fun A' hA' => ?_, start := ⟨_, Heap.get?_push_size _ rfl, rfl, rfl⟩, new := Heap.get?_none_of_le (Nat.le_refl _), stays := fun b o e => Heap.get?_push_of_some _ e, fps := fun b hb => .inl (List.mem_singleton.mp hb),
          items := items, alive := fun i h hst => let ⟨o, ho, _⟩ := hst; ⟨o, ho⟩ }
      rw [List.length_map, Array.length_toList]
      exact Walks.strAscii hA' _ x t
theorem itc_esc (g' : g.Ok) : IterC g (.glob (.ref 124)) (escPairs.map fun p => .int p.1) := by
  refine .mk fun p w A E Q s G ρ v hA hg hs hv h => ?_
  cases hv
  have XG : (Hd.hd.heap_1 g.w.params).In G := g'.X.keeps hg
  have X : (Hd.hd.heap_1 g.w.params).In s.heap := XG.keeps hs
  have D0 := esc_dict p w X
  refine wpAny_pyIter_dict (knd := intKind p w) (by decide) D0 ?_
  have hne : (124 : Addr) ≠ s.heap.objs.size := Nat.ne_of_lt (Heap.lt_size (esc_at X))
  refine h s.heap.objs.size [s.heap.objs.size, 124] (fun i v => ∃ k x, escKvs[i]? = some (k, x) ∧ (intKind p w).is k v = true) (fun i h => h.IsKeyIter s.heap.objs.size 124 i escKvs.length 9 ∧ h.DictAt (intKind p w) 124 escKvs 9) _ s.toks
    { walk := fun A' hA' => ?_, start := ⟨⟨_, Heap.get?_push_size _ rfl, rfl, rfl⟩, D0.push _⟩, new := Heap.get?_none_of_le (Nat.le_refl _), stays := fun b o e => Heap.get?_push_of_some _ e, fps := fun b hb => ?_,
      items := fun i v hi hv => ?_, alive := fun i h hst => let ⟨⟨o, ho, _⟩, _⟩ := hst; ⟨o, ho⟩ }
  · exact Walks.dictKeys hA' _ 124 hne escKvs 9
  · rcases List.mem_cons.mp hb with rfl | hb
    · exact .inl rfl
    · rw [List.mem_singleton.mp hb]; exact .inr ⟨_, esc_at XG⟩
  · obtain ⟨k, x, hk, hv⟩ := hv
    obtain ⟨t, rfl⟩ := Value.isInt_shape hv
    refine ⟨_, ?_, .int⟩
    unfold escKvs at hk
    rw [List.getElem?_map] at hk ⊢
    cases q : escPairs[i]? with
    | none => rw [q] at hk; cases hk
    | some pr => rw [q] at hk; cases hk; rfl

theorem cenv_glob {scope : Scope} {C : Addr} {x : PStr} {M : Model} {A : Around} {E : Value → Shared → Prop} {s : Shared} {v : Value} {pos : Pos} {Q : Value → Shared → Prop} (g' : g.Ok) (ok : fc.Ok n) (hs : g.B.StaysIn s.heap) (hkind : scope.kind = .function)
    (hk : scope.names.lookup x = some .globalImplicit) (e : nsIn (Hd.hd.heap_1 g.w.params) mainGlobals x = some (some v)) (hd : (x == ("__debug__" : PStr)) = false) (h : Q v s) : wpAny M A (eval (.Name x pos) (compEnv scope C fc.env)) Q E s :=
  Name_function_global hkind hk (loadGlobal_global (mg := g.mg) (by show s.heap.Ns fc.env.globals _; rw [ok.gl]; exact (g'.T.keeps hs).g) (mg_of g'.X g'.T.g e) h) hd
theorem cenv_boot {scope : Scope} {C : Addr} {x : PStr} {M : Model} {A : Around} {E : Value → Shared → Prop} {s : Shared} {v : Value} {pos : Pos} {Q : Value → Shared → Prop} (g' : g.Ok) (ok : fc.Ok n) (hs : g.B.StaysIn s.heap) (hkind : scope.kind = .function)
    (hk : scope.names.lookup x = some .globalImplicit) (e : nsIn (Hd.hd.heap_1 g.w.params) mainGlobals x = some none) (hv : bootBuiltins x = some v) (hn : x ≠ "__name__") (hd : (x == ("__debug__" : PStr)) = false) (h : Q v s) : wpAny M A (eval (.Name x pos) (compEnv scope C fc.env)) Q E s :=
  Name_function_global hkind hk (loadGlobal_builtin (mg := g.mg) (mb := g.mb) (by show s.heap.Ns fc.env.globals _; rw [ok.gl]; exact (g'.T.keeps hs).g) (mg_none_of g'.X g'.T.g e) (by show s.heap.Ns fc.env.builtins _; rw [ok.bi]; exact (g'.T.keeps hs).b) ((g'.T.builtins x hn).trans hv) h) hd

theorem elt_ord {scope : Scope} {p1 p2 p3 : Pos} {ds : List Nat} (g' : g.Ok) (ok : fc.Ok n) (hkind : scope.kind = .function) (hk : scope.names.lookup ("ord" : PStr) = some .globalImplicit) (hx : scope.names.lookup ("sign" : PStr) = some .local) (hn : n ≤ 200 := by first | exact nup (by with_reducible assumption) (by rfl) | exact nup0 (by with_reducible assumption) (by rfl) | exact nupp (by with_reducible assumption) (by rfl) | omega) :
    EltC g fc scope (.Call (.Name "ord" p1) [.Name "sign" p2] [] p3) "sign" (ds.map fun c => .str ⟨#[c]⟩) (fun d => match d with | .str s => .int (s.cps.getD 0 0) | d => d) := by
  intro d hd C v m s G ρ Q E hg hs hv hns hm hres
  obtain ⟨c, _, rfl⟩ := List.mem_map.mp hd
  refine Call_ (cenv_boot g' ok (fun b o e => hs b o (hg b o e)) hkind hk (by with_unfolding_all rfl) (by with_unfolding_all rfl) (by decide) (by decide) ?_) (by rfl)
  refine Calls.callWith_builtin rfl (evalArgs_plain (spliced_cons (wpAny_Name (wpAny_loadName_local (m := m) hkind hx hns hm (spliced_nil ?_)) (by decide))))
  exact f_ord.run _ _ _ _ _ _ _ _ _ ok.ao hs (.cons hv .nil) hres
theorem elt_esc {scope : Scope} {p1 p2 p3 p4 p5 p6 p7 : Pos} {k1 k2 : Nat} (g' : g.Ok) (ok : fc.Ok n) (hkind : scope.kind = .function) (hk : scope.names.lookup ("ESCAPES" : PStr) = some .globalImplicit) (hx : scope.names.lookup ("octet" : PStr) = some .local) (hn : n ≤ 200 := by first | exact nup (by with_reducible assumption) (by rfl) | exact nup0 (by with_reducible assumption) (by rfl) | exact nupp (by with_reducible assumption) (by rfl) | omega) :
    EltC g fc scope (.Tuple [.Subscript (.Subscript (.Name "ESCAPES" p1) (.Name "octet" p2) p3) (.Constant (.int 0) k1 p4) p5, .Name "octet" p6] k2 p7) "octet" (escPairs.map fun p => .int p.1)
      (fun d => match d with | .int i => .tup [.int ((escPairs.lookup i).elim 0 fun q => q.1), .int i] | d => d) := by
  intro d hd C v m s G ρ Q E hg hs hv hns hm hres
  obtain ⟨pr, hpr, rfl⟩ := List.mem_map.mp hd
  obtain ⟨_, rfl⟩ := VR.int_inv hv
  ·
    rename_i t
    have X : (Hd.hd.heap_1 g.w.params).In s.heap := (g'.X.keeps hg).keeps hs
    refine Tuple_ ?_
    show wpAny _ _ (spliced [(false, _), (false, _)]) _ _ _
    refine spliced_cons (Subscript_ (Subscript_ (cenv_glob g' ok (fun b o e => hs b o (hg b o e)) hkind hk (by with_unfolding_all rfl) (by decide) (wpAny_Name (wpAny_loadName_local (m := m) hkind hx hns hm ?_) (by decide)))))
    obtain ⟨b, tb, hb⟩ : ∃ (b : Nat) (tb : Tok), findBy Value.isInt escEs pr.1 = some (.bytes #[b.toUInt8] tb) ∧ b < 256 ∧ (escPairs.lookup pr.1).elim 0 (fun q => q.1) = b := by
      simp only [escPairs, List.mem_cons, List.not_mem_nil, or_false] at hpr
      rcases hpr with rfl | rfl | rfl | rfl | rfl | rfl | rfl | rfl | rfl <;> exact ⟨_, _, by rfl, by decide, by decide⟩
    refine tail_item ⟨"dict", _, slot_dict_getitem.lookup, (esc_map X).typeIs, wpAny_getItem_intMap (esc_map X) hb.1 ?_⟩ (by rfl)
    refine wpAny_Constant_int (tail_item ⟨"bytes", _, FB.slot_bytes_getitem.lookup, typeIs_bytes _ _ _, getItem_bytes (l := [b.toUInt8]) (i := 0) (by simp) (by decide) (by simp) ?_⟩ (by rfl))
    refine spliced_cons (wpAny_Name (wpAny_loadName_local (m := m) hkind hx hns hm (spliced_nil ?_)) (by decide))
    refine wpAny_newObj_type ?_ (by show 2 ≤ sizeLine; rw [sizeLine_eq]; decide)
    refine hres _ _ _ (fun b o e => Heap.get?_push_of_some _ e) fun G' kG hG => ?_
    have e1 : ((([b.toUInt8] : Bs).getD (0 : Int).toNat 0).toNat : Int) = ((escPairs.lookup pr.1).elim 0 fun q => (q.1 : Int)) := by
      have h2 := hb.2.2
      have h3 := hb.2.1
      cases q : escPairs.lookup pr.1 with
      | none => rw [q] at h2; simp only [Option.elim] at h2 ⊢; subst h2; rfl
      | some y => rw [q] at h2; simp only [Option.elim] at h2 ⊢; subst h2; simp; omega
    show VR G' ρ (.tup [.int ((escPairs.lookup pr.1).elim 0 fun q => (q.1 : Int)), .int pr.1]) _
    rw [← e1]
    exact .tup (.cons .int (.cons .int .nil)) ⟨_, hG _ _ (Nat.le_refl _) (Heap.get?_push_size _ rfl), rfl, 0, rfl⟩
end
end Mine

end
section
namespace Mine
open PySem PySem.W PySem.Spec PySem.Calls PyProof.Rows

section
variable {prog : Program} {w : World} {A : Around} {E : Value → Shared → Prop} {s : Shared}
theorem no_keys {a : Addr} {xs : Array Value} {k : Nat} {Q : Option Value → Shared → Prop} (hx : s.heap.get? a = some { cls := .type "list", data := .seq xs k }) (hA : A.handled = none)
    (h : ∀ h' tk, s.heap.StaysIn h' → Q none { s with heap := h', toks := tk }) : wpAny (model prog w) A (getAttr? (.ref a) "keys") Q E s := by
  obtain ⟨hp, g, d, tk, os⟩ := s
  have hT : ∀ tk', (⟨hp, g, d, tk', os⟩ : Shared).TypeIs (.ref a) "list" := fun _ => ⟨_, hx, rfl⟩
  have f1 := sub_AttributeError
  have f3 := PySem.F.slot_list_getattribute.lookup
  have f4 := PySem.F.slot_list_getattribute.bind (.ref a)
  have f5 := am_list_getattr_none
  have hmiss : typeLookup (.type "list") "keys" = pure none := by rw [typeLookup_type, builtinLookup_eq_fast]; kernel_rfl
  unfold getAttr? getAttrBy? getAttrBy
  repeat (any_goals (first | assumption | exact hT _ | ((with_reducible show wpAny _ _ (call (Value.builtin "list.__getattribute__") _ _) _ _ _); refine call_meets PySem.F.slot_list_getattribute (hT _) am_entry_list_getattribute (PySem.F.args_list_getattribute_2 _ _) (meets_getattribute_miss_list a xs k #[] "keys" _ hmiss (by decide) (by decide)) ⟨hx, hA, ?_⟩; rintro h' tk' e hx') | wp_step))
  obtain ⟨t', u', he⟩ := hx'.there
  show wpAny _ _ (getattributeRaised _ _ _ _ _ _ _) _ _ _
  unfold getattributeRaised
  have hTe : ∀ tk', (⟨h', g, d, tk', os⟩ : Shared).TypeIs (.ref e) "AttributeError" := fun _ => ⟨_, he, rfl⟩
  repeat (any_goals (first | assumption | exact hTe _ | wp_step))
  exact h _ _ hx'.keeps
end

/-- pairs of ints as a list of tuples -/
inductive PairsAt (h : Heap) : List (Int × Int) → List Value → Prop
  | nil : PairsAt h [] []
  | cons {k x ps vs a t u n sl d} : h.get? a = some ⟨.type "tuple", d, .seq #[.int k t, .int x u] n, sl⟩ → PairsAt h ps vs → PairsAt h ((k, x) :: ps) (.ref a :: vs)
theorem PairsAt.keep {h h' : Heap} {ps vs} (x : PairsAt h ps vs) (k : ∀ b o, o.cls = .type "tuple" → h.get? b = some o → h'.get? b = some o) : PairsAt h' ps vs := by
  induction x with
  | nil => exact .nil
  | cons e _ ih => exact .cons (k _ _ rfl e) ih
theorem PairsAt.length {h : Heap} {ps vs} (x : PairsAt h ps vs) : vs.length = ps.length := by
  induction x with
  | nil => rfl
  | cons e _ ih => simp [ih]
theorem PairsAt.get {h : Heap} {ps vs} (x : PairsAt h ps vs) : ∀ {i : Nat} {p : Int × Int}, ps[i]? = some p → ∃ a t u n sl d, vs[i]? = some (.ref a) ∧ h.get? a = some ⟨.type "tuple", d, .seq #[.int p.1 t, .int p.2 u] n, sl⟩ := by
  induction x with
  | nil => intro i p e; cases e
  | cons e _ ih =>
    intro i p h
    cases i with
    | zero => cases h; exact ⟨_, _, _, _, _, _, rfl, e⟩
    | succ i => simpa using ih (by simpa using h)

section
variable {prog : Program} {w : World} {A : Around} {E : Value → Shared → Prop} {s : Shared}
noncomputable def FOk (ps : List (Int × Int)) (f : Int → Option Value) : Prop := ∀ i, match ps.reverse.lookup i with | some v => ∃ t, f i = some (.int v t) | none => f i = none
theorem FOk.step {ps : List (Int × Int)} {k x : Int} {u : Tok} {f : Int → Option Value} (h : FOk ps f) : FOk (ps ++ [(k, x)]) (fun y => if y = k then some (.int x u) else f y) := fun i => by
  rw [List.reverse_append, List.reverse_singleton, List.singleton_append, List.lookup_cons]
  cases q : i == k with
  | true => rw [eq_of_beq q]; exact ⟨u, by simp⟩
  | false =>
    have := h i
    dsimp only
    rw [if_neg (fun e => by rw [e] at q; simp at q)]
    exact this
theorem entry_loop : entryFor table "dict.update.loop" = some Builtin.«dict.update.loop» := entryFor_of_tree (by kernel_rfl)
theorem plain_loop : plainId "dict.update.loop" = true := by decide +kernel

theorem upd_loop {R : Result → Shared → Prop} {l I d : Addr} {ps : List (Int × Int)} {vs : List Value} (hh : A.handled = none) (hps : ps.length ≤ 1000) (hdI : d ≠ I) (hdl : d ≠ l) (hlI : l ≠ I) (h₀ : Heap) (hd0 : h₀.get? d = none) (hI0 : h₀.get? I = none) (hP : PairsAt h₀ ps vs) (hl0 : h₀.PlainList l vs.toArray) :
    ∀ (k i : Nat) (s : Shared) (f : Int → Option Value) (u : Tok), ps.length - i = k → i ≤ ps.length → h₀.StaysIn s.heap → s.heap.IsListIter I l i → s.heap.IntMap d f → s.heap.DictLe d i → FOk (ps.take i) f →
      (∀ h' tk f', h₀.StaysIn h' → h'.IntMap d f' → FOk ps f' → R (.ok (.ret .none)) { s with heap := h', toks := tk }) →
      codeAny (model prog w) A (.builtin "dict.update.loop" ⟨[.ref d, .ref I, .int i u, .none], []⟩) R s := by
  have hlen := hP.length
  intro k
  induction k with
  | zero =>
    intro i s f u hk hi hs hit hm hle hf hR
    obtain rfl : i = ps.length := by omega
    refine codeAny_builtin entry_loop ?_
    rw [Around.under_plainId plain_loop _]
    show wpAny _ A.in1 (pyNext (.ref I) >>= _) _ _ s
    refine wpAny_bind (wpAny_pyNext_list_end hh hit (plain_stays hs hl0).isList (by simp [hlen]) fun h' he => ?_)
    show wpAny _ _ (Builtin.Dict.addKeywords d [] >>= _) _ _ _
    refine wpAny_bind (wpAny_pure (wpAny_pure ?_))
    obtain ⟨o, es, ep, ho, r⟩ := hm
    exact hR h' s.toks f (fun b o e => he b o (fun q => by rw [q, hI0] at e; cases e) (hs b o e)) ⟨o, es, ep, he d o hdI ho, r⟩ (by rw [List.take_length] at hf; exact hf)
  | succ k ih =>
    intro i s f u hk hi hs hit hm hle hf hR
    have hlt : i < ps.length := by omega
    obtain ⟨p, hp⟩ : ∃ p, ps[i]? = some p := ⟨ps[i], List.getElem?_eq_getElem hlt⟩
    obtain ⟨a, t, u', n, sl, dd, hv, ha⟩ := hP.get hp
    refine codeAny_builtin entry_loop ?_
    rw [Around.under_plainId plain_loop _]
    show wpAny _ A.in1 (pyNext (.ref I) >>= _) _ _ s
    refine wpAny_bind (wpAny_pyNext_list_item (x := .ref a) hit (plain_stays hs hl0).isList (by simpa using hv) fun h' hit' hs' => ?_)
    have hs₁ : h₀.StaysIn h' := fun b o e => hs'.extBut b o (fun q => by rw [q, hI0] at e; cases e) (hs b o e)
    have ha₁ := hs₁ _ _ ha
    obtain ⟨o, es, ep, ho, r⟩ := hm
    have hm₁ : h'.IntMap d f := ⟨o, es, ep, hs'.extBut d o hdI ho, r⟩
    have hle₁ : h'.DictLe d i := hle.sameBut hs' hdI
    refine wpAny_bind (wpAny_holding ?_)
    refine wpAny_bind (wpAny_tryCatch ?_)
    unfold Builtin.Dict.pairItems
    refine wpAny_bind (wpAny_typeOf (T := "tuple") ⟨_, ha₁, rfl⟩ ?_)
    refine bm_if_true (by decide) ?_
    refine wpAny_bind (wpAny_seqItems ha₁ rfl ?_)
    refine wpAny_pure ?_
    dsimp only
    show wpAny _ _ (holding [.int p.1 t, .int p.2 u'] (dictSet d (.int p.1 t) (.int p.2 u'))) _ _ _
    refine wpAny_holding (wpAny_dictSet_int_le hm₁ hle₁ (by rw [sizeLine_eq]; omega) fun h₂ hm₂ hle₂ hs₂ => ?_)
    refine wpAny_pure ⟨plainId_quiet plain_loop _, ?_⟩
    have hs₃ : h₀.StaysIn h₂ := fun b o e => hs₂.extBut b o (fun q => by rw [q, hd0] at e; cases e) (hs₁ b o e)
    refine ih (i + 1) { s with heap := h₂, toks := s.toks + 1 } _ _ (by omega) hlt hs₃ (hit'.extBut hs₂.extBut hdI.symm) hm₂ hle₂ ?_ fun h3 tk3 f3 => hR h3 tk3 f3
    rw [List.take_add_one, hp]
    exact hf.step

theorem call_dict_pairs {l : Addr} {ps : List (Int × Int)} {vs : List Value} {Q : Value → Shared → Prop} (hh : A.handled = none) (hps : ps.length ≤ 1000) (hP : PairsAt s.heap ps vs) (hl : s.heap.PlainList l vs.toArray)
    (h : ∀ a h' tk f, s.heap.get? a = none → s.heap.StaysIn h' → h'.IntMap a f → FOk ps f → Q (.ref a) { s with heap := h', toks := tk }) : wpAny (model prog w) A (call (.type "dict") [.ref l]) Q E s := by
  refine callType_codes (Q₁ := fun obj s₁ => obj = .ref s.heap.objs.size ∧ s₁ = { s with heap := s.heap.push { cls := .type "dict", data := .dict #[] } }) PySem.F.kt_called_dict (PySem.F.kt_typeCall_dict_1 _) PySem.F.entry_dict_init (kt_code_dict_new _ ⟨rfl, rfl⟩) ?_
  rintro obj s₁ ⟨rfl, rfl⟩
  have hnew : (s.heap.push { cls := .type "dict", data := .dict #[] }).IntMap s.heap.objs.size fun _ => none := Heap.IntMap.new s.heap
  have hle := Heap.DictLe.new s.heap
  generalize hH : s.heap.push { cls := .type "dict", data := .dict #[] } = H at hnew hle
  have hHs : H.objs.size = s.heap.objs.size + 1 := by rw [← hH, Heap.size_push]
  have k0 : s.heap.StaysIn H := fun b o e => hH ▸ Heap.get?_push_of_some _ e
  refine ⟨hnew.typeIs, PySem.F.args_dict_init_2 _ _, ?_⟩
  unfold Builtin.«dict.__init__»
  refine wpAny_bind ?_
  unfold Builtin.Dict.selfAndRest
  refine wpAny_bind (wpAny_notOrdered_dict hnew.typeIs ?_)
  show wpAny _ _ (pure (s.heap.objs.size, [Value.ref l])) _ _ _
  refine wpAny_pure ?_
  show wpAny _ _ (Builtin.Dict.updateFrom "dict.__init__" s.heap.objs.size (.ref l) [] .none) _ _ _
  unfold Builtin.Dict.updateFrom
  obtain ⟨n, hlo⟩ := id hl
  have hl₁ : H.get? l = some { cls := .type "list", data := .seq vs.toArray n } := k0 _ _ hlo
  refine wpAny_bind (wpAny_typeOf (T := "list") ⟨_, hl₁, rfl⟩ ?_)
  refine bm_if_true (by decide) ?_
  refine wpAny_bind (no_keys hl₁ hh fun h₂ tk₂ k₂ => ?_)
  refine bm_if_true rfl ?_
  refine wpAny_bind (wpAny_rule ?_)
  have k1 : s.heap.StaysIn h₂ := fun b o e => k₂ b o (k0 b o e)
  refine wpAny_bind (wpAny_pyIter_list (plain_stays k1 hl).isList ?_)
  have hlt : l < s.heap.objs.size := Heap.lt_size hlo
  obtain ⟨o, es, ep, ho, r⟩ := id hnew
  have hds : s.heap.objs.size < h₂.objs.size := Heap.lt_size (k₂ _ _ ho)
  have kp : ∀ b ob, h₂.get? b = some ob → (h₂.push { cls := .type "list_iterator", data := .fields #[.ref l, .int 0 0] }).get? b = some ob := fun b ob e => Heap.get?_push_of_some _ e
  refine wpAny_pure ⟨plainId_quiet plain_loop _, ?_⟩
  refine upd_loop (A := A.in1) (l := l) (I := h₂.objs.size) (d := s.heap.objs.size) (ps := ps) (vs := vs) hh hps (Nat.ne_of_lt hds) (Nat.ne_of_gt hlt) (Nat.ne_of_lt (Nat.lt_trans hlt hds)) s.heap (Heap.get?_none_of_le (Nat.le_refl _)) (Heap.get?_none_of_le (Nat.le_of_lt hds)) hP hl
    ps.length 0 { s with heap := h₂.push { cls := .type "list_iterator", data := .fields #[.ref l, .int 0 0] }, toks := tk₂ } (fun _ => none) 0 rfl (Nat.zero_le _) (fun b o e => kp b o (k1 b o e)) ⟨_, Heap.get?_push_size _ rfl, rfl, rfl⟩ ⟨o, es, ep, kp _ _ (k₂ _ _ ho), r⟩ ?_ (fun i => rfl)
    fun h' tk f hk hm hf => ?_
  · intro o' es' ep' ho' hd'
    rw [kp _ _ (k₂ _ _ ho)] at ho'
    cases ho'
    exact hle _ _ _ ho hd'
  · exact ⟨rfl, h _ h' tk f (Heap.get?_none_of_le (Nat.le_refl _)) hk hm hf⟩
end

section
variable {g : Gl} {fc : FC} {a : AS} {R : AS → Prop} {n : Nat}
theorem pairs_of {G : Heap} {ρ : List Addr} {h : Heap} (k : G.StaysIn h) : ∀ {ps : List (Int × Int)} {vs : List Value}, VRs G ρ (ps.map fun p => .tup [.int p.1, .int p.2]) vs → PairsAt h ps vs
  | [], _, .nil => .nil
  | p :: ps, _, .cons hv t => by
    obtain ⟨_, _, rfl, hvs, hT⟩ := VR.tup_inv hv
    ·
      cases hvs with
      | cons h1 r => cases r with
        | cons h2 r =>
          cases r
          (first | obtain ⟨_, rfl⟩ := VR.int_inv h1 | obtain ⟨_, rfl⟩ := VR.bytes_inv h1 | obtain ⟨_, rfl⟩ := VR.str_inv h1 | obtain rfl := VR.none_inv h1 | obtain rfl := VR.bool_inv h1 | cases h1); (first | obtain ⟨_, rfl⟩ := VR.int_inv h2 | obtain ⟨_, rfl⟩ := VR.bytes_inv h2 | obtain ⟨_, rfl⟩ := VR.str_inv h2 | obtain rfl := VR.none_inv h2 | obtain rfl := VR.bool_inv h2 | cases h2)
          obtain ⟨o, ho, hc, n, hd⟩ := hT
          obtain ⟨oc, od, odt, osl⟩ := o
          dsimp only at hc hd
          subst hc hd
          exact .cons (k _ _ ho) (pairs_of k t)
theorem c_names {Q : D → AS → Prop} (ok : fc.Ok n) (hq : Q .names a) : CallAt g fc (.glob (.type "dict")) [.list (escPairs.map fun p => .tup [.int p.2.1, .int p.1])] Q R a := .mk fun G ρ s vf vs hr hf hv => by
  obtain rfl := VR.glob_inv hf
  obtain ⟨_, rfl, hv1⟩ := VRs.one_inv hv
  ·
    obtain ⟨_, _, rfl, hvs, hl⟩ := VR.list_inv hv1
    ·
      have hP := pairs_of (ps := escPairs.map fun p => ((p.2.1 : Int), p.1)) hr.gs (by rw [List.map_map]; exact hvs)
      refine call_dict_pairs ok.handled (by decide) hP (plain_stays hr.gs hl) fun x h' tk f hx hk hm hf => ?_
      obtain ⟨z1, z2⟩ := hr.ext (t := tk) hk
      have hxn : x ∉ hid fc ρ := fun hm => let ⟨o, ho⟩ := hr.alive x hm; by rw [hx] at ho; cases ho
      refine ⟨_, ρ, a, _, z2, z1, .names ⟨f, ?_, fun i => ?_⟩, hq⟩
      · obtain ⟨o, es, ep, ho, r⟩ := hm
        exact ⟨o, es, ep, hideAll_get _ ho hxn, r⟩
      · have := hf i
        rw [show (escPairs.map fun p => ((p.2.1 : Int), p.1)).reverse = escInv.reverse from by decide] at this
        have e : escInv.reverse.lookup i = escInv.lookup i := by
          unfold escInv
          simp only [List.reverse_cons, List.reverse_nil, List.nil_append, List.cons_append, List.lookup_cons, List.lookup_nil]
          repeat (first | rfl | (split; all_goals rename_i q; try (rw [eq_of_beq q] at *; rfl)))
        rw [e] at this
        exact this
end
end Mine

end
section
namespace Mine
open PySem PySem.W PySem.Spec PySem.Calls PyProof.Rows Builtin Builtin.ObjectAttr

theorem putL_length (name : PStr) (hsh : Int) (key v : Value) : ∀ es : List DictEntry, (putL name hsh key v es).length ≤ es.length + 1
  | [] => by simp [putL]
  | e :: r => by
    unfold putL
    split
    · simp
    · have := putL_length name hsh key v r
      simp only [List.length_cons]
      omega
section
variable {prog : Program} {w : World} {A : Around} {E : Value → Shared → Prop} {P : Params} {s : Shared}
theorem hset {x dx : Addr} {es : List DictEntry} {n : Nat} {name : PStr} {v : Value} {Q : Unit → Shared → Prop} (X : (Hd.hd.heap_1 P).In s.heap) (hx : s.heap.get? x = some (instObj 119 dx)) (hdx : s.heap.get? dx = some (dictOf es n))
    (ht : takerIn (Hd.hd.heap_1 P) 119 name = some none) (hl : (getL name es).isSome = true) (hz : es.length ≤ 100)
    (hq : ∀ h' tk t, (∀ b o, b ≠ dx → s.heap.get? b = some o → h'.get? b = some o) → h'.get? dx = some (dictOf (putL name (PyData.keyHash w.params name) (.str name t) v es) (putN name es n)) → Q () { s with heap := h', toks := tk }) :
    wpAny (model prog w) A (setAttr (.ref x) name v) Q E s := by
  obtain ⟨h, g, d, t, os⟩ := s
  dsimp only at X hx hdx hq
  have I : InstAt h x (instObj 119 dx) 119 (some (dictOf es n)) := ⟨hx, rfl, rfl, hdx⟩
  refine set_plain (s := ⟨h, g, d, t, os⟩) X I (by with_unfolding_all rfl) ?_
  dsimp only
  refine osa_open (s := ⟨h, g, d, t + 1, os⟩) X I (by with_unfolding_all rfl) ht fun b => ?_
  obtain ⟨cd, hc, hd'⟩ : ∃ cd, clsIn (Hd.hd.heap_1 P) 119 = some cd ∧ cd.hasDict = true := ⟨_, by with_unfolding_all rfl, rfl⟩
  refine wpAny_bind (wpAny_pure (wpAny_bind (wpAny_bind (wpAny_loadPart hx (wpAny_bind ((looks_clsIn X hc).at ?_))))))
  rw [hd']
  refine wpAny_pure (a := some dx) (wpAny_bind (wpAny_pure (wpAny_bind ?_)))
  unfold nsSet
  refine wpAny_bind (wpAny_bind (wpAny_askSetting (wpAny_pure (wpAny_bind (wpAny_mkText (wpAny_bind (wpAny_loadPart hdx ?_)))))))
  have c : (!es.toArray.any (·.key.isStr name) && es.toArray.any (·.refKey)) = false := by
    rw [← Array.any_toList, ← Array.any_toList]
    unfold getL at hl
    split at hl
    · rename_i en he
      rw [List.any_eq_true.mpr ⟨en, List.mem_of_find?_eq_some he, List.find?_some he⟩]; rfl
    · split at hl
      · cases hl
      · rename_i z; rw [Bool.not_eq_true] at z; rw [z, Bool.and_false]
  dsimp only
  rw [aRefKeyMayBeTheName_at, c]
  refine wpAny_updatePart hdx ?_
  have e : Obj.putName name (PyData.keyHash w.params name) (.str name (t + 1)) v (dictOf es n) = dictOf (putL name (PyData.keyHash w.params name) (.str name (t + 1)) v es) (putN name es n) := putName_dict ..
  have hs := Heap.get?_update_self (Obj.putName name (PyData.keyHash w.params name) (.str name (t + 1)) v) hdx (by rw [e]; rfl)
  rw [e] at hs
  refine wpAny_bind (wpAny_lookBehind hs (pastItsLine_dict (by rw [List.size_toArray, sizeLine_eq]; have := putL_length name (PyData.keyHash w.params name) (.str name (t + 1)) v es; omega)) ?_)
  exact wpAny_pure (hq _ _ _ (fun b o hb e => (Heap.get?_update_other _ _ (Ne.symm hb)).trans e) hs)

end
section
variable {prog : Program} {w : World} {A : Around} {s : Shared}
/-- a call of a def of the text, raw -/
theorem call_raw {R : Result → Shared → Prop} {name qual : PStr} {params : Arguments} {body : List Stmt} {scope : Scope} {dV kV doc pm cdv ct oc : Value} {an od : Option Addr} {osl : Array (Option Value)} {f : Addr} {names : List PStr} {vs : List Value}
    (X : (Hd.hd.heap_1 w.params).In s.heap) (hl : s.heap.NoLimit) (hd : A.depth < 900) (ho : (Hd.hd.heap_1 w.params).lookup f = some ⟨oc, od, .func (fnOf name qual params body scope dV kV doc pm an cdv ct), osl⟩) (hcd : codeIn (Hd.hd.heap_1 w.params) cdv qual = true)
    (hb : BindsTo s (fnOf name qual params body scope dV kV doc pm an cdv ct) ⟨vs, []⟩ (names.zip vs))
    (hloc : ∀ x ∈ names, scope.names.lookup x = some .local) (hcell : ∀ x ∈ scope.names, x.2 ≠ .cell)
    (h : ∀ h₀, h₀.Ns s.heap.objs.size (fun x => (names.zip vs).reverse.lookup x) → (∀ b o, s.heap.get? b = some o → h₀.get? b = some o) →
      wpAny (model prog w) (A.deeper (envX qual scope s.heap.objs.size f cdv [])) (execs body (envX qual scope s.heap.objs.size f cdv [])) (fun f s' => R (.ok (.ret (match f with | .ret v => v | _ => .none))) s')
        (fun e s' => wpAny (model prog w) (A.deeper (envX qual scope s.heap.objs.size f cdv [])) (leaving (envX qual scope s.heap.objs.size f cdv []) e) (fun _ s'' => R (.error e) s'') (fun e' s'' => R (.error e') s'') s')
        { s with heap := h₀, toks := s.toks + (names.zip vs).length })
    (hco : scope.isCoroutine = false := by rfl) (hgen : scope.isGenerator = false := by rfl) (hk : scope.kind = .function := by rfl) :
    codeAny (model prog w) A (.call (.ref f) ⟨vs, []⟩) R s :=
  codeAny_call_def (fd := fnOf name qual params body scope dV kV doc pm an cdv ct) (body := body) (binds := names.zip vs) (by show _ < 1000; omega) (X _ _ ho) rfl hl (codeRec_of X hcd) rfl
    hb hcell (fun x hx => hloc x.1 (List.of_mem_zip (a := x.1) (b := x.2) hx).1) (fun h₁ hns hk₁ => h h₁ hns hk₁) hco hgen hk

noncomputable abbrev hunkNames : List PStr := ["self", "old_from", "old_many", "new_from", "new_many", "rows", "heading"]
theorem hunk_init {R : Result → Shared → Prop} {x dx : Addr} {a b c d r e : Value} (X : (Hd.hd.heap_1 w.params).In s.heap) (hl : s.heap.NoLimit) (hd : A.depth < 900) (hx : s.heap.get? x = some (instObj 119 dx)) (hdx : s.heap.get? dx = some (dictOf [] 0))
    (hxd : x ≠ dx) (hK : ∀ o, (Hd.hd.heap_1 w.params).lookup dx ≠ some o)
    (hq : ∀ h' tk es n, (∀ b o, b ≠ dx → s.heap.get? b = some o → h'.get? b = some o) → h'.get? dx = some (dictOf es n) → getL "old_from" es = some (some a) → getL "old_many" es = some (some b) → getL "new_from" es = some (some c) →
      getL "new_many" es = some (some d) → getL "rows" es = some (some r) → getL "heading" es = some (some e) → R (.ok (.ret .none)) { s with heap := h', toks := tk }) :
    codeAny (model prog w) A (.call (.ref 90) ⟨[.ref x, a, b, c, d, r, e], []⟩) R s := by
  refine call_raw (names := hunkNames) X hl hd (by with_unfolding_all rfl) (by with_unfolding_all rfl) (BindsTo.of_defaults (T := 83) rfl (X _ _ (by with_unfolding_all rfl)) rfl rfl (by with_unfolding_all rfl)) (by decide) (by decide) (fun h₀ hns k₀ => ?_)
  have hLd : s.heap.objs.size ≠ dx := fun q => Nat.lt_irrefl _ (q ▸ Heap.lt_size hdx)
  have X₀ : (Hd.hd.heap_1 w.params).In h₀ := X.keeps k₀
  have hx₀ := k₀ _ _ hx
  have hd₀ := k₀ _ _ hdx
  refine wpAny_execs_cons ?_
  refine plainObj_wpAny_Assign_Attribute ?_ (by with_unfolding_all rfl)
  refine wpAny_Name (wpAny_loadName_local (m := _) rfl rfl hns (v := a) rfl ?_) (by decide)
  refine wpAny_Name (wpAny_loadName_local (m := _) rfl rfl hns (v := .ref x) rfl ?_) (by decide)
  refine hset X₀ hx₀ hd₀ (by with_unfolding_all rfl) (by rfl) (Nat.le_of_ble_eq_true (by with_unfolding_all rfl)) fun h₁ tk₁ t₁ k₁ d₁ => ?_
  dsimp only at k₁ d₁
  have X₁ : (Hd.hd.heap_1 w.params).In h₁ := fun b o q => k₁ b o (fun q' => hK o (q' ▸ q)) (X₀ b o q)
  have n₁ := ns_keep (fun o q => k₁ _ o hLd q) hns
  have x₁ := k₁ _ _ hxd hx₀
  refine wpAny_execs_cons ?_
  refine plainObj_wpAny_Assign_Attribute ?_ (by with_unfolding_all rfl)
  refine wpAny_Name (wpAny_loadName_local (m := _) rfl rfl n₁ (v := b) rfl ?_) (by decide)
  refine wpAny_Name (wpAny_loadName_local (m := _) rfl rfl n₁ (v := .ref x) rfl ?_) (by decide)
  refine hset X₁ x₁ d₁ (by with_unfolding_all rfl) (by rfl) (Nat.le_of_ble_eq_true (by with_unfolding_all rfl)) fun h₂ tk₂ t₂ k₂ d₂ => ?_
  dsimp only at k₂ d₂
  have X₂ : (Hd.hd.heap_1 w.params).In h₂ := fun b o q => k₂ b o (fun q' => hK o (q' ▸ q)) (X₁ b o q)
  have n₂ := ns_keep (fun o q => k₂ _ o hLd q) n₁
  have x₂ := k₂ _ _ hxd x₁
  refine wpAny_execs_cons ?_
  refine plainObj_wpAny_Assign_Attribute ?_ (by with_unfolding_all rfl)
  refine wpAny_Name (wpAny_loadName_local (m := _) rfl rfl n₂ (v := c) rfl ?_) (by decide)
  refine wpAny_Name (wpAny_loadName_local (m := _) rfl rfl n₂ (v := .ref x) rfl ?_) (by decide)
  refine hset X₂ x₂ d₂ (by with_unfolding_all rfl) (by rfl) (Nat.le_of_ble_eq_true (by with_unfolding_all rfl)) fun h₃ tk₃ t₃ k₃ d₃ => ?_
  dsimp only at k₃ d₃
  have X₃ : (Hd.hd.heap_1 w.params).In h₃ := fun b o q => k₃ b o (fun q' => hK o (q' ▸ q)) (X₂ b o q)
  have n₃ := ns_keep (fun o q => k₃ _ o hLd q) n₂
  have x₃ := k₃ _ _ hxd x₂
  refine wpAny_execs_cons ?_
  refine plainObj_wpAny_Assign_Attribute ?_ (by with_unfolding_all rfl)
  refine wpAny_Name (wpAny_loadName_local (m := _) rfl rfl n₃ (v := d) rfl ?_) (by decide)
  refine wpAny_Name (wpAny_loadName_local (m := _) rfl rfl n₃ (v := .ref x) rfl ?_) (by decide)
  refine hset X₃ x₃ d₃ (by with_unfolding_all rfl) (by rfl) (Nat.le_of_ble_eq_true (by with_unfolding_all rfl)) fun h₄ tk₄ t₄ k₄ d₄ => ?_
  dsimp only at k₄ d₄
  have X₄ : (Hd.hd.heap_1 w.params).In h₄ := fun b o q => k₄ b o (fun q' => hK o (q' ▸ q)) (X₃ b o q)
  have n₄ := ns_keep (fun o q => k₄ _ o hLd q) n₃
  have x₄ := k₄ _ _ hxd x₃
  refine wpAny_execs_cons ?_
  refine plainObj_wpAny_Assign_Attribute ?_ (by with_unfolding_all rfl)
  refine wpAny_Name (wpAny_loadName_local (m := _) rfl rfl n₄ (v := r) rfl ?_) (by decide)
  refine wpAny_Name (wpAny_loadName_local (m := _) rfl rfl n₄ (v := .ref x) rfl ?_) (by decide)
  refine hset X₄ x₄ d₄ (by with_unfolding_all rfl) (by rfl) (Nat.le_of_ble_eq_true (by with_unfolding_all rfl)) fun h₅ tk₅ t₅ k₅ d₅ => ?_
  dsimp only at k₅ d₅
  have X₅ : (Hd.hd.heap_1 w.params).In h₅ := fun b o q => k₅ b o (fun q' => hK o (q' ▸ q)) (X₄ b o q)
  have n₅ := ns_keep (fun o q => k₅ _ o hLd q) n₄
  have x₅ := k₅ _ _ hxd x₄
  refine wpAny_execs_cons ?_
  refine plainObj_wpAny_Assign_Attribute ?_ (by with_unfolding_all rfl)
  refine wpAny_Name (wpAny_loadName_local (m := _) rfl rfl n₅ (v := e) rfl ?_) (by decide)
  refine wpAny_Name (wpAny_loadName_local (m := _) rfl rfl n₅ (v := .ref x) rfl ?_) (by decide)
  refine hset X₅ x₅ d₅ (by with_unfolding_all rfl) (by rfl) (Nat.le_of_ble_eq_true (by with_unfolding_all rfl)) fun h₆ tk₆ t₆ k₆ d₆ => ?_
  dsimp only at k₆ d₆
  refine wpAny_execs_nil ?_
  exact hq h₆ _ _ _ (fun b o hb q => k₆ b o hb (k₅ b o hb (k₄ b o hb (k₃ b o hb (k₂ b o hb (k₁ b o hb (k₀ b o q))))))) d₆ rfl rfl rfl rfl rfl rfl
theorem make_hunk {E : Value → Shared → Prop} {a b c d r e : Value} {Q : Value → Shared → Prop} (X : (Hd.hd.heap_1 w.params).In s.heap) (hl : s.heap.NoLimit) (hd : A.depth < 890)
    (hq : ∀ h' tk x dx es n, s.heap.StaysIn h' → s.heap.get? x = none → s.heap.get? dx = none → h'.get? x = some (instObj 119 dx) → h'.get? dx = some (dictOf es n) → getL "old_from" es = some (some a) → getL "old_many" es = some (some b) → getL "new_from" es = some (some c) →
      getL "new_many" es = some (some d) → getL "rows" es = some (some r) → getL "heading" es = some (some e) → Q (.ref x) { s with heap := h', toks := tk }) :
    wpAny (model prog w) A (call (.ref 119) [a, b, c, d, r, e]) Q E s := by
  obtain ⟨h, gs, dr, t, os⟩ := s
  dsimp only at X hl hq
  have k2 : ∀ b o, h.get? b = some o → ((h.push emptyDict).push (instObj 119 h.objs.size)).get? b = some o := fun b o e => Heap.get?_push_of_some _ (Heap.get?_push_of_some _ e)
  refine wpAny_call (make_core (makes_of X (by with_unfolding_all rfl)) (looks_findIn X (r := some (.ref 90)) (by with_unfolding_all rfl)) (fun self => bind_fn X self (by with_unfolding_all rfl)) (.inl (by decide)) ?_)
  have n1 : h.get? h.objs.size = none := Heap.get?_none_of_le (Nat.le_refl _)
  have n2 : h.get? (h.objs.size + 1) = none := Heap.get?_none_of_le (Nat.le_succ _)
  refine hunk_init (dx := h.objs.size) (X.keeps k2) (hl.keeps k2) (by show A.depth + 1 < 900; omega) (by dsimp only; heap_get) (by dsimp only; heap_get) (by exact Nat.succ_ne_self _) (fun o q => by rw [X _ _ q] at n1; cases n1) fun h' tk es n k3 hdx g1 g2 g3 g4 g5 g6 => ?_
  refine ⟨rfl, ?_⟩
  refine hq h' tk _ _ es n (fun b o q => k3 b o (fun q' => by rw [q', n1] at q; cases q) (k2 b o q)) n2 n1 (k3 _ _ (Nat.succ_ne_self _) (by dsimp only; heap_get)) hdx g1 g2 g3 g4 g5 g6
end
section
variable {g : Gl} {fc : FC} {a : AS} {R : AS → Prop} {n : Nat}
theorem frz_get {h : Heap} {ρ : List Addr} {x : Addr} {o : Obj} (e : h.get? x = some o) (hx : x ∉ hid fc ρ) : (frz fc ρ h).get? x = some o := hideAll_get _ e hx
theorem c_hunk {b₁ b₂ b₃ b₄ : Int} {hd : Bs} {Q : D → AS → Prop} (g' : g.Ok) (ok : fc.Ok n) (hn : n ≤ 90) (h : Q (.hunk b₁ b₂ b₃ b₄ hd) a) :
    CallAt g fc (.glob (.ref 119)) [.int b₁, .int b₂, .int b₃, .int b₄, .list [], .bytes hd] Q R a := .mk fun G ρ s vf vs hr hf hv => by
  obtain rfl := VR.glob_inv hf
  obtain ⟨_, _, rfl, v1, hv⟩ := VRs.cons_inv hv
  obtain ⟨_, _, rfl, v2, hv⟩ := VRs.cons_inv hv
  obtain ⟨_, _, rfl, v3, hv⟩ := VRs.cons_inv hv
  obtain ⟨_, _, _, rfl, v4, v5, v6⟩ := VRs.three_inv hv
  obtain ⟨_, rfl⟩ := VR.int_inv v1
  obtain ⟨_, rfl⟩ := VR.int_inv v2
  obtain ⟨_, rfl⟩ := VR.int_inv v3
  obtain ⟨_, rfl⟩ := VR.int_inv v4
  obtain ⟨_, rfl⟩ := VR.bytes_inv v6
  obtain ⟨_, _, rfl, q5, l5⟩ := VR.list_inv v5
  obtain rfl := VRs.nil_inv q5
  ·
    have := ok.depth
    refine make_hunk (hr.K g') (hr.top g').nolimit (by omega) fun h' tk x dx es n k nx ndx hx hdx g1 g2 g3 g4 g5 g6 => ?_
    obtain ⟨z1, z2⟩ := hr.ext (t := tk) k
    have hxn : x ∉ hid fc ρ := fun hm => let ⟨o, ho⟩ := hr.alive x hm; by rw [nx] at ho; cases ho
    have hdn : dx ∉ hid fc ρ := fun hm => let ⟨o, ho⟩ := hr.alive dx hm; by rw [ndx] at ho; cases ho
    exact ⟨_, ρ, _, _, z2, z1, .hunk ⟨dx, _, es, n, _, frz_get hx hxn, rfl, frz_get hdx hdn, plain_stays z2.1 l5, ⟨_, g1⟩, ⟨_, g2⟩, ⟨_, g3⟩, ⟨_, g4⟩, g5, ⟨_, g6⟩⟩, h⟩
end
end Mine

end
section
namespace Mine
open PySem PySem.W PySem.Spec PySem.Calls PyProof.Rows PySem.SeqAt

section
variable {A : Around} {s : Shared}
theorem sub_bytes_None : isSubtype (.type "bytes") (.type "NoneType") = pure false := by rw [isSubtype_type]; kernel_rfl
theorem sub_None_bytes : isSubtype (.type "NoneType") (.type "bytes") = pure false := by rw [isSubtype_type]; kernel_rfl
theorem gv_eq_bytes_none (b : Array UInt8) (t : Tok) : Gives (Builtin.«bytes.__eq__» ⟨[.bytes b t, .none], []⟩) (.val (Value.notImplemented)) :=
  .of_wp fun M A E s Q h => by
    obtain ⟨hp, g, d, tk, os⟩ := s
    wp_walk
    refine wpAny_of_eq sub_None_bytes ?_
    wp_walk
    exact ⟨_, rfl, h⟩
theorem gv_eq_none_bytes (b : Array UInt8) (t : Tok) : Gives (Builtin.«NoneType.__eq__» ⟨[.none, .bytes b t], []⟩) (.val (Value.notImplemented)) :=
  .of_wp fun M A E s Q h => by obtain ⟨hp, g, d, tk, os⟩ := s; wp_walk; exact ⟨_, rfl, h⟩
theorem slot_bytes_eq_refl : Slot "bytes" (cmpInfo .Eq).2.2 "bytes.__eq__" :=
  .of (owner := "bytes") (n := "__eq__") (by rw [typeLookup_type, builtinLookup_eq_fast]; kernel_rfl) (by decide +kernel) (by decide +kernel) (by decide +kernel)
    (by first | exact .inl (by decide +kernel) | exact .inr (by decide +kernel)) (by rw [isSubtype_type]; kernel_rfl)
theorem rc_bytes_none (b : Array UInt8) (t : Tok) : RcAt A s (.bytes b t) .none false := fun prog w E Q h =>
  rc_eq_decline_or (k := false) (typeIs_bytes s b t) rfl (by decide) sub_None_bytes FB.slot_bytes_eq F.slot_NoneType_eq_refl
    (fun _ hq => call_gives FB.slot_bytes_eq (typeIs_bytes s b t) FB.entry_bytes_eq (FB.args_bytes_eq_2 _ _) (gv_eq_bytes_none b t) hq)
    (fun _ hq => call_gives F.slot_NoneType_eq_refl rfl F.entry_NoneType_eq (F.args_NoneType_eq_2 _ _) (gv_eq_none_bytes b t) hq)
    (fun _ hq => wpAny_of_eq (rfl : isSame (.bytes b t) .none = pure false) hq) (.inl rfl) h
theorem rc_none_bytes (b : Array UInt8) (t : Tok) : RcAt A s .none (.bytes b t) false := fun prog w E Q h =>
  rc_eq_decline_or (k := false) rfl (typeIs_bytes s b t) (by decide) sub_bytes_None F.slot_NoneType_eq slot_bytes_eq_refl
    (fun _ hq => call_gives F.slot_NoneType_eq rfl F.entry_NoneType_eq (F.args_NoneType_eq_2 _ _) (gv_eq_none_bytes b t) hq)
    (fun _ hq => call_gives slot_bytes_eq_refl (typeIs_bytes s b t) FB.entry_bytes_eq (FB.args_bytes_eq_2 _ _) (gv_eq_bytes_none b t) hq)
    (fun _ hq => wpAny_of_eq (rfl : isSame .none (.bytes b t) = pure false) hq) (.inl rfl) h
theorem rc_bytes (a b : Bs) (t u : Tok) : RcAt A s (.bytes a.toArray t) (.bytes b.toArray u) (a == b) := fun prog w E Q h => eq_bytes (by simpa using h)
theorem at_bytes_none (b : Array UInt8) (t : Tok) : EqAt A s (.bytes b t) .none false := fun prog w E Q h => by
  unfold eqBool
  refine wpAny_holding ?_
  refine wpAny_ite_split (fun hab => absurd (eq_of_beq hab) nofun) (fun _ => ?_)
  exact wpAny_bind (rc_bytes_none b t prog w E _ (wpAny_truthy_bool h))
theorem at_none_bytes (b : Array UInt8) (t : Tok) : EqAt A s .none (.bytes b t) false := fun prog w E Q h => by
  unfold eqBool
  refine wpAny_holding ?_
  refine wpAny_ite_split (fun hab => absurd (eq_of_beq hab) nofun) (fun _ => ?_)
  exact wpAny_bind (rc_none_bytes b t prog w E _ (wpAny_truthy_bool h))
theorem at_bytes (a b : Bs) (t u : Tok) : EqAt A s (.bytes a.toArray t) (.bytes b.toArray u) (a == b) := fun prog w E Q h => by
  unfold eqBool
  refine wpAny_holding ?_
  refine wpAny_ite_split (fun hab => ?_) (fun _ => ?_)
  · have e : a = b := by
      have := eq_of_beq hab
      injection this with e1 e2
      simpa using e1
    subst e
    rw [beq_self_eq_true] at h
    exact wpAny_bind (wpAny_rule (wpAny_pure h))
  · exact wpAny_bind (rc_bytes a b t u prog w E _ (wpAny_truthy_bool h))
end

theorem VRs.get2 {G ρ} : ∀ {ds : List D} {vs : List Value}, VRs G ρ ds vs → ∀ {k : Nat} {v : Value}, vs[k]? = some v → ∃ d, ds[k]? = some d ∧ VR G ρ d v
  | _, _, .nil, k, v, e => by cases e
  | _, _, .cons h1 h2, 0, v, e => by cases e; exact ⟨_, rfl, h1⟩
  | _, _, .cons h1 h2, k + 1, v, e => VRs.get2 h2 e
theorem VRs.len {G ρ} : ∀ {ds : List D} {vs : List Value}, VRs G ρ ds vs → ds.length = vs.length
  | _, _, .nil => rfl
  | _, _, .cons _ h => by rw [List.length_cons, List.length_cons, h.len]

/-- a == b, where the text asks it; n: how deep tuples may nest -/
inductive EqV : Nat → D → D → Bool → Prop
  | nn {n} : EqV n .none .none true
  | ii {n a b} : EqV n (.int a) (.int b) (a == b)
  | ss {n a b} : EqV n (.str a) (.str b) (a == b)
  | bb {n a b} : EqV n (.bytes a) (.bytes b) (a == b)
  | nb {n b} : EqV n .none (.bytes b) false
  | bn {n b} : EqV n (.bytes b) .none false
  | nt {n b} : EqV n .none (.tup b) false
  | tn {n b} : EqV n (.tup b) .none false
  | ll {n} : EqV n (.list []) (.list []) true
  | tt {n l m} {e : Nat → Bool} (hl : l.length = m.length) (h : ∀ k x y, l[k]? = some x → m[k]? = some y → EqV n x y (e k)) : EqV (n + 1) (.tup l) (.tup m) ((List.range l.length).all e)
theorem EqV.cast {n : Nat} {x y : D} {b c : Bool} (h : EqV n x y b) (e : b = c) : EqV n x y c := e ▸ h
theorem EqV.two {n : Nat} {x y x' y' : D} {b c : Bool} (h1 : EqV n x x' b) (h2 : EqV n y y' c) : EqV (n + 1) (.tup [x, y]) (.tup [x', y']) (b && c) := by
  refine (EqV.tt (l := [x, y]) (m := [x', y']) (e := fun k => if k = 0 then b else c) rfl fun k u w e1 e2 => ?_).cast (congrArg (b && ·) (Bool.and_true c))
  match k with
  | 0 => cases e1; cases e2; exact h1
  | 1 => cases e1; cases e2; exact h2
  | k + 2 => cases e1
theorem EqV.all {n : Nat} {l : List D} (h : ∀ x ∈ l, EqV n x x true) : EqV (n + 1) (.tup l) (.tup l) true := by
  refine (EqV.tt (e := fun _ => true) rfl fun k u w e1 e2 => ?_).cast (List.all_eq_true.mpr fun _ _ => rfl)
  rw [e1] at e2
  cases e2
  exact h u (List.mem_of_getElem? e1)
theorem isTup_get {G h : Heap} (k : G.StaysIn h) {a its} (x : IsTup G a its) : h.IsTuple a its := let ⟨o, ho, r⟩ := x; ⟨o, k _ _ ho, r⟩
theorem tup_same {G : Heap} {a : Addr} {xs ys : List Value} (t1 : IsTup G a xs.toArray) (t2 : IsTup G a ys.toArray) : xs = ys := by
  obtain ⟨o1, g1, -, n1, q1⟩ := t1
  obtain ⟨o2, g2, -, n2, q2⟩ := t2
  rw [g1] at g2
  cases g2
  rw [q1] at q2
  injection q2 with q3 q4
  exact List.toArray_inj q3
theorem eq_inj {G : Heap} {ρ : List Addr} {n : Nat} {d₁ d₂ : D} {b : Bool} (h : EqV n d₁ d₂ b) : ∀ {v : Value}, VR G ρ d₁ v → VR G ρ d₂ v → b = true := by
  induction h with
  | nn => intro v _ _; rfl
  | ll => intro v _ _; rfl
  | ii => intro v h1 h2; (first | obtain ⟨_, rfl⟩ := VR.int_inv h1 | obtain ⟨_, rfl⟩ := VR.bytes_inv h1 | obtain ⟨_, rfl⟩ := VR.str_inv h1 | obtain rfl := VR.none_inv h1 | obtain rfl := VR.bool_inv h1 | cases h1); (first | obtain ⟨_, rfl⟩ := VR.int_inv h2 | obtain ⟨_, rfl⟩ := VR.bytes_inv h2 | obtain ⟨_, rfl⟩ := VR.str_inv h2 | obtain rfl := VR.none_inv h2 | obtain rfl := VR.bool_inv h2 | cases h2); exact beq_self_eq_true _
  | ss => intro v h1 h2; (first | obtain ⟨_, rfl⟩ := VR.int_inv h1 | obtain ⟨_, rfl⟩ := VR.bytes_inv h1 | obtain ⟨_, rfl⟩ := VR.str_inv h1 | obtain rfl := VR.none_inv h1 | obtain rfl := VR.bool_inv h1 | cases h1); (first | obtain ⟨_, rfl⟩ := VR.int_inv h2 | obtain ⟨_, rfl⟩ := VR.bytes_inv h2 | obtain ⟨_, rfl⟩ := VR.str_inv h2 | obtain rfl := VR.none_inv h2 | obtain rfl := VR.bool_inv h2 | cases h2); exact beq_self_eq_true _
  | bb => intro v h1 h2; (first | obtain ⟨_, rfl⟩ := VR.int_inv h1 | obtain ⟨_, rfl⟩ := VR.bytes_inv h1 | obtain ⟨_, rfl⟩ := VR.str_inv h1 | obtain rfl := VR.none_inv h1 | obtain rfl := VR.bool_inv h1 | cases h1); (first | obtain ⟨_, rfl⟩ := VR.int_inv h2 | obtain ⟨_, rfl⟩ := VR.bytes_inv h2 | obtain ⟨_, rfl⟩ := VR.str_inv h2 | obtain rfl := VR.none_inv h2 | obtain rfl := VR.bool_inv h2 | cases h2); exact beq_self_eq_true _
  | nb => intro v h1 h2; (first | obtain ⟨_, rfl⟩ := VR.int_inv h1 | obtain ⟨_, rfl⟩ := VR.bytes_inv h1 | obtain ⟨_, rfl⟩ := VR.str_inv h1 | obtain rfl := VR.none_inv h1 | obtain rfl := VR.bool_inv h1 | cases h1); (first | obtain ⟨_, rfl⟩ := VR.int_inv h2 | obtain ⟨_, rfl⟩ := VR.bytes_inv h2 | obtain ⟨_, rfl⟩ := VR.str_inv h2 | obtain rfl := VR.none_inv h2 | obtain rfl := VR.bool_inv h2 | cases h2)
  | bn => intro v h1 h2; (first | obtain ⟨_, rfl⟩ := VR.int_inv h1 | obtain ⟨_, rfl⟩ := VR.bytes_inv h1 | obtain ⟨_, rfl⟩ := VR.str_inv h1 | obtain rfl := VR.none_inv h1 | obtain rfl := VR.bool_inv h1 | cases h1); (first | obtain ⟨_, rfl⟩ := VR.int_inv h2 | obtain ⟨_, rfl⟩ := VR.bytes_inv h2 | obtain ⟨_, rfl⟩ := VR.str_inv h2 | obtain rfl := VR.none_inv h2 | obtain rfl := VR.bool_inv h2 | cases h2)
  | nt => intro v h1 h2; (first | obtain ⟨_, rfl⟩ := VR.int_inv h1 | obtain ⟨_, rfl⟩ := VR.bytes_inv h1 | obtain ⟨_, rfl⟩ := VR.str_inv h1 | obtain rfl := VR.none_inv h1 | obtain rfl := VR.bool_inv h1 | cases h1); (first | obtain ⟨_, rfl⟩ := VR.int_inv h2 | obtain ⟨_, rfl⟩ := VR.bytes_inv h2 | obtain ⟨_, rfl⟩ := VR.str_inv h2 | obtain rfl := VR.none_inv h2 | obtain rfl := VR.bool_inv h2 | cases h2)
  | tn => intro v h1 h2; (first | obtain ⟨_, rfl⟩ := VR.int_inv h2 | obtain ⟨_, rfl⟩ := VR.bytes_inv h2 | obtain ⟨_, rfl⟩ := VR.str_inv h2 | obtain rfl := VR.none_inv h2 | obtain rfl := VR.bool_inv h2 | cases h2); (first | obtain ⟨_, rfl⟩ := VR.int_inv h1 | obtain ⟨_, rfl⟩ := VR.bytes_inv h1 | obtain ⟨_, rfl⟩ := VR.str_inv h1 | obtain rfl := VR.none_inv h1 | obtain rfl := VR.bool_inv h1 | cases h1)
  | tt hl h ih =>
    intro v h1 h2
    cases h1 with
    | tup x1 t1 => cases h2 with
      | tup x2 t2 =>
        rw [List.all_eq_true]
        intro k hk
        have hk' := List.mem_range.mp hk
        obtain rfl := tup_same t1 t2
        obtain ⟨v1, y1, y2⟩ := x1.get (List.getElem?_eq_getElem hk')
        obtain ⟨d2, z1, z2⟩ := x2.get2 y1
        exact ih k _ _ (List.getElem?_eq_getElem hk') z1 y2 z2
theorem rc_tups {G : Heap} {ρ : List Addr} {s : Shared} {n : Nat} {l m : List D} {e : Nat → Bool} {A : Around} (hA : A.units + (n + 1) < cLine) (hl : l.length = m.length)
    (ih : ∀ k x y, l[k]? = some x → m[k]? = some y → ∀ (v₁ v₂ : Value) (A : Around), A.units + n < cLine → VR G ρ x v₁ → VR G ρ y v₂ → EqAt A s v₁ v₂ (e k)) {x1 x2 : List Value} (h1 : VRs G ρ l x1) (h2 : VRs G ρ m x2) :
    (List.range l.length).all e = ((List.range (min x1.toArray.size x2.toArray.size)).all e && x1.toArray.size == x2.toArray.size) ∧
      ∀ j (q1 : j < x1.toArray.size) (q2 : j < x2.toArray.size), EqAt A.in1 s x1.toArray[j] x2.toArray[j] (e j) := by
  have y1 := h1.len
  have y2 := h2.len
  have y3 : x1.length = x2.length := y1.symm.trans (hl.trans y2)
  refine ⟨?_, fun j q1 q2 => ?_⟩
  · rw [List.size_toArray, List.size_toArray, y3, Nat.min_self, beq_self_eq_true, Bool.and_true, y1, y3]
  · have q1' : j < l.length := by rw [y1]; exact q1
    have q2' : j < m.length := hl ▸ q1'
    obtain ⟨u1, z1, z2⟩ := h1.get (List.getElem?_eq_getElem q1')
    obtain ⟨u2, w1, w2⟩ := h2.get (List.getElem?_eq_getElem q2')
    have e1 : x1.toArray[j] = u1 := by rw [List.getElem_toArray]; exact (List.getElem?_eq_some_iff.mp z1).2
    have e2 : x2.toArray[j] = u2 := by rw [List.getElem_toArray]; exact (List.getElem?_eq_some_iff.mp w1).2
    rw [e1, e2]
    exact ih j _ _ (List.getElem?_eq_getElem q1') (List.getElem?_eq_getElem q2') _ _ A.in1 (by show A.units + 1 + n < cLine; omega) z2 w2
theorem eq_at {G : Heap} {ρ : List Addr} {s : Shared} (hs : G.StaysIn s.heap) {n : Nat} {d₁ d₂ : D} {b : Bool} (h : EqV n d₁ d₂ b) : ∀ (v₁ v₂ : Value) (A : Around), A.units + n < cLine → VR G ρ d₁ v₁ → VR G ρ d₂ v₂ → EqAt A s v₁ v₂ b := by
  induction h with
  | nn => intro v₁ v₂ A hA h1 h2; (first | obtain ⟨_, rfl⟩ := VR.int_inv h1 | obtain ⟨_, rfl⟩ := VR.bytes_inv h1 | obtain ⟨_, rfl⟩ := VR.str_inv h1 | obtain rfl := VR.none_inv h1 | obtain rfl := VR.bool_inv h1 | cases h1); (first | obtain ⟨_, rfl⟩ := VR.int_inv h2 | obtain ⟨_, rfl⟩ := VR.bytes_inv h2 | obtain ⟨_, rfl⟩ := VR.str_inv h2 | obtain rfl := VR.none_inv h2 | obtain rfl := VR.bool_inv h2 | cases h2); exact .same _
  | ii => intro v₁ v₂ A hA h1 h2; (first | obtain ⟨_, rfl⟩ := VR.int_inv h1 | obtain ⟨_, rfl⟩ := VR.bytes_inv h1 | obtain ⟨_, rfl⟩ := VR.str_inv h1 | obtain rfl := VR.none_inv h1 | obtain rfl := VR.bool_inv h1 | cases h1); (first | obtain ⟨_, rfl⟩ := VR.int_inv h2 | obtain ⟨_, rfl⟩ := VR.bytes_inv h2 | obtain ⟨_, rfl⟩ := VR.str_inv h2 | obtain rfl := VR.none_inv h2 | obtain rfl := VR.bool_inv h2 | cases h2); exact .int_int _ _ _ _
  | ss => intro v₁ v₂ A hA h1 h2; (first | obtain ⟨_, rfl⟩ := VR.int_inv h1 | obtain ⟨_, rfl⟩ := VR.bytes_inv h1 | obtain ⟨_, rfl⟩ := VR.str_inv h1 | obtain rfl := VR.none_inv h1 | obtain rfl := VR.bool_inv h1 | cases h1); (first | obtain ⟨_, rfl⟩ := VR.int_inv h2 | obtain ⟨_, rfl⟩ := VR.bytes_inv h2 | obtain ⟨_, rfl⟩ := VR.str_inv h2 | obtain rfl := VR.none_inv h2 | obtain rfl := VR.bool_inv h2 | cases h2); exact .str_str _ _ _ _
  | bb => intro v₁ v₂ A hA h1 h2; (first | obtain ⟨_, rfl⟩ := VR.int_inv h1 | obtain ⟨_, rfl⟩ := VR.bytes_inv h1 | obtain ⟨_, rfl⟩ := VR.str_inv h1 | obtain rfl := VR.none_inv h1 | obtain rfl := VR.bool_inv h1 | cases h1); (first | obtain ⟨_, rfl⟩ := VR.int_inv h2 | obtain ⟨_, rfl⟩ := VR.bytes_inv h2 | obtain ⟨_, rfl⟩ := VR.str_inv h2 | obtain rfl := VR.none_inv h2 | obtain rfl := VR.bool_inv h2 | cases h2); exact at_bytes _ _ _ _
  | nb => intro v₁ v₂ A hA h1 h2; (first | obtain ⟨_, rfl⟩ := VR.int_inv h1 | obtain ⟨_, rfl⟩ := VR.bytes_inv h1 | obtain ⟨_, rfl⟩ := VR.str_inv h1 | obtain rfl := VR.none_inv h1 | obtain rfl := VR.bool_inv h1 | cases h1); (first | obtain ⟨_, rfl⟩ := VR.int_inv h2 | obtain ⟨_, rfl⟩ := VR.bytes_inv h2 | obtain ⟨_, rfl⟩ := VR.str_inv h2 | obtain rfl := VR.none_inv h2 | obtain rfl := VR.bool_inv h2 | cases h2); exact at_none_bytes _ _
  | bn => intro v₁ v₂ A hA h1 h2; (first | obtain ⟨_, rfl⟩ := VR.int_inv h1 | obtain ⟨_, rfl⟩ := VR.bytes_inv h1 | obtain ⟨_, rfl⟩ := VR.str_inv h1 | obtain rfl := VR.none_inv h1 | obtain rfl := VR.bool_inv h1 | cases h1); (first | obtain ⟨_, rfl⟩ := VR.int_inv h2 | obtain ⟨_, rfl⟩ := VR.bytes_inv h2 | obtain ⟨_, rfl⟩ := VR.str_inv h2 | obtain rfl := VR.none_inv h2 | obtain rfl := VR.bool_inv h2 | cases h2); exact at_bytes_none _ _
  | nt => intro v₁ v₂ A hA h1 h2; (first | obtain ⟨_, rfl⟩ := VR.int_inv h1 | obtain ⟨_, rfl⟩ := VR.bytes_inv h1 | obtain ⟨_, rfl⟩ := VR.str_inv h1 | obtain rfl := VR.none_inv h1 | obtain rfl := VR.bool_inv h1 | cases h1); cases h2 with | tup x t => exact .none_tuple (isTup_get hs t) (Nat.lt_of_le_of_lt (Nat.le_add_right _ _) hA)
  | tn => intro v₁ v₂ A hA h1 h2; (first | obtain ⟨_, rfl⟩ := VR.int_inv h2 | obtain ⟨_, rfl⟩ := VR.bytes_inv h2 | obtain ⟨_, rfl⟩ := VR.str_inv h2 | obtain rfl := VR.none_inv h2 | obtain rfl := VR.bool_inv h2 | cases h2); cases h1 with | tup x t => exact .tuple_none (isTup_get hs t) (Nat.lt_of_le_of_lt (Nat.le_add_right _ _) hA)
  | ll =>
    intro v₁ v₂ A hA h1 h2
    cases h1 with
    | @list _ x1 a1 y1 t1 => cases h2 with
      | @list _ x2 a2 y2 t2 =>
        cases y1; cases y2
        by_cases e : a1 = a2
        · subst e; exact .same _
        · exact .of_refs e (RcAt.lists (e := fun _ => true) (plain_stays hs t1).isList (plain_stays hs t2).isList rfl (Nat.lt_of_le_of_lt (Nat.le_add_right _ _) hA) (fun j q1 => absurd q1 (Nat.not_lt_zero _)))
  | tt hl h ih =>
    intro v₁ v₂ A hA h1 h2
    cases h1 with
    | @tup _ x1 a1 y1 t1 => cases h2 with
      | @tup _ x2 a2 y2 t2 =>
        by_cases e : a1 = a2
        · subst e
          rw [eq_inj (EqV.tt hl h) (.tup y1 t1) (.tup y2 t2)]
          exact .same _
        · obtain ⟨q1, q2⟩ := rc_tups hA hl ih y1 y2
          rw [q1]
          exact .of_refs e (.tuples (isTup_get hs t1) (isTup_get hs t2) (Nat.lt_of_le_of_lt (Nat.le_add_right _ _) hA) q2)
theorem op_eq_tup {l m : List D} {b : Bool} (h : EqV 5 (.tup l) (.tup m) b) : Op2 (compareOp .Eq) (.tup l) (.tup m) (.bool b) := by
  refine .mk fun p w A E Q s G ρ v₁ v₂ hA hs h1 h2 hq => ?_
  cases h with
  | tt hl h =>
    cases h1 with
    | tup y1 t1 => cases h2 with
      | tup y2 t2 =>
        have := hA.units
        have hc : cLine = 9900 := rfl
        obtain ⟨q1, q2⟩ := rc_tups (A := A) (by omega) hl (fun k x y e1 e2 => eq_at hs (h k x y e1 e2)) y1 y2
        rw [q1] at hq
        exact RcAt.tuples (isTup_get hs t1) (isTup_get hs t2) (by omega) q2 p w E Q (hq _ s.toks .bool)
theorem op_ne_tup {l m : List D} {b : Bool} (h : EqV 5 (.tup l) (.tup m) b) : Op2 (compareOp .NotEq) (.tup l) (.tup m) (.bool (!b)) := by
  refine .mk fun p w A E Q s G ρ v₁ v₂ hA hs h1 h2 hq => ?_
  cases h with
  | tt hl h =>
    cases h1 with
    | tup y1 t1 => cases h2 with
      | tup y2 t2 =>
        have := hA.units
        have hc : cLine = 9900 := rfl
        obtain ⟨q1, q2⟩ := rc_tups (A := A) (by omega) hl (fun k x y e1 e2 => eq_at hs (h k x y e1 e2)) y1 y2
        rw [q1] at hq
        exact RcNeAt.tuples (isTup_get hs t1) (isTup_get hs t2) (by omega) q2 p w E Q (hq _ s.toks .bool)
end Mine

end
section
namespace Mine
open PySem PySem.W PySem.Spec PySem.Calls PyProof.Rows PySem.SeqAt

section
variable {g : Gl} {fc : FC} {G G₀ : Heap} {ρ ρ₀ : List Addr} {s : Shared} {a : AS} {R : AS → Prop} {n : Nat} {sc : Scope}

/-! attributes of a hunk -/
inductive HAttr : PStr → Int → Int → Int → Int → Bs → D → Prop
  | a {a b c d h} : HAttr "old_from" a b c d h (.int a)
  | b {a b c d h} : HAttr "old_many" a b c d h (.int b)
  | c {a b c d h} : HAttr "new_from" a b c d h (.int c)
  | d {a b c d h} : HAttr "new_many" a b c d h (.int d)
  | r {a b c d h} : HAttr "rows" a b c d h (.list [])
  | h {a b c d h} : HAttr "heading" a b c d h (.bytes h)
theorem a_Attr {x attr : PStr} {xp pos : Pos} {i j k l : Int} {hd : Bs} {d : D} {Q : D → AS → Prop} (g' : g.Ok) (ok : fc.Ok n) (hs : fc.env.scope = sc) (hv : a.m.lookup x = some (.hunk i j k l hd)) (hat : HAttr attr i j k l hd d) (h : Q d a)
    (hk : sc.names.lookup x = some .local := by rfl) (hn : n ≤ 200 := by first | exact nup (by with_reducible assumption) (by rfl) | exact nup0 (by with_reducible assumption) (by rfl) | exact nupp (by with_reducible assumption) (by rfl) | omega) (hdb : (x == ("__debug__" : PStr)) = false := by decide) : AW VR g fc (eval (.Attribute (.Name x xp) attr pos) fc.env) Q R a := .mk fun G ρ s hr => by
  refine Attribute_Name_ (aw_then (a_loc (Q := fun d a₁ => d = .hunk i j k l hd ∧ a₁ = a) ok hs hv ⟨rfl, rfl⟩ hk hdb) Step.refl hr fun G₁ ρ₁ d₁ a₁ v₁ s₁ _ st₁ r₁ hv₁ ⟨e1, e2⟩ => ?_)
  subst e1 e2
  obtain ⟨_, rfl, H⟩ := VR.hunk_inv hv₁
  ·
    obtain ⟨dx, ox, es, m, l', h1, h2, h3, h4, ⟨t1, g1⟩, ⟨t2, g2⟩, ⟨t3, g3⟩, ⟨t4, g4⟩, g5, ⟨t6, g6⟩⟩ := H
    subst h2
    have I : InstAt s₁.heap _ _ 119 (some (dictOf es m)) := ⟨r₁.gs _ _ h1, rfl, rfl, r₁.gs _ _ h3⟩
    have X := r₁.K g'
    cases hat with
    | a => exact get_value X I (by with_unfolding_all rfl) (findObj_own (attr := none) (by with_unfolding_all rfl) (by with_unfolding_all rfl) rfl g1) rfl ⟨G₁, ρ₁, a₁, _, st₁, r₁.toks, .int, h⟩
    | b => exact get_value X I (by with_unfolding_all rfl) (findObj_own (attr := none) (by with_unfolding_all rfl) (by with_unfolding_all rfl) rfl g2) rfl ⟨G₁, ρ₁, a₁, _, st₁, r₁.toks, .int, h⟩
    | c => exact get_value X I (by with_unfolding_all rfl) (findObj_own (attr := none) (by with_unfolding_all rfl) (by with_unfolding_all rfl) rfl g3) rfl ⟨G₁, ρ₁, a₁, _, st₁, r₁.toks, .int, h⟩
    | d => exact get_value X I (by with_unfolding_all rfl) (findObj_own (attr := none) (by with_unfolding_all rfl) (by with_unfolding_all rfl) rfl g4) rfl ⟨G₁, ρ₁, a₁, _, st₁, r₁.toks, .int, h⟩
    | r => exact get_value X I (by with_unfolding_all rfl) (findObj_own (attr := none) (by with_unfolding_all rfl) (by with_unfolding_all rfl) rfl g5) rfl ⟨G₁, ρ₁, a₁, _, st₁, r₁.toks, .list .nil h4, h⟩
    | h => exact get_value X I (by with_unfolding_all rfl) (findObj_own (attr := none) (by with_unfolding_all rfl) (by with_unfolding_all rfl) rfl g6) rfl ⟨G₁, ρ₁, a₁, _, st₁, r₁.toks, .bytes, h⟩

/-! list(..) and range(..) -/
theorem c_list {l : List D} {Q : D → AS → Prop} (hz : l.length ≤ 16777216) (h : Q (.list l) a) : CallAt g fc (.glob (.type "list")) [.list l] Q R a := .mk fun G ρ s vf vs hr hf hv => by
  obtain rfl := VR.glob_inv hf
  obtain ⟨_, rfl, hv1⟩ := VRs.one_inv hv
  ·
    obtain ⟨_, _, rfl, hvs, ht⟩ := VR.list_inv hv1
    ·
      obtain ⟨m, ht'⟩ := plain_stays hr.gs ht
      refine call_list_seq (o := _) _ (.inl rfl) ht' rfl rfl (fun h' c' k hx => ?_) (by rw [List.size_toArray, ← hvs.len, sizeLine_eq]; exact hz)
      obtain ⟨z1, z2⟩ := hr.ext (t := s.toks) k
      exact ⟨_, ρ, _, _, z2, z1, .list (hvs.step z2) ⟨c', frz_get hx hr.fresh⟩, h⟩
theorem c_range {i j : Int} {Q : D → AS → Prop} (h : Q (.rng i j) a) : CallAt g fc (.glob (.type "range")) [.int i, .int j] Q R a := .mk fun G ρ s vf vs hr hf hv => by
  obtain rfl := VR.glob_inv hf
  obtain ⟨_, _, rfl, hv1, hv2⟩ := VRs.two_inv hv
  ·
      (first | obtain ⟨_, rfl⟩ := VR.int_inv hv1 | obtain ⟨_, rfl⟩ := VR.bytes_inv hv1 | obtain ⟨_, rfl⟩ := VR.str_inv hv1 | obtain rfl := VR.none_inv hv1 | obtain rfl := VR.bool_inv hv1 | cases hv1); (first | obtain ⟨_, rfl⟩ := VR.int_inv hv2 | obtain ⟨_, rfl⟩ := VR.bytes_inv hv2 | obtain ⟨_, rfl⟩ := VR.str_inv hv2 | obtain rfl := VR.none_inv hv2 | obtain rfl := VR.bool_inv hv2 | cases hv2)
      refine call_range_2 ?_
      exact (hr.res (d := .rng i j) h Step.refl).push rfl fun G' k gx => .rng gx


/-! the tape -/
theorem m_pop : MethT "list" "pop" "list.pop" := ⟨PySem.F.plainAttrs_list, PySem.F.slot_list_pop, PySem.F.type_list_pop⟩
theorem ism_tape {k : Nat} {l : List D} (hσ : a.σ[k]? = some (.list l)) : ∀ G₁ ρ₁ s₁ v₁, Rel g fc G₁ a ρ₁ s₁ → VR G₁ ρ₁ (.mut k) v₁ → s₁.TypeIs v₁ "list" ∧ ∀ x, v₁ = .ref x → ∃ ob, s₁.heap.get? x = some ob ∧ ob.dict = none := fun G ρ s v hr hv => by
  obtain ⟨_, rfl, hk⟩ := VR.mut_inv hv
  ·
    obtain ⟨o, h3, h4⟩ := hr.st.get hk hσ
    (first | obtain ⟨_, rfl⟩ := VR.int_inv h4 | obtain ⟨_, rfl⟩ := VR.bytes_inv h4 | obtain ⟨_, rfl⟩ := VR.str_inv h4 | obtain rfl := VR.none_inv h4 | obtain rfl := VR.bool_inv h4 | cases h4)
    exact ⟨⟨_, h3, rfl⟩, fun x e => by cases e; exact ⟨_, h3, rfl⟩⟩
theorem vrs_pop {G ρ} : ∀ {ds : List D} {vs : List Value}, VRs G ρ ds vs → VRs G ρ ds.dropLast vs.dropLast
  | _, _, .nil => .nil
  | _, _, .cons h .nil => .nil
  | _, _, .cons h (.cons h2 t) => .cons h (vrs_pop (.cons h2 t))
theorem c_pop {k : Nat} {l : List D} {d : D} {Q : D → AS → Prop} (hσ : a.σ[k]? = some (.list (l ++ [d]))) (hz : l.length ≤ 1000) (h : Q d ⟨a.m, a.σ.set k (.list l)⟩) : CallAt g fc (.glob (.builtin "list.pop")) [.mut k] Q R a := .mk fun G ρ s vf vs hr hf hv => by
  obtain rfl := VR.glob_inv hf
  obtain ⟨_, rfl, hv1⟩ := VRs.one_inv hv
  ·
    obtain ⟨_, rfl, hk⟩ := VR.mut_inv hv1
    ·
      obtain ⟨o, h3, h4⟩ := hr.st.get hk hσ
      cases h4 with
      | @list _ vs m hvs =>
        have hlen := hvs.len
        obtain ⟨y, hy1, hy2⟩ := hvs.get (k := l.length) (d := d) (by simp)
        rw [List.length_append, List.length_singleton] at hlen
        refine Copied.pop_at (y := y) h3 (by rw [List.size_toArray, ← hlen]; simpa using hy1) (fun h' hs hx => ?_) (by rw [List.size_toArray, ← hlen, sizeLine_eq]; omega)
        have hp := vrs_pop hvs
        rw [List.dropLast_concat] at hp
        have hin := List.mem_cons_of_mem fc.L (List.mem_append_right (fc.outs.map (·.L)) (List.mem_append_right tabPs (List.mem_of_getElem? hk)))
        have hp' := VRs.mono (hr.frz_step (h' := h') fun b o hb e => (hs.2 b fun q => hb (q ▸ hin)).trans e) (List.prefix_refl ρ) hp
        obtain ⟨z1, z2⟩ := hr.upd (t := s.toks) hk (fun b hb o e => (hs.2 b hb).trans e) hx (x' := .list l) (by rw [List.pop_toArray]; exact .list hp')
        exact ⟨_, ρ, _, _, z2, z1, hy2.step z2, h⟩

/-- tape != [] -/
theorem t_tapeNe {x : PStr} {px pos pl whole} {k : Nat} {l : List D} {Q : Bool → AS → Prop} (ok : fc.Ok n) (hs : fc.env.scope = sc) (hv : a.m.lookup x = some (.mut k)) (hσ : a.σ[k]? = some (.list l)) (hz : l.length ≤ 1000) (h : Q (!l.isEmpty) a)
    (hk : sc.names.lookup x = some .local := by rfl) (hn : n ≤ 200 := by first | exact nup (by with_reducible assumption) (by rfl) | exact nup0 (by with_reducible assumption) (by rfl) | exact nupp (by with_reducible assumption) (by rfl) | omega) (hm : behindInMarks .NotEq (.List [] pl) = false := by with_unfolding_all rfl) (hdb : (x == ("__debug__" : PStr)) = false := by decide) :
    AW VB g fc (isTrue (.Compare (.Name x px) [.NotEq] [.List [] pl] pos) fc.env whole) Q R a := .mk fun G ρ s hr => by
  refine wpAny_isTrue_Compare1 (aw_then (a_loc (Q := fun d a₁ => d = .mut k ∧ a₁ = a) ok hs hv ⟨rfl, rfl⟩ hk hdb) Step.refl hr fun G₁ ρ₁ d₁ a₁ v₁ s₁ _ st₁ r₁ hv₁ ⟨e1, e2⟩ => ?_) hm
  subst e1 e2
  refine aw_then (a_List (Q := fun d a₂ => d = .list [] ∧ a₂ = a₁) (l_nil ⟨by simp, rfl, rfl⟩)) st₁ r₁ fun G₂ ρ₂ d₂ a₂ v₂ s₂ st₁₂ st₂ r₂ hv₂ ⟨e1, e2⟩ => ?_
  subst e1 e2
  have hv₁' := hv₁.step st₁₂
  obtain ⟨_, rfl, hk₂⟩ := VR.mut_inv hv₁'
  ·
    cases hv₂ with
    | list q2 t2 =>
      cases q2
      obtain ⟨o, h3, h4⟩ := r₂.st.get hk₂ hσ
      cases h4 with
      | @list _ vs m hvs =>
        have hA := ok.ao.units
        have hc : cLine = 9900 := rfl
        have hL : s₂.heap.IsList _ vs.toArray := ⟨_, h3, rfl, m, rfl⟩
        have hlen := hvs.len
        cases l with
        | nil =>
          have : vs = [] := by cases vs with | nil => rfl | cons _ _ => simp at hlen
          subst this
          exact RcNeAt.lists (e := fun _ => true) hL (plain_stays r₂.gs t2).isList rfl (by omega) (fun j q1 => by simp at q1) _ _ _ _ (wpAny_truthy_bool ⟨G₂, ρ₂, a₂, _, st₂, r₂, rfl, h⟩)
        | cons d l =>
          refine RcNeAt.lists_lengths hL (plain_stays r₂.gs t2).isList ?_ (by omega) _ _ _ _ (wpAny_truthy_bool ⟨G₂, ρ₂, a₂, _, st₂, r₂, rfl, h⟩)
          rw [List.size_toArray, ← hlen]
          simp

/-- list(..)[::-1], to be changed later -/
theorem a_RevMut {value pos p} {Q : D → AS → Prop} {st : Expr} (ok : fc.Ok n) (h : AW VR g fc (eval value fc.env) (fun d₁ a₁ => AW VR g fc (eval st fc.env) (fun d₂ a₂ => d₂ = .int (-1) ∧ ∃ l : List D, d₁ = .list l ∧ l.length ≤ 1000 ∧ Q (.mut a₂.σ.length) ⟨a₂.m, a₂.σ ++ [.list l.reverse]⟩) R a₁) R a) (hn : n ≤ 200 := by first | exact nup (by with_reducible assumption) (by rfl) | exact nup0 (by with_reducible assumption) (by rfl) | exact nupp (by with_reducible assumption) (by rfl) | omega)
    (hs : ∀ o i, ∃ ops, subscripted (.Slice none none (some st) p) false o i = operate ops (getItem o i) := by intro _ _; exact ⟨_, rfl⟩) : AW VR g fc (eval (.Subscript value (.Slice none none (some st) p) pos) fc.env) Q R a := .mk fun G ρ s hr => by
  refine Subscript_ (aw_then h Step.refl hr fun G₁ ρ₁ d₁ a₁ v₁ s₁ _ st₁ r₁ hv₁ q₁ => wpAny_Slice (evalPart_none_step (evalPart_none_step (evalPart_some_step (aw_then q₁ st₁ r₁ fun G₄ ρ₄ d₄ a₄ v₄ s₄ st₃₄ st₄ r₄ hv₄ ⟨e1, l, e2, hz, hq⟩ => ?_)))))
  subst e1 e2
  obtain ⟨z1, z2, _⟩ := r₄.push { cls := .type "slice", data := .fields #[.none, .none, v₄] } rfl
  obtain ⟨ops, ho⟩ := hs v₁ (.ref s₄.heap.objs.size)
  have hv₁' := (hv₁.step st₃₄).step z2
  have hv₄' := hv₄.step z2
  (first | obtain ⟨_, rfl⟩ := VR.int_inv hv₄' | obtain ⟨_, rfl⟩ := VR.bytes_inv hv₄' | obtain ⟨_, rfl⟩ := VR.str_inv hv₄' | obtain rfl := VR.none_inv hv₄' | obtain rfl := VR.bool_inv hv₄' | cases hv₄')
  obtain ⟨_, _, rfl, hvs, ht⟩ := VR.list_inv hv₁'
  ·
    have ht' := isList_stays z1.gs ht.isList
    refine tail_item (s := _) ?_ ho
    refine ⟨"list", _, slot_list_getitem.lookup, ht'.typeIs, wpAny_getItem_list_slice ht' (Heap.IsSliceOf.new _ _ _ _) .none .none (.int _ _) (by decide) ?_ (by rw [List.size_toArray, ← hvs.len, sizeLine_eq]; omega)⟩
    rw [krv_pick]
    obtain ⟨y1, y2⟩ := z1.more (t := s₄.toks) (h' := _) (y := .list l.reverse) (x := _) (fun b o e => Heap.get?_push_of_some _ e) (Heap.get?_none_of_le (Nat.le_refl _)) (Heap.get?_push_size _ rfl) (.list (VRs.mono (fun _ _ e => e) (List.prefix_append _ _) hvs.reverse))
    exact ⟨_, _, _, _, (st₄.trans z2).trans y2, y1, .mut (by rw [← z1.st.length]; simp), hq⟩
end
end Mine

end
section
namespace Mine
open PySem PySem.W PySem.Spec PySem.Calls PyProof.Rows PySem.SeqAt PySem.Builtin PySem.Builtin.Str
noncomputable def strCut (x : PStr) (lo hi : Option Int) : PStr :=
  if ((strSliceIndices lo hi 1 x.length).length == x.length) = true then x else ⟨((strSliceIndices lo hi 1 x.length).filterMap (x.cps[·]?)).toArray⟩
theorem DPart.toks {G ρ d o v} (h : DPart d o) (hv : VR G ρ d v) : ∃ q : Option (Int × Tok), v = partValue q ∧ q.map (·.1) = o := by
  cases h <;> cases hv
  · exact ⟨Option.none, rfl, rfl⟩
  · rename_i i t
    exact ⟨some (i, t), rfl, rfl⟩
theorem sl_str {x : PStr} {dl du : D} {lo hi : Option Int} (hl : DPart dl lo) (hu : DPart du hi) (hz : (strCut x lo hi).length ≤ 16777216) : SliceV (.str x) dl du .none (.str (strCut x lo hi)) := by
  refine .mk fun p w A E Q s G ρ v₁ vl vu vs y hA hs h1 h2 h3 h4 hy hres => ?_
  (first | obtain ⟨_, rfl⟩ := VR.int_inv h1 | obtain ⟨_, rfl⟩ := VR.bytes_inv h1 | obtain ⟨_, rfl⟩ := VR.str_inv h1 | obtain rfl := VR.none_inv h1 | obtain rfl := VR.bool_inv h1 | cases h1); (first | obtain ⟨_, rfl⟩ := VR.int_inv h4 | obtain ⟨_, rfl⟩ := VR.bytes_inv h4 | obtain ⟨_, rfl⟩ := VR.str_inv h4 | obtain rfl := VR.none_inv h4 | obtain rfl := VR.bool_inv h4 | cases h4)
  rename_i t
  obtain ⟨q1, rfl, rfl⟩ := hl.toks h2
  obtain ⟨q2, rfl, rfl⟩ := hu.toks h3
  obtain ⟨o, ho1, ho2, ho3⟩ := hy
  refine ⟨"str", _, PySem.F.slot_str_getitem.lookup, typeIs_str _ _ _, wpAny_getItem_str_slice (l := q1) (u := q2) (st := none) ⟨o, ho1, ho2, ho3⟩ rfl ?_⟩
  unfold sliceMade slicePicked
  unfold strCut at hres hz
  split
  · rename_i z
    rw [if_pos (by simpa using z)] at hres
    exact hres.now .str
  · rename_i z
    rw [if_neg (by simpa using z)] at hres hz
    exact ⟨by rw [sizeLine_eq]; exact hz, hres.now .str⟩
end Mine

end
section
namespace Mine
open PySem PySem.W PySem.Spec PySem.Calls PyProof.Rows
section
variable {g : Gl} {fc : FC} {a : AS} {R : AS → Prop} {n : Nat} {sc : Scope}
theorem two_of {l : List D} (h : l.length = 2) : ∃ x y, l = [x, y] := by
  match l, h with
  | [x, y], _ => exact ⟨x, y, rfl⟩
noncomputable abbrev KTw (x y : PStr) (Q : Fl → AS → Prop) : D → AS → Prop := fun d a₁ => ∃ d₁ d₂, d = .tup [d₁, d₂] ∧ Q .next ⟨(y, d₂) :: (x, d₁) :: a₁.m, a₁.σ⟩
noncomputable abbrev KTs (x y : PStr) (Q : Fl → AS → Prop) : D → AS → Prop := fun d a₁ => ∃ d₁ d₂, d = .tup [d₁, d₂] ∧ Q .next ⟨(x, d₁) :: (y, d₂) :: a₁.m, a₁.σ⟩
noncomputable abbrev KT3 (x y z : PStr) (Q : Fl → AS → Prop) : D → AS → Prop := fun d a₁ => ∃ d₁ d₂ d₃, d = .tup [d₁, d₂, d₃] ∧ Q .next ⟨(z, d₃) :: (y, d₂) :: (x, d₁) :: a₁.m, a₁.σ⟩
noncomputable abbrev KT3s (x y z : PStr) (Q : Fl → AS → Prop) : D → AS → Prop := fun d a₁ => ∃ d₁ d₂ d₃, d = .tup [d₁, d₂, d₃] ∧ Q .next ⟨(x, d₁) :: (y, d₂) :: (z, d₃) :: a₁.m, a₁.σ⟩
theorem ktw {x y : PStr} {Q : Fl → AS → Prop} {d₁ d₂ : D} {a : AS} (q : Q .next ⟨(y, d₂) :: (x, d₁) :: a.m, a.σ⟩) : KTw x y Q (.tup [d₁, d₂]) a := ⟨d₁, d₂, rfl, q⟩
theorem kts {x y : PStr} {Q : Fl → AS → Prop} {d₁ d₂ : D} {a : AS} (q : Q .next ⟨(x, d₁) :: (y, d₂) :: a.m, a.σ⟩) : KTs x y Q (.tup [d₁, d₂]) a := ⟨d₁, d₂, rfl, q⟩
theorem kt3 {x y z : PStr} {Q : Fl → AS → Prop} {d₁ d₂ d₃ : D} {a : AS} (q : Q .next ⟨(z, d₃) :: (y, d₂) :: (x, d₁) :: a.m, a.σ⟩) : KT3 x y z Q (.tup [d₁, d₂, d₃]) a := ⟨d₁, d₂, d₃, rfl, q⟩
theorem kt3s {x y z : PStr} {Q : Fl → AS → Prop} {d₁ d₂ d₃ : D} {a : AS} (q : Q .next ⟨(x, d₁) :: (y, d₂) :: (z, d₃) :: a.m, a.σ⟩) : KT3s x y z Q (.tup [d₁, d₂, d₃]) a := ⟨d₁, d₂, d₃, rfl, q⟩
theorem x_TwoS {x y : PStr} {px py tpos pos : Pos} {k : Nat} {value : Expr} {Q : Fl → AS → Prop} (ok : fc.Ok n) (hs : fc.env.scope = sc) (h : AW VR g fc (eval value fc.env) (KTs x y Q) R a)
    (hx : sc.names.lookup x = some .local := by rfl) (hy : sc.names.lookup y = some .local := by rfl) (hw : ∀ e : Env, e.scope = sc → swappedStores [.Tuple [.Name x px, .Name y py] k tpos] value e = pure (some [x, y]) := by intro e h; cases e; cases h; rfl)
    (hsw : swapsWithSole [.Tuple [.Name x px, .Name y py] k tpos] value pos.line fc.env = pure false := by rfl) : AW VF g fc (exec (.Assign [.Tuple [.Name x px, .Name y py] k tpos] value pos) fc.env) Q R a :=
  x_TupS [x, y] ok hs (.cons stores_bind hy (.cons stores_bind hx .nil)) (h.mono (fun d a₁ ⟨d₁, d₂, e, q⟩ => ⟨[d₁, d₂], e, rfl, q⟩) fun _ r => r) hsw (hw _ hs)
theorem x_ThreeS {x y z : PStr} {px py pz tpos pos : Pos} {k : Nat} {value : Expr} {Q : Fl → AS → Prop} (ok : fc.Ok n) (hs : fc.env.scope = sc) (h : AW VR g fc (eval value fc.env) (KT3s x y z Q) R a)
    (hx : sc.names.lookup x = some .local := by rfl) (hy : sc.names.lookup y = some .local := by rfl) (hz : sc.names.lookup z = some .local := by rfl) (hw : ∀ e : Env, e.scope = sc → swappedStores [.Tuple [.Name x px, .Name y py, .Name z pz] k tpos] value e = pure (some [x, y, z]) := by intro e h; cases e; cases h; rfl)
    (hsw : swapsWithSole [.Tuple [.Name x px, .Name y py, .Name z pz] k tpos] value pos.line fc.env = pure false := by rfl) : AW VF g fc (exec (.Assign [.Tuple [.Name x px, .Name y py, .Name z pz] k tpos] value pos) fc.env) Q R a :=
  x_TupS [x, y, z] ok hs (.cons stores_bind hz (.cons stores_bind hy (.cons stores_bind hx .nil))) (h.mono (fun d a₁ ⟨d₁, d₂, d₃, e, q⟩ => ⟨[d₁, d₂, d₃], e, rfl, q⟩) fun _ r => r) hsw (hw _ hs)
theorem x_Two {x y : PStr} {px py tpos pos : Pos} {k : Nat} {value : Expr} {Q : Fl → AS → Prop} (ok : fc.Ok n) (hs : fc.env.scope = sc) (h : AW VR g fc (eval value fc.env) (KTw x y Q) R a)
    (hx : sc.names.lookup x = some .local := by rfl) (hy : sc.names.lookup y = some .local := by rfl) (hw : ∀ e : Env, e.scope = sc → swappedStores [.Tuple [.Name x px, .Name y py] k tpos] value e = pure none := by intro e h; cases e; cases h; rfl)
    (hsw : swapsWithSole [.Tuple [.Name x px, .Name y py] k tpos] value pos.line fc.env = pure false := by rfl) : AW VF g fc (exec (.Assign [.Tuple [.Name x px, .Name y py] k tpos] value pos) fc.env) Q R a :=
  x_Tup [x, y] ok hs (.cons stores_assign hx (.cons stores_assign hy .nil)) (h.mono (fun d a₁ ⟨d₁, d₂, e, q⟩ => ⟨[d₁, d₂], e, rfl, q⟩) fun _ r => r) hsw (hw _ hs)
theorem x_Three {x y z : PStr} {px py pz tpos pos : Pos} {k : Nat} {value : Expr} {Q : Fl → AS → Prop} (ok : fc.Ok n) (hs : fc.env.scope = sc) (h : AW VR g fc (eval value fc.env) (KT3 x y z Q) R a)
    (hx : sc.names.lookup x = some .local := by rfl) (hy : sc.names.lookup y = some .local := by rfl) (hz : sc.names.lookup z = some .local := by rfl) (hw : ∀ e : Env, e.scope = sc → swappedStores [.Tuple [.Name x px, .Name y py, .Name z pz] k tpos] value e = pure none := by intro e h; cases e; cases h; rfl)
    (hsw : swapsWithSole [.Tuple [.Name x px, .Name y py, .Name z pz] k tpos] value pos.line fc.env = pure false := by rfl) : AW VF g fc (exec (.Assign [.Tuple [.Name x px, .Name y py, .Name z pz] k tpos] value pos) fc.env) Q R a :=
  x_Tup [x, y, z] ok hs (.cons stores_assign hx (.cons stores_assign hy (.cons stores_assign hz .nil))) (h.mono (fun d a₁ ⟨d₁, d₂, d₃, e, q⟩ => ⟨[d₁, d₂, d₃], e, rfl, q⟩) fun _ r => r) hsw (hw _ hs)
theorem xg_Two {x y : PStr} {px py tpos pos : Pos} {k : Nat} {value : Expr} {Q : Fl → AS → Prop} (ok : fc.Ok n) (hs : fc.env.scope = sc) (h : AG VR g fc (eval value fc.env) (KTw x y Q) R a)
    (hx : sc.names.lookup x = some .local := by rfl) (hy : sc.names.lookup y = some .local := by rfl) (hw : ∀ e : Env, e.scope = sc → swappedStores [.Tuple [.Name x px, .Name y py] k tpos] value e = pure none := by intro e h; cases e; cases h; rfl)
    (hsw : swapsWithSole [.Tuple [.Name x px, .Name y py] k tpos] value pos.line fc.env = pure false := by rfl) : AG VF g fc (exec (.Assign [.Tuple [.Name x px, .Name y py] k tpos] value pos) fc.env) Q R a :=
  xg_Tup [x, y] ok hs (.cons stores_assign hx (.cons stores_assign hy .nil)) (h.mono (fun d a₁ ⟨d₁, d₂, e, q⟩ => ⟨[d₁, d₂], e, rfl, q⟩) fun _ r => r) hsw (hw _ hs)
/-- a statement, and what holds behind it -/
theorem xg_consP {st : Stmt} {rest : List Stmt} {Q : Fl → AS → Prop} (P : AS → Prop) (h : AW VF g fc (exec st fc.env) (fun fl a' => fl = .next ∧ P a') R a) (k : ∀ a', P a' → AG VF g fc (execs rest fc.env) Q R a') : AG VF g fc (execs (st :: rest) fc.env) Q R a :=
  xg_cons (ag_of (h.mono (fun fl a' ⟨e, p⟩ => by subst e; exact k a' p) fun _ r => r))
theorem x_consP {st : Stmt} {rest : List Stmt} {Q : Fl → AS → Prop} (P : AS → Prop) (h : AW VF g fc (exec st fc.env) (fun fl a' => fl = .next ∧ P a') R a) (k : ∀ a', P a' → AW VF g fc (execs rest fc.env) Q R a') : AW VF g fc (execs (st :: rest) fc.env) Q R a :=
  x_cons (h.mono (fun fl a' ⟨e, p⟩ => by subst e; exact k a' p) fun _ r => r)
end
end Mine
namespace Mine
open PySem
theorem interactive_no {fc : FC} {n : Nat} (ok : fc.Ok n) : interactive fc.env = false := by unfold interactive; rw [ok.kind]; rfl
end Mine
namespace Mine
open PySem
theorem str_app_len {a b : PStr} {m n k : Nat} (h1 : a.length ≤ m) (h2 : b.length ≤ n) (h : m + n ≤ k) : (a ++ b).length ≤ k := by
  have e : (a ++ b).length = a.length + b.length := Array.size_append
  omega
theorem bind1 {P : List Value → Prop} (h : ∀ v, P [v]) (vs : List Value) (e : vs.length = 1) : P vs := by
  cases vs with
  | nil => cases e
  | cons v r => cases r with
    | nil => exact h v
    | cons _ _ => cases e
theorem bind2 {P : List Value → Prop} (h : ∀ v u, P [v, u]) (vs : List Value) (e : vs.length = 2) : P vs := by
  cases vs with
  | nil => cases e
  | cons v r => exact bind1 (P := fun r => P (v :: r)) (h v) r (Nat.succ.inj e)
theorem bind3 {P : List Value → Prop} (h : ∀ v u w, P [v, u, w]) (vs : List Value) (e : vs.length = 3) : P vs := by
  cases vs with
  | nil => cases e
  | cons v r => exact bind2 (P := fun r => P (v :: r)) (h v) r (Nat.succ.inj e)
end Mine

end
namespace Mine
open PySem PySem.W PySem.Spec PySem.Calls PyProof.Rows
open PySem PySem.W PySem.Spec PySem.Calls PyProof.Rows
section
variable {g : Gl} {fc : FC} {a : AS} {R : AS → Prop} {n : Nat}
theorem nx_next {rest : List Stmt} {Q : Fl → AS → Prop} (h : AW VF g fc (execs rest fc.env) Q R a) : Nx g fc rest Q R .next a := h
theorem nx_ret {rest : List Stmt} {Q : Fl → AS → Prop} {d : D} (h : Q (.ret d) a) : Nx g fc rest Q R (.ret d) a := h
theorem nxg_next {rest : List Stmt} {Q : Fl → AS → Prop} (h : AG VF g fc (execs rest fc.env) Q R a) : NxG g fc rest Q R .next a := h
theorem nxg_ret {rest : List Stmt} {Q : Fl → AS → Prop} {d : D} (h : Q (.ret d) a) : NxG g fc rest Q R (.ret d) a := h
end
set_option hygiene false in
local macro_rules | `(tactic| walk_at "n") => `(tactic| first | exact nup (by with_reducible assumption) (by rfl) | exact nup0 (by with_reducible assumption) (by rfl) | exact nupp (by with_reducible assumption) (by rfl) | omega)
set_option hygiene false in
local macro_rules | `(tactic| walk_at "sz") => `(tactic| first
  | omega
  | (simp only [List.length_append, List.length_cons, List.length_nil, List.length_map, List.length_reverse]; omega)
  | refine Nat.le_trans (cut_length_le _ _ _) ?_; walk_at "sz"
  | (simp only [List.length_append, List.length_cons, List.length_nil, List.length_map, List.length_reverse] at *; omega))
local macro_rules | `(tactic| walk_at "splitq") => `(tactic| (refine ksp (fun hq => ?_) (fun hq => ?_) <;> first
  | (exfalso; exact Bool.noConfusion (hq.symm.trans (by with_reducible assumption : _ = true)))
  | (exfalso; exact Bool.noConfusion (hq.symm.trans (by with_reducible assumption : _ = false)))
  | (exfalso; simp at hq; done)
  | (exfalso; simp at hq; omega)
  | skip))
set_option hygiene false in
local macro_rules | `(tactic| walk_at "e1") => `(tactic| first
  | ((with_reducible show AW VR _ _ (eval (Expr.Name _ _) _) _ _ _); first
      | refine a_loc (by with_reducible assumption) (by with_reducible assumption) rfl ?_ (by rfl)
      | refine a_glob (by with_reducible assumption) (by with_reducible assumption) (by with_reducible assumption) (by with_unfolding_all rfl) (by first | exact fun _ _ => .int | exact fun _ _ => .bytes | exact fun _ _ => .glob) ?_
      | refine a_boot (by with_reducible assumption) (by with_reducible assumption) (by with_reducible assumption) (by with_unfolding_all rfl) (by with_reducible first | exact boot_len | exact boot_ord | exact boot_range | exact boot_str | exact boot_bytes | exact boot_list | exact boot_dict | exact boot_bytearray) ?_)
  | with_reducible first | refine a_int ?_ | refine a_bytes ?_ | refine a_str ?_ | refine a_none ?_ | refine a_bool ?_
  | (with_reducible show AW VR _ _ (eval (Expr.UnaryOp _ _ _) _) _ _ _); refine a_UnaryOp (by with_reducible assumption) ?_
  | (with_reducible refine a_IfExp ?_)
  | (with_reducible show AW VR _ _ (eval (Expr.Compare _ [_] [_] _) _) _ _ _); refine a_Cmp1 (by with_reducible assumption) ?_
  | (with_reducible show AW VR _ _ (eval (Expr.Compare _ [_, _] [_, _] _) _) _ _ _); refine a_Cmp2 (by with_reducible assumption) ?_
  | (with_reducible show AW VR _ _ (eval (Expr.BinOp _ _ _ _) _) _ _ _); refine a_BinOp (by with_reducible assumption) ?_
  | (with_reducible show AW VR _ _ (eval (Expr.BoolOp BoolOp.And (_ :: _ :: _) _) _) _ _ _); refine a_And (by with_reducible assumption) ?_
  | (with_reducible show AW VR _ _ (eval (Expr.BoolOp BoolOp.Or (_ :: _ :: _) _) _) _ _ _); refine a_Or (by with_reducible assumption) ?_
  | (with_reducible refine a_One ?_)
  | (with_reducible show AW VR _ _ (eval (Expr.Subscript _ (Expr.Slice _ _ _ _) _) _) _ _ _); refine a_Slice (by with_reducible assumption) ?_
  | (with_reducible show AW VR _ _ (eval (Expr.Subscript _ _ _) _) _ _ _); refine a_Sub (by with_reducible assumption) ?_
  | with_reducible first | refine a_Tuple ?_ | refine a_List ?_
  | (with_reducible show AW VR _ _ (eval (Expr.Call (Expr.Attribute _ _ _) _ _ _) _) _ _ _); refine a_Meth ?_
  | (with_reducible show AW VR _ _ (eval (Expr.Call _ _ _ _) _) _ _ _); refine a_Call ?_)
set_option hygiene false in
local macro_rules | `(tactic| walk_at "e2") => `(tactic| first
  | (with_reducible refine l_nil ?_)
  | (with_reducible show AW VRs _ _ (spliced (backTo _ (starEach (_ :: _) _))) _ _ _); refine l_cons ?_)
set_option hygiene false in
local macro_rules | `(tactic| walk_at "e11") => `(tactic| first
  | (with_reducible show KFn _ _ _ _ _ _ (D.glob (Value.ref _)) _); refine kfn (keep_k (by with_reducible assumption) (by with_unfolding_all rfl)) ?_
  | (with_reducible show KFnG _ _ _ _ _ _ (D.glob (Value.ref _)) _); refine kfnG (keep_k (by with_reducible assumption) (by with_unfolding_all rfl)) ?_
  | with_reducible first | refine kfn keep_b ?_ | refine kfnG keep_b ?_ | refine kfn keep_t ?_ | refine kfnG keep_t ?_ | refine p_none ?_ | refine p_some ?_
  | (with_reducible refine nx_next ?_); try dsimp only
  | (with_reducible refine nx_ret ?_); try dsimp only
  | (with_reducible refine nxg_next ?_); try dsimp only
  | (with_reducible refine nxg_ret ?_); try dsimp only
  | (with_reducible refine kun op_neg_int ?_)
  | (with_reducible show KUn UnaryOp.Not _ _ _); refine kun (op_not (by first | exact tru_bool | exact tru_int | exact tru_none)) ?_
  | (with_reducible show KOb _ _ (D.int _) (D.int _) _); refine kob (op_cmp_int (by rfl)) ?_
  | (with_reducible show KCc _ _ _ _ _ _ _ (D.int _) (D.int _) _); refine kcc (op_cmp_int (by rfl)) ?_
  | ((with_reducible show KOp _ _ (D.int _) (D.int _) _); first
      | (with_reducible refine kop op_add_int ?_) | (with_reducible refine kop op_sub_int ?_) | (with_reducible refine kop op_iadd_int ?_) | (with_reducible refine kop (op_mul_int (by with_reducible assumption)) ?_) | refine kop (op_cmp_int (by rfl)) ?_)
  | ((with_reducible show KOb _ _ (D.bytes _) (D.bytes _) _); first
      | (with_reducible refine kob op_eq_bytes ?_) | (with_reducible refine kob op_ne_bytes ?_))
  | ((with_reducible show KOp _ _ (D.bytes _) (D.bytes _) _); first
      | (with_reducible refine kop op_eq_bytes ?_) | (with_reducible refine kop op_ne_bytes ?_) | refine kop (op_add_bytes (by walk_at "sz")) ?_)
  | with_reducible first | refine kob op_eq_str ?_ | refine kop op_eq_str ?_ | refine kob op_is_none_none ?_ | refine kop op_is_none_none ?_ | refine kob op_is_int_none ?_ | refine kop op_is_int_none ?_
  | (with_reducible show KIt _ (D.list _) (D.int _) _); refine kit (it_list (by decide) (by decide) rfl) ?_
  | (with_reducible show KIt _ (D.tup _) (D.int _) _); refine kit (it_tup (by decide) (by decide) rfl) ?_
  | (with_reducible show KS4 _ (D.bytes _) _ _ D.none _); refine ksl (sl_bytes (by first | exact .none | exact .int) (by first | exact .none | exact .int) (by walk_at "sz")) ?_
  | (with_reducible show KTp _ _ _); refine ktpS ?_
  | (with_reducible show KLs _ _ _); refine klsS ?_
  | (with_reducible show KTr _ _ _); refine ktr (by first | exact tru_bool | exact tru_int | exact tru_none) ?_
  | (with_reducible show KTa _ _ _ _); refine kta (by first | exact tru_bool | exact tru_int | exact tru_none) ?_
  | (with_reducible show KTo _ _ _ _); refine kto (by first | exact tru_bool | exact tru_int | exact tru_none) ?_
  | with_reducible first | refine kme BM.m_find ism_bytes ?_ | refine kmeG BM.m_find ism_bytes ?_ | refine kme BM.m_split ism_bytes ?_ | refine kmeG BM.m_split ism_bytes ?_ | refine kme BM.m_join ism_bytes ?_ | refine kmeG BM.m_join ism_bytes ?_ | refine ksp_t ?_ | refine ksp_f ?_ | refine ksp_nt ?_ | refine ksp_nf ?_
  | (with_reducible show KSp _ _ _ _); walk_at "splitq")
set_option hygiene false in
local macro_rules | `(tactic| walk_at "e3") => `(tactic| first
  | (with_reducible show AW VB _ _ (PySem.isTrue (Expr.Compare _ [_] [_] _) _ _) _ _ _); refine t_Cmp1 (by with_reducible assumption) ?_
  | (with_reducible show AW VB _ _ (PySem.isTrue (Expr.Compare _ [_, _] [_, _] _) _ _) _ _ _); refine t_Cmp2 (by with_reducible assumption) ?_
  | with_reducible first | refine t_Not ?_ | refine t_And0 ?_ | refine t_Or0 ?_ | refine t_And ?_ | refine t_Or ?_
  | (with_reducible show AW VB _ _ (PySem.isTrue _ _ _) _ _ _); refine t_plain (by with_reducible assumption) ?_)
set_option hygiene false in
local macro_rules | `(tactic| walk_at "e4") => `(tactic| first
  | with_reducible first | refine x_nil ?_ | refine x_cons ?_ | refine x_Return ?_ | refine x_If ?_
  | (with_reducible show AW VF _ _ (exec (Stmt.Raise _ _ _) _) _ _ _); refine x_Raise (by with_reducible assumption) (by with_reducible assumption) (by with_reducible assumption) ?_
  | (with_reducible show AW VF _ _ (exec (Stmt.Assign [Expr.Name _ _] _ _) _) _ _ _); refine x_Assign (by with_reducible assumption) (by with_reducible assumption) ?_ (by rfl)
  | (with_reducible show AW VF _ _ (exec (Stmt.AugAssign (Expr.Name _ _) _ _ _) _) _ _ _); refine x_Aug (by with_reducible assumption) (by with_reducible assumption) rfl ?_ (by rfl))
set_option hygiene false in
local macro_rules | `(tactic| walk_at "e8") => `(tactic| first
  | with_reducible first | refine xg_nil ?_ | refine xg_cons ?_ | refine xg_Return ?_ | refine xg_If ?_
  | (with_reducible show AG VF _ _ (exec (Stmt.Raise _ _ _) _) _ _ _); refine ag_of ?_
  | (with_reducible show AG VF _ _ (exec (Stmt.AugAssign _ _ _ _) _) _ _ _); refine ag_of ?_
  | (with_reducible show AG VF _ _ (exec (Stmt.Expr _ _) _) _ _ _); refine xg_Expr ?_ (interactive_no (by with_reducible assumption))
  | (with_reducible show AG VF _ _ (exec (Stmt.Assign [Expr.Name _ _] _ _) _) _ _ _); refine xg_Assign (by with_reducible assumption) (by with_reducible assumption) ?_ (by rfl))
set_option hygiene false in
local macro_rules | `(tactic| walk_at "e5") => `(tactic| first
  | (with_reducible refine ag_Tuple ?_)
  | (with_reducible show AG VR _ _ (eval (Expr.Call (Expr.Attribute _ _ _) _ _ _) _) _ _ _); refine ag_Meth ?_
  | (with_reducible show AG VR _ _ (eval (Expr.Call _ _ _ _) _) _ _ _); refine ag_Call ?_
  | (with_reducible show AG VR _ _ (eval (Expr.Subscript _ (Expr.Slice _ _ _ _) _) _) _ _ _); refine ag_of ?_
  | (with_reducible show AG VR _ _ (eval (Expr.Subscript _ _ _) _) _ _ _); refine ag_Sub (by with_reducible assumption) ?_
  | (with_reducible show AG VR _ _ (eval (Expr.Compare _ [_] [_] _) _) _ _ _); refine ag_Cmp1 (by with_reducible assumption) ?_
  | (with_reducible show AG VR _ _ (eval _ _) _ _ _); refine ag_of ?_)
set_option hygiene false in
local macro_rules | `(tactic| walk_at "e7") => `(tactic| first
  | (with_reducible show AG VB _ _ _ _ _ _); refine ag_of ?_)
set_option hygiene false in
local macro_rules | `(tactic| walk_at "e6") => `(tactic| first
  | (with_reducible refine lg_nil ?_)
  | (with_reducible show AG VRs _ _ (spliced (backTo _ (starEach (_ :: _) _))) _ _ _); refine lg_cons ?_)
set_option hygiene false in
local macro_rules | `(tactic| walk_at "e10") => `(tactic| first
  | ((with_reducible show CallAtG _ _ _ _ _ _ _); first | walk_at "cg" | refine cg_of ?_))
set_option hygiene false in
local macro_rules | `(tactic| walk_at "e9") => `(tactic| first
  | (with_reducible show CallAt _ _ (D.glob (Value.ref _)) _ _ _ _); walk_at "cx"
  | ((with_reducible show CallAt _ _ (D.glob (Value.builtin _)) _ _ _ _); first
      | refine c_fun (by with_reducible assumption) (by with_reducible assumption) ?_
      | refine c_fun (by with_reducible assumption) (f_len_bytes (by walk_at "sz")) ?_
      | refine c_fun (by with_reducible assumption) (f_len_list (by walk_at "sz")) ?_
      | refine c_fun (by with_reducible assumption) (f_find2 (by decide)) ?_
      | refine c_fun (by with_reducible assumption) (f_split (by decide) (by walk_at "sz")) ?_))
set_option hygiene false in
local macro_rules | `(tactic| walk_at "ex") => `(tactic| first
  | (fail_if_success (fail_if_success (with_reducible show AW VR _ _ _ _ _ _))); walk_at "e1"
  | (fail_if_success (fail_if_success (with_reducible show AW VRs _ _ _ _ _ _))); walk_at "e2"
  | (fail_if_success (fail_if_success (with_reducible show AW VB _ _ _ _ _ _))); walk_at "e3"
  | (fail_if_success (fail_if_success (with_reducible show AW VF _ _ _ _ _ _))); walk_at "e4"
  | (fail_if_success (fail_if_success (with_reducible show AG VR _ _ _ _ _ _))); walk_at "e5"
  | (fail_if_success (fail_if_success (with_reducible show AG VRs _ _ _ _ _ _))); walk_at "e6"
  | (fail_if_success (fail_if_success (with_reducible show AG VB _ _ _ _ _ _))); walk_at "e7"
  | (fail_if_success (fail_if_success (with_reducible show AG VF _ _ _ _ _ _))); walk_at "e8"
  | (fail_if_success (fail_if_success (with_reducible show CallAt _ _ _ _ _ _ _))); walk_at "e9"
  | (fail_if_success (fail_if_success (with_reducible show CallAtG _ _ _ _ _ _ _))); walk_at "e10"
  | walk_at "e11")
set_option hygiene false in
local macro_rules | `(tactic| walk_at "ex") => `(tactic| first
  | ((with_reducible show AW VF _ _ (exec (Stmt.Assign [Expr.Tuple [Expr.Name _ _, Expr.Name _ _] _ _] _ _) _) _ _ _); first
      | refine x_TwoS (by with_reducible assumption) (by with_reducible assumption) ?_ (by rfl) (by rfl) (by intro e h; cases e; cases h; rfl) (by rfl)
      | refine x_Two (by with_reducible assumption) (by with_reducible assumption) ?_ (by rfl) (by rfl) (by intro e h; cases e; cases h; rfl) (by rfl))
  | ((with_reducible show AW VF _ _ (exec (Stmt.Assign [Expr.Tuple [Expr.Name _ _, Expr.Name _ _, Expr.Name _ _] _ _] _ _) _) _ _ _); first
      | refine x_ThreeS (by with_reducible assumption) (by with_reducible assumption) ?_ (by rfl) (by rfl) (by rfl) (by intro e h; cases e; cases h; rfl) (by rfl)
      | refine x_Three (by with_reducible assumption) (by with_reducible assumption) ?_ (by rfl) (by rfl) (by rfl) (by intro e h; cases e; cases h; rfl) (by rfl))
  | (with_reducible show AG VF _ _ (exec (Stmt.Assign [Expr.Tuple (_ :: _) _ _] (Expr.Tuple _ _ _) _) _) _ _ _); refine ag_of ?_
  | (with_reducible show AG VF _ _ (exec (Stmt.Assign [Expr.Tuple [Expr.Name _ _, Expr.Name _ _] _ _] _ _) _) _ _ _); refine xg_Two (by with_reducible assumption) (by with_reducible assumption) ?_ (by rfl) (by rfl) (by intro e h; cases e; cases h; rfl) (by rfl)
  | (with_reducible first | refine ktw ?_ | refine kts ?_ | refine kt3 ?_ | refine kt3s ?_); try dsimp only)
local macro_rules | `(tactic| walk_at "szl") => `(tactic| first
  | assumption
  | refine @str_app_len _ _ ?sm ?sn _ ?s1 ?s2 ?s3; (case s1 => walk_at "szl"); (case s2 => walk_at "szl"); (case s3 => exact Nat.le_refl _)
  | exact Nat.le_refl _)
local macro_rules | `(tactic| walk_at "szs") => `(tactic| first
  | refine @str_app_len _ _ ?sm ?sn _ ?s1 ?s2 ?s3; (case s1 => walk_at "szl"); (case s2 => walk_at "szl"); (case s3 => decide))
set_option hygiene false in
local macro_rules | `(tactic| walk_at "ex") => `(tactic| first
  | (with_reducible show KOp (binaryOp Operator.Add) _ (D.str _) (D.str _) _); refine kop (op_add_str (by walk_at "szs")) ?_
  | (with_reducible show CallAt _ _ (D.glob (Value.type "str")) [D.int _] _ _ _); refine c_fun (by with_reducible assumption) (f_str_int (by with_reducible assumption)) ?_)
set_option hygiene false in
local macro_rules | `(tactic| walk_at "cg") => `(tactic| first
  | (with_reducible show CallAtG _ _ (D.glob (Value.type "bytearray")) [] _ _ _); refine c_barr ?_)
set_option hygiene false in
local macro_rules | `(tactic| walk_at "ex") => `(tactic| first
  | (with_reducible show KIt _ (D.bytes _) (D.int _) _); refine kit (by with_reducible assumption) ?_
  | (with_reducible show CallAt _ _ (D.glob (Value.type "bytes")) [D.mut _] _ _ _); refine f_bytes_mut (n := 0) (by with_reducible assumption) (by omega) ?_)
section
section
variable {g : Gl} {fc : FC} {a : AS} {R : AS → Prop} {n : Nat}
noncomputable def patchRow (b : Bs) : Bs := if (cut b (some (-1)) none == [10]) = true then cut b none (some (-1)) else b
theorem k_patch_row {b : Bs} {Q : D → AS → Prop} (g' : g.Ok) (ok : fc.Ok n) (hn : n ≤ 90) (hb : b.length ≤ 10000) (h : Q (.bytes (patchRow b)) a) : CallAt g fc (.glob (.ref 143)) [.bytes b] Q R a := by
  refine call_def g' ok (names := ["row"]) (by with_unfolding_all rfl) (by with_unfolding_all rfl) (bind1 fun v => by with_unfolding_all rfl) (by decide) (by decide) (by decide) (fun fc' ok' hs => ?_)
  repeat' walk_at "ex"
  all_goals simp_all [patchRow]
noncomputable abbrev devNull : Bs := [47, 100, 101, 118, 47, 110, 117, 108, 108]
noncomputable def stripped (b : Bs) : Option (Option Bs) :=
  if b = devNull then some none else
  if findI [47] b 0 < 0 ∨ findI [47] b 0 = b.length - 1 then none else some (some (cut b (some (findI [47] b 0 + 1)) none))
noncomputable def dOf : Option Bs → D
  | none => .none
  | some b => .bytes b
theorem k_stripped_name {b : Bs} {Q : D → AS → Prop} (g' : g.Ok) (ok : fc.Ok n) (hn : n ≤ 90) (hb : b.length ≤ 10000) (h : ∀ r, stripped b = some r → Q (dOf r) a) (h0 : stripped b = none → R a) : CallAt g fc (.glob (.ref 150)) [.bytes b] Q R a := by
  refine call_def g' ok (names := ["name"]) (by with_unfolding_all rfl) (by with_unfolding_all rfl) (bind1 fun v => by with_unfolding_all rfl) (by decide) (by decide) (by decide) (fun fc' ok' hs => ?_)
  repeat' walk_at "ex"
  all_goals first
    | (refine h none ?_; simp_all [stripped]; done)
    | (refine h (some _) ?_; simp_all [stripped]; done)
    | (refine h0 ?_; simp_all [stripped]; done)
/-- the number, or none -/
noncomputable def numBy (base : Int) : Bs → Int → Option Int
  | [], n => some n
  | c :: r, n => if (c.toNat : Int) - 48 < 0 then none else if (c.toNat : Int) - 48 < base then numBy base r (base * n + ((c.toNat : Int) - 48)) else none
noncomputable def numberBy (base : Int) (b : Bs) : Option Int := if b.length = 0 then none else numBy base b 0
noncomputable def dOi : Option Int → D
  | none => .none
  | some n => .int n
noncomputable def Sub (m' m : List (PStr × D)) : Prop := ∀ x d, m'.lookup x = some d → m.lookup x = some d
theorem sub_nil {m} : Sub [] m := fun _ _ e => by cases e
/-- those of m that bear the names xs -/
noncomputable def keepN (m : List (PStr × D)) : List PStr → Option (List (PStr × D))
  | [] => some []
  | x :: xs => (m.lookup x).bind fun d => (keepN m xs).map ((x, d) :: ·)
theorem sub_cons {m' m : List (PStr × D)} {x : PStr} {d : D} (h : m.lookup x = some d) (k : Sub m' m) : Sub ((x, d) :: m') m := fun y e hy => by
  rw [List.lookup_cons] at hy
  split at hy
  · rename_i q
    obtain rfl := eq_of_beq q
    exact hy ▸ h
  · exact k _ _ hy
theorem sub_keep {m : List (PStr × D)} : ∀ (xs : List PStr) {m' : List (PStr × D)}, keepN m xs = some m' → Sub m' m
  | [], _, h => by cases h; exact sub_nil
  | x :: xs, m', h => by
    obtain ⟨d, h1, h2⟩ := Option.bind_eq_some_iff.mp h
    obtain ⟨r, h3, rfl⟩ := Option.map_eq_some_iff.mp h2
    exact sub_cons h1 (sub_keep xs h3)
theorem sub_map {m m' : List (PStr × D)} (h : keepN m (m'.map (·.1)) = some m') : Sub m' m := sub_keep _ h
theorem sub_in {m' m : List (PStr × D)} {x : PStr} {d : D} (k : Sub m' m) : Sub ((x, d) :: m') ((x, d) :: m) := fun y e hy => by
  rw [List.lookup_cons] at hy ⊢
  split
  · rename_i q
    rw [q] at hy
    exact hy
  · rename_i q
    rw [q] at hy
    exact k _ _ hy
theorem natAbs_lt_of {n : Int} {i : Nat} (h0 : 0 ≤ n) (h1 : n < 10 ^ i) (hi : i ≤ 10000) : n.natAbs < 2 ^ 40000 := by
  have e : (n.natAbs : Int) < ((10 ^ i : Nat) : Int) := by
    rw [Int.natAbs_of_nonneg h0, Int.natCast_pow]; exact h1
  have e2 : n.natAbs < 10 ^ i := by exact_mod_cast e
  calc n.natAbs < 10 ^ i := e2
    _ ≤ 16 ^ i := Nat.pow_le_pow_left (by decide) i
    _ = 2 ^ (4 * i) := by rw [Nat.pow_mul]
    _ ≤ 2 ^ 40000 := Nat.pow_le_pow_right (by decide) (by omega)
theorem k_number_by {b : Bs} {base : Int} {Q : D → AS → Prop} (g' : g.Ok) (ok : fc.Ok n) (hn : n ≤ 90) (hb : b.length ≤ 10000) (h1 : 0 ≤ base) (h2 : base ≤ 10)
    (h : ∀ o, Q (dOi (numberBy base b)) ⟨a.m, a.σ ++ o⟩) : CallAt g fc (.glob (.ref 61)) [.bytes b, .int base] Q R a := by
  refine call_def g' ok (names := ["octets", "base"]) (by with_unfolding_all rfl) (by with_unfolding_all rfl) (bind2 fun v u => by with_unfolding_all rfl) (by decide) (by decide) (by decide) (fun fc' ok' hs => ?_)
  repeat' walk_at "ex"
  · have e : numberBy base b = none := by simp_all [numberBy]
    have := h []
    rw [e, List.append_nil] at this
    exact this
  refine x_For (fun i m => ∃ k : Int, numberBy base b = numBy base (b.drop i) k ∧ 0 ≤ k ∧ k < 10 ^ i ∧ Sub [("number", .int k), ("base", .int base)] m) ok' hs ?_
  repeat' walk_at "ex"
  refine ⟨_, it_bytes', ?_, ?_, ?_⟩
  · refine ⟨0, ?_, by decide, by decide, sub_cons rfl (sub_cons rfl sub_nil)⟩
    simp_all [numberBy]
  · rintro i m e o he ⟨k, hk, k0, k1, hm⟩
    obtain ⟨c, hc, rfl⟩ : ∃ c, b[i]? = some c ∧ e = .int c.toNat := by
      rw [List.getElem?_map] at he
      cases q : b[i]? with
      | none => rw [q] at he; cases he
      | some c => rw [q] at he; exact ⟨c, rfl, (Option.some.inj he).symm⟩
    obtain ⟨hi, hc'⟩ := List.getElem?_eq_some_iff.mp hc
    have hd : b.drop i = c :: b.drop (i + 1) := by rw [← hc']; exact List.drop_eq_getElem_cons hi
    rw [hd, numBy] at hk
    have hmul : IntMulOk base k := IntMulOk.of_le (m := 5) (n := 40000) (intBits_le_iff.mpr (by omega)) (intBits_le_iff.mpr (natAbs_lt_of k0 k1 (by omega))) (by decide)
    refine aw_drop (sub_in hm) ?_
    repeat' walk_at "ex"
    all_goals first
    | (have e : numberBy base b = none := by
         rw [hk]
         clear h hk
         simp_all
       have := h [.raw o]
       rw [e] at this
       exact this)
    | (have e : numberBy base b = none := by
         rw [hk]
         rename_i z1 z2
         have y2 : ¬ ((c.toNat : Int) - 48 < base) := by simpa using z2
         rw [if_neg y2, ite_self]
       have := h [.raw o]
       rw [e] at this
       exact this)
    | (have e : numberBy base b = none := by
         rw [hk]
         rename_i z1
         have y1 : ((c.toNat : Int) < 48) := by simpa using z1
         rw [if_pos (by omega)]
       have := h [.raw o]
       rw [e] at this
       exact this)
    | (rename_i z1 z2
       have y1 : ¬ ((c.toNat : Int) - 48 < 0) := by simpa using z1
       have y2 : (c.toNat : Int) - 48 < base := by simpa using z2
       rw [if_neg y1, if_pos y2] at hk
       refine ⟨rfl, _, hk, ?_, ?_, sub_cons rfl (sub_cons rfl sub_nil)⟩
       · have := Int.mul_nonneg h1 k0
         omega
       · rw [Int.pow_succ]
         have : base * k ≤ 10 * k := Int.mul_le_mul_of_nonneg_right h2 k0
         omega)
  · rintro m o ⟨k, hk, -, -, hm⟩
    refine aw_drop hm ?_
    repeat' walk_at "ex"
    have e : numberBy base b = some k := by rw [hk, List.length_map, List.drop_length]; rfl
    have := h [.raw o]
    rw [e] at this
    exact this
theorem k_octal_of {b : Bs} {Q : D → AS → Prop} (g' : g.Ok) (ok : fc.Ok n) (hn : n ≤ 89) (hb : b.length ≤ 10000)
    (h : ∀ o, Q (dOi (numberBy 8 b)) ⟨a.m, a.σ ++ o⟩) : CallAt g fc (.glob (.ref 75)) [.bytes b] Q R a := by
  refine call_def g' ok (names := ["octets"]) (by with_unfolding_all rfl) (by with_unfolding_all rfl) (bind1 fun v => by with_unfolding_all rfl) (by decide) (by decide) (by decide) (fun fc' ok' hs => ?_)
  repeat' walk_at "ex"
  refine k_number_by g' ok' (by omega) hb (by decide) (by decide) fun o => ?_
  repeat' walk_at "ex"
  exact h o
end
end
section
open PySem PySem.W PySem.Spec PySem.Calls PyProof.Rows
set_option hygiene false in
local macro_rules | `(tactic| walk_at "cx") => `(tactic| first
  | refine k_number_by (by assumption) (by assumption) (by walk_at "n") (by walk_at "sz") (by decide) (by decide) fun _ => ?_)
section
variable {g : Gl} {fc : FC} {a : AS} {R : AS → Prop} {n : Nat}
noncomputable def numberOf (b : Bs) : Option Int := if 1 < b.length ∧ b.getD 0 0 = 48 then none else numberBy 10 b
theorem k_number_of {b : Bs} {Q : D → AS → Prop} (g' : g.Ok) (ok : fc.Ok n) (hn : n ≤ 89) (hb : b.length ≤ 10000)
    (h : ∀ o, Q (dOi (numberOf b)) ⟨a.m, a.σ ++ o⟩) : CallAt g fc (.glob (.ref 68)) [.bytes b] Q R a := by
  refine call_def g' ok (names := ["octets"]) (by with_unfolding_all rfl) (by with_unfolding_all rfl) (bind1 fun v => by with_unfolding_all rfl) (by decide) (by decide) (by decide) (fun fc' ok' hs => ?_)
  by_cases hl : 1 < b.length
  · have hit := it_bytes (b := b) (i := 0) (by decide) (by omega) (by omega)
    repeat' walk_at "ex"
    all_goals first
      | (refine ⟨_, hit, ?_⟩; repeat' walk_at "ex")
      | skip
    all_goals first
      | (rename_i z1 z2; exfalso; simp at z1; omega)
      | (rename_i z; exfalso; simp at z; omega)
      | (have e : numberOf b = none := if_pos ⟨hl, by
          rename_i z
          have z2 : ((b.getD 0 0).toNat : Int) = 48 := by simpa using z
          have z' : (b.getD 0 0).toNat = 48 := by omega
          exact UInt8.toNat_inj.mp z'⟩
         have := h []
         rw [e, List.append_nil] at this
         exact this)
      | (have e : numberOf b = numberBy 10 b := if_neg fun y => by
          rename_i z o
          rw [Int.toNat_zero, y.2] at z
          exact absurd z (by decide)
         rw [← e]
         exact h _)
  · repeat' walk_at "ex"
    all_goals first
      | (rename_i z; exfalso; simp at z; omega)
      | (have e : numberOf b = numberBy 10 b := if_neg fun y => hl y.1
         rw [← e]
         exact h _)
noncomputable def toldNumber (b : Bs) : Option Int := numberOf b
theorem k_told_number {b : Bs} {w : PStr} {Q : D → AS → Prop} (g' : g.Ok) (ok : fc.Ok n) (hn : n ≤ 88) (hb : b.length ≤ 10000)
    (h : ∀ o k, numberOf b = some k → Q (.int k) ⟨a.m, a.σ ++ o⟩) (h0 : ∀ o, numberOf b = none → R ⟨a.m, a.σ ++ o⟩) : CallAt g fc (.glob (.ref 171)) [.bytes b, .str w] Q R a := by
  refine call_def g' ok (names := ["octets", "words"]) (by with_unfolding_all rfl) (by with_unfolding_all rfl) (bind2 fun v u => by with_unfolding_all rfl) (by decide) (by decide) (by decide) (fun fc' ok' hs => ?_)
  repeat' walk_at "ex"
  refine k_number_of g' ok' (by omega) hb fun o => ?_
  cases e : numberOf b with
  | none =>
    dsimp only [dOi]
    repeat' walk_at "ex"
    all_goals exact h0 o e
  | some k =>
    dsimp only [dOi]
    repeat' walk_at "ex"
    all_goals exact h o k e
noncomputable def toldRange (b : Bs) : Option (Int × Int) :=
  if 2 < (lsplit [44] b).length then none else
  match numberOf ((lsplit [44] b).getD 0 []) with
  | none => none
  | some s =>
    match (if (lsplit [44] b).length = 2 then numberOf ((lsplit [44] b).getD 1 []) else some 1) with
    | none => none
    | some m => if s = 0 ∧ 0 < m then none else some (s, m)
theorem splitGo_ne (c : Bs) : ∀ (b : Bs) (n : Nat) (cur : Bs), splitGo c n cur b ≠ []
  | [], n, cur => by unfold splitGo; exact List.cons_ne_nil _ _
  | y :: t, 0, cur => by
    unfold splitGo
    split
    · exact List.cons_ne_nil _ _
    · exact splitGo_ne c t 0 _
  | y :: t, n + 1, cur => by unfold splitGo; exact splitGo_ne c t n cur
theorem lsplit_ne (c b : Bs) : lsplit c b ≠ [] := splitGo_ne c b 0 []
end
end
section
open PySem PySem.W PySem.Spec PySem.Calls PyProof.Rows
set_option hygiene false in
local macro_rules | `(tactic| walk_at "cx") => `(tactic| first
  | refine k_told_number (by assumption) (by assumption) (by walk_at "n") (by walk_at "sz") (fun _ _ _ => ?_) (fun _ _ => ?_))
section
variable {g : Gl} {fc : FC} {a : AS} {R : AS → Prop} {n : Nat}
theorem k_told_range {b : Bs} {Q : D → AS → Prop} (g' : g.Ok) (ok : fc.Ok n) (hn : n ≤ 87) (hb : b.length ≤ 10000)
    (h : ∀ o s m, toldRange b = some (s, m) → Q (.tup [.int s, .int m]) ⟨a.m, a.σ ++ o⟩) (h0 : ∀ o, toldRange b = none → R ⟨a.m, a.σ ++ o⟩) : CallAt g fc (.glob (.ref 178)) [.bytes b] Q R a := by
  refine call_def g' ok (names := ["octets"]) (by with_unfolding_all rfl) (by with_unfolding_all rfl) (bind1 fun v => by with_unfolding_all rfl) (by decide) (by decide) (by decide) (fun fc' ok' hs => ?_)
  have hne := lsplit_ne [44] b
  have hlen := (lsplit_len [44] b).2
  have hlen' := (lsplit_len [44] b).1
  have hsp : FunV (.builtin "bytes.split") [.bytes b, .bytes [44]] (.list ((lsplit [44] b).map .bytes)) := f_split (by decide) (by omega)
  generalize hp : lsplit [44] b = p at *
  match p, hne with
  | [x], _ =>
    have hx : x.length ≤ 10000 := Nat.le_trans (hlen x (by simp)) hb
    dsimp only [List.map] at hsp
    repeat' walk_at "ex"
    all_goals try simp only [List.append_assoc]
    all_goals first
      | (refine h _ _ _ ?_; clear h h0; simp_all [toldRange]; done)
      | (refine h _ _ _ ?_; clear h h0; simp_all [toldRange]; omega)
      | exact h0 _ (by simp_all [toldRange])
      | (have z := h0 []; rw [List.append_nil] at z; exact z (by simp_all [toldRange]))
  | [x, y], _ =>
    have hx : x.length ≤ 10000 := Nat.le_trans (hlen x (by simp)) hb
    have hy : y.length ≤ 10000 := Nat.le_trans (hlen y (by simp)) hb
    dsimp only [List.map] at hsp
    repeat' walk_at "ex"
    all_goals try simp only [List.append_assoc]
    all_goals first
      | (refine h _ _ _ ?_; clear h h0; simp_all [toldRange]; done)
      | (refine h _ _ _ ?_; clear h h0; simp_all [toldRange]; omega)
      | exact h0 _ (by simp_all [toldRange])
      | (have z := h0 []; rw [List.append_nil] at z; exact z (by simp_all [toldRange]))
  | x :: y :: z :: r, _ =>
    dsimp only [List.map] at hsp
    simp only [List.length_cons] at hlen'
    have hln : FunV (.builtin "len") [.list (.bytes x :: .bytes y :: .bytes z :: r.map .bytes)] (.int ((r.length : Int) + 1 + 1 + 1)) := by
      have := f_len_list (l := .bytes x :: .bytes y :: .bytes z :: r.map .bytes) (by simp; omega)
      simpa using this
    repeat' walk_at "ex"
    all_goals first
      | (have z := h0 []; rw [List.append_nil] at z; exact z (by simp_all [toldRange]))
end
end
section
open PySem PySem.W PySem.Spec PySem.Calls PyProof.Rows
set_option hygiene false in
local macro_rules | `(tactic| walk_at "cx") => `(tactic| first
  | refine k_told_range (by assumption) (by assumption) (by walk_at "n") (by walk_at "sz") (fun _ _ _ _ => ?_) (fun _ _ => ?_)
  | refine k_patch_row (by assumption) (by assumption) (by walk_at "n") (by walk_at "sz") ?_
  | refine c_hunk (by assumption) (by assumption) (by walk_at "n") ?_)
section
variable {g : Gl} {fc : FC} {a : AS} {R : AS → Prop} {n : Nat}
noncomputable def hunkHead (b : Bs) : Option (Int × Int × Int × Int × Bs) :=
  if cut b none (some 4) ≠ [64, 64, 32, 45] ∨ findI [32, 64, 64] b 4 < 0 then none else
  match lsplit [32, 43] (cut b (some 4) (some (findI [32, 64, 64] b 4))) with
  | [x, y] =>
    match toldRange x, toldRange y with
    | some p, some q => some (p.1, p.2, q.1, q.2, if cut (patchRow (cut b (some (findI [32, 64, 64] b 4 + 3)) none)) none (some 1) = [32] then cut (patchRow (cut b (some (findI [32, 64, 64] b 4 + 3)) none)) (some 1) none else patchRow (cut b (some (findI [32, 64, 64] b 4 + 3)) none))
    | _, _ => none
  | _ => none
theorem k_read_hunk_head {b : Bs} {Q : D → AS → Prop} (g' : g.Ok) (ok : fc.Ok n) (hn : n ≤ 86) (hb : b.length ≤ 10000) (hb4 : 4 ≤ b.length)
    (h : ∀ o i j k l hd, hunkHead b = some (i, j, k, l, hd) → Q (.hunk i j k l hd) ⟨a.m, a.σ ++ o⟩) (h0 : ∀ o, hunkHead b = none → R ⟨a.m, a.σ ++ o⟩) : CallAt g fc (.glob (.ref 185)) [.bytes b] Q R a := by
  refine call_def g' ok (names := ["row"]) (by with_unfolding_all rfl) (by with_unfolding_all rfl) (bind1 fun v => by with_unfolding_all rfl) (by decide) (by decide) (by decide) (fun fc' ok' hs => ?_)
  have hfd : FunV (.builtin "bytes.find") [.bytes b, .bytes [32, 64, 64], .int 4] (.int (findI [32, 64, 64] b 4)) := f_find3 (k := 4) (by decide) hb4
  have hne := lsplit_ne [32, 43] (cut b (some 4) (some (findI [32, 64, 64] b 4)))
  have hlen := (lsplit_len [32, 43] (cut b (some 4) (some (findI [32, 64, 64] b 4)))).2
  have hlen' := (lsplit_len [32, 43] (cut b (some 4) (some (findI [32, 64, 64] b 4)))).1
  have hcl := cut_length_le b (some 4) (some (findI [32, 64, 64] b 4))
  have hpl : (patchRow (cut b (some (findI [32, 64, 64] b 4 + 3)) none)).length ≤ 10000 := by
    unfold patchRow
    have := cut_length_le b (some (findI [32, 64, 64] b 4 + 3)) none
    split
    · exact Nat.le_trans (cut_length_le _ _ _) (by omega)
    · omega
  have hsp : FunV (.builtin "bytes.split") [.bytes (cut b (some 4) (some (findI [32, 64, 64] b 4))), .bytes [32, 43]] (.list ((lsplit [32, 43] (cut b (some 4) (some (findI [32, 64, 64] b 4)))).map .bytes)) := f_split (by decide) (by omega)
  generalize hE : findI [32, 64, 64] b 4 = E at *
  generalize hp : lsplit [32, 43] (cut b (some 4) (some E)) = p at *
  have hln : FunV (.builtin "len") [.list (p.map .bytes)] (.int p.length) := by
    have := f_len_list (l := p.map D.bytes) (by rw [List.length_map]; omega)
    rwa [List.length_map] at this
  match p, hne with
  | [x, y], _ =>
    have hx : x.length ≤ 10000 := Nat.le_trans (hlen x (by simp)) (by omega)
    have hy : y.length ≤ 10000 := Nat.le_trans (hlen y (by simp)) (by omega)
    dsimp only [List.map] at hsp hln
    repeat' walk_at "ex"
    all_goals try simp only [List.append_assoc]
    all_goals first
      | (refine h _ _ _ _ _ _ ?_; clear h h0; simp_all [hunkHead]; done)
      | (refine h _ _ _ _ _ _ ?_; clear h h0; simp_all [hunkHead]; omega)
      | exact h0 _ (by simp_all [hunkHead])
      | (have z := h0 []; rw [List.append_nil] at z; exact z (by simp_all [hunkHead]))
  | [x], _ =>
    dsimp only [List.map] at hsp hln
    repeat' walk_at "ex"
    all_goals (have z := h0 []; rw [List.append_nil] at z; exact z (by simp_all [hunkHead]))
  | x :: y :: z :: r, _ =>
    dsimp only [List.map] at hsp hln
    repeat' walk_at "ex"
    all_goals first
      | (have z := h0 []; rw [List.append_nil] at z; exact z (by simp_all [hunkHead]))
      | (exfalso; simp_all; omega)
end
end
section
open PySem PySem.W PySem.Spec PySem.Calls PyProof.Rows
section
variable {g : Gl} {fc : FC} {a : AS} {R : AS → Prop} {n : Nat}
/-- up to the next quote -/
noncomputable def upTo (b : Bs) : Bs := b.takeWhile (fun c => c != 34)
/-- the text in quotes from the place on, and the place behind -/
noncomputable def unquoted (b : Bs) (at' : Nat) : Option (Bs × Nat) :=
  if b.length ≤ at' + 1 + (upTo (b.drop (at' + 1))).length then none else some (upTo (b.drop (at' + 1)), at' + 1 + (upTo (b.drop (at' + 1))).length + 1)
theorem barr_plain : PlainAttrs "bytearray" :=
  ⟨⟨"bytearray.__getattribute__", by rw [typeLookup_type, builtinLookup_eq_fast]; kernel_rfl, by decide +kernel⟩, by rw [typeLookup_type, builtinLookup_eq_fast]; kernel_rfl⟩
theorem m_append : MethT "bytearray" "append" "bytearray.append" := ⟨barr_plain, BA.slot_append, BA.type_append⟩
theorem ism_barr {k : Nat} {b : Bs} (hσ : a.σ[k]? = some (.barr b)) : ∀ G₁ ρ₁ s₁ v₁, Rel g fc G₁ a ρ₁ s₁ → VR G₁ ρ₁ (.mut k) v₁ → s₁.TypeIs v₁ "bytearray" ∧ ∀ x, v₁ = .ref x → ∃ ob, s₁.heap.get? x = some ob ∧ ob.dict = none := fun G ρ s v hr hv => by
  cases hv with
  | «mut» hk =>
    obtain ⟨o, h3, h4⟩ := hr.st.get hk hσ
    cases h4
    exact ⟨⟨_, h3, rfl⟩, fun x e => by cases e; exact ⟨_, h3, rfl⟩⟩
theorem byte_lt (c : UInt8) : (c.toNat : Int) < 256 := by have := UInt8.toNat_lt c; omega
end
set_option hygiene false in
local macro_rules | `(tactic| walk_at "cg") => `(tactic| first
  | (with_reducible show CallAtG _ _ (D.glob (Value.builtin "bytearray.append")) _ _ _ _); refine c_append (by assumption) (Int.natCast_nonneg _) (byte_lt _) (by omega) ?_)
set_option hygiene false in
local macro_rules | `(tactic| walk_at "ex") => `(tactic| first
  | (with_reducible show ∃ T id, MethT T (Str.ofString "append") id ∧ _); refine ⟨_, _, m_append, ism_barr (by assumption), ?_⟩)
section
variable {g : Gl} {fc : FC} {a : AS} {R : AS → Prop} {n : Nat}
theorem k_patch_unquoted {b : Bs} {k : Nat} {Q : D → AS → Prop} (g' : g.Ok) (ok : fc.Ok n) (hn : n ≤ 90) (hb : b.length ≤ 10000) (hk : k + 1 ≤ b.length) (hno : ∀ c ∈ b, c ≠ 92)
    (h : ∀ o t p, unquoted b k = some (t, p) → Q (.tup [.bytes t, .int p]) ⟨a.m, a.σ ++ o⟩) (h0 : ∀ o, unquoted b k = none → R ⟨a.m, a.σ ++ o⟩) : CallAtG g fc (.glob (.ref 129)) [.bytes b, .int k] Q R a := by
  refine callG_def g' ok (names := ["octets", "at"]) (by with_unfolding_all rfl) (by with_unfolding_all rfl) (bind2 fun v u => by with_unfolding_all rfl) (by decide) (by decide) (by decide) (fun fc' ok' hs => ?_)
  repeat' walk_at "ex"
  refine a_Comp (fun d => match d with | .int i => .tup [.int ((escPairs.lookup i).elim 0 fun q => q.1), .int i] | d => d) g' ok' ?_ (by decide) (by decide) rfl (by decide) rfl
  repeat' walk_at "ex"
  refine ⟨_, itc_esc g', by decide, elt_esc g' ok' rfl rfl rfl, ?_⟩
  repeat' walk_at "ex"
  refine c_names ok' ?_
  repeat' walk_at "ex"
  refine xg_While (fun j a' => ∃ (f : Bs) (p : Nat), a'.σ = a.σ ++ [.barr f] ∧ Sub [("at", .int p), ("found", .mut a.σ.length), ("octets", .bytes b)] a'.m ∧ p + j = b.length ∧ f ++ upTo (b.drop p) = upTo (b.drop (k + 1)) ∧ p = k + 1 + f.length) ok' ?_ (b.length - (k + 1)) ?_
  · rintro j ⟨m', σ'⟩ ⟨f, p, e1, hm, hj, hf, hp⟩
    dsimp only at e1 hm
    subst e1
    refine ag_drop (a := ⟨m', a.σ ++ [.barr f]⟩) hm ?_
    have hσ : (a.σ ++ [AObj.barr f])[a.σ.length]? = some (.barr f) := by simp
    have hit : ∀ h : p < b.length, ItemV (.bytes b) (.int p) (.int (b.getD p 0).toNat) := fun h => it_bytes (b := b) (i := p) (by omega) (by omega) (by omega)
    by_cases hlt : p < b.length
    · have hit := hit hlt
      have hd : b.drop p = b.getD p 0 :: b.drop (p + 1) := by
        rw [List.getD_eq_getElem?_getD, List.getElem?_eq_getElem hlt]
        exact List.drop_eq_getElem_cons hlt
      have hmem : b.getD p 0 ∈ b := by
        rw [List.getD_eq_getElem?_getD, List.getElem?_eq_getElem hlt]
        exact List.getElem_mem hlt
      have h92 := hno _ hmem
      rw [hd] at hf
      generalize b.getD p 0 = c at *
      have h92' : ((c.toNat : Int) != 92) = true := by
        rw [bne_iff_ne]
        intro e
        exact h92 (UInt8.toNat_inj.mp (by show c.toNat = 92; omega))
      by_cases hc : c = 34
      · subst hc
        have e1 : upTo (b.drop (k + 1)) = f := by rw [← hf]; simp [upTo]
        repeat' walk_at "ex"
        refine h [.barr f] f (p + 1) ?_
        unfold unquoted
        rw [e1, if_neg (by omega), ← hp]
      · have h34 : ((c.toNat : Int) != 34) = true := by
          rw [bne_iff_ne]
          intro e
          exact hc (UInt8.toNat_inj.mp (by show c.toNat = 34; omega))
        repeat' walk_at "ex"
        refine ⟨j - 1, by omega, f ++ [c], p + 1, ?_, (sub_map rfl), by omega, ?_, by simp; omega⟩
        · simp
        · rw [← hf, upTo, upTo, List.takeWhile_cons, if_pos (by simpa using hc), List.append_assoc]; rfl
    · repeat' walk_at "ex"
      have e1 : upTo (b.drop (k + 1)) = f := by rw [← hf, List.drop_eq_nil_of_le (by omega)]; simp [upTo]
      refine h0 [.barr f] ?_
      unfold unquoted
      rw [e1, if_pos (by omega)]
  · refine ⟨[], k + 1, rfl, (sub_map rfl), by omega, rfl, rfl⟩
end
end
section
open PySem PySem.W PySem.Spec PySem.Calls PyProof.Rows
set_option hygiene false in
local macro_rules | `(tactic| walk_at "ex") => `(tactic| first
  | (with_reducible show AW VB _ _ (PySem.isTrue (Expr.Compare (Expr.Name _ _) [CmpOp.NotEq] [Expr.List [] _] _) _ _) _ _ _); refine t_tapeNe (by assumption) (by assumption) rfl (by assumption) (by walk_at "sz") ?_
  | (with_reducible show ∃ T id, MethT T (Str.ofString "pop") id ∧ _); refine ⟨_, _, m_pop, ism_tape (by assumption), ?_⟩
  | (with_reducible show ∃ _, Op2 (binaryOp Operator.Mod) (D.int _) (D.int _) _ ∧ _); refine ⟨_, op_mod_int (by omega), ?_⟩)
section
variable {g : Gl} {fc : FC} {a : AS} {R : AS → Prop} {n : Nat}
/-- the store later on: the tape in its place, the rest as before -/
structure Later (k : Nat) (σ σ' : List AObj) (l' : List D) : Prop where
  tape : σ'[k]? = some (.list l')
  keep : ∀ j, j ≠ k → j < σ.length → σ'[j]? = σ[j]?
  len : σ.length ≤ σ'.length
  short : l'.length ≤ 1000
  aint : ∀ d ∈ l', ∃ i, d = .int i
theorem Later.trans {k σ σ₁ σ₂ l₁ l₂} (x : Later k σ σ₁ l₁) (y : Later k σ₁ σ₂ l₂) : Later k σ σ₂ l₂ :=
  ⟨y.tape, fun j h1 h2 => (y.keep j h1 (Nat.lt_of_lt_of_le h2 x.len)).trans (x.keep j h1 h2), Nat.le_trans x.len y.len, y.short, y.aint⟩
theorem Later.more {k σ σ₁ l₁ τ} (x : Later k σ σ₁ l₁) : Later k σ (σ₁ ++ τ) l₁ := by
  have hk : k < σ₁.length := (List.getElem?_eq_some_iff.mp x.tape).1
  refine ⟨?_, fun j h1 h2 => ?_, ?_, x.short, x.aint⟩
  · rw [List.getElem?_append_left hk]; exact x.tape
  · rw [List.getElem?_append_left (Nat.lt_of_lt_of_le h2 x.len)]; exact x.keep j h1 h2
  · rw [List.length_append]; have := x.len; omega
/-- a tape in the store -/
structure Tape (k : Nat) (σ : List AObj) (l : List D) : Prop where
  tape : σ[k]? = some (.list l)
  short : l.length ≤ 1000
  aint : ∀ d ∈ l, ∃ i, d = .int i
theorem Later.tp {k σ σ' l} (x : Later k σ σ' l) : Tape k σ' l := ⟨x.tape, x.short, x.aint⟩
theorem Tape.later {k σ l} (x : Tape k σ l) : Later k σ σ l := ⟨x.tape, fun _ _ _ => rfl, Nat.le_refl _, x.short, x.aint⟩

theorem k_next {k : Nat} {m : Int} {l : List D} {Q : D → AS → Prop} (g' : g.Ok) (ok : fc.Ok n) (hn : n ≤ 90) (T : Tape k a.σ l) (hm : 0 < m)
    (h : ∀ i σ' l', 0 ≤ i → i < m → Later k a.σ σ' l' → Q (.int i) ⟨a.m, σ'⟩) : CallAt g fc (.glob (.ref 192)) [.mut k, .int m] Q R a := by
  refine call_def g' ok (names := ["tape", "many"]) (by with_unfolding_all rfl) (by with_unfolding_all rfl) (bind2 fun v u => by with_unfolding_all rfl) (by decide) (by decide) (by decide) (fun fc' ok' hs => ?_)
  obtain ⟨T1, T2, T3⟩ := T
  rcases List.eq_nil_or_concat l with rfl | ⟨l0, d, rfl⟩
  · repeat' walk_at "ex"
    exact h 0 _ _ (by omega) hm (Tape.later ⟨T1, T2, T3⟩)
  · rw [List.concat_eq_append] at *
    obtain ⟨i, rfl⟩ := T3 d (by simp)
    rw [List.length_append, List.length_singleton] at T2
    have hk : k < a.σ.length := (List.getElem?_eq_some_iff.mp T1).1
    repeat' walk_at "ex"
    refine c_pop T1 (by omega) ?_
    repeat' walk_at "ex"
    refine h _ _ l0 (Int.fmod_nonneg_of_pos _ hm) (Int.fmod_lt_of_pos _ hm) ⟨?_, fun j h1 h2 => ?_, ?_, by omega, fun d hd => T3 d (by simp [hd])⟩
    · exact List.getElem?_set_self hk
    · exact List.getElem?_set_ne (Ne.symm h1)
    · rw [List.length_set]; exact Nat.le_refl _
noncomputable def startsMenu : List Int := [0, 1, 7, 120, 10 ^ (24 : Int).toNat + 3]
noncomputable def manyMenu : List (Option Int) := [none, some 0, some 1, some 15]
noncomputable def startAt (i : Int) : Int := startsMenu.getD i.toNat 0
noncomputable def manyAt (i : Int) : Option Int := manyMenu.getD i.toNat none
@[irreducible] def numTxt (i : Int) : PStr := toString i
theorem f_str_num {i : Int} (h : i.natAbs.log2 < 1920) : FunV (.type "str") [.int i] (.str (numTxt i)) := by unfold numTxt; exact f_str_int h
noncomputable def sideTxt (s : Int) (m : Option Int) : PStr := numTxt s ++ (match m with | none => "" | some k => "," ++ numTxt k)
theorem menu_int {l : List Int} {i m : Int} (h0 : 0 ≤ i) (h1 : i < m) (hm : m = l.length) (hm2 : m ≤ 100) : ItemV (.tup (l.map .int)) (.int i) (.int (l.getD i.toNat 0)) :=
  it_tup h0 (by omega) (by
    have : i.toNat < l.length := by omega
    rw [List.getElem?_map, List.getElem?_eq_getElem this, List.getD_eq_getElem?_getD, List.getElem?_eq_getElem this]; rfl)
theorem menu_oint {l : List (Option Int)} {i m : Int} (h0 : 0 ≤ i) (h1 : i < m) (hm : m = l.length) (hm2 : m ≤ 100) : ItemV (.tup (l.map dOi)) (.int i) (dOi (l.getD i.toNat none)) :=
  it_tup h0 (by omega) (by
    have : i.toNat < l.length := by omega
    rw [List.getElem?_map, List.getElem?_eq_getElem this, List.getD_eq_getElem?_getD, List.getElem?_eq_getElem this]; rfl)
theorem menu_str {l : List PStr} {i m : Int} (h0 : 0 ≤ i) (h1 : i < m) (hm : m = l.length) (hm2 : m ≤ 100) : ItemV (.tup (l.map .str)) (.int i) (.str (l.getD i.toNat "")) :=
  it_tup h0 (by omega) (by
    have : i.toNat < l.length := by omega
    rw [List.getElem?_map, List.getElem?_eq_getElem this, List.getD_eq_getElem?_getD, List.getElem?_eq_getElem this]; rfl)
theorem menu_bytes {l : List Bs} {i m : Int} (h0 : 0 ≤ i) (h1 : i < m) (hm : m = l.length) (hm2 : m ≤ 100) : ItemV (.tup (l.map .bytes)) (.int i) (.bytes (l.getD i.toNat [])) :=
  it_tup h0 (by omega) (by
    have : i.toNat < l.length := by omega
    rw [List.getElem?_map, List.getElem?_eq_getElem this, List.getD_eq_getElem?_getD, List.getElem?_eq_getElem this]; rfl)
end
end
section
open PySem PySem.W PySem.Spec PySem.Calls PyProof.Rows
set_option hygiene false in
local macro_rules | `(tactic| walk_at "tape") => `(tactic| first | assumption | exact Later.tp (by assumption))
set_option hygiene false in
local macro_rules | `(tactic| walk_at "cx") => `(tactic| first
  | refine k_next (by assumption) (by assumption) (by walk_at "n") (by walk_at "tape") (by decide) (fun _ _ _ _ _ _ => ?_))
set_option hygiene false in
local macro_rules | `(tactic| walk_at "ex") => `(tactic| first
  | (with_reducible show CallAt _ _ (D.glob (Value.type "str")) [D.int _] _ _ _); refine c_fun (by assumption) (f_str_num (by assumption)) ?_
  | (with_reducible show ∃ _, Op2 (binaryOp Operator.Pow) (D.int _) (D.int _) _ ∧ _); refine ⟨_, op_pow_int (by decide) (by decide) (by decide), ?_⟩)
section
variable {g : Gl} {fc : FC} {a : AS} {R : AS → Prop} {n : Nat}
theorem start_small (i : Nat) : (startsMenu.getD i 0).natAbs.log2 < 1920 ∧ (numTxt (startsMenu.getD i 0)).length ≤ 100 := by
  match i with
  | 0 => decide +kernel
  | 1 => decide +kernel
  | 2 => decide +kernel
  | 3 => decide +kernel
  | 4 => decide +kernel
  | i + 5 =>
    have e : startsMenu.getD (i + 5) 0 = 0 := by simp [startsMenu]
    rw [e]
    decide +kernel
theorem many_small (i : Nat) : ∀ m, manyMenu.getD i none = some m → m.natAbs.log2 < 1920 ∧ (numTxt m).length ≤ 100 := by
  match i with
  | 0 => intro m h; cases h
  | 1 => intro m h; cases h; decide +kernel
  | 2 => intro m h; cases h; decide +kernel
  | 3 => intro m h; cases h; decide +kernel
  | i + 4 => intro m h; simp [manyMenu] at h
theorem k_law_side {k : Nat} {l : List D} {Q : D → AS → Prop} (g' : g.Ok) (ok : fc.Ok n) (hn : n ≤ 89) (T : Tape k a.σ l)
    (h : ∀ i j σ' l', 0 ≤ i → i < 5 → 0 ≤ j → j < 4 → Later k a.σ σ' l' → Q (.tup [.str (sideTxt (startAt i) (manyAt j)), .int (startAt i), .int ((manyAt j).getD 1)]) ⟨a.m, σ'⟩) : CallAt g fc (.glob (.ref 211)) [.mut k] Q R a := by
  refine call_def g' ok (names := ["tape"]) (by with_unfolding_all rfl) (by with_unfolding_all rfl) (bind1 fun v => by with_unfolding_all rfl) (by decide) (by decide) (by decide) (fun fc' ok' hs => ?_)
  repeat' walk_at "ex"
  rename_i i σ' l' i0 i1 L
  refine ⟨_, menu_int (l := startsMenu) i0 i1 (by rfl) (by decide), ?_⟩
  repeat' walk_at "ex"
  rename_i j σ₂ l₂ j0 j1 L₂
  refine ⟨_, menu_oint (l := manyMenu) j0 j1 (by rfl) (by decide), ?_⟩
  have hh := h i j σ₂ l₂ i0 i1 j0 j1 (L.trans L₂)
  unfold startAt manyAt at hh
  obtain ⟨hi, hi2⟩ := start_small i.toNat
  have hj := many_small j.toNat
  generalize startsMenu.getD i.toNat 0 = st at *
  generalize manyMenu.getD j.toNat none = mn at *
  cases mn with
  | none =>
    dsimp only [dOi]
    repeat' walk_at "ex"
    all_goals exact hh
  | some m =>
    dsimp only [dOi]
    obtain ⟨hj1, hj2⟩ := hj m rfl
    repeat' walk_at "ex"
    all_goals exact hh
noncomputable def octs (s : PStr) : Bs := s.cps.toList.map Nat.toUInt8
theorem k_law_octets {s : PStr} {Q : D → AS → Prop} (g' : g.Ok) (ok : fc.Ok n) (hn : n ≤ 89) (hz : s.length ≤ 10000) (hc : ∀ c ∈ s.cps.toList, c < 256) (h : Q (.bytes (octs s)) a) : CallAt g fc (.glob (.ref 204)) [.str s] Q R a := by
  refine call_def g' ok (names := ["text"]) (by with_unfolding_all rfl) (by with_unfolding_all rfl) (bind1 fun v => by with_unfolding_all rfl) (by decide) (by decide) (by decide) (fun fc' ok' hs => ?_)
  repeat' walk_at "ex"
  refine a_Comp (fun d => match d with | .str s => .int (s.cps.getD 0 0) | d => d) g' ok' ?_ (by decide) (by decide) rfl (by decide) rfl
  repeat' walk_at "ex"
  refine ⟨_, itc_str, ?_, elt_ord g' ok' rfl rfl rfl, ?_⟩
  · rw [List.length_map]; exact Nat.le_trans hz (by decide)
  have e : ((s.cps.toList.map fun c => D.str ⟨#[c]⟩).map fun d => match d with | .str s => D.int (s.cps.getD 0 0) | d => d) = (s.cps.toList.map fun c : Nat => (c : Int)).map .int := by
    rw [List.map_map, List.map_map]
    rfl
  rw [e]
  repeat' walk_at "ex"
  refine c_fun ok' (f_bytes_list ?_ ?_) ?_
  · intro n hn
    obtain ⟨c, h1, rfl⟩ := List.mem_map.mp hn
    have := hc c h1
    omega
  · rw [List.length_map]; exact Nat.le_trans (show s.cps.toList.length ≤ 10000 from hz) (by decide)
  rw [List.map_map]
  repeat' walk_at "ex"
  exact h
noncomputable abbrev aheads : List Bs := [[97, 47], [98, 47], [47], [111, 108, 100, 47], [], [97, 47]]
noncomputable abbrev tails : List Bs := [[120], [100, 47, 101], [121, 32, 122], [120, 32, 98, 47, 120], [], [113]]
noncomputable def allNames : List Bs := devNull :: (aheads.flatMap fun a => tails.map fun b => a ++ b)
theorem name_in {i j : Nat} (hi : i < 6) (hj : j < 6) : aheads.getD i [] ++ tails.getD j [] ∈ allNames := by
  have : ∀ i < 6, ∀ j < 6, aheads.getD i [] ++ tails.getD j [] ∈ allNames := by decide
  exact this i hi j hj
theorem name_len {i j : Nat} : (aheads.getD i []).length ≤ 4 ∧ (tails.getD j []).length ≤ 5 := by
  constructor
  · match i with
    | 0 | 1 | 2 | 3 | 4 | 5 => decide
    | i + 6 => simp
  · match j with
    | 0 | 1 | 2 | 3 | 4 | 5 => decide
    | i + 6 => simp
theorem k_law_name {k : Nat} {l : List D} {Q : D → AS → Prop} (g' : g.Ok) (ok : fc.Ok n) (hn : n ≤ 89) (T : Tape k a.σ l)
    (h : ∀ b σ' l', b ∈ allNames → Later k a.σ σ' l' → Q (.bytes b) ⟨a.m, σ'⟩) : CallAt g fc (.glob (.ref 225)) [.mut k] Q R a := by
  refine call_def g' ok (names := ["tape"]) (by with_unfolding_all rfl) (by with_unfolding_all rfl) (bind1 fun v => by with_unfolding_all rfl) (by decide) (by decide) (by decide) (fun fc' ok' hs => ?_)
  repeat' walk_at "ex"
  rename_i i σ' l' i0 i1 L
  refine ⟨_, menu_bytes (l := aheads) i0 i1 (by rfl) (by decide), ?_⟩
  repeat' walk_at "ex"
  rename_i j σ₂ l₂ j0 j1 L₂
  refine ⟨_, menu_bytes (l := tails) j0 j1 (by rfl) (by decide), ?_⟩
  have hin := name_in (i := i.toNat) (j := j.toNat) (by omega) (by omega)
  obtain ⟨q1, q2⟩ := name_len (i := i.toNat) (j := j.toNat)
  generalize aheads.getD i.toNat [] = x at *
  generalize tails.getD j.toNat [] = y at *
  repeat' walk_at "ex"
  all_goals first
    | exact h _ _ _ hin ((L.trans L₂).trans (by assumption))
    | exact h devNull _ _ (.head _) ((L.trans L₂).trans (by assumption))
end
end
section
open PySem PySem.W PySem.Spec PySem.Calls PyProof.Rows PySem.SeqAt
theorem op_eq_nn : Op2 (compareOp .Eq) .none .none (.bool true) := by
  refine .mk fun p w A E Q s G ρ v₁ v₂ hA hs h1 h2 hq => ?_; cases h1; cases h2; exact RcAt.none_none p w E Q (hq _ s.toks .bool)
theorem op_eq_nb {b : Bs} : Op2 (compareOp .Eq) .none (.bytes b) (.bool false) := by
  refine .mk fun p w A E Q s G ρ v₁ v₂ hA hs h1 h2 hq => ?_; cases h1; cases h2; exact rc_none_bytes _ _ p w E Q (hq _ s.toks .bool)
theorem op_eq_bn {b : Bs} : Op2 (compareOp .Eq) (.bytes b) .none (.bool false) := by
  refine .mk fun p w A E Q s G ρ v₁ v₂ hA hs h1 h2 hq => ?_; cases h1; cases h2; exact rc_bytes_none _ _ p w E Q (hq _ s.toks .bool)
noncomputable def bothD (r : Option Bs × Option Bs) : D := .tup [dOf r.1, dOf r.2]
theorem op_eq_dOf {x y : Option Bs} : Op2 (compareOp .Eq) (dOf x) (dOf y) (.bool (x == y)) := by
  cases x <;> cases y
  · exact op_eq_nn
  · exact op_eq_nb
  · exact op_eq_bn
  · exact op_eq_bytes
theorem mem_cut {b : Bs} {lo hi : Option Int} {c : UInt8} (h : c ∈ cut b lo hi) : c ∈ b := List.mem_of_mem_drop (List.mem_of_mem_take h)
theorem mem_patchRow {b : Bs} {c : UInt8} (h : c ∈ patchRow b) : c ∈ b := by
  unfold patchRow at h
  split at h
  · exact mem_cut h
  · exact h
theorem patchRow_len (b : Bs) : (patchRow b).length ≤ b.length := by
  unfold patchRow
  split
  · exact cut_length_le _ _ _
  · exact Nat.le_refl _
theorem pos_of_quote {b : Bs} (h : (cut b none (some 1) == [34]) = true) : 0 + 1 ≤ b.length := by
  cases b with
  | nil => exact absurd h (by decide)
  | cons _ _ => simp
theorem lfind_lt {c : Bs} (hc : c ≠ []) : ∀ {b : Bs} {i : Nat}, lfind c b = some i → i < b.length
  | [], i, h => by
    unfold lfind at h
    split at h
    · rename_i q
      cases c with
      | nil => exact absurd rfl hc
      | cons _ _ => cases q
    · cases h
  | y :: b, i, h => by
    unfold lfind at h
    split at h
    · cases h; simp
    · cases q : lfind c b with
      | none => rw [q] at h; cases h
      | some j =>
        rw [q] at h
        cases h
        have := lfind_lt hc q
        simp; omega
theorem findI_cases (c b : Bs) (hc : c ≠ []) (k : Nat) : findI c b k = -1 ∨ ∃ p : Nat, findI c b k = (p : Int) ∧ k ≤ p ∧ p < b.length := by
  unfold findI
  cases q : lfind c (b.drop k) with
  | none => exact .inl rfl
  | some i =>
    have := lfind_lt hc q
    rw [List.length_drop] at this
    exact .inr ⟨i + k, by simp, by omega, by omega⟩
noncomputable def unqPath (b : Bs) : Option Bs :=
  if cut b none (some 1) ≠ [34] then some b else
  match unquoted b 0 with
  | none => none
  | some (t, p) => if (p : Int) ≠ b.length then none else some t
noncomputable def partAt (b : Bs) (p : Nat) : Option (Option Bs × Option Bs) :=
  if ((0 ≤ findI [47] (cut b none (some p)) 0 ∧ findI [47] (cut b none (some p)) 0 < (cut b none (some p)).length - 1) ∧ 0 ≤ findI [47] (cut b (some (p + 1)) none) 0) ∧ findI [47] (cut b (some (p + 1)) none) 0 < (cut b (some (p + 1)) none).length - 1 then
    match stripped (cut b none (some p)), stripped (cut b (some (p + 1)) none) with
    | some x, some y => if x = y then some (x, y) else none
    | _, _ => none
  else none
noncomputable def partLoop (b : Bs) : Nat → Int → Option (Option Bs × Option Bs)
  | 0, _ => none
  | n + 1, place => if place < 0 then none else match partAt b place.toNat with | some r => some r | none => partLoop b n (findI [32] b (place.toNat + 1))
noncomputable def bothOf (x : Option (Option Bs)) (y : Option (Option Bs)) : Option (Option Bs × Option Bs) := match x with
  | none => none
  | some x => match y with
    | none => none
    | some y => some (x, y)
noncomputable def headPaths (b : Bs) : Option (Option Bs × Option Bs) :=
  if cut b none (some 1) = [34] then
    match unquoted b 0 with
    | none => none
    | some (t, p) => if cut b (some p) (some ((p : Int) + 1)) ≠ [32] then none else bothOf (stripped t) ((unqPath (cut b (some ((p : Int) + 1)) none)).bind stripped)
  else if 0 ≤ findI [32, 34] b 0 ∧ cut b (some (-1)) none = [34] then bothOf (stripped (cut b none (some (findI [32, 34] b 0)))) ((unqPath (cut b (some (findI [32, 34] b 0 + 1)) none)).bind stripped)
  else match partLoop b (b.length + 1) (findI [32] b 0) with
    | some r => some r
    | none => some (none, none)
noncomputable def toldName (b : Bs) : Option (Option Bs) :=
  if cut (patchRow (cut b (some 4) none)) none (some 1) = [34] then (match unquoted (patchRow (cut b (some 4) none)) 0 with | none => none | some (t, _) => stripped t)
  else stripped ((lsplit [9] (patchRow (cut b (some 4) none))).getD 0 [])
theorem unquoted_len {b : Bs} {k : Nat} {t : Bs} {p : Nat} (h : unquoted b k = some (t, p)) : t.length ≤ b.length := by
  unfold unquoted at h
  split at h
  · cases h
  · cases h
    have h1 := (List.takeWhile_sublist (fun c => c != 34) (l := b.drop (k + 1))).length_le
    rw [List.length_drop] at h1
    unfold upTo
    omega
set_option hygiene false in
local macro_rules | `(tactic| walk_at "cg") => `(tactic| first
  | (with_reducible show CallAtG _ _ (D.glob _) [D.bytes _, D.int 0] _ _ _); refine k_patch_unquoted (k := 0) (by assumption) (by assumption) (by walk_at "n") (by walk_at "sz") (by first | assumption | exact pos_of_quote (by assumption)) (by assumption) (fun _ _ _ _ => ?_) (fun _ _ => ?_))
set_option hygiene false in
local macro_rules | `(tactic| walk_at "cx") => `(tactic| first
  | refine k_stripped_name (by assumption) (by assumption) (by walk_at "n") (by walk_at "sz") (fun _ _ => ?_) (fun _ => ?_)
  | refine k_patch_row (by assumption) (by assumption) (by walk_at "n") (by walk_at "sz") ?_)
section
variable {g : Gl} {fc : FC} {a : AS} {R : AS → Prop} {n : Nat}
theorem k_unquote_path {b : Bs} {Q : D → AS → Prop} (g' : g.Ok) (ok : fc.Ok n) (hn : n ≤ 89) (hb : b.length ≤ 10000) (hno : ∀ c ∈ b, c ≠ 92)
    (h : ∀ o t, unqPath b = some t → Q (.bytes t) ⟨a.m, a.σ ++ o⟩) (h0 : ∀ o, unqPath b = none → R ⟨a.m, a.σ ++ o⟩) : CallAtG g fc (.glob (.ref 136)) [.bytes b] Q R a := by
  refine callG_def g' ok (names := ["octets"]) (by with_unfolding_all rfl) (by with_unfolding_all rfl) (bind1 fun v => by with_unfolding_all rfl) (by decide) (by decide) (by decide) (fun fc' ok' hs => ?_)
  by_cases hq : cut b none (some 1) = [34]
  · have hpos : 0 + 1 ≤ b.length := pos_of_quote (by rw [hq]; rfl)
    repeat' walk_at "ex"
    all_goals first
      | exact h _ _ (by simp_all [unqPath])
      | exact h0 _ (by simp_all [unqPath])
      | (have z := h [] b; rw [List.append_nil] at z; exact z (by simp_all [unqPath]))
  · repeat' walk_at "ex"
    all_goals first
      | exact h _ _ (by simp_all [unqPath])
      | exact h0 _ (by simp_all [unqPath])
      | (have z := h [] b; rw [List.append_nil] at z; exact z (by simp_all [unqPath]))
      | (exfalso; simp_all; done)
theorem k_told_name {b : Bs} {Q : D → AS → Prop} (g' : g.Ok) (ok : fc.Ok n) (hn : n ≤ 88) (hb : b.length ≤ 10000) (hno : ∀ c ∈ b, c ≠ 92)
    (h : ∀ o r, toldName b = some r → Q (dOf r) ⟨a.m, a.σ ++ o⟩) (h0 : ∀ o, toldName b = none → R ⟨a.m, a.σ ++ o⟩) : CallAtG g fc (.glob (.ref 164)) [.bytes b] Q R a := by
  refine callG_def g' ok (names := ["row"]) (by with_unfolding_all rfl) (by with_unfolding_all rfl) (bind1 fun v => by with_unfolding_all rfl) (by decide) (by decide) (by decide) (fun fc' ok' hs => ?_)
  repeat' walk_at "ex"
  have hl := Nat.le_trans (patchRow_len (cut b (some 4) none)) (cut_length_le b (some 4) none)
  have hno' : ∀ c ∈ patchRow (cut b (some 4) none), c ≠ 92 := fun c hc => hno c (mem_cut (mem_patchRow hc))
  unfold toldName at h h0
  generalize patchRow (cut b (some 4) none) = nm at *
  have hln : nm.length ≤ 10000 := by omega
  have hne := lsplit_ne [9] nm
  have hsp : FunV (.builtin "bytes.split") [.bytes nm, .bytes [9]] (.list ((lsplit [9] nm).map .bytes)) := f_split (by decide) (by omega)
  have hlen := (lsplit_len [9] nm).2
  generalize hp : lsplit [9] nm = p at *
  match p, hne with
  | x :: r, _ =>
    have hx : x.length ≤ 10000 := Nat.le_trans (hlen x (by simp)) hln
    dsimp only [List.map] at hsp
    by_cases hq : cut nm none (some 1) = [34]
    · have hpos : 0 + 1 ≤ nm.length := pos_of_quote (by rw [hq]; rfl)
      repeat' walk_at "ex"
      all_goals first
        | exact h0 _ (by simp_all)
        | (exfalso; simp_all; done)
        | skip
      rename_i o t p e
      have ht := Nat.le_trans (unquoted_len e) hln
      repeat' walk_at "ex"
      all_goals first
        | exact h0 _ (by simp_all)
        | exact h _ _ (by simp_all)
        | (exfalso; simp_all; done)
    · repeat' walk_at "ex"
      all_goals first
        | (have z := h []; rw [List.append_nil] at z; exact z _ (by simp_all))
        | (have z := h0 []; rw [List.append_nil] at z; exact z (by simp_all))
        | (exfalso; simp_all; done)
end
end
section
open PySem PySem.W PySem.Spec PySem.Calls PyProof.Rows PySem.SeqAt
theorem stripped_len {b : Bs} {r : Bs} (h : stripped b = some (some r)) : r.length ≤ b.length := by
  unfold stripped at h
  split at h
  · cases h
  · split at h
    · cases h
    · cases h; exact cut_length_le _ _ _
theorem unqPath_len {b : Bs} {r : Bs} (h : unqPath b = some r) : r.length ≤ b.length := by
  unfold unqPath at h
  split at h
  · cases h; exact Nat.le_refl _
  · split at h
    · cases h
    · rename_i t p e
      split at h
      · cases h
      · cases h; exact unquoted_len e
/-- at a place where both sides have a path, stripping does not raise -/
theorem stripped_ok {b : Bs} (h0 : 0 ≤ findI [47] b 0) (h1 : findI [47] b 0 < b.length - 1) : ∃ r, stripped b = some r := by
  unfold stripped
  split
  · exact ⟨_, rfl⟩
  · rw [if_neg (by omega)]; exact ⟨_, rfl⟩
set_option hygiene false in
local macro_rules | `(tactic| walk_at "cg") => `(tactic| first
  | (with_reducible show CallAtG _ _ (D.glob _) [D.bytes _, D.int 0] _ _ _); refine hku _ _ _ (fun o => ?_)
  | refine k_unquote_path (by assumption) (by assumption) (by walk_at "n") (by walk_at "sz") (fun c hc => hno c (mem_cut hc)) (fun o t e => ?_) (fun o e => ?_))
set_option hygiene false in
local macro_rules | `(tactic| walk_at "ex") => `(tactic| first
  | (with_reducible show ∃ _, Op2 _ (dOf _) (dOf _) _ ∧ _); refine ⟨_, op_eq_dOf, ?_⟩)
set_option hygiene false in
local macro_rules | `(tactic| walk_at "cx") => `(tactic| first
  | refine k_stripped_name (by assumption) (by assumption) (by walk_at "n") (by first | walk_at "sz" | exact Nat.le_trans (unqPath_len (by assumption)) (by walk_at "sz")) (fun _ _ => ?_) (fun _ => ?_))
set_option hygiene false in
local macro_rules | `(tactic| walk_at "cx") => `(tactic| first
  | refine hks1 _ _ _ ?_
  | refine hks2 _ _ _ ?_)
section
variable {g : Gl} {fc : FC} {a : AS} {R : AS → Prop} {n : Nat}
theorem k_header_paths {b : Bs} {Q : D → AS → Prop} (g' : g.Ok) (ok : fc.Ok n) (hn : n ≤ 87) (hb : b.length ≤ 10000) (hno : ∀ c ∈ b, c ≠ 92)
    (h : ∀ o r, headPaths b = some r → Q (bothD r) ⟨a.m, a.σ ++ o⟩) (h0 : ∀ o, headPaths b = none → R ⟨a.m, a.σ ++ o⟩) : CallAtG g fc (.glob (.ref 157)) [.bytes b] Q R a := by
  refine callG_def g' ok (names := ["rest"]) (by with_unfolding_all rfl) (by with_unfolding_all rfl) (bind1 fun v => by with_unfolding_all rfl) (by decide) (by decide) (by decide) (fun fc' ok' hs => ?_)
  unfold headPaths at h h0
  by_cases hq : cut b none (some 1) = [34]
  · rw [if_pos hq] at h h0
    have hpos : 0 + 1 ≤ b.length := pos_of_quote (by rw [hq]; rfl)
    cases hu : unquoted b 0 with
    | none =>
      rw [hu] at h h0
      have hku : ∀ (Q : D → AS → Prop) (R : AS → Prop) (a : AS), (∀ o : List AObj, R ⟨a.m, a.σ ++ o⟩) → CallAtG g fc' (.glob (.ref 129)) [.bytes b, .int 0] Q R a := fun Q R a H =>
        k_patch_unquoted (k := 0) g' ok' (by omega) hb hpos hno (fun o t' p' e => by rw [hu] at e; cases e) (fun o e => H o)
      repeat' walk_at "ex"
      all_goals first
        | (exfalso; simp_all; done)
        | exact h0 _ rfl
    | some tp =>
      obtain ⟨t, p⟩ := tp
      rw [hu] at h h0
      dsimp only at h h0
      have ht := Nat.le_trans (unquoted_len hu) hb
      have hku : ∀ (Q : D → AS → Prop) (R : AS → Prop) (a : AS), (∀ o : List AObj, Q (.tup [.bytes t, .int p]) ⟨a.m, a.σ ++ o⟩) → CallAtG g fc' (.glob (.ref 129)) [.bytes b, .int 0] Q R a := fun Q R a H =>
        k_patch_unquoted (k := 0) g' ok' (by omega) hb hpos hno (fun o t' p' e => by rw [hu] at e; cases e; exact H o) (fun o e => by rw [hu] at e; cases e)
      repeat' walk_at "ex"
      all_goals first
        | (exfalso; simp_all; done)
        | skip
      all_goals try simp only [List.append_assoc]
      all_goals first
        | exact h0 _ (by simp_all [bothOf])
        | exact h _ (_, _) (by simp_all [bothOf])
  · rw [if_neg hq] at h h0
    by_cases hq2 : 0 ≤ findI [32, 34] b 0 ∧ cut b (some (-1)) none = [34]
    · rw [if_pos hq2] at h h0
      obtain ⟨hq3, hq4⟩ := hq2
      repeat' walk_at "ex"
      all_goals first
        | (exfalso; simp_all; done)
        | skip
      all_goals try simp only [List.append_assoc]
      all_goals first
        | exact h0 _ (by simp_all [bothOf])
        | (have z := h0 []; rw [List.append_nil] at z; exact z (by simp_all [bothOf]))
        | exact h _ (_, _) (by simp_all [bothOf])
    · rw [if_neg hq2] at h h0
      have hres : ∀ r : Option Bs × Option Bs, (partLoop b (b.length + 1) (findI [32] b 0) = some r ∨ (partLoop b (b.length + 1) (findI [32] b 0) = none ∧ r = (none, none))) → ∀ o : List AObj, Q (bothD r) ⟨a.m, a.σ ++ o⟩ := fun r hr o => by
        rcases hr with e | ⟨e, rfl⟩
        · exact h o r (by rw [e])
        · exact h o _ (by rw [e])
      clear h h0
      have hf0 : ∀ e : findI [32, 34] b 0 ≥ 0, ¬ cut b (some (-1)) none = [34] := fun e e2 => hq2 ⟨e, e2⟩
      have hqf : (cut b none (some 1) == [34]) = false := by simpa using hq
      refine xg_consP (fun a' => a'.σ = a.σ ∧ Sub [("rest", .bytes b)] a'.m) ?_ ?_
      · repeat' walk_at "ex"
        exact ⟨rfl, rfl, sub_cons rfl sub_nil⟩
      rintro ⟨m', σ'⟩ ⟨e1, hm⟩
      dsimp only at e1 hm
      subst e1
      refine ag_drop (a := ⟨m', a.σ⟩) hm ?_
      clear hm
      refine xg_consP (fun a' => a'.σ = a.σ ∧ Sub [("place", .int (findI [32, 34] b 0)), ("rest", .bytes b)] a'.m) ?_ ?_
      · repeat' walk_at "ex"
        exact ⟨rfl, rfl, (sub_map rfl)⟩
      rintro ⟨m', σ'⟩ ⟨e1, hm⟩
      dsimp only at e1 hm
      subst e1
      refine ag_drop (a := ⟨m', a.σ⟩) hm ?_
      clear hm
      refine xg_consP (fun a' => a'.σ = a.σ ∧ Sub [("rest", .bytes b)] a'.m) ?_ ?_
      · by_cases hp : findI [32, 34] b 0 ≥ 0
        · have hf1 : (cut b (some (-1)) none == [34]) = false := by simpa using hf0 hp
          repeat' walk_at "ex"
          all_goals exact ⟨rfl, rfl, sub_cons rfl sub_nil⟩
        · repeat' walk_at "ex"
          all_goals exact ⟨rfl, rfl, sub_cons rfl sub_nil⟩
      rintro ⟨m', σ'⟩ ⟨e1, hm⟩
      dsimp only at e1 hm
      subst e1
      refine ag_drop (a := ⟨m', a.σ⟩) hm ?_
      clear hm hq hf0 hqf hq2
      refine xg_consP (fun a' => a'.σ = a.σ ∧ Sub [("place", .int (findI [32] b 0)), ("rest", .bytes b)] a'.m) ?_ ?_
      · repeat' walk_at "ex"
        exact ⟨rfl, rfl, (sub_map rfl)⟩
      rintro ⟨m', σ'⟩ ⟨e1, hm⟩
      dsimp only at e1 hm
      subst e1
      refine ag_drop (a := ⟨m', a.σ⟩) hm ?_
      clear hm
      refine xg_cons (xg_While (fun j a' => ∃ (pl : Int) (mm : Nat), a'.σ = a.σ ∧ Sub [("place", .int pl), ("rest", .bytes b)] a'.m ∧ partLoop b mm pl = partLoop b (b.length + 1) (findI [32] b 0) ∧
        (pl = -1 ∨ ∃ p : Nat, pl = p ∧ p < b.length ∧ b.length - p + 1 ≤ mm) ∧ 1 ≤ mm ∧ j = if pl < 0 then 0 else b.length - pl.toNat) ok' ?_ (if findI [32] b 0 < 0 then 0 else b.length - (findI [32] b 0).toNat) ?_)
      · rintro j ⟨m', σ'⟩ ⟨pl, mm, e1, hm, hpl, hcase, hmm, hj⟩
        dsimp only at e1 hm
        subst e1
        refine ag_drop (a := ⟨m', a.σ⟩) hm ?_
        clear hm
        rcases hcase with rfl | ⟨p, rfl, hpb, hpm⟩
        · repeat' walk_at "ex"
          obtain ⟨mm', rfl⟩ : ∃ x, mm = x + 1 := ⟨mm - 1, by omega⟩
          have z := hres (none, none) (.inr ⟨by rw [← hpl]; rfl, rfl⟩) []
          rw [List.append_nil] at z
          exact z
        · obtain ⟨mm', rfl⟩ : ∃ x, mm = x + 1 := ⟨mm - 1, by omega⟩
          have hstep : partLoop b (mm' + 1) (p : Int) = match partAt b p with | some r => some r | none => partLoop b mm' (findI [32] b (p + 1)) := by
            rw [partLoop, if_neg (by omega), Int.toNat_natCast]
            try (cases partAt b p <;> rfl)
          rw [hstep] at hpl
          have hge : decide ((p : Int) ≥ 0) = true := by simp
          have hf3 : FunV (.builtin "bytes.find") [.bytes b, .bytes [32], .int ((p : Int) + 1)] (.int (findI [32] b (p + 1))) := f_find3 (k := p + 1) (by decide) (by omega)
          have hnext : ∀ m'', partAt b p = none → Sub [("place", .int (findI [32] b (p + 1))), ("rest", .bytes b)] m'' → ∃ j', j' < j ∧ ∃ (pl : Int) (mm : Nat), a.σ = a.σ ∧ Sub [("place", .int pl), ("rest", .bytes b)] m'' ∧ partLoop b mm pl = partLoop b (b.length + 1) (findI [32] b 0) ∧
              (pl = -1 ∨ ∃ p : Nat, pl = p ∧ p < b.length ∧ b.length - p + 1 ≤ mm) ∧ 1 ≤ mm ∧ j' = if pl < 0 then 0 else b.length - pl.toNat := fun m'' hn hs => by
            rw [hn] at hpl
            refine ⟨_, ?_, findI [32] b (p + 1), mm', rfl, hs, hpl, ?_, by omega, rfl⟩
            · rw [hj]
              rcases findI_cases [32] b (by decide) (p + 1) with e | ⟨q, e, q1, q2⟩
              · rw [e, if_pos (by decide), if_neg (by omega)]; simp; omega
              · rw [e, if_neg (by omega), if_neg (by omega)]; simp; omega
            · rcases findI_cases [32] b (by decide) (p + 1) with e | ⟨q, e, q1, q2⟩
              · exact .inl e
              · exact .inr ⟨q, e, q2, by omega⟩
          have hret : ∀ x y, stripped (cut b none (some (p : Int))) = some x → stripped (cut b (some ((p : Int) + 1)) none) = some y → x = y → partAt b p = some (x, y) → Q (.tup [dOf x, dOf y]) a := fun x y _ _ _ e => by
            rw [e] at hpl
            have z := hres (x, y) (.inl hpl.symm) []
            rw [List.append_nil] at z
            exact z
          clear hres hstep hpl
          have hl1 := cut_length_le b none (some (p : Int))
          have hl2 := cut_length_le b (some ((p : Int) + 1)) none
          by_cases hC : ((0 ≤ findI [47] (cut b none (some (p : Int))) 0 ∧ findI [47] (cut b none (some (p : Int))) 0 < (cut b none (some (p : Int))).length - 1) ∧ 0 ≤ findI [47] (cut b (some ((p : Int) + 1)) none) 0) ∧ findI [47] (cut b (some ((p : Int) + 1)) none) 0 < (cut b (some ((p : Int) + 1)) none).length - 1
          · have hC' := hC
            obtain ⟨⟨⟨c1, c2⟩, c3⟩, c4⟩ := hC'
            obtain ⟨x, hx⟩ := stripped_ok c1 c2
            obtain ⟨y, hy⟩ := stripped_ok c3 c4
            have d1 := decide_eq_true c1
            have d2 := decide_eq_true c2
            have d3 := decide_eq_true c3
            have d4 := decide_eq_true c4
            have hks1 : ∀ (Q : D → AS → Prop) (R : AS → Prop) (a : AS), Q (dOf x) a → CallAt g fc' (.glob (.ref 150)) [.bytes (cut b none (some (p : Int)))] Q R a := fun Q R a H =>
              k_stripped_name g' ok' (by omega) (by omega) (fun r e => by rw [hx] at e; cases e; exact H) (fun e => by rw [hx] at e; cases e)
            have hks2 : ∀ (Q : D → AS → Prop) (R : AS → Prop) (a : AS), Q (dOf y) a → CallAt g fc' (.glob (.ref 150)) [.bytes (cut b (some ((p : Int) + 1)) none)] Q R a := fun Q R a H =>
              k_stripped_name g' ok' (by omega) (by omega) (fun r e => by rw [hy] at e; cases e; exact H) (fun e => by rw [hy] at e; cases e)
            have hpa : partAt b p = if x = y then some (x, y) else none := by
              unfold partAt
              rw [if_pos hC, hx, hy]
            clear hC c1 c2 c3 c4
            by_cases hxy : x = y
            · rw [if_pos hxy] at hpa
              have hbt : (x == y) = true := by rw [hxy]; exact beq_self_eq_true _
              repeat' walk_at "ex"
              all_goals exact hret x y hx hy hxy hpa
            · rw [if_neg hxy] at hpa
              have hbf : (x == y) = false := beq_eq_false_iff_ne.mpr hxy
              repeat' walk_at "ex"
              all_goals exact hnext _ hpa ((sub_map rfl))
          · have hpa : partAt b p = none := by
              unfold partAt
              rw [if_neg hC]
            repeat' walk_at "ex"
            all_goals first
              | exact hnext _ hpa ((sub_map rfl))
              | (exfalso; simp only [decide_eq_true_eq] at *; exact hC ⟨⟨⟨‹_›, ‹_›⟩, ‹_›⟩, ‹_›⟩)
      · rcases findI_cases [32] b (by decide) 0 with e | ⟨q, e, q1, q2⟩
        · exact ⟨_, b.length + 1, rfl, (sub_map rfl), rfl, .inl e, by omega, rfl⟩
        · exact ⟨_, b.length + 1, rfl, (sub_map rfl), rfl, .inr ⟨q, e, q2, by omega⟩, by omega, rfl⟩
end
end
section
open PySem PySem.W PySem.Spec PySem.Calls PyProof.Rows PySem.SeqAt
/-- what stands behind the first slash -/
noncomputable def behind (b : Bs) : Bs := ljoin [47] (cut (lsplit [47] b) (some 1) none)
noncomputable def lawPath (b : Bs) : Option (Option Bs) := if b = devNull then some none else if behind b = [] then none else some (some (behind b))
noncomputable def pathD : Option (Option Bs) → D
  | none => .tup [.str "refused", .none]
  | some r => .tup [.str "told", dOf r]
theorem sub_sum {l m : List Bs} (h : l.Sublist m) : (l.map List.length).sum ≤ (m.map List.length).sum := by
  induction h with
  | slnil => simp
  | cons a _ ih => simp only [List.map_cons, List.sum_cons]; omega
  | cons_cons a _ ih => simp only [List.map_cons, List.sum_cons]; omega
theorem sum_cut {l : List Bs} {lo hi : Option Int} : ((cut l lo hi).map List.length).sum ≤ (l.map List.length).sum := by
  have h : (cut l lo hi).Sublist l := (List.take_sublist _ _).trans (List.drop_sublist _ _)
  exact sub_sum h
theorem splitGo_sum (c : Bs) : ∀ (b : Bs) (n : Nat) (cur : Bs), ((splitGo c n cur b).map List.length).sum ≤ cur.length + b.length
  | [], n, cur => by unfold splitGo; simp
  | y :: t, 0, cur => by
    unfold splitGo
    split
    · have := splitGo_sum c t (c.length - 1) []
      simp at this ⊢
      omega
    · have := splitGo_sum c t 0 (y :: cur)
      simp at this ⊢
      omega
  | y :: t, n + 1, cur => by
    unfold splitGo
    have := splitGo_sum c t n cur
    simp
    omega
theorem lsplit_sum (c b : Bs) : ((lsplit c b).map List.length).sum ≤ b.length := by
  have := splitGo_sum c b 0 []
  simpa [lsplit] using this
theorem cut_map {α β : Type} (f : α → β) (l : List α) (lo hi : Option Int) : cut (l.map f) lo hi = (cut l lo hi).map f := by
  unfold cut
  rw [List.length_map, List.map_take, List.map_drop]
theorem f_join_cut {s c b : Bs} {lo hi : Option Int} (hs : s.length = 1) (hb : b.length ≤ 10000) : FunV (.builtin "bytes.join") [.bytes s, .list ((cut (lsplit c b) lo hi).map .bytes)] (.bytes (ljoin s (cut (lsplit c b) lo hi))) := by
  refine f_join ?_
  have h1 := cut_length_le (lsplit c b) lo hi
  have h2 := (lsplit_len c b).1
  have h3 := sum_cut (l := lsplit c b) (lo := lo) (hi := hi)
  have h4 := lsplit_sum c b
  rw [hs]
  omega
theorem ljoin_cut_len {s c b : Bs} {lo hi : Option Int} (hs : s.length = 1) (hb : b.length ≤ 1000) : (ljoin s (cut (lsplit c b) lo hi)).length ≤ 10000 := by
  have h0 := ljoin_len s (cut (lsplit c b) lo hi)
  have h1 := cut_length_le (lsplit c b) lo hi
  have h2 := (lsplit_len c b).1
  have h3 := sum_cut (l := lsplit c b) (lo := lo) (hi := hi)
  have h4 := lsplit_sum c b
  rw [hs] at h0
  omega
theorem sl_parts {l : List Bs} {dl du : D} {lo hi : Option Int} (hl : DPart dl lo) (hu : DPart du hi) (hz : l.length ≤ 16777216) : SliceV (.list (l.map .bytes)) dl du .none (.list ((cut l lo hi).map .bytes)) := by
  rw [← cut_map]
  exact sl_list hl hu (by rw [List.length_map]; exact hz)
set_option hygiene false in
local macro_rules | `(tactic| walk_at "ex") => `(tactic| first
  | (with_reducible show ∃ _, SliceV (D.list (List.map D.bytes _)) _ _ D.none _ ∧ _); refine ⟨_, sl_parts (by first | exact .none | exact .int) (by first | exact .none | exact .int) (by assumption), ?_⟩
  | (with_reducible show CallAt _ _ (D.glob (Value.builtin "bytes.join")) _ _ _ _); refine c_fun (by assumption) (f_join_cut (by rfl) (by omega)) ?_)
section
variable {g : Gl} {fc : FC} {a : AS} {R : AS → Prop} {n : Nat}
theorem k_law_path {b : Bs} {Q : D → AS → Prop} (g' : g.Ok) (ok : fc.Ok n) (hn : n ≤ 89) (hb : b.length ≤ 10000) (h : Q (pathD (lawPath b)) a) : CallAt g fc (.glob (.ref 232)) [.bytes b] Q R a := by
  refine call_def g' ok (names := ["name"]) (by with_unfolding_all rfl) (by with_unfolding_all rfl) (bind1 fun v => by with_unfolding_all rfl) (by decide) (by decide) (by decide) (fun fc' ok' hs => ?_)
  have hlz : (lsplit [47] b).length ≤ 16777216 := by have := (lsplit_len [47] b).1; omega
  repeat' walk_at "ex"
  all_goals first
    | (have e : lawPath b = some none := by simp_all [lawPath, behind]
       rw [e] at h
       exact h)
    | (have e : lawPath b = none := by simp_all [lawPath, behind]
       rw [e] at h
       exact h)
    | (have e : lawPath b = some (some (behind b)) := by simp_all [lawPath, behind]
       rw [e] at h
       exact h)
noncomputable def partedAt (ws : List Bs) (m : Int) : Option Bs :=
  if ((behind (ljoin [32] (cut ws none (some m))) ≠ [] ∧ behind (ljoin [32] (cut ws none (some m))) = behind (ljoin [32] (cut ws (some m) none))) ∧ ljoin [32] (cut ws none (some m)) ≠ devNull) ∧ devNull ≠ ljoin [32] (cut ws (some m) none) then
    some (behind (ljoin [32] (cut ws none (some m)))) else none
noncomputable def lawParted (b : Bs) : Option Bs := (List.range ((lsplit [32] b).length - 1)).findSome? fun i : Nat => partedAt (lsplit [32] b) (1 + (i : Int))
theorem find_range {α : Type} {f : Nat → Option α} {i : Nat} {r : α} (h1 : ∀ j < i, f j = none) (h2 : f i = some r) : ∀ n, i < n → (List.range n).findSome? f = some r
  | 0, h => absurd h (Nat.not_lt_zero _)
  | n + 1, h => by
    rw [List.range_succ, List.findSome?_append]
    by_cases e : i < n
    · rw [find_range h1 h2 n e]; rfl
    · have : i = n := by omega
      subst this
      rw [List.findSome?_eq_none_iff.mpr (fun j hj => h1 j (List.mem_range.mp hj))]
      simp [h2]
noncomputable def partD : Option Bs → D
  | none => .tup [.none, .none]
  | some p => .tup [.bytes p, .bytes p]
theorem k_law_parted {b : Bs} {Q : D → AS → Prop} (g' : g.Ok) (ok : fc.Ok n) (hn : n ≤ 89) (hb : b.length ≤ 1000) (h : ∀ o, Q (partD (lawParted b)) ⟨a.m, a.σ ++ o⟩) : CallAt g fc (.glob (.ref 246)) [.bytes b] Q R a := by
  refine call_def g' ok (names := ["rest"]) (by with_unfolding_all rfl) (by with_unfolding_all rfl) (bind1 fun v => by with_unfolding_all rfl) (by decide) (by decide) (by decide) (fun fc' ok' hs => ?_)
  have hlb := (lsplit_len [32] b).1
  have hlz : (lsplit [32] b).length ≤ 16777216 := by omega
  have hln : FunV (.builtin "len") [.list ((lsplit [32] b).map .bytes)] (.int (lsplit [32] b).length) := by
    have := f_len_list (l := (lsplit [32] b).map D.bytes) (by rw [List.length_map]; omega)
    rwa [List.length_map] at this
  repeat' walk_at "ex"
  refine x_For (fun i m => (∀ j < i, partedAt (lsplit [32] b) (1 + (j : Int)) = none) ∧ Sub [("words", .list ((lsplit [32] b).map .bytes))] m) ok' hs ?_
  repeat' walk_at "ex"
  refine c_range ?_
  refine ⟨_, it_rng (small_one (by decide) (by decide) (by omega) (by omega)), ⟨fun j hj => absurd hj (Nat.not_lt_zero _), sub_cons rfl sub_nil⟩, ?_, ?_⟩
  · rintro i m e o he ⟨hi, hm⟩
    obtain ⟨hlt, rfl⟩ : i < ((lsplit [32] b).length - 1) ∧ e = .int (1 + (i : Int)) := by
      rw [List.getElem?_map] at he
      cases q : (List.range (((lsplit [32] b).length : Int) - 1).toNat)[i]? with
      | none => rw [q] at he; cases he
      | some j =>
        rw [q] at he
        have hi2 := List.getElem?_eq_some_iff.mp q
        obtain ⟨h1, h2⟩ := hi2
        rw [List.length_range] at h1
        rw [List.getElem_range] at h2
        subst h2
        exact ⟨by omega, (Option.some.inj he).symm⟩
    refine aw_drop (sub_in hm) ?_
    clear hm
    have hL : (ljoin [32] (cut (lsplit [32] b) none (some (1 + (i : Int))))).length ≤ 10000 := ljoin_cut_len rfl hb
    have hR : (ljoin [32] (cut (lsplit [32] b) (some (1 + (i : Int))) none)).length ≤ 10000 := ljoin_cut_len rfl hb
    have hL2 : (lsplit [47] (ljoin [32] (cut (lsplit [32] b) none (some (1 + (i : Int)))))).length ≤ 16777216 := by have := (lsplit_len [47] (ljoin [32] (cut (lsplit [32] b) none (some (1 + (i : Int)))))).1; omega
    have hR2 : (lsplit [47] (ljoin [32] (cut (lsplit [32] b) (some (1 + (i : Int))) none))).length ≤ 16777216 := by have := (lsplit_len [47] (ljoin [32] (cut (lsplit [32] b) (some (1 + (i : Int))) none))).1; omega
    repeat' walk_at "ex"
    all_goals first
      | (refine ⟨rfl, fun j hj => ?_, sub_cons rfl sub_nil⟩
         by_cases e : j < i
         · exact hi j e
         · have : j = i := by omega
           subst this
           unfold partedAt behind
           rw [if_neg]
           clear h hi
           simp_all)
      | (have e : lawParted b = some (behind (ljoin [32] (cut (lsplit [32] b) none (some (1 + (i : Int)))))) := find_range hi (by unfold partedAt behind; rw [if_pos]; clear h hi; simp_all) _ hlt
         have z := h [.raw o]
         rw [e] at z
         exact z)
  · rintro m o ⟨hi, -⟩
    repeat' walk_at "ex"
    have e : lawParted b = none := by
      unfold lawParted
      rw [List.findSome?_eq_none_iff]
      intro j hj
      have := List.mem_range.mp hj
      exact hi j (by rw [List.length_map, List.length_range]; omega)
    have z := h [.raw o]
    rw [e] at z
    exact z
end
end
section
open PySem PySem.W PySem.Spec PySem.Calls PyProof.Rows PySem.SeqAt
set_option hygiene false in
local macro_rules | `(tactic| walk_at "cg") => `(tactic| first
  | (with_reducible show CallAtG _ _ (D.lam _ _ _ _ _) [] _ _ _); refine callG_lam g' ok' hb hcell (fun fc₂ ok₂ hs₂ hc₂ => (h fc₂ ok₂ hs₂ hc₂).mono (fun d a' q => ?_) (fun a' q => ?_)) (by omega) hco hgen hk)
section
variable {g : Gl} {fc : FC} {a : AS} {R : AS → Prop} {n : Nat}
theorem k_heard {params : Arguments} {body : Expr} {scope : Scope} {qual : PStr} {cl : List (PStr × Nat)} {Q : D → AS → Prop} (g' : g.Ok) (ok : fc.Ok n) (hn : n ≤ 90)
    (hb : ∀ name clos pm c ct, bindArgs (kla_fn name qual params body scope clos pm c ct) ⟨[], []⟩ = pure []) (hcell : ∀ x ∈ scope.names, x.2 ≠ .cell)
    (h : ∀ fc' : FC, fc'.Ok (n + 2) → fc'.env.scope = scope → fc'.cix = cl → AG VR g fc' (eval body fc'.env) (fun d a' => Q (.tup [.str "told", d]) ⟨a.m, a'.σ⟩) (fun a' => Q (.tup [.str "refused", .none]) ⟨a.m, a'.σ⟩) ⟨[], a.σ⟩)
    (hco : scope.isCoroutine = false := by rfl) (hgen : scope.isGenerator = false := by rfl) (hk : scope.kind = .function := by rfl) : CallAtG g fc (.glob (.ref 199)) [.lam params body scope qual cl] Q R a := by
  refine callG_def g' ok (names := ["call"]) (by with_unfolding_all rfl) (by with_unfolding_all rfl) (bind1 fun v => by with_unfolding_all rfl) (by decide) (by decide) (by decide) (fun fc' ok' hs => ?_)
  refine xg_cons (xg_Heard (st := .Return none ⟨0, 0, 0, 0⟩) g' ok' hs ?_)
  refine xg_cons (xg_Return (ag_Tuple ?_))
  repeat' walk_at "ex"
  refine ⟨keep_lam, ?_⟩
  repeat' walk_at "ex"
  all_goals first
    | exact ⟨nofun, q⟩
    | exact q
end
end
section
open PySem PySem.W PySem.Spec PySem.Calls PyProof.Rows PySem.SeqAt
noncomputable def quoted (b : Bs) : Bs := [34] ++ b ++ [34]
noncomputable abbrev fronts : List Bs := [[45, 45, 45, 32], [43, 43, 43, 32]]
noncomputable abbrev dates : List Bs := [[], [9, 50, 48, 50, 48, 45, 48, 49, 45, 48, 49]]
noncomputable abbrev feeds : List Bs := [[10], []]
/-- both told, or refused -/
noncomputable def dueOf (x y : Option (Option Bs)) : Option (Option Bs × Option Bs) := match x with
  | none => none
  | some x => match y with
    | none => none
    | some y => some (x, y)
noncomputable def pairOf : Option Bs → Option Bs × Option Bs
  | none => (none, none)
  | some p => (some p, some p)
end
section
open PySem
/-- plain law: stripping a name -/
theorem pl_strip : ∀ b ∈ allNames, stripped b = lawPath b := by decide +kernel
theorem pl_told : ∀ b ∈ allNames, ∀ f ∈ fronts, ∀ d ∈ dates, ∀ e ∈ feeds, toldName (f ++ b ++ d ++ e) = lawPath b ∧ toldName (f ++ quoted b ++ d ++ e) = lawPath b := by decide +kernel
theorem pl_bare : ∀ b ∈ allNames, ∀ c ∈ allNames, headPaths (b ++ [32] ++ c) = some (pairOf (lawParted (b ++ [32] ++ c))) := by decide +kernel
theorem pl_two : ∀ b ∈ allNames, ∀ c ∈ allNames, headPaths (quoted b ++ [32] ++ c) = dueOf (lawPath b) (lawPath c) := by decide +kernel
theorem pl_three : ∀ b ∈ allNames, ∀ c ∈ allNames, headPaths (b ++ [32] ++ quoted c) = dueOf (lawPath b) (lawPath c) := by decide +kernel
theorem pl_four : ∀ b ∈ allNames, ∀ c ∈ allNames, headPaths (quoted b ++ [32] ++ quoted c) = dueOf (lawPath b) (lawPath c) := by decide +kernel
theorem pl_five : ∀ b ∈ allNames, ∀ c ∈ allNames, headPaths (quoted b ++ quoted c) = none := by decide +kernel
theorem names_len : ∀ b ∈ allNames, b.length ≤ 10 ∧ ∀ c ∈ b, c ≠ 92 := by decide +kernel
end
section
open PySem PySem.W PySem.Spec PySem.Calls PyProof.Rows
theorem lfind_mid {tail : Bs} : ∀ {mid : Bs}, (∀ c ∈ mid, c ≠ 64) → lfind [32, 64, 64] (mid ++ ([32, 64, 64] ++ tail)) = some mid.length
  | [], _ => by simp [lfind, pre]
  | c :: mid, h => by
    have ih := lfind_mid (tail := tail) (mid := mid) (fun d hd => h d (.tail _ hd))
    have e : pre [32, 64, 64] (c :: (mid ++ ([32, 64, 64] ++ tail))) = false := by
      cases mid with
      | nil => simp [pre]
      | cons d mid' =>
        have hd := h d (by simp)
        simp only [List.cons_append, pre, Bool.and_eq_false_iff, beq_eq_false_iff_ne]
        exact .inr (.inl (Ne.symm hd))
    rw [List.cons_append, lfind, e, ih]
    simp
theorem lfind_no : ∀ {b : Bs}, (∀ c ∈ b, c ≠ 64) → lfind [32, 64, 64] b = none
  | [], _ => by simp [lfind, pre]
  | c :: b, h => by
    have ih := lfind_no (b := b) (fun d hd => h d (.tail _ hd))
    have e : pre [32, 64, 64] (c :: b) = false := by
      cases b with
      | nil => simp [pre]
      | cons d b' =>
        have hd := h d (by simp)
        simp only [pre, Bool.and_eq_false_iff, beq_eq_false_iff_ne]
        exact .inr (.inl (Ne.symm hd))
    rw [lfind, e, ih]
    simp
theorem clip_in {n : Nat} {i : Nat} (h : i ≤ n) : clipAt n (i : Int) = i := by
  unfold clipAt
  split <;> omega
theorem cut_pre {p q : Bs} {i : Int} (hi : i = p.length) : cut (p ++ q) none (some i) = p := by
  subst hi
  unfold cut
  simp only [Option.elim]
  rw [clip_in (by simp)]
  simp
theorem cut_suf {p q : Bs} {i : Int} (hi : i = p.length) : cut (p ++ q) (some i) none = q := by
  subst hi
  unfold cut
  simp only [Option.elim]
  rw [clip_in (by simp)]
  simp
theorem cut_mid {p q r : Bs} {i j : Int} (hi : i = p.length) (hj : j = p.length + q.length) : cut (p ++ (q ++ r)) (some i) (some j) = q := by
  subst hi
  have : j = ((p.length + q.length : Nat) : Int) := by omega
  subst this
  unfold cut
  simp only [Option.elim]
  rw [clip_in (by simp), clip_in (by simp <;> omega)]
  simp
/-- the heading as told -/
noncomputable def toldHeading (t : Bs) : Bs := if cut (patchRow t) none (some 1) = [32] then cut (patchRow t) (some 1) none else patchRow t
noncomputable def headOf (mid tail : Bs) : Option (Int × Int × Int × Int × Bs) := match lsplit [32, 43] mid with
  | [x, y] => match toldRange x, toldRange y with
    | some p, some q => some (p.1, p.2, q.1, q.2, toldHeading tail)
    | _, _ => none
  | _ => none
theorem head_of {p mid tail : Bs} (hp : p.length = 4) (hm : ∀ c ∈ mid, c ≠ 64) : hunkHead (p ++ (mid ++ ([32, 64, 64] ++ tail))) = if p = [64, 64, 32, 45] then headOf mid tail else none := by
  have hf : findI [32, 64, 64] (p ++ (mid ++ ([32, 64, 64] ++ tail))) 4 = ((4 + mid.length : Nat) : Int) := by
    unfold findI
    rw [show (4 : Nat) = p.length from hp.symm, List.drop_left, lfind_mid hm]
    simp [hp]
    try omega
  unfold hunkHead
  rw [hf, cut_pre (by rw [hp]; rfl), cut_mid (by rw [hp]; rfl) (by rw [hp]; rfl)]
  have ht : cut (p ++ (mid ++ ([32, 64, 64] ++ tail))) (some (((4 + mid.length : Nat) : Int) + 3)) none = tail := by
    rw [show p ++ (mid ++ ([32, 64, 64] ++ tail)) = (p ++ mid ++ [32, 64, 64]) ++ tail by simp]
    exact cut_suf (by simp [hp]; omega)
  rw [ht]
  by_cases e : p = [64, 64, 32, 45]
  · rw [if_pos e, if_neg (by intro z; rcases z with z | z; exact z e; omega)]
    rfl
  · rw [if_neg e, if_pos (.inl e)]
theorem head_no {p mid : Bs} (hp : p.length = 4) (hm : ∀ c ∈ mid, c ≠ 64) : hunkHead (p ++ mid) = none := by
  have hf : findI [32, 64, 64] (p ++ mid) 4 = -1 := by
    unfold findI
    rw [show (4 : Nat) = p.length from hp.symm, List.drop_left, lfind_no hm]
  unfold hunkHead
  rw [hf, if_pos (.inr (by decide))]
noncomputable def sideB (i j : Nat) : Bs := octs (sideTxt (startsMenu.getD i 0) (manyMenu.getD j none))
theorem sides_ok : ∀ i < 5, ∀ j < 4, (∀ c ∈ sideB i j, c ≠ 64) ∧ toldRange (sideB i j) = (if startsMenu.getD i 0 = 0 ∧ 0 < (manyMenu.getD j none).getD 1 then none else some (startsMenu.getD i 0, (manyMenu.getD j none).getD 1)) ∧
    toldRange (sideB i j ++ [32]) = none ∧ toldRange ([48] ++ sideB i j) = none ∧ toldRange (sideB i j ++ [44, 57, 44, 57]) = none := by decide +kernel
theorem split_a : ∀ i < 5, ∀ j < 4, ∀ k < 5, ∀ l < 4, lsplit [32, 43] (sideB i j ++ [32, 43] ++ sideB k l) = [sideB i j, sideB k l] := by decide +kernel
theorem split_b : ∀ i < 5, ∀ j < 4, ∀ k < 5, ∀ l < 4, lsplit [32, 43] (sideB i j ++ [32, 32, 43] ++ sideB k l) = [sideB i j ++ [32], sideB k l] := by decide +kernel
theorem split_c : ∀ i < 5, ∀ j < 4, ∀ k < 5, ∀ l < 4, lsplit [32, 43] ([48] ++ sideB i j ++ [32, 43] ++ sideB k l) = [[48] ++ sideB i j, sideB k l] := by decide +kernel
theorem split_d : ∀ i < 5, ∀ j < 4, ∀ k < 5, ∀ l < 4, lsplit [32, 43] (sideB i j ++ [44, 57, 44, 57] ++ [32, 43] ++ sideB k l) = [sideB i j ++ [44, 57, 44, 57], sideB k l] := by decide +kernel
theorem split_e : ∀ k < 5, ∀ l < 4, lsplit [32, 43] ([32, 43] ++ sideB k l) = [[], sideB k l] := by decide +kernel
noncomputable abbrev headMenu : List PStr := ["", " def f", "  x", "tight", " a @@ b"]
noncomputable abbrev feedMenu : List PStr := ["", "\n"]
theorem heading_ok : ∀ i < 5, ∀ j < 2, toldHeading (octs (headMenu.getD i "") ++ octs (feedMenu.getD j "")) =
    octs (if ((strCut (headMenu.getD i "") none (some 1)).cps.toList == (" " : PStr).cps.toList) = true then strCut (headMenu.getD i "") (some 1) none else headMenu.getD i "") := by decide +kernel
end
section
open PySem PySem.W PySem.Spec PySem.Calls PyProof.Rows
theorem octs_append (s t : PStr) : octs (s ++ t) = octs s ++ octs t := by
  show (s.cps ++ t.cps).toList.map Nat.toUInt8 = _
  rw [Array.toList_append, List.map_append]
  rfl
/-- what the spoiling leaves -/
inductive Parts : Int → PStr → PStr → PStr → PStr → PStr → PStr → PStr → Prop
  | ok {way one hd} (h : way < 3) : Parts way one hd "@@ -" " +" " @@" hd one
  | p3 {one hd} : Parts 3 one hd "@@ -" "  +" " @@" hd one
  | p4 {one hd} : Parts 4 one hd "@@ +" " +" " @@" hd one
  | p5 {one hd} : Parts 5 one hd "@@ -" " +" "" "" one
  | p6 {one hd} : Parts 6 one hd "@@ -" " +" " @@" hd ("0" ++ one)
  | p7 {one hd} : Parts 7 one hd "@@ -" " +" " @@" hd (one ++ ",9,9")
  | p8 {one hd} : Parts 8 one hd "@@ -" " +" " @@" hd ""
noncomputable def headingCut (t : PStr) : PStr := if ((strCut t none (some 1)).cps.toList == (" " : PStr).cps.toList) = true then strCut t (some 1) none else t
noncomputable def RightHead (way s m t k : Int) : Prop := way < 3 ∧ ¬(s = 0 ∧ 0 < m) ∧ ¬(t = 0 ∧ 0 < k)
instance {way s m t k} : Decidable (RightHead way s m t k) := by unfold RightHead; infer_instance
theorem feeds_64 : ∀ f < 2, ∀ c ∈ octs (feedMenu.getD f ""), c ≠ 64 := by decide +kernel
theorem tr_nil : toldRange [] = none := by decide +kernel
theorem no64 {b c d : Bs} (h1 : ∀ x ∈ b, x ≠ 64) (h2 : ∀ x ∈ c, x ≠ 64) (h3 : ∀ x ∈ d, x ≠ 64) : ∀ x ∈ b ++ c ++ d, x ≠ 64 := by
  intro x hx
  rw [List.mem_append, List.mem_append] at hx
  rcases hx with (hx | hx) | hx
  · exact h1 x hx
  · exact h2 x hx
  · exact h3 x hx
theorem head_plain {i j i2 j2 h f : Nat} (hi : i < 5) (hj : j < 4) (hi2 : i2 < 5) (hj2 : j2 < 4) (hh : h < 5) (hf : f < 2) {way : Int} {bg bt en hd on : PStr}
    (P : Parts way (sideTxt (startsMenu.getD i 0) (manyMenu.getD j none)) (headMenu.getD h "") bg bt en hd on) :
    hunkHead (octs (bg ++ on ++ bt ++ sideTxt (startsMenu.getD i2 0) (manyMenu.getD j2 none) ++ en ++ hd ++ feedMenu.getD f "")) =
      if RightHead way (startsMenu.getD i 0) ((manyMenu.getD j none).getD 1) (startsMenu.getD i2 0) ((manyMenu.getD j2 none).getD 1) then
        some (startsMenu.getD i 0, (manyMenu.getD j none).getD 1, startsMenu.getD i2 0, (manyMenu.getD j2 none).getD 1, octs (headingCut hd)) else none := by
  obtain ⟨a1, a2, a3, a4, a5⟩ := sides_ok i hi j hj
  obtain ⟨b1, b2, b3, b4, b5⟩ := sides_ok i2 hi2 j2 hj2
  have e0 : octs "@@ -" = [64, 64, 32, 45] := by decide
  have e1 : octs " +" = [32, 43] := by decide
  have e2 : octs " @@" = [32, 64, 64] := by decide
  have e3 : octs "  +" = [32, 32, 43] := by decide
  have e4 : octs "@@ +" = [64, 64, 32, 43] := by decide
  have e5 : octs "" = [] := by decide
  have e6 : octs "0" = [48] := by decide
  have e7 : octs ",9,9" = [44, 57, 44, 57] := by decide
  have d1 : ∀ x ∈ ([32, 43] : Bs), x ≠ 64 := by decide
  have d2 : ∀ x ∈ ([32, 32, 43] : Bs), x ≠ 64 := by decide
  have d3 : ∀ x ∈ ([48] : Bs), x ≠ 64 := by decide
  have d4 : ∀ x ∈ ([44, 57, 44, 57] : Bs), x ≠ 64 := by decide
  have d5 : ∀ x ∈ ([] : Bs), x ≠ 64 := by decide
  have hA : octs (sideTxt (startsMenu.getD i 0) (manyMenu.getD j none)) = sideB i j := rfl
  have hB : octs (sideTxt (startsMenu.getD i2 0) (manyMenu.getD j2 none)) = sideB i2 j2 := rfl
  have sh : ∀ (p x y z u v w : Bs), p ++ x ++ y ++ z ++ u ++ v ++ w = p ++ ((x ++ y ++ z) ++ (u ++ (v ++ w))) := by intros; simp only [List.append_assoc]
  have gen : ∀ (p x y z v w : Bs), p.length = 4 → (∀ c ∈ x ++ y ++ z, c ≠ 64) → hunkHead (p ++ x ++ y ++ z ++ [32, 64, 64] ++ v ++ w) = if p = [64, 64, 32, 45] then headOf (x ++ y ++ z) (v ++ w) else none := by
    intro p x y z v w hp hm
    rw [sh]
    exact head_of hp hm
  have hl : octs (bg ++ on ++ bt ++ sideTxt (startsMenu.getD i2 0) (manyMenu.getD j2 none) ++ en ++ hd ++ feedMenu.getD f "") = octs bg ++ octs on ++ octs bt ++ sideB i2 j2 ++ octs en ++ octs hd ++ octs (feedMenu.getD f "") := by
    simp only [octs_append, hB]
  rw [hl]
  generalize hs1 : startsMenu.getD i 0 = s1 at *
  generalize hm1 : (manyMenu.getD j none) = m1 at *
  generalize hs2 : startsMenu.getD i2 0 = s2 at *
  generalize hm2 : (manyMenu.getD j2 none) = m2 at *
  cases P with
  | ok h3 =>
    rw [e0, e1, e2, hA, gen _ _ _ _ _ _ rfl (no64 a1 d1 b1), if_pos rfl]
    unfold headOf
    rw [split_a i hi j hj i2 hi2 j2 hj2]
    dsimp only
    rw [a2, b2, heading_ok h hh f hf]
    by_cases c1 : s1 = 0 ∧ 0 < m1.getD 1
    · rw [if_pos c1, if_neg (show ¬ RightHead way s1 (m1.getD 1) s2 (m2.getD 1) from fun z => z.2.1 c1)]
    · by_cases c2 : s2 = 0 ∧ 0 < m2.getD 1
      · rw [if_neg c1, if_pos c2, if_neg (show ¬ RightHead way s1 (m1.getD 1) s2 (m2.getD 1) from fun z => z.2.2 c2)]
      · rw [if_neg c1, if_neg c2, if_pos (show RightHead way s1 (m1.getD 1) s2 (m2.getD 1) from ⟨h3, c1, c2⟩)]
        rfl
  | p3 =>
    rw [e0, e3, e2, hA, gen _ _ _ _ _ _ rfl (no64 a1 d2 b1), if_pos rfl, if_neg (show ¬ RightHead _ s1 (m1.getD 1) s2 (m2.getD 1) from fun z => by have := z.1; omega)]
    unfold headOf
    rw [split_b i hi j hj i2 hi2 j2 hj2]
    dsimp only
    rw [a3]
  | p4 =>
    rw [e4, e1, e2, hA, gen _ _ _ _ _ _ rfl (no64 a1 d1 b1), if_neg (by decide), if_neg (show ¬ RightHead _ s1 (m1.getD 1) s2 (m2.getD 1) from fun z => by have := z.1; omega)]
  | p5 =>
    rw [e0, e1, e5, hA, if_neg (show ¬ RightHead _ s1 (m1.getD 1) s2 (m2.getD 1) from fun z => by have := z.1; omega)]
    have : ([64, 64, 32, 45] ++ sideB i j ++ [32, 43] ++ sideB i2 j2 ++ [] ++ [] ++ octs (feedMenu.getD f "") : Bs) = [64, 64, 32, 45] ++ (sideB i j ++ [32, 43] ++ (sideB i2 j2 ++ octs (feedMenu.getD f ""))) := by simp only [List.append_assoc, List.append_nil]
    rw [this]
    exact head_no rfl (no64 a1 d1 (by
      have := no64 b1 d5 (feeds_64 f hf)
      rwa [List.append_nil] at this))
  | p6 =>
    rw [octs_append, e6, e0, e1, e2, hA, gen _ _ _ _ _ _ rfl (no64 (by have := no64 d3 d5 a1; rwa [List.append_nil] at this) d1 b1), if_pos rfl, if_neg (show ¬ RightHead _ s1 (m1.getD 1) s2 (m2.getD 1) from fun z => by have := z.1; omega)]
    unfold headOf
    rw [split_c i hi j hj i2 hi2 j2 hj2]
    dsimp only
    rw [a4]
  | p7 =>
    rw [octs_append, e7, e0, e1, e2, hA, gen _ _ _ _ _ _ rfl (no64 (by have := no64 a1 d5 d4; rwa [List.append_nil] at this) d1 b1), if_pos rfl, if_neg (show ¬ RightHead _ s1 (m1.getD 1) s2 (m2.getD 1) from fun z => by have := z.1; omega)]
    unfold headOf
    rw [split_d i hi j hj i2 hi2 j2 hj2]
    dsimp only
    rw [a5]
  | p8 =>
    rw [e0, e1, e2, e5, gen _ _ _ _ _ _ rfl (no64 d5 d1 b1), if_pos rfl, if_neg (show ¬ RightHead _ s1 (m1.getD 1) s2 (m2.getD 1) from fun z => by have := z.1; omega)]
    unfold headOf
    rw [List.nil_append, split_e i2 hi2 j2 hj2]
    dsimp only
    rw [tr_nil]
theorem sides_256 : ∀ i < 5, ∀ j < 4, (sideTxt (startsMenu.getD i 0) (manyMenu.getD j none)).length ≤ 100 ∧ ∀ c ∈ (sideTxt (startsMenu.getD i 0) (manyMenu.getD j none)).cps.toList, c < 256 := by decide +kernel
theorem heads_256 : ∀ i < 5, (headMenu.getD i "").length ≤ 100 ∧ ∀ c ∈ (headMenu.getD i "").cps.toList, c < 256 := by decide +kernel
theorem feeds_256 : ∀ i < 2, (feedMenu.getD i "").length ≤ 100 ∧ ∀ c ∈ (feedMenu.getD i "").cps.toList, c < 256 := by decide +kernel
end
section
open PySem PySem.W PySem.Spec PySem.Calls PyProof.Rows PySem.SeqAt
theorem no92 {b : Bs} (h : ∀ c ∈ b, c ≠ 92) : ∀ c ∈ quoted b, c ≠ 92 := by
  intro c hc
  unfold quoted at hc
  simp only [List.mem_append, List.mem_singleton] at hc
  rcases hc with (rfl | hc) | rfl
  · decide
  · exact h c hc
  · decide
theorem part_both (o : Option Bs) : partD o = bothD (pairOf o) := by cases o <;> rfl
theorem getD_mem {l : List Bs} {i m : Int} (h0 : 0 ≤ i) (h1 : i < m) (hm : m = l.length) : l.getD i.toNat [] ∈ l := by
  have : i.toNat < l.length := by omega
  rw [List.getD_eq_getElem?_getD, List.getElem?_eq_getElem this]
  exact List.getElem_mem this
theorem menu_mem {l : List Bs} {i m : Int} (h0 : 0 ≤ i) (h1 : i < m) (hm : m = l.length) (hm2 : m ≤ 100) : ∃ f, f ∈ l ∧ ItemV (.tup (l.map .bytes)) (.int i) (.bytes f) :=
  ⟨_, getD_mem h0 h1 hm, menu_bytes h0 h1 hm hm2⟩
theorem fronts_ok : ∀ f ∈ fronts, f.length ≤ 4 ∧ ∀ c ∈ f, c ≠ 92 := by decide
theorem dates_ok : ∀ f ∈ dates, f.length ≤ 11 ∧ ∀ c ∈ f, c ≠ 92 := by decide
theorem feeds_ok : ∀ f ∈ feeds, f.length ≤ 1 ∧ ∀ c ∈ f, c ≠ 92 := by decide
theorem opt_eqV {n : Nat} : ∀ {x y : Option Bs}, EqV n (dOf x) (dOf y) (x == y)
  | none, none => .nn
  | none, some _ => .nb
  | some _, none => .bn
  | some _, some _ => .bb
theorem path_eqV : ∀ {p q : Option (Option Bs)}, EqV 5 (pathD p) (pathD q) (p == q)
  | none, none => (EqV.two .ss .nn).cast rfl
  | none, some (some _) => (EqV.two .ss .nb).cast rfl
  | none, some none => (EqV.two .ss .nn).cast rfl
  | some (some _), none => (EqV.two .ss .bn).cast rfl
  | some none, none => (EqV.two .ss .nn).cast rfl
  | some x, some y => (EqV.two .ss (opt_eqV (x := x) (y := y))).cast (Bool.true_and _)
theorem op_ne_path {p q : Option (Option Bs)} : Op2 (compareOp .NotEq) (pathD p) (pathD q) (.bool (p != q)) := by
  have h := path_eqV (p := p) (q := q)
  cases p <;> cases q <;> exact op_ne_tup h
theorem op_eq_path {p q : Option (Option Bs)} : Op2 (compareOp .Eq) (pathD p) (pathD q) (.bool (p == q)) := by
  have h := path_eqV (p := p) (q := q)
  cases p <;> cases q <;> exact op_eq_tup h
theorem xg_consG {g : Gl} {fc : FC} {a : AS} {R : AS → Prop} {st : Stmt} {rest : List Stmt} {Q : Fl → AS → Prop} (P : AS → Prop) (h : AG VF g fc (exec st fc.env) (fun fl a' => fl = .next ∧ P a') R a) (k : ∀ a', P a' → AG VF g fc (execs rest fc.env) Q R a') : AG VF g fc (execs (st :: rest) fc.env) Q R a :=
  xg_cons (h.mono (fun fl a' ⟨e, p⟩ => by subst e; exact k a' p) fun _ r => r)
theorem lk {cix cl : List (PStr × Nat)} {x : PStr} {k : Nat} (h : cix = cl) (e : cl.lookup x = some k) : cix.lookup x = some k := h ▸ e

noncomputable def dueD : Option (Option Bs × Option Bs) → D
  | none => .tup [.str "refused", .none]
  | some r => .tup [.str "told", bothD r]
theorem both_eqV {n : Nat} {p q : Option Bs × Option Bs} : EqV (n + 1) (bothD p) (bothD q) (p == q) := (opt_eqV (x := p.1) (y := q.1)).two (opt_eqV (x := p.2) (y := q.2))
theorem due_eqV : ∀ {p q : Option (Option Bs × Option Bs)}, EqV 5 (dueD p) (dueD q) (p == q)
  | none, none => (EqV.two .ss .nn).cast rfl
  | none, some _ => (EqV.two .ss .nt).cast rfl
  | some _, none => (EqV.two .ss .tn).cast rfl
  | some p, some q => (EqV.two .ss (both_eqV (p := p) (q := q))).cast (Bool.true_and _)
theorem op_eq_due {p q : Option (Option Bs × Option Bs)} : Op2 (compareOp .Eq) (dueD p) (dueD q) (.bool (p == q)) := by
  have h := due_eqV (p := p) (q := q)
  cases p <;> cases q <;> exact op_eq_tup h
end
section
open PySem PySem.W PySem.Spec PySem.Calls PyProof.Rows
theorem len_octs (s : PStr) : (octs s).length = s.length := by
  unfold octs
  rw [List.length_map]
  rfl
theorem len_app (s t : PStr) : (s ++ t).length = s.length + t.length := by
  show (s.cps ++ t.cps).size = _
  rw [Array.size_append]
  rfl
noncomputable def Low (s : PStr) : Prop := ∀ c ∈ s.cps.toList, c < 256
theorem low_app {s t : PStr} (h : Low s) (k : Low t) : Low (s ++ t) := by
  intro c hc
  have hc : c ∈ (s.cps ++ t.cps).toList := hc
  rw [Array.toList_append, List.mem_append] at hc
  rcases hc with hc | hc
  · exact h c hc
  · exact k c hc
theorem low_lit : Low "@@ -" ∧ Low "@@ +" ∧ Low " +" ∧ Low "  +" ∧ Low " @@" ∧ Low "" ∧ Low "0" ∧ Low ",9,9" := by unfold Low; decide
theorem parts_ok {way : Int} {one hd bg bt en hd' on : PStr} (P : Parts way one hd bg bt en hd' on) (h1 : one.length ≤ 100) (h2 : Low one) (h3 : hd.length ≤ 100) (h4 : Low hd) :
    4 = bg.length ∧ bt.length ≤ 3 ∧ en.length ≤ 3 ∧ hd'.length ≤ 100 ∧ on.length ≤ 104 ∧ Low bg ∧ Low bt ∧ Low en ∧ Low hd' ∧ Low on := by
  obtain ⟨l1, l2, l3, l4, l5, l6, l7, l8⟩ := low_lit
  cases P with
  | ok h => exact ⟨by decide, by decide, by decide, h3, by omega, l1, l3, l5, h4, h2⟩
  | p3 => exact ⟨by decide, by decide, by decide, h3, by omega, l1, l4, l5, h4, h2⟩
  | p4 => exact ⟨by decide, by decide, by decide, h3, by omega, l2, l3, l5, h4, h2⟩
  | p5 => exact ⟨by decide, by decide, by decide, by decide, by omega, l1, l3, l6, l6, h2⟩
  | p6 => exact ⟨by decide, by decide, by decide, h3, by rw [len_app]; have : ("0" : PStr).length = 1 := by decide
                                                         omega, l1, l3, l5, h4, low_app l7 h2⟩
  | p7 => exact ⟨by decide, by decide, by decide, h3, by rw [len_app]; have : (",9,9" : PStr).length = 4 := by decide
                                                         omega, l1, l3, l5, h4, low_app h2 l8⟩
  | p8 => exact ⟨by decide, by decide, by decide, h3, by decide, l1, l3, l5, h4, l6⟩
theorem parts_hd {way : Int} {one hd bg bt en hd' on : PStr} (P : Parts way one hd bg bt en hd' on) (h : way < 3) : hd' = hd := by
  cases P with
  | ok _ => rfl
  | p3 => rfl
  | p4 => rfl
  | p5 => omega
  | p6 => rfl
  | p7 => rfl
  | p8 => rfl
theorem heads_cut : ∀ i < 5, (strCut (headMenu.getD i "") none (some 1)).length ≤ 100 ∧ (strCut (headMenu.getD i "") (some 1) none).length ≤ 100 ∧ ∀ c ∈ (strCut (headMenu.getD i "") (some 1) none).cps.toList, c < 256 := by decide +kernel
/-- the whole head: what is built, and what is told of it -/
theorem head_whole {i j i2 j2 h f : Int} (hi0 : 0 ≤ i) (hi : i < 5) (hj0 : 0 ≤ j) (hj : j < 4) (hk0 : 0 ≤ i2) (hk : i2 < 5) (hl0 : 0 ≤ j2) (hl : j2 < 4) (hh0 : 0 ≤ h) (hh : h < 5) (hf0 : 0 ≤ f) (hf : f < 2) :
    ((sideTxt (startAt i) (manyAt j)).length ≤ 100 ∧ Low (sideTxt (startAt i) (manyAt j))) ∧ ((sideTxt (startAt i2) (manyAt j2)).length ≤ 100 ∧ Low (sideTxt (startAt i2) (manyAt j2))) ∧
    ((headMenu.getD h.toNat "").length ≤ 100 ∧ Low (headMenu.getD h.toNat "")) ∧ ((feedMenu.getD f.toNat "").length ≤ 100 ∧ Low (feedMenu.getD f.toNat "")) ∧
    ((strCut (headMenu.getD h.toNat "") none (some 1)).length ≤ 100 ∧ (strCut (headMenu.getD h.toNat "") (some 1) none).length ≤ 100 ∧ Low (strCut (headMenu.getD h.toNat "") (some 1) none)) ∧
    ∀ (way : Int) (bg bt en hd on : PStr), Parts way (sideTxt (startAt i) (manyAt j)) (headMenu.getD h.toNat "") bg bt en hd on →
      hunkHead (octs (bg ++ on ++ bt ++ sideTxt (startAt i2) (manyAt j2) ++ en ++ hd ++ feedMenu.getD f.toNat "")) =
      if RightHead way (startAt i) ((manyAt j).getD 1) (startAt i2) ((manyAt j2).getD 1) then
        some (startAt i, (manyAt j).getD 1, startAt i2, (manyAt j2).getD 1, octs (headingCut hd)) else none := by
  refine ⟨sides_256 _ (by omega) _ (by omega), sides_256 _ (by omega) _ (by omega), heads_256 _ (by omega), feeds_256 _ (by omega), heads_cut _ (by omega), fun way bg bt en hd on P => ?_⟩
  exact head_plain (by omega) (by omega) (by omega) (by omega) (by omega) (by omega) P
theorem head_eqV {a b c d : Int} {h : Bs} : EqV 5 (.tup [.int a, .int b, .int c, .int d, .bytes h, .list []]) (.tup [.int a, .int b, .int c, .int d, .bytes h, .list []]) true := EqV.all fun x hx => by
  simp only [List.mem_cons, List.not_mem_nil, or_false] at hx
  rcases hx with rfl | rfl | rfl | rfl | rfl | rfl <;> first | exact .ll | exact EqV.ii.cast (beq_self_eq_true _) | exact EqV.bb.cast (beq_self_eq_true _)
end
section
open PySem PySem.W PySem.Spec PySem.Calls PyProof.Rows PySem.SeqAt
set_option hygiene false in
local macro_rules | `(tactic| walk_at "cx") => `(tactic| first
  | refine k_stripped_name (by with_reducible assumption) (by with_reducible assumption) (by walk_at "n") (by walk_at "sz") (fun _ _ => ?_) (fun _ => ?_)
  | refine k_law_path (by with_reducible assumption) (by with_reducible assumption) (by walk_at "n") (by walk_at "sz") ?_
  | refine k_next (by with_reducible assumption) (by with_reducible assumption) (by walk_at "n") (by first | assumption | exact Later.tp (by with_reducible assumption)) (by decide) (fun _ _ _ _ _ _ => ?_))
set_option hygiene false in
local macro_rules | `(tactic| walk_at "cg") => `(tactic| first
  | (with_reducible show CallAtG _ _ (D.glob _) [D.lam _ _ _ _ _] _ _ _); refine k_heard g' (by with_reducible assumption) (by walk_at "n") (fun _ _ _ _ _ => by with_unfolding_all rfl) (by decide) (fun fc₂ ok₂ hs₂ hc₂ => ?_) (by rfl) (by rfl) (by rfl)
  | (with_reducible show CallAtG _ _ (D.glob _) [D.bytes (_ ++ _)] _ _ _); refine k_told_name (by with_reducible assumption) (by with_reducible assumption) (by walk_at "n") (by walk_at "sz") (by with_reducible assumption) (fun o r e => ?_) (fun o e => ?_))
set_option hygiene false in
local macro_rules | `(tactic| walk_at "cell") => `(tactic| first | with_reducible assumption | exact hvo _)
set_option hygiene false in
local macro_rules | `(tactic| walk_at "ex") => `(tactic| first
  | (with_reducible show AG VB _ _ (PySem.isTrue (Expr.Compare _ [_] [_] _) _ _) _ _ _); refine tg_Cmp1 (by with_reducible assumption) ?_
  | ((with_reducible show AW VR _ _ (eval (Expr.Lambda _ _ _ _) _) _ _ _); first
      | refine a_Lambda g' ok' hcode hC (by decide) hq0 (clo1 rfl hxn) rfl ?_
      | refine a_Lambda g' ok' hcode hC (by decide) hq0 (clo2 rfl hxr hxt) rfl ?_)
  | (with_reducible show AW VR _ _ (eval (Expr.Name (Str.ofString "tape") _) _) _ _ _); refine a_cell (by with_reducible assumption) (by with_reducible assumption) (by first | assumption | exact lk (by with_reducible assumption) (by rfl)) (by walk_at "cell") ?_ (by first | exact .inl rfl | exact .inr rfl)
  | (with_reducible show AW VR _ _ (eval (Expr.Name (Str.ofString "name") _) _) _ _ _); refine a_cell (by with_reducible assumption) (by with_reducible assumption) (by first | assumption | exact lk (by with_reducible assumption) (by rfl)) (by walk_at "cell") ?_ (by first | exact .inl rfl | exact .inr rfl)
  | (with_reducible show AW VR _ _ (eval (Expr.Name (Str.ofString "row") _) _) _ _ _); refine a_cell (by with_reducible assumption) (by with_reducible assumption) (by first | assumption | exact lk (by with_reducible assumption) (by rfl)) (by walk_at "cell") ?_ (by first | exact .inl rfl | exact .inr rfl))
section
variable {g : Gl} {fc : FC} {a : AS} {R : AS → Prop} {n : Nat}
theorem k_side_right {k : Nat} {l : List D} {b : Bs} {Q : D → AS → Prop} (g' : g.Ok) (ok : fc.Ok n) (hn : n ≤ 80) (T : Tape k a.σ l) (hb : b.length ≤ 100) (hno : ∀ c ∈ b, c ≠ 92) (hp1 : stripped b = lawPath b)
    (hp2 : ∀ t, t = b ∨ t = [34] ++ b ++ [34] → ∀ f ∈ fronts, ∀ d ∈ dates, ∀ e ∈ feeds, toldName (f ++ t ++ d ++ e) = lawPath b)
    (h : ∀ σ' l', Later k a.σ σ' l' → Q (.bool true) ⟨a.m, σ'⟩) : CallAtG g fc (.glob (.ref 239)) [.mut k, .bytes b] Q R a := by
  refine callG_defC (names := ["tape", "name"]) ["row", "name", "tape"] g' ok (by with_unfolding_all rfl) (by with_unfolding_all rfl) (bind2 fun v u => by with_unfolding_all rfl) (by rfl) (by decide) (by decide) (fun fc' ok' hs hcode hqual hcix => ?_)
  have hxr : fc'.cix.lookup ("row" : PStr) = some a.σ.length := by rw [hcix]; rfl
  have hxn : fc'.cix.lookup ("name" : PStr) = some (a.σ.length + 1) := by rw [hcix]; rfl
  have hxt : fc'.cix.lookup ("tape" : PStr) = some (a.σ.length + 2) := by rw [hcix]; rfl
  have hC := g'.c2
  have hq0 : fc'.env.qual ++ "<lambda>" = qualOf 234 := by rw [hqual]; rfl
  change AG VF g fc' _ _ _ ⟨[], a.σ ++ [.cell none, .cell (some (.bytes b)), .cell (some (.mut k))]⟩
  have hvt : (a.σ ++ [AObj.cell none, .cell (some (.bytes b)), .cell (some (.mut k))])[a.σ.length + 2]? = some (.cell (some (.mut k))) := by simp
  have hvn : (a.σ ++ [AObj.cell none, .cell (some (.bytes b)), .cell (some (.mut k))])[a.σ.length + 1]? = some (.cell (some (.bytes b))) := by simp
  have hk : k < a.σ.length := (List.getElem?_eq_some_iff.mp T.tape).1
  have T₀ : Tape k (a.σ ++ [AObj.cell none, .cell (some (.bytes b)), .cell (some (.mut k))]) l := ⟨by rw [List.getElem?_append_left hk]; exact T.tape, T.short, T.aint⟩
  refine xg_consG (fun a' => a' = ⟨[], a.σ ++ [.cell none, .cell (some (.bytes b)), .cell (some (.mut k))]⟩) ?_ ?_
  · repeat' walk_at "ex"
    · rename_i r e
      refine ⟨_, op_ne_path (p := some r) (q := lawPath b), ?_⟩
      rw [← hp1, e]
      repeat' walk_at "ex"
      exact ⟨rfl, rfl⟩
    · rename_i e
      refine ⟨_, op_ne_path (p := none) (q := lawPath b), ?_⟩
      rw [← hp1, e]
      repeat' walk_at "ex"
      exact ⟨rfl, rfl⟩
  rintro _ rfl
  refine xg_consG (fun a' => ∃ t σ' l', (t = b ∨ t = [34] ++ b ++ [34]) ∧ Later k (a.σ ++ [AObj.cell none, .cell (some (.bytes b)), .cell (some (.mut k))]) σ' l' ∧ a' = ⟨[("told", .bytes t)], σ'⟩) ?_ ?_
  · repeat' walk_at "ex"
    · rename_i i σ' l' i0 i1 L hq
      have hvn' := (L.keep (a.σ.length + 1) (by omega) (by simp)).trans hvn
      repeat' walk_at "ex"
      exact ⟨rfl, _, _, _, .inl rfl, by assumption, rfl⟩
    · rename_i i σ' l' i0 i1 L hq
      have hvn' := (L.keep (a.σ.length + 1) (by omega) (by simp)).trans hvn
      repeat' walk_at "ex"
      exact ⟨rfl, _, _, _, .inr rfl, by assumption, rfl⟩
  rintro _ ⟨t, σ₁, l₁, ht, L₁, rfl⟩
  have htl : t.length ≤ 102 := by
    rcases ht with rfl | rfl
    · omega
    · simp; omega
  have hvt₁ : σ₁[a.σ.length + 2]? = some (.cell (some (.mut k))) := (L₁.keep _ (by omega) (by simp)).trans hvt
  have hvn₁ : σ₁[a.σ.length + 1]? = some (.cell (some (.bytes b))) := (L₁.keep _ (by omega) (by simp)).trans hvn
  have hvr₁ : σ₁[a.σ.length]? = some (.cell none) := (L₁.keep _ (by omega) (by simp)).trans (by simp)
  have hlen₁ : a.σ.length + 3 ≤ σ₁.length := by have := L₁.len; simp at this; omega
  have La : Later k a.σ σ₁ l₁ := ⟨L₁.tape, fun j h1 h2 => (L₁.keep j h1 (by simp; omega)).trans (List.getElem?_append_left h2), by omega, L₁.short, L₁.aint⟩
  have T₁ := L₁.tp
  clear hvt hvn T₀ L₁ T
  refine xg_consG (fun a' => ∃ f d σ' l', f ∈ fronts ∧ d ∈ dates ∧ Later k a.σ σ' l' ∧ σ'[a.σ.length]? = some (.cell (some (.bytes (f ++ t ++ d)))) ∧ σ'[a.σ.length + 2]? = some (.cell (some (.mut k))) ∧ σ'[a.σ.length + 1]? = some (.cell (some (.bytes b))) ∧ a.σ.length + 3 ≤ σ'.length ∧ a' = ⟨[("told", .bytes t)], σ'⟩) ?_ ?_
  · refine ag_of (x_AssignC ok' hs hxr ?_ (by rfl) (by rfl))
    clear h hp1 hp2
    repeat' walk_at "ex"
    rename_i i σ' l' i0 i1 L
    dsimp only at L
    obtain ⟨f, hf, hF⟩ := menu_mem (l := fronts) i0 i1 (by rfl) (by decide)
    refine ⟨_, hF, ?_⟩
    have hfl := (fronts_ok f hf).1
    have hvt' := (L.keep (a.σ.length + 2) (by omega) (by omega)).trans hvt₁
    repeat' walk_at "ex"
    rename_i j σ₂ l₂ j0 j1 L₂
    dsimp only at L₂
    obtain ⟨d, hd, hD⟩ := menu_mem (l := dates) j0 j1 (by rfl) (by decide)
    refine ⟨_, hD, ?_⟩
    have hdl := (dates_ok d hd).1
    repeat' walk_at "ex"
    have L₃ : Later k σ₁ σ₂ l₂ := L.trans L₂
    have La₃ := La.trans L₃
    have hN : a.σ.length < σ₂.length := by have := L₃.len; omega
    refine ⟨⟨none, (L₃.keep _ (by omega) (by omega)).trans hvr₁⟩, rfl, f, d, _, l₂, hf, hd, ⟨?_, fun j h1 h2 => ?_, ?_, La₃.short, La₃.aint⟩, List.getElem?_set_self hN, ?_, ?_, ?_, rfl⟩
    · rw [List.getElem?_set_ne (by omega)]; exact La₃.tape
    · rw [List.getElem?_set_ne (by omega)]; exact La₃.keep j h1 h2
    · rw [List.length_set]; exact La₃.len
    · rw [List.getElem?_set_ne (by omega)]; exact (L₃.keep _ (by omega) (by omega)).trans hvt₁
    · rw [List.getElem?_set_ne (by omega)]; exact (L₃.keep _ (by omega) (by omega)).trans hvn₁
    · rw [List.length_set]; have := L₃.len; omega
  rintro _ ⟨f, d, σ₂, l₂, hf, hd, L₂, hvr₂, hvt₂, hvn₂, hlen₂, rfl⟩
  clear hvt₁ hvn₁ hvr₁ T₁ La hlen₁
  have T₂ := L₂.tp
  have hfl := (fronts_ok f hf)
  have hdl := (dates_ok d hd)
  have hlf := hfl.1
  have hld := hdl.1
  have htn : ∀ c ∈ t, c ≠ 92 := by
    rcases ht with rfl | rfl
    · exact hno
    · intro c hc
      simp only [List.mem_append, List.mem_singleton] at hc
      rcases hc with (rfl | hc) | rfl
      · decide
      · exact hno c hc
      · decide
  have hfin : ∀ e ∈ feeds, e.length ≤ 1 ∧ (∀ c ∈ f ++ t ++ d ++ e, c ≠ 92) ∧ toldName (f ++ t ++ d ++ e) = lawPath b := fun e he => ⟨(feeds_ok e he).1, by
    intro c hc
    simp only [List.mem_append] at hc
    rcases hc with ((hc | hc) | hc) | hc
    · exact hfl.2 c hc
    · exact htn c hc
    · exact hdl.2 c hc
    · exact (feeds_ok e he).2 c hc, hp2 t ht f hf d hd e he⟩
  clear hfl hdl htn hp1 hp2 hno ht hf hd
  refine xg_cons (xg_Return (ag_Cmp1 ok' ?_))
  repeat' walk_at "ex"
  rename_i i σ' l' i0 i1 L
  dsimp only at L
  obtain ⟨e, he, hE⟩ := menu_mem (l := feeds) i0 i1 (by rfl) (by decide)
  refine ⟨_, hE, ?_⟩
  obtain ⟨hle, hall, hres⟩ := hfin e he
  have LL := L₂.trans L
  have hvn' := (L.keep (a.σ.length + 1) (by omega) (by omega)).trans hvn₂
  have hvo : ∀ o, (σ' ++ o)[a.σ.length + 1]? = some (.cell (some (.bytes b))) := fun o => by
    rw [List.getElem?_append_left (List.getElem?_eq_some_iff.mp hvn').1]; exact hvn'
  clear hfin T₂ L₂ L hvn'
  repeat' walk_at "ex"
  · skip
    refine ⟨_, op_eq_path (p := some r) (q := lawPath b), ?_⟩
    rw [← hres, e]
    repeat' walk_at "ex"
    rw [beq_self_eq_true]
    exact h _ _ LL.more
  · skip
    refine ⟨_, op_eq_path (p := none) (q := lawPath b), ?_⟩
    rw [← hres, e]
    repeat' walk_at "ex"
    exact h _ _ LL.more
end
end
section
open PySem PySem.W PySem.Spec PySem.Calls PyProof.Rows PySem.SeqAt
set_option hygiene false in
local macro_rules | `(tactic| walk_at "cx") => `(tactic| first
  | refine k_law_parted (by with_reducible assumption) (by with_reducible assumption) (by walk_at "n") (by walk_at "sz") (fun _ => ?_)
  | refine k_law_path (by with_reducible assumption) (by with_reducible assumption) (by walk_at "n") (by walk_at "sz") ?_
  | refine k_next (by with_reducible assumption) (by with_reducible assumption) (by walk_at "n") (by first | assumption | exact Later.tp (by with_reducible assumption)) (by decide) (fun _ _ _ _ _ _ => ?_))
set_option hygiene false in
local macro_rules | `(tactic| walk_at "cg") => `(tactic| first
  | (with_reducible show CallAtG _ _ (D.glob _) [D.lam _ _ _ _ _] _ _ _); refine k_heard g' (by with_reducible assumption) (by walk_at "n") (fun _ _ _ _ _ => by with_unfolding_all rfl) (by decide) (fun fc₂ ok₂ hs₂ hc₂ => ?_) (by rfl) (by rfl) (by rfl)
  | (with_reducible show CallAtG _ _ (D.glob _) [D.bytes _] _ _ _); refine k_header_paths (by with_reducible assumption) (by with_reducible assumption) (by walk_at "n") (by with_reducible assumption) (by with_reducible assumption) (fun o r e => ?_) (fun o e => ?_))
set_option hygiene false in
local macro_rules | `(tactic| walk_at "ex") => `(tactic| first
  | (with_reducible show AW VR _ _ (eval (Expr.Lambda _ _ _ _) _) _ _ _); refine a_Lambda g' ok' hcode hC (by decide) hq0 (clo1 rfl hxr) rfl ?_
  | (with_reducible show AW VF _ _ (exec (Stmt.Assign [Expr.Name (Str.ofString "rest") _] _ _) _) _ _ _); refine x_AssignC ok' hs hxr ?_ (by rfl) (by rfl)
  | (with_reducible show AG VF _ _ (exec (Stmt.Assign [Expr.Name (Str.ofString "rest") _] _ _) _) _ _ _); refine ag_of (x_AssignC ok' hs hxr ?_ (by rfl) (by rfl))
  | (with_reducible show (∃ c₀, _ = some (AObj.cell c₀)) ∧ _); refine ⟨hcell, ?_⟩
  | (with_reducible show AW VR _ _ (eval (Expr.Name (Str.ofString "rest") _) _) _ _ _); refine a_cell (by with_reducible assumption) (by with_reducible assumption) (by first | exact hxr | exact lk (by with_reducible assumption) (by rfl)) (by first | exact hget _ | exact hget2 _ _) ?_ (by first | exact .inl rfl | exact .inr rfl))
section
variable {g : Gl} {fc : FC} {a : AS} {R : AS → Prop} {n : Nat}
theorem k_header_right {k : Nat} {l : List D} {b c : Bs} {Q : D → AS → Prop} (g' : g.Ok) (ok : fc.Ok n) (hn : n ≤ 80) (T : Tape k a.σ l) (hb : b.length ≤ 100) (hc : c.length ≤ 100) (hno : ∀ x ∈ b, x ≠ 92) (hnoc : ∀ x ∈ c, x ≠ 92)
    (h1 : headPaths (b ++ [32] ++ c) = some (pairOf (lawParted (b ++ [32] ++ c))))
    (h2 : headPaths (quoted b ++ [32] ++ c) = dueOf (lawPath b) (lawPath c))
    (h3 : headPaths (b ++ [32] ++ quoted c) = dueOf (lawPath b) (lawPath c))
    (h4 : headPaths (quoted b ++ [32] ++ quoted c) = dueOf (lawPath b) (lawPath c))
    (h5 : headPaths (quoted b ++ quoted c) = none)
    (h : ∀ σ' l', Later k a.σ σ' l' → Q (.bool true) ⟨a.m, σ'⟩) : CallAtG g fc (.glob (.ref 253)) [.mut k, .bytes b, .bytes c] Q R a := by
  refine callG_defC (names := ["tape", "left", "right"]) ["rest"] g' ok (by with_unfolding_all rfl) (by with_unfolding_all rfl) (bind3 fun v u w => by with_unfolding_all rfl) (by rfl) (by decide) (by decide) (fun fc' ok' hs hcode hqual hcix => ?_)
  have hxr : fc'.cix.lookup ("rest" : PStr) = some a.σ.length := by rw [hcix]; rfl
  have hC := g'.c1
  have hq0 : fc'.env.qual ++ "<lambda>" = qualOf 248 := by rw [hqual]; rfl
  change AG VF g fc' _ _ _ ⟨[("right", .bytes c), ("left", .bytes b), ("tape", .mut k)], a.σ ++ [.cell none]⟩
  have hk : k < a.σ.length := (List.getElem?_eq_some_iff.mp T.tape).1
  have T₀ : Tape k (a.σ ++ [AObj.cell none]) l := ⟨by rw [List.getElem?_append_left hk]; exact T.tape, T.short, T.aint⟩
  refine xg_consG (fun a' => ∃ i σ' l', 0 ≤ i ∧ i < 6 ∧ Later k (a.σ ++ [AObj.cell none]) σ' l' ∧ a' = ⟨[("way", .int i), ("right", .bytes c), ("left", .bytes b), ("tape", .mut k)], σ'⟩) ?_ ?_
  · repeat' walk_at "ex"
    exact ⟨rfl, _, _, _, by assumption, by assumption, by assumption, rfl⟩
  rintro _ ⟨i, σ₁, l₁, i0, i1, L, rfl⟩
  clear T₀
  have hr₁ : σ₁[a.σ.length]? = some (.cell none) := (L.keep _ (by omega) (by simp)).trans (by simp)
  have hN : a.σ.length < σ₁.length := by have := L.len; simp at this; omega
  have La : Later k a.σ σ₁ l₁ := ⟨L.tape, fun j h1 h2 => (L.keep j h1 (by simp; omega)).trans (List.getElem?_append_left h2), by omega, L.short, L.aint⟩
  clear L T
  have hcell : ∃ c₀, σ₁[a.σ.length]? = some (.cell c₀) := ⟨_, hr₁⟩
  clear hr₁
  have Ls : ∀ d, Later k a.σ (σ₁.set a.σ.length d) l₁ := fun d => ⟨by rw [List.getElem?_set_ne (by omega)]; exact La.tape, fun j h1 h2 => by rw [List.getElem?_set_ne (by omega)]; exact La.keep j h1 h2, by rw [List.length_set]; omega, La.short, La.aint⟩
  have hget : ∀ d, (σ₁.set a.σ.length d)[a.σ.length]? = some d := fun d => List.getElem?_set_self hN
  have hget2 : ∀ d o, (σ₁.set a.σ.length d ++ o)[a.σ.length]? = some d := fun d o => by rw [List.getElem?_append_left (by rw [List.length_set]; exact hN)]; exact hget d
  have hq : ∀ d o, Q (.bool true) ⟨a.m, σ₁.set a.σ.length d ++ o⟩ := fun d o => h _ _ (Ls d).more
  have hq3 : ∀ d o o', Q (.bool true) ⟨a.m, σ₁.set a.σ.length d ++ o ++ o'⟩ := fun d o o' => h _ _ (Ls d).more.more
  clear La Ls h hN hk
  by_cases hw : i < 2
  · have hwf : decide (i < 2) = true := by simpa using hw
    have hbl : (b ++ [32] ++ c).length ≤ 10000 := by simp; omega
    have hbn : ∀ x ∈ b ++ [32] ++ c, x ≠ 92 := by
      intro x hx
      simp only [List.mem_append, List.mem_singleton] at hx
      rcases hx with (hx | rfl) | hx
      · exact hno x hx
      · decide
      · exact hnoc x hx
    have hno1 : ¬ headPaths (b ++ [32] ++ c) = none := by rw [h1]; exact nofun
    clear h2 h3 h4 h5 hno hnoc
    repeat' walk_at "ex"
    · obtain rfl : r = pairOf (lawParted (b ++ [32] ++ c)) := by rw [h1] at e; exact (Option.some.inj e).symm
      rw [part_both]
      refine ⟨_, op_eq_due (p := some _) (q := some (pairOf (lawParted (b ++ [32] ++ c)))), ?_⟩
      rw [beq_self_eq_true]
      repeat' walk_at "ex"
      exact hq3 _ _ _
    · exact absurd e hno1
  have hwf : decide (i < 2) = false := by simpa using hw
  have hcl : (quoted c).length ≤ 102 := by unfold quoted; simp; omega
  have hbl : (quoted b).length ≤ 102 := by unfold quoted; simp; omega
  refine xg_consG (fun a' => a' = ⟨[("way", .int i), ("right", .bytes c), ("left", .bytes b), ("tape", .mut k)], σ₁⟩) ?_ ?_
  · clear h1 h2 h3 h4 h5 hno hnoc
    repeat' walk_at "ex"
    exact ⟨rfl, rfl⟩
  rintro _ rfl
  refine xg_consG (fun a' => a'.σ = σ₁ ∧ ∃ one other, Sub [("other", .bytes other), ("one", .bytes one), ("way", .int i), ("right", .bytes c), ("left", .bytes b)] a'.m ∧ ((i = 2 ∧ one = quoted b ∧ other = c) ∨ (i ≠ 2 ∧ one = b ∧ other = quoted c))) ?_ ?_
  · clear h1 h2 h3 h4 h5 hno hnoc
    repeat' walk_at "ex"
    · rename_i hi
      exact ⟨rfl, rfl, _, _, (sub_map rfl), .inl ⟨by simpa using hi, rfl, rfl⟩⟩
    · rename_i hi
      exact ⟨rfl, rfl, _, _, (sub_map rfl), .inr ⟨by simpa using hi, rfl, rfl⟩⟩
  rintro ⟨m', σ'⟩ ⟨e1, one, other, hm, hc1⟩
  dsimp only at e1 hm
  subst σ'
  refine ag_drop (a := ⟨m', _⟩) hm ?_
  clear hm
  refine xg_consG (fun a' => a'.σ = σ₁ ∧ ∃ one, Sub [("other", .bytes other), ("one", .bytes one), ("way", .int i), ("right", .bytes c), ("left", .bytes b)] a'.m ∧ ((i = 2 ∧ one = quoted b ∧ other = c) ∨ (i = 3 ∧ one = b ∧ other = quoted c) ∨ (3 < i ∧ one = quoted b ∧ other = quoted c))) ?_ ?_
  · clear h1 h2 h3 h4 h5 hno hnoc
    repeat' walk_at "ex"
    · rename_i hi
      have hi := of_decide_eq_true hi
      refine ⟨rfl, rfl, _, (sub_map rfl), .inr (.inr ⟨hi, rfl, ?_⟩)⟩
      rcases hc1 with ⟨q, _⟩ | ⟨_, _, q⟩
      · omega
      · exact q
    · rename_i hi
      have hi := of_decide_eq_false hi
      refine ⟨rfl, rfl, _, (sub_map rfl), ?_⟩
      rcases hc1 with q | ⟨q, r⟩
      · exact .inl q
      · exact .inr (.inl ⟨by omega, r⟩)
  rintro ⟨m', σ'⟩ ⟨e1, one, hm, hc1⟩
  dsimp only at e1 hm
  subst σ'
  refine ag_drop (a := ⟨m', _⟩) hm ?_
  clear hm
  have hol : one.length ≤ 102 ∧ other.length ≤ 102 := by
    rcases hc1 with ⟨_, rfl, rfl⟩ | ⟨_, rfl, rfl⟩ | ⟨_, rfl, rfl⟩
    · exact ⟨hbl, by omega⟩
    · exact ⟨by omega, hcl⟩
    · exact ⟨hbl, hcl⟩
  obtain ⟨hol, hol2⟩ := hol
  refine xg_consG (fun a' => ∃ t, a'.σ = σ₁.set a.σ.length (.cell (some (.bytes t))) ∧ Sub [("way", .int i), ("right", .bytes c), ("left", .bytes b)] a'.m ∧ t = one ++ (if i = 5 then [] else [32]) ++ other) ?_ ?_
  · clear h1 h2 h3 h4 h5 hno hnoc
    repeat' walk_at "ex"
    · rename_i hi
      have hi : i = 5 := by simpa using hi
      exact ⟨rfl, _, rfl, (sub_map rfl), by rw [if_pos hi]⟩
    · rename_i hi
      have hi : ¬ i = 5 := by simpa using hi
      exact ⟨rfl, _, rfl, (sub_map rfl), by rw [if_neg hi]⟩
  rintro ⟨m', σ'⟩ ⟨t, e1, hm, ht⟩
  dsimp only at e1 hm
  subst σ'
  refine ag_drop (a := ⟨m', _⟩) hm ?_
  clear hm
  have htl : t.length ≤ 10000 := by
    rw [ht]
    split <;> (simp only [List.length_append, List.length_cons, List.length_nil]; omega)
  have hqb : ∀ x ∈ quoted b, x ≠ 92 := no92 hno
  have hqc : ∀ x ∈ quoted c, x ≠ 92 := no92 hnoc
  have htn : ∀ x ∈ t, x ≠ 92 := by
    have ho : (∀ x ∈ one, x ≠ 92) ∧ ∀ x ∈ other, x ≠ 92 := by
      rcases hc1 with ⟨_, rfl, rfl⟩ | ⟨_, rfl, rfl⟩ | ⟨_, rfl, rfl⟩
      · exact ⟨hqb, hnoc⟩
      · exact ⟨hno, hqc⟩
      · exact ⟨hqb, hqc⟩
    intro x hx
    rw [ht] at hx
    simp only [List.mem_append] at hx
    rcases hx with (hx | hx) | hx
    · exact ho.1 x hx
    · split at hx
      · cases hx
      · rw [List.mem_singleton.mp hx]; decide
    · exact ho.2 x hx
  obtain ⟨D₀, hD₀⟩ : ∃ D₀, D₀ = if i < 5 then dueOf (lawPath b) (lawPath c) else none := ⟨_, rfl⟩
  have hres : headPaths t = D₀ := by
    rw [ht, hD₀]
    rcases hc1 with ⟨rfl, rfl, rfl⟩ | ⟨rfl, rfl, rfl⟩ | ⟨q, rfl, rfl⟩
    · rw [if_neg (by decide), if_pos (by decide)]; exact h2
    · rw [if_neg (by decide), if_pos (by decide)]; exact h3
    · by_cases q5 : i = 5
      · rw [if_pos q5, if_neg (by omega), List.append_nil]; exact h5
      · rw [if_neg q5, if_pos (by omega)]; exact h4
  clear ht hc1 hqb hqc h1 h2 h3 h4 h5 hno hnoc hol hol2 hcl hbl hw hwf
  refine xg_consG (fun a' => a' = ⟨[("both", .list [pathD (lawPath b), pathD (lawPath c)]), ("way", .int i), ("right", .bytes c), ("left", .bytes b)], σ₁.set a.σ.length (.cell (some (.bytes t)))⟩) ?_ ?_
  · repeat' walk_at "ex"
    exact ⟨rfl, rfl⟩
  rintro _ rfl
  refine xg_consG (fun a' => a'.σ = σ₁.set a.σ.length (.cell (some (.bytes t))) ∧ Sub [("due", dueD D₀)] a'.m) ?_ ?_
  · rw [hD₀]
    clear hD₀ hres
    have f1 : ((Str.ofString "refused").cps.toList == (Str.ofString "told").cps.toList) = false := by decide
    have f2 : ((Str.ofString "told").cps.toList == (Str.ofString "refused").cps.toList) = false := by decide
    have f3 : ((Str.ofString "told").cps.toList == (Str.ofString "told").cps.toList) = true := by decide
    have f4 : ((Str.ofString "refused").cps.toList == (Str.ofString "refused").cps.toList) = true := by decide
    by_cases h5 : i < 5
    · have h5f : decide (i < 5) = true := by simpa using h5
      rw [if_pos h5]
      rcases lawPath b with _ | x <;> rcases lawPath c with _ | y <;> dsimp only [pathD, dueOf]
      all_goals repeat' walk_at "ex"
      all_goals exact ⟨rfl, rfl, sub_cons rfl sub_nil⟩
    · have h5f : decide (i < 5) = false := by simpa using h5
      rw [if_neg h5]
      rcases lawPath b with _ | x <;> rcases lawPath c with _ | y <;> dsimp only [pathD]
      all_goals repeat' walk_at "ex"
      all_goals exact ⟨rfl, rfl, sub_cons rfl sub_nil⟩
  rintro ⟨m', σ'⟩ ⟨e1, hm⟩
  dsimp only at e1 hm
  subst σ'
  refine ag_drop (a := ⟨m', _⟩) hm ?_
  clear hm hD₀
  subst hres
  refine xg_cons (xg_Return (ag_Cmp1 ok' ?_))
  repeat' walk_at "ex"
  · rw [e]
    refine ⟨_, op_eq_due (p := some r) (q := some r), ?_⟩
    rw [beq_self_eq_true]
    repeat' walk_at "ex"
    exact hq _ _
  · rw [e]
    refine ⟨_, op_eq_due (p := none) (q := none), ?_⟩
    rw [beq_self_eq_true]
    repeat' walk_at "ex"
    exact hq _ _
end
end
section
open PySem PySem.W PySem.Spec PySem.Calls PyProof.Rows PySem.SeqAt
set_option hygiene false in
local macro_rules | `(tactic| walk_at "cx") => `(tactic| first
  | refine k_next (by with_reducible assumption) (by with_reducible assumption) (by walk_at "n") (by first | with_reducible assumption | exact Later.tp (by with_reducible assumption)) (by decide) (fun _ _ _ _ _ _ => ?_)
  | refine k_law_side (by with_reducible assumption) (by with_reducible assumption) (by walk_at "n") (by first | with_reducible assumption | exact Later.tp (by with_reducible assumption)) (fun _ _ _ _ _ _ _ _ _ => ?_)
  | refine k_law_octets (by with_reducible assumption) (by with_reducible assumption) (by walk_at "n") (by with_reducible assumption) (by with_reducible assumption) ?_
  | refine k_read_hunk_head (by with_reducible assumption) (by with_reducible assumption) (by walk_at "n") (by with_reducible assumption) (by with_reducible assumption) (fun _ _ _ _ _ _ _ => ?_) (fun _ _ => ?_))
set_option hygiene false in
local macro_rules | `(tactic| walk_at "cg") => `(tactic| first
  | (with_reducible show CallAtG _ _ (D.glob _) [D.lam _ _ _ _ _] _ _ _); refine k_heard g' (by with_reducible assumption) (by walk_at "n") (fun _ _ _ _ _ => by with_unfolding_all rfl) (by decide) (fun fc₂ ok₂ hs₂ hc₂ => ?_) (by rfl) (by rfl) (by rfl))
set_option hygiene false in
local macro_rules | `(tactic| walk_at "ex") => `(tactic| first
  | (with_reducible show AW VR _ _ (eval (Expr.Lambda _ _ _ _) _) _ _ _); refine a_Lambda g' ok' hcode hC (by decide) hq0 (clo1 rfl hxr) rfl ?_
  | (with_reducible show (∃ c₀, _ = some (AObj.cell c₀)) ∧ _); refine ⟨hcell, ?_⟩
  | (with_reducible show AW VR _ _ (eval (Expr.Attribute (Expr.Name _ _) _ _) _) _ _ _); refine a_Attr g' ok' hs rfl (by first | exact .a | exact .b | exact .c | exact .d | exact .h | exact .r) ?_
  | (with_reducible show CallAt _ _ (D.glob (Value.type "list")) [D.list _] _ _ _); refine c_list (by simp) ?_
  | (with_reducible show ∃ _, SliceV (D.str _) _ _ D.none _ ∧ _); refine ⟨_, sl_str (by first | exact .none | exact .int) (by first | exact .none | exact .int) (by with_reducible assumption), ?_⟩
  | (with_reducible show AW VR _ _ (eval (Expr.Name (Str.ofString "row") _) _) _ _ _); refine a_cell (by with_reducible assumption) (by with_reducible assumption) (by first | exact hxr | exact lk (by with_reducible assumption) (by rfl)) (by first | exact hget _ | exact hget2 _ _) ?_ (by first | exact .inl rfl | exact .inr rfl))
section
variable {g : Gl} {fc : FC} {a : AS} {R : AS → Prop} {n : Nat}
theorem k_head_right {k : Nat} {l : List D} {Q : D → AS → Prop} (g' : g.Ok) (ok : fc.Ok n) (hn : n ≤ 80) (T : Tape k a.σ l)
    (h : ∀ σ' l', Later k a.σ σ' l' → Q (.bool true) ⟨a.m, σ'⟩) : CallAtG g fc (.glob (.ref 218)) [.mut k] Q R a := by
  refine callG_defC (names := ["tape"]) ["row"] g' ok (by with_unfolding_all rfl) (by with_unfolding_all rfl) (bind1 fun v => by with_unfolding_all rfl) (by rfl) (by decide) (by decide) (fun fc' ok' hs hcode hqual hcix => ?_)
  have hxr : fc'.cix.lookup ("row" : PStr) = some a.σ.length := by rw [hcix]; rfl
  have hC := g'.c3
  have hq0 : fc'.env.qual ++ "<lambda>" = qualOf 213 := by rw [hqual]; rfl
  change AG VF g fc' _ _ _ ⟨[("tape", .mut k)], a.σ ++ [.cell none]⟩
  have hk : k < a.σ.length := (List.getElem?_eq_some_iff.mp T.tape).1
  have T₀ : Tape k (a.σ ++ [AObj.cell none]) l := ⟨by rw [List.getElem?_append_left hk]; exact T.tape, T.short, T.aint⟩
  refine xg_consP (fun a' => ∃ (i j : Int) (σ' : List AObj) (l' : List D), 0 ≤ i ∧ i < 5 ∧ 0 ≤ j ∧ j < 4 ∧ Later k (a.σ ++ [AObj.cell none]) σ' l' ∧ a'.σ = σ' ∧ Sub [("one", .str (sideTxt (startAt i) (manyAt j))), ("first", .int (startAt i)), ("kept", .int ((manyAt j).getD 1)), ("tape", .mut k)] a'.m) ?_ ?_
  · repeat' walk_at "ex"
    rename_i i j σ' l' i0 i1 j0 j1 L
    exact ⟨rfl, _, _, _, _, i0, i1, j0, j1, L, rfl, (sub_map rfl)⟩
  rintro ⟨m', σ'⟩ ⟨i, j, σ₁, l₁, i0, i1, j0, j1, L₁, e1, hm⟩
  dsimp only at e1 hm
  subst σ'
  refine ag_drop (a := ⟨m', _⟩) hm ?_
  clear hm T₀
  have T₁ := L₁.tp
  refine xg_consP (fun a' => ∃ (i2 j2 : Int) (σ' : List AObj) (l' : List D), 0 ≤ i2 ∧ i2 < 5 ∧ 0 ≤ j2 ∧ j2 < 4 ∧ Later k σ₁ σ' l' ∧ a'.σ = σ' ∧ Sub [("two", .str (sideTxt (startAt i2) (manyAt j2))), ("second", .int (startAt i2)), ("fresh", .int ((manyAt j2).getD 1)), ("one", .str (sideTxt (startAt i) (manyAt j))), ("first", .int (startAt i)), ("kept", .int ((manyAt j).getD 1)), ("tape", .mut k)] a'.m) ?_ ?_
  · repeat' walk_at "ex"
    rename_i i2 j2 σ' l' k0 k1 p0 p1 L
    exact ⟨rfl, _, _, _, _, k0, k1, p0, p1, L, rfl, (sub_map rfl)⟩
  rintro ⟨m', σ'⟩ ⟨i2, j2, σ₂, l₂, k0, k1, p0, p1, L₂, e1, hm⟩
  dsimp only at e1 hm
  subst σ'
  refine ag_drop (a := ⟨m', _⟩) hm ?_
  clear hm T₁
  replace L₁ := L₁.trans L₂
  clear L₂
  have T₁ := L₁.tp
  refine xg_consP (fun a' => ∃ (h : Int) (σ' : List AObj) (l' : List D), 0 ≤ h ∧ h < 5 ∧ Later k σ₂ σ' l' ∧ a'.σ = σ' ∧ Sub [("heading", .str (headMenu.getD h.toNat "")), ("two", .str (sideTxt (startAt i2) (manyAt j2))), ("second", .int (startAt i2)), ("fresh", .int ((manyAt j2).getD 1)), ("one", .str (sideTxt (startAt i) (manyAt j))), ("first", .int (startAt i)), ("kept", .int ((manyAt j).getD 1)), ("tape", .mut k)] a'.m) ?_ ?_
  · repeat' walk_at "ex"
    rename_i h0 σ' l' h1 h2 L
    refine ⟨_, menu_str (l := headMenu) h1 h2 (by rfl) (by decide), ?_⟩
    repeat' walk_at "ex"
    exact ⟨rfl, _, _, _, h1, h2, L, rfl, (sub_map rfl)⟩
  rintro ⟨m', σ'⟩ ⟨h0, σ₃, l₃, h1, h2, L₂, e1, hm⟩
  dsimp only at e1 hm
  subst σ'
  refine ag_drop (a := ⟨m', _⟩) hm ?_
  clear hm T₁
  replace L₁ := L₁.trans L₂
  clear L₂
  have T₁ := L₁.tp
  refine xg_consP (fun a' => ∃ (f way : Int) (σ' : List AObj) (l' : List D), 0 ≤ f ∧ f < 2 ∧ 0 ≤ way ∧ way < 9 ∧ Later k σ₃ σ' l' ∧ a'.σ = σ' ∧ Sub [("feed", .str (feedMenu.getD f.toNat "")), ("way", .int way), ("heading", .str (headMenu.getD h0.toNat "")), ("two", .str (sideTxt (startAt i2) (manyAt j2))), ("second", .int (startAt i2)), ("fresh", .int ((manyAt j2).getD 1)), ("one", .str (sideTxt (startAt i) (manyAt j))), ("first", .int (startAt i)), ("kept", .int ((manyAt j).getD 1))] a'.m) ?_ ?_
  · repeat' walk_at "ex"
    rename_i f0 σ' l' f1 f2 L
    refine ⟨_, menu_str (l := feedMenu) f1 f2 (by rfl) (by decide), ?_⟩
    repeat' walk_at "ex"
    rename_i w0 σ₄ l₄ w1 w2 L'
    exact ⟨rfl, _, _, _, _, f1, f2, w1, w2, L.trans L', rfl, (sub_map rfl)⟩
  rintro ⟨m', σ'⟩ ⟨f0, way, σ₄, l₄, f1, f2, w1, w2, L₂, e1, hm⟩
  dsimp only at e1 hm
  subst σ'
  refine ag_drop (a := ⟨m', _⟩) hm ?_
  clear hm T₁
  replace L₁ := L₁.trans L₂
  clear L₂ T
  have hr₁ : σ₄[a.σ.length]? = some (.cell none) := (L₁.keep _ (by omega) (by simp)).trans (by simp)
  have hN : a.σ.length < σ₄.length := by have := L₁.len; simp at this; omega
  have La : Later k a.σ σ₄ l₄ := ⟨L₁.tape, fun j h1 h2 => (L₁.keep j h1 (by simp; omega)).trans (List.getElem?_append_left h2), by omega, L₁.short, L₁.aint⟩
  clear L₁
  have hcell : ∃ c₀, σ₄[a.σ.length]? = some (.cell c₀) := ⟨_, hr₁⟩
  clear hr₁
  have Ls : ∀ d, Later k a.σ (σ₄.set a.σ.length d) l₄ := fun d => ⟨by rw [List.getElem?_set_ne (by omega)]; exact La.tape, fun j h1 h2 => by rw [List.getElem?_set_ne (by omega)]; exact La.keep j h1 h2, by rw [List.length_set]; omega, La.short, La.aint⟩
  have hget : ∀ d, (σ₄.set a.σ.length d)[a.σ.length]? = some d := fun d => List.getElem?_set_self hN
  have hget2 : ∀ d o, (σ₄.set a.σ.length d ++ o)[a.σ.length]? = some d := fun d o => by rw [List.getElem?_append_left (by rw [List.length_set]; exact hN)]; exact hget d
  have hq : ∀ d o, Q (.bool true) ⟨a.m, σ₄.set a.σ.length d ++ o⟩ := fun d o => h _ _ (Ls d).more
  clear La Ls h hN hk
  obtain ⟨⟨s1, s2⟩, ⟨s3, s4⟩, ⟨s5, s6⟩, ⟨s7, s8⟩, ⟨s9, s10, s11⟩, H⟩ := head_whole i0 i1 j0 j1 k0 k1 p0 p1 h1 h2 f1 f2
  clear i0 i1 j0 j1 k0 k1 p0 p1 h1 h2 f1 f2
  generalize sideTxt (startAt i) (manyAt j) = one at *
  generalize sideTxt (startAt i2) (manyAt j2) = two at *
  generalize startAt i = st1 at *
  generalize startAt i2 = st2 at *
  generalize (manyAt j).getD 1 = mn1 at *
  generalize (manyAt j2).getD 1 = mn2 at *
  generalize headMenu.getD h0.toNat "" = hd at *
  generalize feedMenu.getD f0.toNat "" = feed at *
  obtain ⟨B, hB⟩ : ∃ B, B = decide (RightHead way st1 mn1 st2 mn2) := ⟨_, rfl⟩
  refine xg_consP (fun a' => a'.σ = σ₄ ∧ Sub [("is_right", .bool B), ("feed", .str feed), ("way", .int way), ("heading", .str hd), ("two", .str two), ("second", .int st2), ("fresh", .int mn2), ("one", .str one), ("first", .int st1), ("kept", .int mn1)] a'.m) ?_ ?_
  · rw [hB]
    clear H s1 s2 s3 s4 s5 s6 s7 s8 s9 s10 s11 hB hq hget hget2 hcell
    repeat' walk_at "ex"
    all_goals refine ⟨rfl, rfl, sub_cons (by refine congrArg (fun b => some (D.bool b)) ?_; unfold RightHead; simp_all <;> first | omega | (rw [Bool.eq_iff_iff]; simp; done) | (rw [Bool.eq_iff_iff]; simp; omega)) ((sub_map rfl))⟩
  rintro ⟨m', σ'⟩ ⟨e1, hm⟩
  dsimp only at e1 hm
  subst σ'
  refine ag_drop (a := ⟨m', _⟩) hm ?_
  clear hm
  refine xg_consP (fun a' => a'.σ = σ₄ ∧ Sub [("begin", .str "@@ -"), ("between", .str " +"), ("end", .str " @@"), ("is_right", .bool B), ("feed", .str feed), ("way", .int way), ("heading", .str hd), ("two", .str two), ("second", .int st2), ("fresh", .int mn2), ("one", .str one), ("first", .int st1), ("kept", .int mn1)] a'.m) ?_ ?_
  · clear H s1 s2 s3 s4 s5 s6 s7 s8 s9 s10 s11 hB hq hget hget2 hcell
    repeat' walk_at "ex"
    exact ⟨rfl, rfl, (sub_map rfl)⟩
  rintro ⟨m', σ'⟩ ⟨e1, hm⟩
  dsimp only at e1 hm
  subst σ'
  refine ag_drop (a := ⟨m', _⟩) hm ?_
  clear hm
  refine xg_consP (fun a' => a'.σ = σ₄ ∧ ∃ bg bt en hd' on, Parts way one hd bg bt en hd' on ∧ Sub [("begin", .str bg), ("between", .str bt), ("end", .str en), ("is_right", .bool B), ("feed", .str feed), ("heading", .str hd'), ("two", .str two), ("second", .int st2), ("fresh", .int mn2), ("one", .str on), ("first", .int st1), ("kept", .int mn1)] a'.m) ?_ ?_
  · clear H s2 s3 s4 s5 s6 s7 s8 s9 s10 s11 hB hq hget hget2 hcell
    have cs : way < 3 ∨ way = 3 ∨ way = 4 ∨ way = 5 ∨ way = 6 ∨ way = 7 ∨ way = 8 := by omega
    rcases cs with hw | rfl | rfl | rfl | rfl | rfl | rfl
    · have f1 : (way == 3) = false := by simp; omega
      have f2 : (way == 4) = false := by simp; omega
      have f3 : (way == 5) = false := by simp; omega
      have f4 : decide (way > 5) = false := by simp; omega
      repeat' walk_at "ex"
      exact ⟨rfl, rfl, _, _, _, _, _, .ok hw, (sub_map rfl)⟩
    · repeat' walk_at "ex"
      exact ⟨rfl, rfl, _, _, _, _, _, .p3, (sub_map rfl)⟩
    · repeat' walk_at "ex"
      exact ⟨rfl, rfl, _, _, _, _, _, .p4, (sub_map rfl)⟩
    · repeat' walk_at "ex"
      exact ⟨rfl, rfl, _, _, _, _, _, .p5, (sub_map rfl)⟩
    · repeat' walk_at "ex"
      exact ⟨rfl, rfl, _, _, _, _, _, .p6, (sub_map rfl)⟩
    · repeat' walk_at "ex"
      exact ⟨rfl, rfl, _, _, _, _, _, .p7, (sub_map rfl)⟩
    · repeat' walk_at "ex"
      exact ⟨rfl, rfl, _, _, _, _, _, .p8, (sub_map rfl)⟩
  rintro ⟨m', σ'⟩ ⟨e1, bg, bt, en, hd', on, P, hm⟩
  dsimp only at e1 hm
  subst σ'
  refine ag_drop (a := ⟨m', _⟩) hm ?_
  clear hm
  obtain ⟨r1, r2, r3, r4, r5, y1, y2, y3, y4, y5⟩ := parts_ok P s1 s2 s5 s6
  have hlow : ∀ c ∈ (bg ++ on ++ bt ++ two ++ en ++ hd' ++ feed).cps.toList, c < 256 := low_app (low_app (low_app (low_app (low_app (low_app y1 y5) y2) s4) y3) y4) s8
  have hlen : (bg ++ on ++ bt ++ two ++ en ++ hd' ++ feed).length ≤ 10000 := by simp only [len_app]; omega
  have hrl : (octs (bg ++ on ++ bt ++ two ++ en ++ hd' ++ feed)).length ≤ 10000 := by rw [len_octs]; exact hlen
  have hr4 : 4 ≤ (octs (bg ++ on ++ bt ++ two ++ en ++ hd' ++ feed)).length := by rw [len_octs]; simp only [len_app]; omega
  have H₁ := H _ _ _ _ _ _ P
  have hhd : way < 3 → hd' = hd := parts_hd P
  clear H P y1 y2 y3 y4 y5 s1 s2 s4 s8
  replace r1 : bg.length ≤ 4 := by omega
  refine xg_consP (fun a' => a'.σ = σ₄.set a.σ.length (.cell (some (.bytes (octs (bg ++ on ++ bt ++ two ++ en ++ hd' ++ feed))))) ∧ Sub [("is_right", .bool B), ("heading", .str hd'), ("second", .int st2), ("fresh", .int mn2), ("first", .int st1), ("kept", .int mn1)] a'.m) ?_ ?_
  · clear H₁ s5 s6 s9 s10 s11 hq hget hget2 hhd hB
    refine x_AssignC ok' hs hxr ?_ (by rfl) (by rfl)
    repeat' walk_at "ex"
    exact ⟨rfl, rfl, (sub_map rfl)⟩
  rintro ⟨m', σ'⟩ ⟨e1, hm⟩
  dsimp only at e1 hm
  subst σ'
  refine ag_drop (a := ⟨m', _⟩) hm ?_
  clear hm hlow hlen r1 r2 r3 r4 r5 s3 s7 hcell
  generalize octs (bg ++ on ++ bt ++ two ++ en ++ hd' ++ feed) = row at *
  have f1 : ((Str.ofString "refused").cps.toList == (Str.ofString "refused").cps.toList) = true := by decide
  have f2 : ((Str.ofString "told").cps.toList == (Str.ofString "refused").cps.toList) = false := by decide
  by_cases C : RightHead way st1 mn1 st2 mn2
  · rw [if_pos C] at H₁
    obtain rfl : B = true := by rw [hB]; exact decide_eq_true C
    obtain rfl := hhd C.1
    clear hB hhd C
    refine xg_consG (fun a' => ∃ o, a'.σ = σ₄.set a.σ.length (.cell (some (.bytes row))) ++ o ∧ Sub [("word", .str "told"), ("hunk", .hunk st1 mn1 st2 mn2 (octs (headingCut hd'))), ("is_right", .bool true), ("heading", .str hd'), ("second", .int st2), ("fresh", .int mn2), ("first", .int st1), ("kept", .int mn1)] a'.m) ?_ ?_
    · clear hq s5 s6 s9 s10 s11
      repeat' walk_at "ex"
      · rename_i e
        rw [H₁] at e
        cases e
        exact ⟨rfl, _, rfl, (sub_map rfl)⟩
      · rename_i e
        rw [H₁] at e
        cases e
    rintro ⟨m', σ'⟩ ⟨o, e1, hm⟩
    dsimp only at e1 hm
    subst σ'
    refine ag_drop (a := ⟨m', _⟩) hm ?_
    clear hm H₁
    refine xg_consG (fun a' => a' = ⟨[("word", .str "told"), ("hunk", .hunk st1 mn1 st2 mn2 (octs (headingCut hd'))), ("is_right", .bool true), ("heading", .str hd'), ("second", .int st2), ("fresh", .int mn2), ("first", .int st1), ("kept", .int mn1)], σ₄.set a.σ.length (.cell (some (.bytes row))) ++ o⟩) ?_ ?_
    · clear hq s5 s6 s9 s10 s11
      repeat' walk_at "ex"
      exact ⟨rfl, rfl⟩
    rintro _ rfl
    refine xg_consP (fun a' => a'.σ = σ₄.set a.σ.length (.cell (some (.bytes row))) ++ o ∧ Sub [("heading", .bytes (octs (headingCut hd'))), ("hunk", .hunk st1 mn1 st2 mn2 (octs (headingCut hd'))), ("second", .int st2), ("fresh", .int mn2), ("first", .int st1), ("kept", .int mn1)] a'.m) ?_ ?_
    · have t1 : (strCut hd' none (some 1)).length ≤ 16777216 := by omega
      have t2 : (strCut hd' (some 1) none).length ≤ 16777216 := by omega
      have t3 : (strCut hd' (some 1) none).length ≤ 10000 := by omega
      have t5 : hd'.length ≤ 10000 := by omega
      have t4 : ∀ c ∈ (strCut hd' (some 1) none).cps.toList, c < 256 := s11
      have t6 : ∀ c ∈ hd'.cps.toList, c < 256 := s6
      clear hq s5 s6 s9 s10 s11
      by_cases z : ((strCut hd' none (some 1)).cps.toList == (Str.ofString " ").cps.toList) = true
      · rw [show headingCut hd' = strCut hd' (some 1) none from if_pos z]
        repeat' walk_at "ex"
        exact ⟨rfl, rfl, (sub_map rfl)⟩
      · rw [show headingCut hd' = hd' from if_neg z]
        replace z := Bool.eq_false_iff.mpr z
        repeat' walk_at "ex"
        exact ⟨rfl, rfl, (sub_map rfl)⟩
    rintro ⟨m', σ'⟩ ⟨e1, hm⟩
    dsimp only at e1 hm
    subst σ'
    refine ag_drop (a := ⟨m', _⟩) hm ?_
    clear hm s5 s6 s9 s10 s11
    refine xg_cons ?_
    repeat' walk_at "ex"
    refine ⟨_, op_eq_tup head_eqV, ?_⟩
    repeat' walk_at "ex"
    exact hq _ _
  · rw [if_neg C] at H₁
    obtain rfl : B = false := by rw [hB]; exact decide_eq_false C
    clear hB hhd C s5 s6 s9 s10 s11
    refine xg_consG (fun a' => ∃ o, a'.σ = σ₄.set a.σ.length (.cell (some (.bytes row))) ++ o ∧ Sub [("word", .str "refused"), ("is_right", .bool false)] a'.m) ?_ ?_
    · clear hq
      repeat' walk_at "ex"
      · rename_i e
        rw [H₁] at e
        cases e
      · exact ⟨rfl, _, rfl, (sub_map rfl)⟩
    rintro ⟨m', σ'⟩ ⟨o, e1, hm⟩
    dsimp only at e1 hm
    subst σ'
    refine ag_drop (a := ⟨m', _⟩) hm ?_
    clear hm H₁
    refine xg_cons ?_
    repeat' walk_at "ex"
    exact hq _ _
end
end
section
open PySem PySem.W PySem.Spec PySem.Calls PyProof.Rows PySem.SeqAt
noncomputable abbrev tabs3 : List (Addr × Addr) := [(252, 248), (238, 234), (217, 213)]
theorem tabs_at {P : Params} {h : Heap} (X : (Hd.hd.heap_1 P).In h) (t : ∀ Q : Addr, Q ∈ [248, 234, 213] → h.get? Q = some (tabObj #[])) : TabsAt tabs3 h := by
  intro q hq
  simp only [tabs3, List.mem_cons, List.not_mem_nil, or_false] at hq
  rcases hq with rfl | rfl | rfl
  · exact ⟨codeHd_of_K X (by kernel_rfl), t 248 (by decide)⟩
  · exact ⟨codeHd_of_K X (by kernel_rfl), t 234 (by decide)⟩
  · exact ⟨codeHd_of_K X (by kernel_rfl), t 213 (by decide)⟩
theorem gl_ok {w : World} {h : Heap} {p : Program} {loose : List PStr} {mean : ExcName → Option Value} {mg mb : PStr → Option Value} {gs : Array GenState} {dr : Drawn} {os : OsState} (X : (Hd.hd.heap_1 w.params).In h) (hT : TabsAt tabs3 h) (T : Top p loose mean mg mb h) :
    Gl.Ok ⟨w, ghostOf h tabs3, mg, mb, loose ++ (recsOf p).map (·.name) ++ (litsOf p).map (·.1) ++ (clssOf p loose).map (·.name), mean, gs, dr, os⟩ :=
  ⟨ghost_K hT X (by kernel_rfl), ghost_top hT T, (ghost_code hT).1, (ghost_code hT).2.1, (ghost_code hT).2.2.1⟩
/-- the end of the law's call -/
theorem good_end {c : ClaimW} {cl : PStr → Option Addr} {mean : ExcName → Option Value} {args : List WData} {s₁ s' : Shared} (hT : TabsAt tabs3 s₁.heap) (hr : ∀ a x, c.raises a x = false) (hp : c.post args (.bool true) args = true)
    (hk : (ghostOf s₁.heap tabs3).StaysIn s'.heap) (hg : ∀ Q ∈ tabPs, ∃ ps, s'.heap.get? Q = some (tabObj ps)) (hos : s'.os = s₁.os) (hgens : s'.gens = #[]) : GoodWG c cl mean args s₁ (.ok (.ret (.bool true))) s' := by
  have keep : ∀ b o, s₁.heap.get? b = some o → s'.heap.get? b = some o ∨ (isCodeTable s₁.heap b ∧ o = tabObj #[] ∧ ∃ ps, s'.heap.get? b = some (tabObj ps)) := fun b o e => by
    by_cases hb : b ∈ tabs3.map (·.2)
    · obtain ⟨q, hq, rfl⟩ := List.mem_map.mp hb
      obtain ⟨e1, e2⟩ := hT q hq
      rw [e2] at e
      exact .inr ⟨(e1.tab e2).isCodeTable, (Option.some.inj e).symm, hg q.2 hb⟩
    · exact .inl (hk b o (ghost_ne e hb))
  refine ⟨.inl ⟨_, .bool true, [], rfl, hr args, .bool true, hp, fun _ => ⟨List.nodup_nil, nofun⟩⟩, ⟨fun b o e => ?_, fun b o e => ?_⟩, hos, .of_eq hgens⟩
  · rcases keep b o e with h | ⟨ht, rfl, ps, h⟩
    · exact .inl h
    · exact .inr (.inl ⟨ht, rfl, #[], ps, rfl, by rw [Array.empty_append]; exact h⟩)
  · rcases keep b o e with h | ⟨ht, rfl, ps, h⟩
    · exact ⟨o, h⟩
    · exact ⟨_, h⟩
theorem ints_vrs {G : Heap} {ρ : List Addr} {vs : List Value} {xs : List Int} (h : IntsAre vs xs) : VRs G ρ (xs.map .int) vs := by
  induction h with
  | nil => exact .nil
  | cons n t _ ih => exact .cons .int ih
theorem cells_none {l : List (PStr × NameKind)} (h : (l.all fun x => match x.2 with | .cell => false | _ => true) = true) : ∀ x ∈ l, x.2 ≠ .cell := fun x hx e => by
  have := List.all_eq_true.mp h x hx
  rw [e] at this
  cases this
theorem top_ok {env' : Env} {L : Addr} (h1 : env'.locals = L) (h2 : env'.frame = some L) (h3 : env'.globals = mainGlobals) (h4 : env'.builtins = builtinsNs) (h5 : env'.scope.kind = .function) : FC.Ok ⟨callerA.deeper env', env', L, [], []⟩ 0 :=
  ⟨h1, h2, h3, h4, h5, Around.frames_deeper rfl, rfl, by show callerA.depth + 1 ≤ 310; decide, by show callerA.units + 3 ≤ 100; decide, fun f hf => absurd hf List.not_mem_nil⟩
theorem rel_top {g : Gl} {A : Around} {env' : Env} {s₁ : Shared} {h₁ : Heap} {tk : Nat} {la : Addr} {vs : List Value} {xs : List Int} (hT : TabsAt tabs3 s₁.heap) (hB : g.B = ghostOf s₁.heap tabs3) (hsh : s₁.gens = g.gens ∧ s₁.drawn = g.drawn ∧ s₁.os = g.os)
    (hns : h₁.Ns s₁.heap.objs.size (fun x => [(("script" : PStr), Value.ref la)].reverse.lookup x)) (hk₁ : ∀ b o, s₁.heap.get? b = some o → h₁.get? b = some o) (hp : s₁.heap.PlainList la vs.toArray) (hI : IntsAre vs xs) :
    Rel g ⟨A, env', s₁.heap.objs.size, [], []⟩ (ghostOf s₁.heap tabs3) ⟨[("script", .list (xs.map .int))], []⟩ [] { s₁ with heap := h₁, toks := tk } := by
  have lt : ∀ Q ∈ tabPs, Q < s₁.heap.objs.size ∧ s₁.heap.get? Q = some (tabObj #[]) := fun Q hQ => by
    obtain ⟨q, hq, rfl⟩ := List.mem_map.mp (show Q ∈ tabs3.map (·.2) from hQ)
    exact ⟨Heap.lt_size (hT q hq).2, (hT q hq).2⟩
  refine ⟨hB ▸ fun _ _ e => e, fun b o e => hk₁ b o (of_hideAll _ e), fun x hx => ?_, ?_, ⟨_, hns, fun x d e => ?_⟩, .nil, fun Q hQ => ⟨#[], hk₁ _ _ (lt Q hQ).2, ?_, fun pos v e => ?_⟩, fun f hf => absurd hf List.not_mem_nil, fun x k e => ?_, hsh⟩
  · rcases List.mem_cons.mp hx with rfl | hx
    · exact ghost_fresh (Heap.get?_none_of_le (Nat.le_refl _))
    · exact hideAll_none _ hx
  · refine List.nodup_cons.mpr ⟨fun hm => ?_, (by decide : ([248, 234, 213] : List Addr).Nodup)⟩
    exact Nat.lt_irrefl _ (lt _ hm).1
  · rw [List.lookup_cons] at e
    split at e
    · rename_i q
      cases e
      obtain rfl := eq_of_beq q
      exact ⟨_, rfl, .list (ints_vrs hI) (let ⟨n, e⟩ := hp; ⟨n, ghost_get hT e nofun⟩)⟩
    · cases e
  · exact trivial
  · cases e
  · cases (show (none : Option Nat) = some k from e)
section
variable {g : Gl} {fc : FC} {a : AS} {R : AS → Prop} {n : Nat}
theorem mem_cutL {α : Type} {b : List α} {lo hi : Option Int} {c : α} (h : c ∈ cut b lo hi) : c ∈ b := List.mem_of_mem_drop (List.mem_of_mem_take h)
theorem k_side_law {k : Nat} {l : List D} {b : Bs} {Q : D → AS → Prop} (g' : g.Ok) (ok : fc.Ok n) (hn : n ≤ 80) (T : Tape k a.σ l) (hb : b ∈ allNames)
    (h : ∀ σ' l', Later k a.σ σ' l' → Q (.bool true) ⟨a.m, σ'⟩) : CallAtG g fc (.glob (.ref 239)) [.mut k, .bytes b] Q R a :=
  k_side_right g' ok hn T (Nat.le_trans (names_len b hb).1 (by decide)) (names_len b hb).2 (pl_strip b hb)
    (fun t ht f hf d hd e he => by
      obtain ⟨h1, h2⟩ := pl_told b hb f hf d hd e he
      rcases ht with rfl | rfl
      · exact h1
      · exact h2) h
theorem k_header_law {k : Nat} {l : List D} {b c : Bs} {Q : D → AS → Prop} (g' : g.Ok) (ok : fc.Ok n) (hn : n ≤ 80) (T : Tape k a.σ l) (hb : b ∈ allNames) (hc : c ∈ allNames)
    (h : ∀ σ' l', Later k a.σ σ' l' → Q (.bool true) ⟨a.m, σ'⟩) : CallAtG g fc (.glob (.ref 253)) [.mut k, .bytes b, .bytes c] Q R a :=
  k_header_right g' ok hn T (Nat.le_trans (names_len b hb).1 (by decide)) (Nat.le_trans (names_len c hc).1 (by decide)) (names_len b hb).2 (names_len c hc).2
    (pl_bare b hb c hc) (pl_two b hb c hc) (pl_three b hb c hc) (pl_four b hb c hc) (pl_five b hb c hc) h
end
set_option hygiene false in
local macro_rules | `(tactic| walk_at "cx") => `(tactic| first
  | refine k_law_name (by with_reducible assumption) (by with_reducible assumption) (by walk_at "n") (by first | with_reducible assumption | exact Later.tp (by with_reducible assumption)) (fun _ _ _ _ _ => ?_))
set_option hygiene false in
local macro_rules | `(tactic| walk_at "cg") => `(tactic| first
  | refine k_side_law (by with_reducible assumption) (by with_reducible assumption) (by walk_at "n") (by first | with_reducible assumption | exact Later.tp (by with_reducible assumption)) (by with_reducible assumption) (fun _ _ _ => ?_)
  | refine k_header_law (by with_reducible assumption) (by with_reducible assumption) (by walk_at "n") (by first | with_reducible assumption | exact Later.tp (by with_reducible assumption)) (by with_reducible assumption) (by with_reducible assumption) (fun _ _ _ => ?_)
  | refine k_head_right (by with_reducible assumption) (by with_reducible assumption) (by walk_at "n") (by first | with_reducible assumption | exact Later.tp (by with_reducible assumption)) (fun _ _ _ => ?_))
set_option hygiene false in
local macro_rules | `(tactic| walk_at "ex") => `(tactic| first
  | (with_reducible show AW VR _ _ (eval (Expr.Subscript _ (Expr.Slice none none (some _) _) _) _) _ _ _); refine a_RevMut (by with_reducible assumption) ?_
  | (with_reducible show AG VB _ _ (PySem.isTrue (Expr.UnaryOp UnaryOp.Not _ _) _ _) _ _ _); refine tg_Not ?_
  | (with_reducible show AG VB _ _ (PySem.isTrue (Expr.BoolOp BoolOp.Or (_ :: _) _) _ _) _ _ _); refine tg_Or ?_
  | (with_reducible show AG VB _ _ (PySem.isTrue (Expr.Call _ _ _ _) _ _) _ _ _); refine tg_plain (by with_reducible assumption) ?_
  | (with_reducible show AG VR _ _ (eval (Expr.BoolOp BoolOp.And (_ :: _ :: _) _) _) _ _ _); refine ag_And (by with_reducible assumption) ?_
  | (with_reducible show AG VR _ _ (eval (Expr.BoolOp _ [_] _) _) _ _ _); refine ag_One ?_
  | (with_reducible show CallAt _ _ (D.glob (Value.type "list")) [D.list _] _ _ _); refine c_list (by with_reducible assumption) ?_
  | (with_reducible show ∃ _, SliceV (D.list _) _ _ D.none _ ∧ _); refine ⟨_, sl_list (by first | exact .none | exact .int) (by first | exact .none | exact .int) (by with_reducible assumption), ?_⟩)
namespace Hd
theorem low.tw10045871393028966036 : True := trivial
theorem low.tw10054155325003147128 : True := trivial
theorem low.tw10106723294110021191 : True := trivial
theorem low.tw10156040350694138145 : True := trivial
theorem low.tw10225544897462108530 : True := trivial
theorem low.tw10290884568484080240 : True := trivial
theorem low.tw10342317933255262451 : True := trivial
theorem low.tw10358407615097727530 : True := trivial
theorem low.tw1040427957852970439 : True := trivial
theorem low.tw10417093695610731035 : True := trivial
theorem low.tw10471039488970722152 : True := trivial
theorem low.tw10524003149289701044 : True := trivial
theorem low.tw10768318384404761645 : True := trivial
theorem low.tw10784364203451392401 : True := trivial
theorem low.tw10805059174674141706 : True := trivial
theorem low.tw10867416168829338915 : True := trivial
theorem low.tw10920381650947618958 : True := trivial
theorem low.tw10930366528204298634 : True := trivial
theorem low.tw11037333375890192217 : True := trivial
theorem low.tw11054596985279334970 : True := trivial
theorem low.tw11101567737926433862 : True := trivial
theorem low.tw11252355323961033629 : True := trivial
theorem low.tw11308317092971831939 : True := trivial
theorem low.tw11405036656838618944 : True := trivial
theorem low.tw11494867325415402253 : True := trivial
theorem low.tw11534550641124143886 : True := trivial
theorem low.tw11561167120014962431 : True := trivial
theorem low.tw11669285921565277126 : True := trivial
theorem low.tw11683183220167743278 : True := trivial
theorem low.tw11780632356821178286 : True := trivial
theorem low.tw11823345904631406836 : True := trivial
theorem low.tw11851587542864259194 : True := trivial
theorem low.tw11954181380843859746 : True := trivial
theorem low.tw12106924810182449738 : True := trivial
theorem low.tw12140047192000622885 : True := trivial
theorem low.tw12171052225324868418 : True := trivial
theorem low.tw12241590443482627399 : True := trivial
theorem low.tw12320664139065949235 : True := trivial
theorem low.tw12373858653544836770 : True := trivial
theorem low.tw12395684489762395195 : True := trivial
theorem low.tw12638259960167506171 : True := trivial
theorem low.tw12689163057905545520 : True := trivial
theorem low.tw12694605410214309447 : True := trivial
theorem low.tw12714440983125082802 : True := trivial
theorem low.tw12761107538015143887 : True := trivial
theorem low.tw12761562354465193740 : True := trivial
theorem low.tw1279719420845061468 : True := trivial
theorem low.tw12895723308892818283 : True := trivial
theorem low.tw12913002387983671436 : True := trivial
theorem low.tw12955928590803006469 : True := trivial
theorem low.tw13110122086181800541 : True := trivial
theorem low.tw13129368498213782622 : True := trivial
theorem low.tw13147520146156371667 : True := trivial
theorem low.tw131968649870679640 : True := trivial
theorem low.tw13283614195265632121 : True := trivial
theorem low.tw13606430097376235537 : True := trivial
theorem low.tw13614831455498253334 : True := trivial
theorem low.tw13616186571123486733 : True := trivial
theorem low.tw13718413189789964513 : True := trivial
theorem low.tw13745007415946056451 : True := trivial
theorem low.tw13747842003480876351 : True := trivial
theorem low.tw13830880013740868936 : True := trivial
theorem low.tw13874177240182453107 : True := trivial
theorem low.tw13978606754128540058 : True := trivial
theorem low.tw14010695063323426577 : True := trivial
theorem low.tw14203785159326652713 : True := trivial
theorem low.tw14205366268256116482 : True := trivial
theorem low.tw14245835712961377770 : True := trivial
theorem low.tw14294012283619113908 : True := trivial
theorem low.tw14408240193256163143 : True := trivial
theorem low.tw14430487318010592776 : True := trivial
theorem low.tw14602323738383852467 : True := trivial
theorem low.tw14630973592528935058 : True := trivial
theorem low.tw14732608605231405743 : True := trivial
theorem low.tw14766606071895899316 : True := trivial
theorem low.tw14798334868619347693 : True := trivial
theorem low.tw14840911961704984068 : True := trivial
theorem low.tw14925989306090178010 : True := trivial
theorem low.tw14935990218146282986 : True := trivial
theorem low.tw15094982872052989568 : True := trivial
theorem low.tw1514056824406758146 : True := trivial
theorem low.tw15187587763219944642 : True := trivial
theorem low.tw15358277261008708777 : True := trivial
theorem low.tw15397571988680545145 : True := trivial
theorem low.tw15450527323570180304 : True := trivial
theorem low.tw15463885624034722758 : True := trivial
theorem low.tw15515000198924249755 : True := trivial
theorem low.tw15586313190205596068 : True := trivial
theorem low.tw15782694380717325877 : True := trivial
theorem low.tw15789460064482430328 : True := trivial
theorem low.tw15831797530882310240 : True := trivial
theorem low.tw15840411766795695267 : True := trivial
theorem low.tw15904902276236842271 : True := trivial
theorem low.tw1594567412317109306 : True := trivial
theorem low.tw16274258093441394856 : True := trivial
theorem low.tw16286977616116632181 : True := trivial
theorem low.tw16319182914592645540 : True := trivial
theorem low.tw16334714065397319656 : True := trivial
theorem low.tw16382121991454226338 : True := trivial
theorem low.tw16457311279800082140 : True := trivial
theorem low.tw16483260577029189416 : True := trivial
theorem low.tw16638286669709562669 : True := trivial
theorem low.tw16680383523394262237 : True := trivial
theorem low.tw16755692398540921307 : True := trivial
theorem low.tw16807031789800887875 : True := trivial
theorem low.tw1685015054285060844 : True := trivial
theorem low.tw16892481163901740914 : True := trivial
theorem low.tw16910774354709328118 : True := trivial
theorem low.tw17080171933244630274 : True := trivial
theorem low.tw17080527151314986283 : True := trivial
theorem low.tw17189141524423049434 : True := trivial
theorem low.tw17219914030728996099 : True := trivial
theorem low.tw17384405236624295622 : True := trivial
theorem low.tw1739166095223581927 : True := trivial
theorem low.tw17667858875544986920 : True := trivial
theorem low.tw17752801374600180041 : True := trivial
theorem low.tw17819712162116380562 : True := trivial
theorem low.tw18029687341930789175 : True := trivial
theorem low.tw1806375679664748226 : True := trivial
theorem low.tw18111856386353536404 : True := trivial
theorem low.tw18140459054862612498 : True := trivial
theorem low.tw18300027123408225719 : True := trivial
theorem low.tw18366257019326165119 : True := trivial
theorem low.tw18380133580058123312 : True := trivial
theorem low.tw18387876415450701467 : True := trivial
theorem low.tw18416513698387047584 : True := trivial
theorem low.tw1844371279739716078 : True := trivial
theorem low.tw1864648461463774368 : True := trivial
theorem low.tw195114764286422292 : True := trivial
theorem low.tw1980895033927491019 : True := trivial
theorem low.tw2024726139467876658 : True := trivial
theorem low.tw2227570536754782137 : True := trivial
theorem low.tw2388959980887004887 : True := trivial
theorem low.tw2450222915636817540 : True := trivial
theorem low.tw2520287571131043634 : True := trivial
theorem low.tw2709195268538797624 : True := trivial
theorem low.tw2807630190759435551 : True := trivial
theorem low.tw2847317460120053801 : True := trivial
theorem low.tw2954848030774644810 : True := trivial
theorem low.tw2957374821678812927 : True := trivial
theorem low.tw2985021936197461237 : True := trivial
theorem low.tw3067347530095452686 : True := trivial
theorem low.tw3069432718542839169 : True := trivial
theorem low.tw3092690954071950744 : True := trivial
theorem low.tw3256427549723778733 : True := trivial
theorem low.tw328166266997350722 : True := trivial
theorem low.tw3311105721996006887 : True := trivial
theorem low.tw3416977112047205520 : True := trivial
theorem low.tw3425403529610403259 : True := trivial
theorem low.tw3473474115715763733 : True := trivial
theorem low.tw3487343471576157736 : True := trivial
theorem low.tw3863551868379187394 : True := trivial
theorem low.tw4010645658893146985 : True := trivial
theorem low.tw4117830920051509194 : True := trivial
theorem low.tw4167219963684793038 : True := trivial
theorem low.tw4174572010338064278 : True := trivial
theorem low.tw4389284169228867309 : True := trivial
theorem low.tw4449216013019872471 : True := trivial
theorem low.tw4523921234666026364 : True := trivial
theorem low.tw4524989409275758653 : True := trivial
theorem low.tw4629493687338398557 : True := trivial
theorem low.tw465982802598121766 : True := trivial
theorem low.tw4673578661315669320 : True := trivial
theorem low.tw4696360630672143634 : True := trivial
theorem low.tw4699284956179644965 : True := trivial
theorem low.tw4852679155117911601 : True := trivial
theorem low.tw4907463286020404506 : True := trivial
theorem low.tw4929178238726511579 : True := trivial
theorem low.tw5051745905950096842 : True := trivial
theorem low.tw5138870319279191214 : True := trivial
theorem low.tw5188301066053810522 : True := trivial
theorem low.tw5190038888905831693 : True := trivial
theorem low.tw5237497086883887746 : True := trivial
theorem low.tw524413139361233331 : True := trivial
theorem low.tw5257582678139256860 : True := trivial
theorem low.tw5260786953737093312 : True := trivial
theorem low.tw5397355666695319470 : True := trivial
theorem low.tw5450036020083647851 : True := trivial
theorem low.tw5492587775821342601 : True := trivial
theorem low.tw557517619190449820 : True := trivial
theorem low.tw558480536678351772 : True := trivial
theorem low.tw5592780977610177543 : True := trivial
theorem low.tw5613148189424685322 : True := trivial
theorem low.tw5669599922253816209 : True := trivial
theorem low.tw5688151258572333277 : True := trivial
theorem low.tw5883822820633657417 : True := trivial
theorem low.tw5947544827971603979 : True := trivial
theorem low.tw6066392261952252709 : True := trivial
theorem low.tw6186082397629446407 : True := trivial
theorem low.tw6392470638773632927 : True := trivial
theorem low.tw6457545790313256837 : True := trivial
theorem low.tw6462579756931090730 : True := trivial
theorem low.tw653976403943058757 : True := trivial
theorem low.tw6593040032167430896 : True := trivial
theorem low.tw6657645979820100262 : True := trivial
theorem low.tw6713729676304885648 : True := trivial
theorem low.tw6768521535735268091 : True := trivial
theorem low.tw6774365373931307474 : True := trivial
theorem low.tw6781833749118379878 : True := trivial
theorem low.tw6974750582851071305 : True := trivial
theorem low.tw706790414725212687 : True := trivial
theorem low.tw7082599515385807377 : True := trivial
theorem low.tw7093952925931962731 : True := trivial
theorem low.tw7253113608230604233 : True := trivial
theorem low.tw7359922599272233804 : True := trivial
theorem low.tw7480888509557028923 : True := trivial
theorem low.tw7525686677253382252 : True := trivial
theorem low.tw7546924103981423541 : True := trivial
theorem low.tw7660118553955701520 : True := trivial
theorem low.tw7728541300333740590 : True := trivial
theorem low.tw7838398376979278817 : True := trivial
theorem low.tw8015670636792010202 : True := trivial
theorem low.tw802508597341631139 : True := trivial
theorem low.tw8052008541536694765 : True := trivial
theorem low.tw8063051134092005052 : True := trivial
theorem low.tw8068058783106358796 : True := trivial
theorem low.tw8084751664043964502 : True := trivial
theorem low.tw821680009287488091 : True := trivial
theorem low.tw8236955635621424248 : True := trivial
theorem low.tw8312424839655150631 : True := trivial
theorem low.tw8391394483119484046 : True := trivial
theorem low.tw8435615357212743452 : True := trivial
theorem low.tw8457350560760842605 : True := trivial
theorem low.tw8564630966654938795 : True := trivial
theorem low.tw8587019058963002413 : True := trivial
theorem low.tw8617382979328739857 : True := trivial
theorem low.tw8866028108225315831 : True := trivial
theorem low.tw899832071132588229 : True := trivial
theorem low.tw904658409030535072 : True := trivial
theorem low.tw9058330871824941434 : True := trivial
theorem low.tw9062841771218986483 : True := trivial
theorem low.tw9084504758442950785 : True := trivial
theorem low.tw9105421767523632523 : True := trivial
theorem low.tw9162830904608335271 : True := trivial
theorem low.tw9193566721357087946 : True := trivial
theorem low.tw9282612069630258066 : True := trivial
theorem low.tw9429318985064248627 : True := trivial
theorem low.tw9451759395634186347 : True := trivial
theorem low.tw9504394589499629259 : True := trivial
theorem low.tw9538320293176662557 : True := trivial
theorem low.tw9562981391359392662 : True := trivial
theorem low.tw9596951055048661602 : True := trivial
theorem low.tw97963118913803525 : True := trivial
theorem low.tw12824008786229073817 : True := trivial
set_option Elab.async true in
/-- the law -/
theorem low : PySem.Challenge.rw_pq0517_01.Holds := by
  w_on; o_law
  o_head (kmHook Hd.hd.heap_1 [2, 3, 15, 17, 18, 20, 21, 22, 29, 30, 32, 33, 35, 36, 37, 38, 39, 40, 43, 50, 51, 52, 55, 57, 58, 60, 61, 62, 64, 65, 67, 68, 69, 71, 72, 74, 75, 83, 84, 86, 87, 89, 90, 91, 93, 94, 96, 97, 98, 101, 102, 103, 105, 106, 108, 109, 110, 112, 113, 115, 116, 117, 118, 119, 120, 121, 124, 125, 128, 129, 130, 132, 133, 135, 136, 137, 139, 140, 142, 143, 144, 146, 147, 149, 150, 151, 153, 154, 156, 157, 158, 160, 161, 163, 164, 165, 167, 168, 170, 171, 172, 174, 175, 177, 178, 179, 181, 182, 184, 185, 186, 188, 189, 191, 192, 193, 195, 196, 198, 199, 200, 203, 204, 205, 207, 208, 210, 211, 212, 214, 215, 217, 218, 219, 221, 222, 224, 225, 226, 228, 229, 231, 232, 233, 235, 236, 238, 239, 240, 242, 243, 245, 246, 247, 249, 250, 252, 253, 254, 256, 257, 259, 260] (fun _ => by kernel_rfl) [248, 234, 213])
  (case hw => w_witness2)
  intro w s₀ s₁ mg mb G Y fa o pm cd doc dV kV ho hd hcd hD hmg hg args vals as hpre hlay hrd hwl hlo
  have KX := km_in_of Y
  have hT := tabs_at KX (km_tabs_of Y)
  have T := G.T
  clear Y G hmg
  have he := Dflts.none hD rfl
  wrow_args hpre hlay hrd hwl hlo
  rename_i xs hs lay0 hL1 hr1 hl2 w4 w3 la vs w0 hL ra wl r0 hI hr hcond ht
  have hz : xs.length ≤ 63 := by omega
  have hp : s₁.heap.PlainList la vs.toArray := by
    cases wl with
    | list e _ =>
      obtain ⟨o', ho', hc, n, hd'⟩ := hL
      rw [e] at ho'
      cases ho'
      exact ⟨n, e.trans (congrArg (fun d : Data => some ({ cls := .type "list", data := d } : Obj)) hd')⟩
  clear hs lay0 hL1 hr1 hl2 hL ra r0 hr hcond ht hD wl
  obtain ⟨g, g', hw, hB, h1, h2, h3⟩ : ∃ g : Gl, g.Ok ∧ g.w = w ∧ g.B = ghostOf s₁.heap tabs3 ∧ s₁.gens = g.gens ∧ s₁.drawn = g.drawn ∧ s₁.os = g.os := ⟨_, gl_ok KX hT T, rfl, rfl, rfl, rfl, rfl⟩
  subst hw he
  clear KX
  refine wpG_call (codeG_call_def (binds := [("script", .ref la)]) (by decide) ho hd T.nolimit hcd rfl (by with_unfolding_all rfl) (cells_none (by rfl)) (by intro x hx; rw [List.mem_singleton.mp hx]; rfl) (fun h₁ hns hk₁ => ?_))
  refine wpG_mono (((?law : ∀ fc : FC, fc.Ok 0 → fc.env.scope = _ → AG VF g fc (execs _ fc.env) (fun fl _ => fl = .ret (.bool true)) (fun _ => False) ⟨[("script", .list (xs.map .int))], []⟩) ⟨_, _, _, [], []⟩ (top_ok rfl rfl rfl rfl rfl) rfl).run _ _ _ (rel_top hT hB ⟨h1, h2, h3⟩ hns hk₁ hp hI)) ?_ ?_
  case law =>
    clear hns hk₁ hp hI hB h1 h2 h3 hT T ho hd hcd
    intro fc' ok' hs
    dsimp only at hs ⊢
    have l1 : (xs.map D.int).length ≤ 16777216 := by rw [List.length_map]; omega
    have l3 := cut_length_le (xs.map D.int) none (some 40)
    rw [List.length_map] at l3
    have l2 : (cut (xs.map D.int) none (some 40)).length ≤ 16777216 := by omega
    refine xg_consP (fun a' => (∃ l, Tape 0 a'.σ l) ∧ Sub [("tape", .mut 0)] a'.m) ?_ ?_
    · repeat' walk_at "ex"
      refine ⟨rfl, _, rfl, by omega, ?_⟩
      refine ⟨rfl, ⟨_, rfl, ?_, fun d hd => ?_⟩, sub_cons rfl sub_nil⟩
      · rw [List.length_reverse]; omega
      · obtain ⟨i, _, rfl⟩ := List.mem_map.mp (mem_cutL (List.mem_reverse.mp hd))
        exact ⟨i, rfl⟩
    rintro ⟨m', σ₀⟩ ⟨⟨l, T₀⟩, hm⟩
    refine ag_drop (a := ⟨m', _⟩) hm ?_
    clear hm l1 l2 l3
    dsimp only at T₀ ⊢
    refine xg_consG (fun a' => (∃ l, Tape 0 a'.σ l) ∧ Sub [("tape", .mut 0)] a'.m) ?_ ?_
    · repeat' walk_at "ex"
      exact ⟨rfl, ⟨_, Later.tp (by assumption)⟩, sub_cons rfl sub_nil⟩
    clear T₀
    rintro ⟨m', σ₁⟩ ⟨⟨l, T₁⟩, hm⟩
    refine ag_drop (a := ⟨m', _⟩) hm ?_
    clear hm
    dsimp only at T₁ ⊢
    refine xg_consP (fun a' => (∃ l, Tape 0 a'.σ l) ∧ ∃ b c, b ∈ allNames ∧ c ∈ allNames ∧ Sub [("tape", .mut 0), ("left", .bytes b), ("right", .bytes c)] a'.m) ?_ ?_
    · repeat' walk_at "ex"
      rename_i b σ₂ l₂ hb L₂ c σ₃ l₃ hc L₃
      exact ⟨rfl, ⟨_, L₃.tp⟩, b, c, hb, hc, (sub_map rfl)⟩
    clear T₁
    rintro ⟨m', σ₂⟩ ⟨⟨l, T₂⟩, b, c, hb, hc, hm⟩
    refine ag_drop (a := ⟨m', _⟩) hm ?_
    clear hm
    dsimp only at T₂ ⊢
    refine xg_consG (fun a' => (∃ l, Tape 0 a'.σ l) ∧ Sub [("tape", .mut 0), ("left", .bytes b), ("right", .bytes c)] a'.m) ?_ ?_
    · repeat' walk_at "ex"
      exact ⟨rfl, ⟨_, Later.tp (by assumption)⟩, (sub_map rfl)⟩
    clear T₂
    rintro ⟨m', σ₃⟩ ⟨⟨l, T₃⟩, hm⟩
    refine ag_drop (a := ⟨m', _⟩) hm ?_
    clear hm
    dsimp only at T₃ ⊢
    refine xg_cons ?_
    repeat' walk_at "ex"
  · rintro fl s' ⟨G', ρ', a', d, st, r, hv, rfl⟩
    cases hv with
    | ret hv =>
      cases hv
      exact good_end hT (fun _ _ => rfl) (by wrow_post) (fun b o e => r.gs _ _ (st.1 b o e)) (fun Q hQ => let ⟨ps, e, _⟩ := r.tabs Q hQ; ⟨ps, e⟩) (r.sh.2.2.trans h3.symm) (r.sh.1.trans (h1.symm.trans hg))
  · rintro e s' ⟨G', ρ', a', st, x, hR⟩
    exact hR.elim
end Hd
end
end Mine
theorem PySem.Challenge.cw_pq0517_01_holds : PySem.Challenge.rw_pq0517_01.Holds :=
  Mine.Hd.low
