import Derived.Test.YtiiaadgibkpaaaaPFnExactIsCostProofx
import Derived.Test.YtiiaadgibkpaaaaPlain
/-! What the reference and the program compute agrees: plain lemmas, by rounds. -/
namespace Go.Proofs.Ytiiaadgibkpaaaa.PureFnExactIsCostProof
open Go.RowKit Go.Lib Go.Proofs.Ytiiaadgibkpaaaa.Plain Go.Proofs.Ytiiaadgibkpaaaa.PFnExactIsCostProof Go.Proofs.YtiiaadgibkpaaaaW.PrintWords Go.Proofs.YtiiaadgibkpaaaaW.PrintLast Go.Proofs.YtiiaadgibkpaaaaW.PrintMore
open Classical
set_option linter.unusedVariables false
set_option linter.unusedSimpArgs false
/-! ### copies, equality, sizes -/
theorem toIntS_ev (l : List Int) (hl : l.length ≤ 1048576) : Ev (fun k => laws_toIntS.f k l) l := by
  unfold laws_toIntS.f
  simp only [if_pos (show (0 : Int) ≤ l.length by omega), Int.toNat_natCast, if_pos (show l.length ≤ 35184372088832 by omega)]
  refine Ev.copy (F := fun k x i => laws_toIntS.l0 k l x i) ?_ ?_ (List.replicate l.length 0) List.length_replicate
  · intro x hx
    refine Ev.step (fun k => by rw [laws_toIntS.l0]) ?_
    simp only [if_neg (show ¬ ((l.length : Int) < l.length) by omega)]
    exact Ev.now _
  · intro i h x hx r ih
    refine Ev.step (fun k => by rw [laws_toIntS.l0]) ?_
    simp only [if_pos (show (i : Int) < l.length by omega), if_pos (show (0 : Int) ≤ i by omega), if_pos (show (i : Int) < x.length by omega), wrap_succ h (show l.length ≤ 140737488351232 by omega), Int.toNat_natCast, rd_at l i h]
    exact ih

theorem eqIntS_ev (l : List Int) (hl : l.length ≤ 1048576) : Ev (fun k => laws_eqIntS.f k l l) true := by
  unfold laws_eqIntS.f
  simp only [if_true]
  refine Ev.check (F := fun k i => laws_eqIntS.l0 k l l i) (n := l.length) (fun _ => True) (X := True) (Y := True) (by simp) ?_ ?_ ?_
  · refine Ev.step (fun k => by rw [laws_eqIntS.l0]) ?_
    simp only [if_neg (show ¬ ((l.length : Int) < l.length) by omega)]
    exact Ev.now _
  · intro i hi _ r ih
    refine Ev.step (fun k => by rw [laws_eqIntS.l0]) ?_
    simp only [if_pos (show (i : Int) < l.length by omega), if_pos (show (0 : Int) ≤ i by omega), wrap_succ hi (show l.length ≤ 140737488351232 by omega), if_true]
    exact ih
  · intro i hi g
    exact absurd trivial g

theorem rd_L2_at (l : List (List Int)) (i : Nat) (h : i < l.length) : rd_L2 l (i : Int) = l[i] := by unfold rd_L2; simp [h]
theorem rd_T78_at (l : List S78) (i : Nat) (h : i < l.length) : rd_T78 l (i : Int) = l[i] := by unfold rd_T78; simp [h]

theorem toIntSS_ev (l : List (List Int)) (hl : l.length ≤ 1048576) (hr : ∀ x ∈ l, x.length ≤ 1048576) : Ev (fun k => laws_toIntSS.f k l) l := by
  unfold laws_toIntSS.f
  simp only [if_pos (show (0 : Int) ≤ l.length by omega), Int.toNat_natCast, if_pos (show l.length ≤ 11728124029610 by omega)]
  refine Ev.copy (F := fun k x i => laws_toIntSS.l0 k l x i) ?_ ?_ (List.replicate l.length []) List.length_replicate
  · intro x hx
    refine Ev.step (fun k => by rw [laws_toIntSS.l0]) ?_
    simp only [if_neg (show ¬ ((l.length : Int) < l.length) by omega)]
    exact Ev.now _
  · intro i h x hx r ih
    refine Ev.step (fun k => by rw [laws_toIntSS.l0]) ?_
    simp only [if_pos (show (i : Int) < l.length by omega), if_pos (show (0 : Int) ≤ i by omega), if_pos (show (i : Int) < x.length by omega), wrap_succ h (show l.length ≤ 140737488351232 by omega), Int.toNat_natCast, rd_L2_at l i h]
    exact Ev.bind (toIntS_ev _ (hr _ (List.getElem_mem h))) ih

theorem toIntA2_ev (a b : Int) : Ev (fun k => laws_toIntA2.f k a b) (a, b) := by
  unfold laws_toIntA2.f
  refine Ev.step (fun k => by rw [laws_toIntA2.l0]) ?_
  simp only [show ((0 : Int) < 2) = True from by simp, if_true, show wrap64 (0 + 1) = 1 from by rw [wrap_of (by decide) (by decide)]; rfl]
  refine Ev.step (fun k => by rw [laws_toIntA2.l0]) ?_
  simp only [show ((1 : Int) < 2) = True from by simp, show ((1 : Int) = 0) = False from by simp, if_true, if_false, show wrap64 (1 + 1) = 2 from by rw [wrap_of (by decide) (by decide)]; rfl]
  refine Ev.step (fun k => by rw [laws_toIntA2.l0]) ?_
  simp only [show ((2 : Int) < 2) = False from by simp, if_false]
  exact Ev.now _

theorem toIntA2S_ev (l : List S78) (hl : l.length ≤ 1048576) : Ev (fun k => laws_toIntA2S.f k l) l := by
  unfold laws_toIntA2S.f
  simp only [if_pos (show (0 : Int) ≤ l.length by omega), Int.toNat_natCast, if_pos (show l.length ≤ 17592186044416 by omega)]
  refine Ev.copy (F := fun k x i => laws_toIntA2S.l0 k l x i) ?_ ?_ (List.replicate l.length z78) List.length_replicate
  · intro x hx
    refine Ev.step (fun k => by rw [laws_toIntA2S.l0]) ?_
    simp only [if_neg (show ¬ ((l.length : Int) < l.length) by omega)]
    exact Ev.now _
  · intro i h x hx r ih
    refine Ev.step (fun k => by rw [laws_toIntA2S.l0]) ?_
    simp only [if_pos (show (i : Int) < l.length by omega), if_pos (show (0 : Int) ≤ i by omega), if_pos (show (i : Int) < x.length by omega), wrap_succ h (show l.length ≤ 140737488351232 by omega), Int.toNat_natCast, rd_T78_at l i h]
    exact Ev.bind (toIntA2_ev _ _) ih

theorem eqIntA2_ev (a b : Int) : Ev (fun k => laws_eqIntA2.f k a b a b) true := by
  unfold laws_eqIntA2.f
  refine Ev.step (fun k => by rw [laws_eqIntA2.l0]) ?_
  simp only [show ((0 : Int) < 2) = True from by simp, if_true, show wrap64 (0 + 1) = 1 from by rw [wrap_of (by decide) (by decide)]; rfl]
  refine Ev.step (fun k => by rw [laws_eqIntA2.l0]) ?_
  simp only [show ((1 : Int) < 2) = True from by simp, show ((1 : Int) = 0) = False from by simp, if_true, if_false, show wrap64 (1 + 1) = 2 from by rw [wrap_of (by decide) (by decide)]; rfl]
  refine Ev.step (fun k => by rw [laws_eqIntA2.l0]) ?_
  simp only [show ((2 : Int) < 2) = False from by simp, if_false]
  exact Ev.now _

theorem eqIntA2S_ev (l : List S78) (hl : l.length ≤ 1048576) : Ev (fun k => laws_eqIntA2S.f k l l) true := by
  unfold laws_eqIntA2S.f
  simp only [if_true]
  refine Ev.check (F := fun k i => laws_eqIntA2S.l0 k l l i) (n := l.length) (fun _ => True) (X := True) (Y := True) (by simp) ?_ ?_ ?_
  · refine Ev.step (fun k => by rw [laws_eqIntA2S.l0]) ?_
    simp only [if_neg (show ¬ ((l.length : Int) < l.length) by omega)]
    exact Ev.now _
  · intro i hi _ r ih
    refine Ev.step (fun k => by rw [laws_eqIntA2S.l0]) ?_
    simp only [if_pos (show (i : Int) < l.length by omega), if_pos (show (0 : Int) ≤ i by omega), wrap_succ hi (show l.length ≤ 140737488351232 by omega)]
    exact Ev.bind (eqIntA2_ev _ _) (by simpa using ih)
  · intro i hi g
    exact absurd trivial g

theorem eqIntSS_ev (l : List (List Int)) (hl : l.length ≤ 1048576) (hr : ∀ x ∈ l, x.length ≤ 1048576) : Ev (fun k => laws_eqIntSS.f k l l) true := by
  unfold laws_eqIntSS.f
  simp only [if_true]
  refine Ev.check (F := fun k i => laws_eqIntSS.l0 k l l i) (n := l.length) (fun _ => True) (X := True) (Y := True) (by simp) ?_ ?_ ?_
  · refine Ev.step (fun k => by rw [laws_eqIntSS.l0]) ?_
    simp only [if_neg (show ¬ ((l.length : Int) < l.length) by omega)]
    exact Ev.now _
  · intro i hi _ r ih
    refine Ev.step (fun k => by rw [laws_eqIntSS.l0]) ?_
    simp only [if_pos (show (i : Int) < l.length by omega), if_pos (show (0 : Int) ≤ i by omega), wrap_succ hi (show l.length ≤ 140737488351232 by omega), rd_L2_at l i hi]
    exact Ev.bind (eqIntS_ev _ (hr _ (List.getElem_mem hi))) (by simpa using ih)
  · intro i hi g
    exact absurd trivial g

theorem toSpace_ev (S : List (List Int)) (P : List S78) (hS : S.length ≤ 1048576) (hr : ∀ x ∈ S, x.length ≤ 1048576) (hP : P.length ≤ 1048576) : Ev (fun k => laws_toSpace.f k S P) (S, P) := by
  unfold laws_toSpace.f
  exact Ev.bind (toIntSS_ev S hS hr) (Ev.bind (toIntA2S_ev P hP) (Ev.now _))

theorem eqSpace_ev (S : List (List Int)) (P : List S78) (hS : S.length ≤ 1048576) (hr : ∀ x ∈ S, x.length ≤ 1048576) (hP : P.length ≤ 1048576) : Ev (fun k => laws_eqSpace.f k S P S P) true := by
  unfold laws_eqSpace.f
  refine Ev.bind (eqIntSS_ev S hS hr) ?_
  simp only [if_true]
  refine Ev.bind (eqIntA2S_ev P hP) ?_
  simp only [if_true]
  exact Ev.now _

theorem szIntSS_ev (l : List (List Int)) (hl : l.length ≤ 140737488351232) (hr : ∀ x ∈ l, x.length ≤ 140737488351232) :
    ∃ r, Ev (fun k => laws_szIntSS.f k l 1048576) r ∧ (0 ≤ r → r ≤ 1048576 ∧ l.length ≤ 1048576 ∧ ∀ x ∈ l, x.length ≤ 1048576) := by
  have main : ∀ d i : Nat, i ≤ l.length → l.length - i = d → ∀ a : Int, 0 ≤ a → a ≤ 1048576 → ∃ r, Ev (fun k => laws_szIntSS.l0 k l a i) r ∧ (0 ≤ r → r ≤ 1048576 ∧ ∀ x ∈ l.drop i, x.length ≤ 1048576) := by
    intro d
    induction d with
    | zero =>
      intro i hi hd a h0 h1
      obtain rfl : i = l.length := by omega
      refine ⟨a, ?_, fun _ => ⟨h1, by simp⟩⟩
      refine Ev.step (fun k => by rw [laws_szIntSS.l0]) ?_
      simp only [if_neg (show ¬ ((l.length : Int) < l.length) by omega)]
      exact Ev.now _
    | succ d ih =>
      intro i hi hd a h0 h1
      have hi' : i < l.length := by omega
      have hx := hr _ (List.getElem_mem hi')
      have hw : wrap64 (a - (l[i].length : Int)) = a - (l[i].length : Int) := wrap_of (by omega) (by omega)
      by_cases g : a - (l[i].length : Int) < 0
      · refine ⟨-1, ?_, fun h => absurd h (by decide)⟩
        refine Ev.step (fun k => by rw [laws_szIntSS.l0]) ?_
        simp only [if_pos (show (i : Int) < l.length by omega), if_pos (show (0 : Int) ≤ i by omega), rd_L2_at l i hi', laws_szIntS.f, hw, if_pos g, Option.bind_some, show ((-1 : Int) < 0) = True from by simp, if_true]
        exact Ev.now _
      · obtain ⟨r, h, hh⟩ := ih (i + 1) (by omega) (by omega) (a - (l[i].length : Int)) (by omega) (by omega)
        refine ⟨r, ?_, fun h0 => ⟨(hh h0).1, ?_⟩⟩
        · refine Ev.step (fun k => by rw [laws_szIntSS.l0]) ?_
          simp only [if_pos (show (i : Int) < l.length by omega), if_pos (show (0 : Int) ≤ i by omega), rd_L2_at l i hi', laws_szIntS.f, hw, if_neg g, Option.bind_some, wrap_succ hi' hl]
          exact h
        · rw [List.drop_eq_getElem_cons hi']
          intro x hx
          rcases List.mem_cons.1 hx with rfl | hx
          · omega
          · exact (hh h0).2 x hx
  unfold laws_szIntSS.f
  have hw : wrap64 (1048576 - (l.length : Int)) = 1048576 - (l.length : Int) := wrap_of (by omega) (by omega)
  rw [hw]
  by_cases g : 1048576 - (l.length : Int) < 0
  · refine ⟨-1, ?_, fun h => absurd h (by decide)⟩
    simp only [if_pos g]
    exact Ev.now _
  · simp only [if_neg g]
    obtain ⟨r, h, hh⟩ := main l.length 0 (by omega) (by omega) (1048576 - (l.length : Int)) (by omega) (by omega)
    exact ⟨r, h, fun h0 => ⟨(hh h0).1, by omega, by simpa using (hh h0).2⟩⟩

theorem szSpace_ev (S : List (List Int)) (P : List S78) (hS : S.length ≤ 140737488351232) (hr : ∀ x ∈ S, x.length ≤ 140737488351232) (hP : P.length ≤ 140737488351232) :
    ∃ r, Ev (fun k => laws_szSpace.f k S P 1048576) r ∧ (0 ≤ r → S.length ≤ 1048576 ∧ (∀ x ∈ S, x.length ≤ 1048576) ∧ P.length ≤ 1048576) := by
  obtain ⟨r, h, hh⟩ := szIntSS_ev S hS hr
  unfold laws_szSpace.f
  by_cases g : r < 0
  · exact ⟨-1, Ev.bind h (by simp only [if_pos g]; exact Ev.now _), fun h => absurd h (by decide)⟩
  · obtain ⟨h1, h2, h3⟩ := hh (by omega)
    have hw : wrap64 (r - (P.length : Int)) = r - (P.length : Int) := wrap_of (by omega) (by omega)
    by_cases g2 : r - (P.length : Int) < 0
    · refine ⟨-1, Ev.bind h ?_, fun h => absurd h (by decide)⟩
      simp only [if_neg g, laws_szIntA2S.f, hw, if_pos g2, Option.bind_some, show ((-1 : Int) < 0) = True from by simp, if_true]
      exact Ev.now _
    · refine ⟨r - (P.length : Int), Ev.bind h ?_, fun h0 => ⟨h2, h3, by omega⟩⟩
      simp only [if_neg g, laws_szIntA2S.f, hw, if_neg g2, Option.bind_some]
      exact Ev.now _

/-! ### the space -/
def StateOk (l : List Int) : Prop := l.length ≤ 24 ∧ Within (-99) 99 l
theorem in_iff (a b c : Int) : spec_l1In.f a b c = some (decide (b ≤ a ∧ a ≤ c)) := by
  unfold spec_l1In.f
  by_cases h : a ≥ b
  · rw [if_pos h]; congr 1; exact decide_eq_decide.2 ⟨fun x => ⟨h, x⟩, fun x => x.2⟩
  · rw [if_neg h]; congr 1; exact (decide_eq_false fun x => h x.1).symm
theorem between_iff (a b c : Int) : impl_between.f a b c = some (decide (b ≤ a ∧ a ≤ c)) := by
  unfold impl_between.f
  by_cases h : a ≥ b
  · rw [if_pos h]; congr 1; exact decide_eq_decide.2 ⟨fun x => ⟨h, x⟩, fun x => x.2⟩
  · rw [if_neg h]; congr 1; exact (decide_eq_false fun x => h x.1).symm

theorem specState_ev (l : List Int) (hl : l.length ≤ 1048576) : Ev (fun k => spec_l2State.f k l) (decide (StateOk l)) := by
  unfold spec_l2State.f
  refine Ev.check (F := fun k i => spec_l2State.l0 k l i) (n := l.length) (fun i : Nat => -99 ≤ rd l i ∧ rd l i ≤ 99) (X := (l.length : Int) ≤ 24) (Y := StateOk l) ⟨fun x => ⟨x.2, by have := x.1; omega⟩, fun x => ⟨by omega, x.1⟩⟩ ?_ ?_ ?_
  · refine Ev.step (fun k => by rw [spec_l2State.l0]) ?_
    simp only [if_neg (show ¬ ((l.length : Int) < l.length) by omega)]
    exact Ev.now _
  · intro i hi g r ih
    refine Ev.step (fun k => by rw [spec_l2State.l0]) ?_
    simp only [if_pos (show (i : Int) < l.length by omega), if_pos (show (0 : Int) ≤ i by omega), in_iff, Option.bind_some, decide_eq_true_eq, if_pos g, wrap_succ hi (show l.length ≤ 140737488351232 by omega)]
    exact ih
  · intro i hi g
    refine Ev.step (fun k => by rw [spec_l2State.l0]) ?_
    simp only [if_pos (show (i : Int) < l.length by omega), if_pos (show (0 : Int) ≤ i by omega), in_iff, Option.bind_some, decide_eq_true_eq, if_neg g]
    exact Ev.now _
theorem impl_isState_1_contains (l : List Int) (hl : l.length ≤ 1048576) : Ev (fun k => slices_ContainsFunc_int_int_impl_isState_1.f k l) (!decide (Within (-99) 99 l)) := by
  have h := Ev.loop (F := fun k i => slices_IndexFunc_int_int_impl_isState_1.l0 k l l.length i) (n := l.length) (good := fun i : Nat => -99 ≤ rd l i ∧ rd l i ≤ 99) (fun r : Int => r < 0) (fun r => 0 ≤ r) ?_ ?_ ?_
  · obtain ⟨r, h, h1, h2⟩ := h
    unfold slices_ContainsFunc_int_int_impl_isState_1.f slices_IndexFunc_int_int_impl_isState_1.f
    have e : (!decide (Within (-99) 99 l)) = decide (r ≥ 0) := by
      by_cases a : Within (-99) 99 l
      · rw [decide_eq_true a, decide_eq_false (by have := h1 a; omega)]; rfl
      · rw [decide_eq_false a, decide_eq_true (h2 a)]; rfl
    rw [e]
    exact Ev.bind h (Ev.now _)
  · refine ⟨-1, Ev.step (fun k => by rw [slices_IndexFunc_int_int_impl_isState_1.l0]) ?_, by decide⟩
    simp only [if_neg (show ¬ ((l.length : Int) < l.length) by omega)]
    exact Ev.now _
  · intro i hi g r ih
    refine Ev.step (fun k => by rw [slices_IndexFunc_int_int_impl_isState_1.l0]) ?_
    simp only [if_pos (show (i : Int) < l.length by omega), if_pos (show (0 : Int) ≤ i by omega), impl_isState_1.f, between_iff, Option.bind_some, decide_eq_true g, Bool.not_true, Bool.false_eq_true, if_false, wrap_succ hi (show l.length ≤ 140737488351232 by omega)]
    exact ih
  · intro i hi g
    refine ⟨i, Ev.step (fun k => by rw [slices_IndexFunc_int_int_impl_isState_1.l0]) ?_, by omega⟩
    simp only [if_pos (show (i : Int) < l.length by omega), if_pos (show (0 : Int) ≤ i by omega), impl_isState_1.f, between_iff, Option.bind_some, decide_eq_false g, Bool.not_false, if_true]
    exact Ev.now _

theorem implState_ev (l : List Int) (hl : l.length ≤ 1048576) : Ev (fun k => impl_isState.f k l) (decide (StateOk l)) := by
  unfold impl_isState.f
  by_cases g : (l.length : Int) ≤ 24
  · simp only [if_pos g]
    have e : decide (StateOk l) = !!decide (Within (-99) 99 l) := by
      rw [Bool.not_not]; exact decide_eq_decide.2 ⟨fun x => x.2, fun x => ⟨by omega, x⟩⟩
    rw [e]
    exact Ev.bind (impl_isState_1_contains l hl) (Ev.now _)
  · simp only [if_neg g]
    rw [decide_eq_false fun x : StateOk l => g (by have := x.1; omega)]
    exact Ev.now _

/-- What the two orders of states say agrees. -/
theorem before_same (a b : List Int) (ha : a.length ≤ 1048576) (hb : b.length ≤ 1048576) :
    ∃ r c, Ev (fun k => spec_l2Before.f k a b) r ∧ Ev (fun k => slices_Compare_int_int.f k a b) c ∧ (0 ≤ c ↔ r = false) := by
  have main : ∀ d i : Nat, i ≤ a.length → i ≤ b.length → a.length - i = d →
      ∃ r c, Ev (fun k => spec_l2Before.l0 k a b i) r ∧ Ev (fun k => slices_Compare_int_int.l0 k a b a a.length i) c ∧ (0 ≤ c ↔ r = false) := by
    intro d
    induction d with
    | zero =>
      intro i hi hj hd
      obtain rfl : i = a.length := by omega
      refine ⟨decide ((a.length : Int) < b.length), if (a.length : Int) < b.length then -1 else 0, ?_, ?_, ?_⟩
      · refine Ev.step (fun k => by rw [spec_l2Before.l0]) ?_
        simp only [if_neg (show ¬ ((a.length : Int) < a.length) by omega)]
        refine Ev.step (fun k => by rw [spec_l2Before.j1]) ?_
        simp only [Bool.false_eq_true, if_false]
        exact Ev.now _
      · refine Ev.step (fun k => by rw [slices_Compare_int_int.l0]) ?_
        simp only [if_neg (show ¬ ((a.length : Int) < a.length) by omega)]
        by_cases g : (a.length : Int) < b.length
        · simp only [if_pos g]; exact Ev.now _
        · simp only [if_neg g]; exact Ev.now _
      · by_cases g : (a.length : Int) < b.length
        · simp only [if_pos g, decide_eq_true g]; simp
        · simp only [if_neg g, decide_eq_false g]; simp
    | succ d ih =>
      intro i hi hj hd
      have hi' : i < a.length := by omega
      by_cases g : i < b.length
      · have cmp : ∀ x y : Int, cmp_Compare_int.f x y = some (if x < y then -1 else if x > y then 1 else 0) := by
          intro x y
          unfold cmp_Compare_int.f cmp_isNaN_int.f
          simp only [bne_self_eq_false, Option.bind_some, Bool.false_eq_true, if_false]
          split
          · rfl
          · split <;> rfl
        by_cases q : rd a i = rd b i
        · obtain ⟨r, c, h1, h2, h3⟩ := ih (i + 1) (by omega) (by omega) (by omega)
          refine ⟨r, c, ?_, ?_, h3⟩
          · refine Ev.step (fun k => by rw [spec_l2Before.l0]) ?_
            simp only [if_pos (show (i : Int) < a.length by omega), decide_eq_true (show (i : Int) < b.length by omega)]
            refine Ev.step (fun k => by rw [spec_l2Before.j1]) ?_
            simp only [if_true, if_pos (show (0 : Int) ≤ i by omega), if_pos (show (i : Int) < a.length by omega), if_pos (show (i : Int) < b.length by omega), if_pos q, wrap_succ hi' (show a.length ≤ 140737488351232 by omega)]
            exact h1
          · refine Ev.step (fun k => by rw [slices_Compare_int_int.l0]) ?_
            simp only [if_pos (show (i : Int) < a.length by omega), if_pos (show (0 : Int) ≤ i by omega), if_neg (show ¬ ((i : Int) ≥ b.length) by omega), if_pos (show (i : Int) < b.length by omega), cmp, Option.bind_some, q, if_neg (show ¬ (rd b i < rd b i) by omega), if_neg (show ¬ (rd b i > rd b i) by omega), if_true, wrap_succ hi' (show a.length ≤ 140737488351232 by omega)]
            exact h2
        · refine ⟨decide (rd a i < rd b i), if rd a i < rd b i then -1 else 1, ?_, ?_, ?_⟩
          · refine Ev.step (fun k => by rw [spec_l2Before.l0]) ?_
            simp only [if_pos (show (i : Int) < a.length by omega), decide_eq_true (show (i : Int) < b.length by omega)]
            refine Ev.step (fun k => by rw [spec_l2Before.j1]) ?_
            simp only [if_true, if_pos (show (0 : Int) ≤ i by omega), if_pos (show (i : Int) < a.length by omega), if_pos (show (i : Int) < b.length by omega), if_neg q]
            exact Ev.now _
          · refine Ev.step (fun k => by rw [slices_Compare_int_int.l0]) ?_
            simp only [if_pos (show (i : Int) < a.length by omega), if_pos (show (0 : Int) ≤ i by omega), if_neg (show ¬ ((i : Int) ≥ b.length) by omega), if_pos (show (i : Int) < b.length by omega), cmp, Option.bind_some]
            by_cases z : rd a i < rd b i
            · simp only [if_pos z, show ((-1 : Int) = 0) = False from by simp, if_false]; exact Ev.now _
            · simp only [if_neg z, if_pos (show rd a i > rd b i by omega), show ((1 : Int) = 0) = False from by simp, if_false]; exact Ev.now _
          · by_cases z : rd a i < rd b i
            · simp only [if_pos z, decide_eq_true z]; simp
            · simp only [if_neg z, decide_eq_false z]; simp
      · refine ⟨false, 1, ?_, ?_, by simp⟩
        · refine Ev.step (fun k => by rw [spec_l2Before.l0]) ?_
          simp only [if_pos (show (i : Int) < a.length by omega), decide_eq_false (show ¬ ((i : Int) < b.length) by omega)]
          refine Ev.step (fun k => by rw [spec_l2Before.j1]) ?_
          simp only [Bool.false_eq_true, if_false, decide_eq_false (show ¬ ((a.length : Int) < b.length) by omega)]
          exact Ev.now _
        · refine Ev.step (fun k => by rw [slices_Compare_int_int.l0]) ?_
          simp only [if_pos (show (i : Int) < a.length by omega), if_pos (show (0 : Int) ≤ i by omega), if_pos (show ((i : Int) ≥ b.length) by omega)]
          exact Ev.now _
  exact main a.length 0 (by omega) (by omega) (by omega)

def PairOk (P : List S78) (n i : Nat) : Prop := (0 ≤ (rd_T78 P i).f0 ∧ (rd_T78 P i).f0 < (rd_T78 P i).f1 ∧ (rd_T78 P i).f1 < n) ∧
  (0 < i → (rd_T78 P (i - 1 : Nat)).f0 < (rd_T78 P i).f0 ∨ ((rd_T78 P (i - 1 : Nat)).f0 = (rd_T78 P i).f0 ∧ (rd_T78 P (i - 1 : Nat)).f1 < (rd_T78 P i).f1))
def PairsOk (P : List S78) (n : Nat) : Prop := ∀ i, i < P.length → PairOk P n i

theorem edge_iff (a b c d : Int) : spec_l2Edge.f a b c d = some (decide (a < c ∨ (a = c ∧ b < d))) := by
  unfold spec_l2Edge.f
  by_cases h : a < c
  · rw [if_pos h]; congr 1; exact (decide_eq_true (.inl h)).symm
  · rw [if_neg h]
    by_cases g : a = c
    · rw [if_pos g]; congr 1; exact decide_eq_decide.2 ⟨fun x => .inr ⟨g, x⟩, fun x => x.elim (fun x => absurd x h) fun x => x.2⟩
    · rw [if_neg g]; congr 1; exact (decide_eq_false fun x => x.elim h fun x => g x.1).symm

theorem comparePairs_ev (a b c d : Int) : ∃ r, Ev (fun k => impl_comparePairs.f k a b c d) r ∧ (0 ≤ r ↔ ¬ (a < c ∨ (a = c ∧ b < d))) ∧ (r = 0 ↔ a = c ∧ b = d) := by
  have cmp : ∀ x y : Int, cmp_Compare_int.f x y = some (if x < y then -1 else if x > y then 1 else 0) := by
    intro x y
    unfold cmp_Compare_int.f cmp_isNaN_int.f
    simp only [bne_self_eq_false, Option.bind_some, Bool.false_eq_true, if_false]
    split
    · rfl
    · split <;> rfl
  have or2 : ∀ x y : Int, Ev (fun k => cmp_Or_int.f k [x, y]) (if x = 0 then y else x) := by
    intro x y
    unfold cmp_Or_int.f
    refine Ev.step (fun k => by rw [cmp_Or_int.l0]) ?_
    simp only [List.length_cons, List.length_nil, show ((0 : Int) < ((0 + 1 + 1 : Nat) : Int)) = True from by simp, show ((0 : Int) ≤ 0) = True from by simp, if_true, show rd [x, y] 0 = x from rfl, show wrap64 (0 + 1) = 1 from by rw [wrap_of (by decide) (by decide)]; rfl]
    by_cases h : x = 0
    · simp only [if_pos h]
      refine Ev.step (fun k => by rw [cmp_Or_int.l0]) ?_
      simp only [List.length_cons, List.length_nil, show ((1 : Int) < ((0 + 1 + 1 : Nat) : Int)) = True from by simp, show ((0 : Int) ≤ 1) = True from by simp, if_true, show rd [x, y] 1 = y from rfl, show wrap64 (1 + 1) = 2 from by rw [wrap_of (by decide) (by decide)]; rfl]
      by_cases g : y = 0
      · simp only [if_pos g]
        refine Ev.step (fun k => by rw [cmp_Or_int.l0]) ?_
        simp only [List.length_cons, List.length_nil, show ((2 : Int) < ((0 + 1 + 1 : Nat) : Int)) = False from by simp, if_false, g]
        exact Ev.now _
      · simp only [if_neg g]
        exact Ev.now _
    · simp only [if_neg h]
      exact Ev.now _
  refine ⟨if (if a < c then -1 else if a > c then 1 else (0 : Int)) = 0 then (if b < d then -1 else if b > d then 1 else 0) else (if a < c then -1 else if a > c then 1 else 0), ?_, ?_, ?_⟩
  · unfold impl_comparePairs.f
    simp only [cmp, Option.bind_some]
    exact Ev.bind (or2 _ _) (Ev.now _)
  · (repeat' split) <;> omega
  · (repeat' split) <;> omega

theorem specPairs_ev (P : List S78) (n : Nat) (hP : P.length ≤ 1048576) (hn : n ≤ 1048576) : Ev (fun k => spec_l2Pairs.f k P n) (decide (PairsOk P n)) := by
  unfold spec_l2Pairs.f
  refine Ev.check (F := fun k i => spec_l2Pairs.l0 k P n i) (n := P.length) (PairOk P n) (X := True) (Y := PairsOk P n) ⟨fun x => ⟨x, trivial⟩, fun x => x.1⟩ ?_ ?_ ?_
  · refine Ev.step (fun k => by rw [spec_l2Pairs.l0]) ?_
    simp only [if_neg (show ¬ ((P.length : Int) < P.length) by omega)]
    exact Ev.now _
  · intro i hi g r ih
    obtain ⟨⟨g1, g2, g3⟩, g4⟩ := g
    refine Ev.step (fun k => by rw [spec_l2Pairs.l0]) ?_
    simp only [if_pos (show (i : Int) < P.length by omega), if_pos (show (0 : Int) ≤ i by omega), in_iff, Option.bind_some, decide_eq_true_eq, wrap_of (show -9223372036854775808 ≤ (n : Int) - 1 by omega) (show (n : Int) - 1 ≤ 9223372036854775807 by omega)]
    simp only [if_pos (show 0 ≤ (rd_T78 P i).f0 ∧ (rd_T78 P i).f0 ≤ (n : Int) - 1 by omega), if_pos (show 0 ≤ (rd_T78 P i).f1 ∧ (rd_T78 P i).f1 ≤ (n : Int) - 1 by omega), if_neg (show ¬ ((rd_T78 P i).f0 ≥ (rd_T78 P i).f1) by omega), wrap_succ hi (show P.length ≤ 140737488351232 by omega)]
    by_cases z : 0 < i
    · simp only [if_pos (show (i : Int) > 0 by omega), wrap_pred hi (show P.length ≤ 140737488351232 by omega) z, if_pos (show (0 : Int) ≤ ((i - 1 : Nat) : Int) by omega), if_pos (show ((i - 1 : Nat) : Int) < P.length by omega), edge_iff, Option.bind_some, decide_eq_true_eq, if_pos (g4 z)]
      exact ih
    · simp only [if_neg (show ¬ ((i : Int) > 0) by omega)]
      exact ih
  · intro i hi g
    refine Ev.step (fun k => by rw [spec_l2Pairs.l0]) ?_
    simp only [if_pos (show (i : Int) < P.length by omega), if_pos (show (0 : Int) ≤ i by omega), in_iff, Option.bind_some, decide_eq_true_eq, wrap_of (show -9223372036854775808 ≤ (n : Int) - 1 by omega) (show (n : Int) - 1 ≤ 9223372036854775807 by omega)]
    by_cases a : 0 ≤ (rd_T78 P i).f0 ∧ (rd_T78 P i).f0 ≤ (n : Int) - 1
    · by_cases b : 0 ≤ (rd_T78 P i).f1 ∧ (rd_T78 P i).f1 ≤ (n : Int) - 1
      · by_cases c : (rd_T78 P i).f0 ≥ (rd_T78 P i).f1
        · simp only [if_pos a, if_pos b, if_pos c]; exact Ev.now _
        · have z : 0 < i := by
            rcases Nat.eq_zero_or_pos i with z | z
            · exact absurd ⟨⟨a.1, by omega, by omega⟩, fun y => absurd y (by omega)⟩ g
            · exact z
          have w : ¬ ((rd_T78 P (i - 1 : Nat)).f0 < (rd_T78 P i).f0 ∨ ((rd_T78 P (i - 1 : Nat)).f0 = (rd_T78 P i).f0 ∧ (rd_T78 P (i - 1 : Nat)).f1 < (rd_T78 P i).f1)) := fun w => g ⟨⟨a.1, by omega, by omega⟩, fun _ => w⟩
          simp only [if_pos a, if_pos b, if_neg c, if_pos (show (i : Int) > 0 by omega), wrap_pred hi (show P.length ≤ 140737488351232 by omega) z, if_pos (show (0 : Int) ≤ ((i - 1 : Nat) : Int) by omega), if_pos (show ((i - 1 : Nat) : Int) < P.length by omega), edge_iff, Option.bind_some, decide_eq_true_eq, if_neg w]
          exact Ev.now _
      · simp only [if_pos a, if_neg b]; exact Ev.now _
    · simp only [if_neg a]; exact Ev.now _

theorem implPairs_ev (P : List S78) (n : Nat) (hP : P.length ≤ 1048576) (hn : n ≤ 1048576) : Ev (fun k => impl_isPairs.f k P n) (decide (PairsOk P n)) := by
  unfold impl_isPairs.f
  refine Ev.check (F := fun k i => impl_isPairs.l0 k P n P P.length i) (n := P.length) (PairOk P n) (X := True) (Y := PairsOk P n) ⟨fun x => ⟨x, trivial⟩, fun x => x.1⟩ ?_ ?_ ?_
  · refine Ev.step (fun k => by rw [impl_isPairs.l0]) ?_
    simp only [if_neg (show ¬ ((P.length : Int) < P.length) by omega)]
    exact Ev.now _
  · intro i hi g r ih
    obtain ⟨⟨g1, g2, g3⟩, g4⟩ := g
    refine Ev.step (fun k => by rw [impl_isPairs.l0]) ?_
    simp only [if_pos (show (i : Int) < P.length by omega), if_pos (show (0 : Int) ≤ i by omega), if_neg (show ¬ ((rd_T78 P i).f0 < 0) by omega), if_neg (show ¬ ((rd_T78 P i).f0 ≥ (rd_T78 P i).f1) by omega), if_neg (show ¬ ((rd_T78 P i).f1 ≥ (n : Int)) by omega), wrap_succ hi (show P.length ≤ 140737488351232 by omega)]
    by_cases z : 0 < i
    · simp only [if_pos (show (i : Int) > 0 by omega), wrap_pred hi (show P.length ≤ 140737488351232 by omega) z, if_pos (show (0 : Int) ≤ ((i - 1 : Nat) : Int) by omega), if_pos (show ((i - 1 : Nat) : Int) < P.length by omega)]
      obtain ⟨c, h1, h2, _⟩ := comparePairs_ev (rd_T78 P (i - 1 : Nat)).f0 (rd_T78 P (i - 1 : Nat)).f1 (rd_T78 P i).f0 (rd_T78 P i).f1
      refine Ev.bind h1 ?_
      simp only [if_neg (show ¬ (c ≥ 0) from fun h => (h2.1 h) (g4 z))]
      exact ih
    · simp only [if_neg (show ¬ ((i : Int) > 0) by omega)]
      exact ih
  · intro i hi g
    refine Ev.step (fun k => by rw [impl_isPairs.l0]) ?_
    simp only [if_pos (show (i : Int) < P.length by omega), if_pos (show (0 : Int) ≤ i by omega)]
    by_cases a : (rd_T78 P i).f0 < 0
    · simp only [if_pos a]; exact Ev.now _
    · by_cases b : (rd_T78 P i).f0 ≥ (rd_T78 P i).f1
      · simp only [if_neg a, if_pos b]; exact Ev.now _
      · by_cases c : (rd_T78 P i).f1 ≥ (n : Int)
        · simp only [if_neg a, if_neg b, if_pos c]; exact Ev.now _
        · have z : 0 < i := by
            rcases Nat.eq_zero_or_pos i with z | z
            · exact absurd ⟨⟨by omega, by omega, by omega⟩, fun y => absurd y (by omega)⟩ g
            · exact z
          have w : ¬ ((rd_T78 P (i - 1 : Nat)).f0 < (rd_T78 P i).f0 ∨ ((rd_T78 P (i - 1 : Nat)).f0 = (rd_T78 P i).f0 ∧ (rd_T78 P (i - 1 : Nat)).f1 < (rd_T78 P i).f1)) := fun w => g ⟨⟨by omega, by omega, by omega⟩, fun _ => w⟩
          simp only [if_neg a, if_neg b, if_neg c, if_pos (show (i : Int) > 0 by omega), wrap_pred hi (show P.length ≤ 140737488351232 by omega) z, if_pos (show (0 : Int) ≤ ((i - 1 : Nat) : Int) by omega), if_pos (show ((i - 1 : Nat) : Int) < P.length by omega)]
          obtain ⟨c, h1, h2, _⟩ := comparePairs_ev (rd_T78 P (i - 1 : Nat)).f0 (rd_T78 P (i - 1 : Nat)).f1 (rd_T78 P i).f0 (rd_T78 P i).f1
          refine Ev.bind h1 ?_
          simp only [if_pos (show c ≥ 0 from h2.2 w)]
          exact Ev.now _

def RowOk (S : List (List Int)) (i : Nat) : Prop := StateOk (rd_L2 S i) ∧ (0 < i → Ev (fun k => spec_l2Before.f k (rd_L2 S (i - 1 : Nat)) (rd_L2 S i)) true)
def SpaceOk (S : List (List Int)) (P : List S78) : Prop := (S.length ≤ 300 ∧ P.length ≤ 6000) ∧ (∀ i, i < S.length → RowOk S i) ∧ PairsOk P S.length

theorem row_len (S : List (List Int)) (hr : ∀ x ∈ S, x.length ≤ 1048576) (i : Nat) (h : i < S.length) : (rd_L2 S i).length ≤ 1048576 := by rw [rd_L2_at S i h]; exact hr _ (List.getElem_mem h)

theorem specSpace_ev (S : List (List Int)) (P : List S78) (hS : S.length ≤ 1048576) (hr : ∀ x ∈ S, x.length ≤ 1048576) (hP : P.length ≤ 1048576) : Ev (fun k => spec_l2Space.f k S P) (decide (SpaceOk S P)) := by
  unfold spec_l2Space.f
  by_cases g : (S.length : Int) > 300
  · simp only [if_pos g]
    rw [decide_eq_false fun x : SpaceOk S P => by have := x.1.1; omega]
    refine Ev.step (fun k => by rw [spec_l2Space.j0]) ?_
    simp only [if_true]
    exact Ev.now _
  · simp only [if_neg g]
    by_cases g' : (P.length : Int) > 6000
    · simp only [decide_eq_true g']
      rw [decide_eq_false fun x : SpaceOk S P => by have := x.1.2; omega]
      refine Ev.step (fun k => by rw [spec_l2Space.j0]) ?_
      simp only [if_true]
      exact Ev.now _
    · simp only [decide_eq_false g']
      refine Ev.step (fun k => by rw [spec_l2Space.j0]) ?_
      simp only [Bool.false_eq_true, if_false]
      refine Ev.check (F := fun k i => spec_l2Space.l0 k i S P) (n := S.length) (RowOk S) (X := PairsOk P S.length) (Y := SpaceOk S P) ⟨fun x => x.2, fun x => ⟨⟨by omega, by omega⟩, x.1, x.2⟩⟩ ?_ ?_ ?_
      · refine Ev.step (fun k => by rw [spec_l2Space.l0]) ?_
        simp only [if_neg (show ¬ ((S.length : Int) < S.length) by omega)]
        exact Ev.bind (specPairs_ev P S.length hP hS) (Ev.now _)
      · intro i hi ⟨g1, g2⟩ r ih
        refine Ev.step (fun k => by rw [spec_l2Space.l0]) ?_
        simp only [if_pos (show (i : Int) < S.length by omega), if_pos (show (0 : Int) ≤ i by omega), wrap_succ hi (show S.length ≤ 140737488351232 by omega)]
        refine Ev.bind (specState_ev _ (row_len S hr i hi)) ?_
        simp only [decide_eq_true g1, if_true]
        by_cases z : 0 < i
        · simp only [if_pos (show (i : Int) > 0 by omega), wrap_pred hi (show S.length ≤ 140737488351232 by omega) z, if_pos (show (0 : Int) ≤ ((i - 1 : Nat) : Int) by omega), if_pos (show ((i - 1 : Nat) : Int) < S.length by omega)]
          refine Ev.bind (g2 z) ?_
          simp only [if_true]
          exact ih
        · simp only [if_neg (show ¬ ((i : Int) > 0) by omega)]
          exact ih
      · intro i hi g
        refine Ev.step (fun k => by rw [spec_l2Space.l0]) ?_
        simp only [if_pos (show (i : Int) < S.length by omega), if_pos (show (0 : Int) ≤ i by omega)]
        refine Ev.bind (specState_ev _ (row_len S hr i hi)) ?_
        by_cases g1 : StateOk (rd_L2 S i)
        · simp only [decide_eq_true g1, if_true]
          have z : 0 < i := by
            rcases Nat.eq_zero_or_pos i with z | z
            · exact absurd ⟨g1, fun y => absurd y (by omega)⟩ g
            · exact z
          simp only [if_pos (show (i : Int) > 0 by omega), wrap_pred hi (show S.length ≤ 140737488351232 by omega) z, if_pos (show (0 : Int) ≤ ((i - 1 : Nat) : Int) by omega), if_pos (show ((i - 1 : Nat) : Int) < S.length by omega)]
          obtain ⟨r, c, h1, _, _⟩ := before_same (rd_L2 S (i - 1 : Nat)) (rd_L2 S i) (row_len S hr _ (by omega)) (row_len S hr i hi)
          refine Ev.bind h1 ?_
          cases r with
          | true => exact absurd ⟨g1, fun _ => h1⟩ g
          | false => simp only [Bool.false_eq_true, if_false]; exact Ev.now _
        · simp only [decide_eq_false g1, Bool.false_eq_true, if_false]
          exact Ev.now _

theorem implSpace_ev (S : List (List Int)) (P : List S78) (hS : S.length ≤ 1048576) (hr : ∀ x ∈ S, x.length ≤ 1048576) (hP : P.length ≤ 1048576) : Ev (fun k => impl_IsSpace.f k S P) (decide (SpaceOk S P)) := by
  unfold impl_IsSpace.f
  by_cases g : (S.length : Int) > 300
  · simp only [if_pos g]
    rw [decide_eq_false fun x : SpaceOk S P => by have := x.1.1; omega]
    refine Ev.step (fun k => by rw [impl_IsSpace.j0]) ?_
    simp only [if_true]
    exact Ev.now _
  · simp only [if_neg g]
    by_cases g' : (P.length : Int) > 6000
    · simp only [decide_eq_true g']
      rw [decide_eq_false fun x : SpaceOk S P => by have := x.1.2; omega]
      refine Ev.step (fun k => by rw [impl_IsSpace.j0]) ?_
      simp only [if_true]
      exact Ev.now _
    · simp only [decide_eq_false g']
      refine Ev.step (fun k => by rw [impl_IsSpace.j0]) ?_
      simp only [Bool.false_eq_true, if_false]
      refine Ev.check (F := fun k i => impl_IsSpace.l0 k S S.length i S P) (n := S.length) (RowOk S) (X := PairsOk P S.length) (Y := SpaceOk S P) ⟨fun x => x.2, fun x => ⟨⟨by omega, by omega⟩, x.1, x.2⟩⟩ ?_ ?_ ?_
      · refine Ev.step (fun k => by rw [impl_IsSpace.l0]) ?_
        simp only [if_neg (show ¬ ((S.length : Int) < S.length) by omega)]
        exact Ev.bind (implPairs_ev P S.length hP hS) (Ev.now _)
      · intro i hi ⟨g1, g2⟩ r ih
        refine Ev.step (fun k => by rw [impl_IsSpace.l0]) ?_
        simp only [if_pos (show (i : Int) < S.length by omega), if_pos (show (0 : Int) ≤ i by omega), wrap_succ hi (show S.length ≤ 140737488351232 by omega)]
        refine Ev.bind (implState_ev _ (row_len S hr i hi)) ?_
        simp only [decide_eq_true g1, if_true]
        by_cases z : 0 < i
        · simp only [if_pos (show (i : Int) > 0 by omega), wrap_pred hi (show S.length ≤ 140737488351232 by omega) z, if_pos (show (0 : Int) ≤ ((i - 1 : Nat) : Int) by omega), if_pos (show ((i - 1 : Nat) : Int) < S.length by omega)]
          obtain ⟨r', c, h1, h2, h3⟩ := before_same (rd_L2 S (i - 1 : Nat)) (rd_L2 S i) (row_len S hr _ (by omega)) (row_len S hr i hi)
          refine Ev.bind h2 ?_
          have e := Ev.unique h1 (g2 z)
          simp only [if_neg (show ¬ (c ≥ 0) from fun h => by rw [h3.1 h] at e; cases e)]
          exact ih
        · simp only [if_neg (show ¬ ((i : Int) > 0) by omega)]
          exact ih
      · intro i hi g
        refine Ev.step (fun k => by rw [impl_IsSpace.l0]) ?_
        simp only [if_pos (show (i : Int) < S.length by omega), if_pos (show (0 : Int) ≤ i by omega)]
        refine Ev.bind (implState_ev _ (row_len S hr i hi)) ?_
        by_cases g1 : StateOk (rd_L2 S i)
        · simp only [decide_eq_true g1, if_true]
          have z : 0 < i := by
            rcases Nat.eq_zero_or_pos i with z | z
            · exact absurd ⟨g1, fun y => absurd y (by omega)⟩ g
            · exact z
          simp only [if_pos (show (i : Int) > 0 by omega), wrap_pred hi (show S.length ≤ 140737488351232 by omega) z, if_pos (show (0 : Int) ≤ ((i - 1 : Nat) : Int) by omega), if_pos (show ((i - 1 : Nat) : Int) < S.length by omega)]
          obtain ⟨r, c, h1, h2, h3⟩ := before_same (rd_L2 S (i - 1 : Nat)) (rd_L2 S i) (row_len S hr _ (by omega)) (row_len S hr i hi)
          refine Ev.bind h2 ?_
          cases r with
          | true => exact absurd ⟨g1, fun _ => h1⟩ g
          | false => simp only [if_pos (show c ≥ 0 from h3.2 rfl)]; exact Ev.now _
        · simp only [decide_eq_false g1, Bool.false_eq_true, if_false]
          exact Ev.now _
/-! ### weights -/
def WeightOk (W : List Int) (n : Nat) : Prop := W.length = n ∧ Within 0 999 W
theorem impl_areLoads_1_contains (l : List Int) (hl : l.length ≤ 1048576) : Ev (fun k => slices_ContainsFunc_int_int_impl_areLoads_1.f k l) (!decide (Within (0) 999 l)) := by
  have h := Ev.loop (F := fun k i => slices_IndexFunc_int_int_impl_areLoads_1.l0 k l l.length i) (n := l.length) (good := fun i : Nat => 0 ≤ rd l i ∧ rd l i ≤ 999) (fun r : Int => r < 0) (fun r => 0 ≤ r) ?_ ?_ ?_
  · obtain ⟨r, h, h1, h2⟩ := h
    unfold slices_ContainsFunc_int_int_impl_areLoads_1.f slices_IndexFunc_int_int_impl_areLoads_1.f
    have e : (!decide (Within (0) 999 l)) = decide (r ≥ 0) := by
      by_cases a : Within (0) 999 l
      · rw [decide_eq_true a, decide_eq_false (by have := h1 a; omega)]; rfl
      · rw [decide_eq_false a, decide_eq_true (h2 a)]; rfl
    rw [e]
    exact Ev.bind h (Ev.now _)
  · refine ⟨-1, Ev.step (fun k => by rw [slices_IndexFunc_int_int_impl_areLoads_1.l0]) ?_, by decide⟩
    simp only [if_neg (show ¬ ((l.length : Int) < l.length) by omega)]
    exact Ev.now _
  · intro i hi g r ih
    refine Ev.step (fun k => by rw [slices_IndexFunc_int_int_impl_areLoads_1.l0]) ?_
    simp only [if_pos (show (i : Int) < l.length by omega), if_pos (show (0 : Int) ≤ i by omega), impl_areLoads_1.f, between_iff, Option.bind_some, decide_eq_true g, Bool.not_true, Bool.false_eq_true, if_false, wrap_succ hi (show l.length ≤ 140737488351232 by omega)]
    exact ih
  · intro i hi g
    refine ⟨i, Ev.step (fun k => by rw [slices_IndexFunc_int_int_impl_areLoads_1.l0]) ?_, by omega⟩
    simp only [if_pos (show (i : Int) < l.length by omega), if_pos (show (0 : Int) ≤ i by omega), impl_areLoads_1.f, between_iff, Option.bind_some, decide_eq_false g, Bool.not_false, if_true]
    exact Ev.now _
theorem specNumbers_ev (W : List Int) (n : Nat) (hW : W.length ≤ 1048576) : Ev (fun k => spec_l11Numbers.f k W n) (decide (WeightOk W n)) := by
  unfold spec_l11Numbers.f
  refine Ev.check (F := fun k i => spec_l11Numbers.l0 k W n i) (n := W.length) (fun i : Nat => 0 ≤ rd W i ∧ rd W i ≤ 999) (X := (W.length : Int) = n) (Y := WeightOk W n) ⟨fun x => ⟨x.2, by rw [x.1]⟩, fun x => ⟨by have := x.2; omega, x.1⟩⟩ ?_ ?_ ?_
  · refine Ev.step (fun k => by rw [spec_l11Numbers.l0]) ?_
    simp only [if_neg (show ¬ ((W.length : Int) < W.length) by omega)]
    exact Ev.now _
  · intro i hi g r ih
    refine Ev.step (fun k => by rw [spec_l11Numbers.l0]) ?_
    simp only [if_pos (show (i : Int) < W.length by omega), if_pos (show (0 : Int) ≤ i by omega), in_iff, Option.bind_some, decide_eq_true_eq, if_pos g, wrap_succ hi (show W.length ≤ 140737488351232 by omega)]
    exact ih
  · intro i hi g
    refine Ev.step (fun k => by rw [spec_l11Numbers.l0]) ?_
    simp only [if_pos (show (i : Int) < W.length by omega), if_pos (show (0 : Int) ≤ i by omega), in_iff, Option.bind_some, decide_eq_true_eq, if_neg g]
    exact Ev.now _
theorem implLoads_ev (W : List Int) (n : Nat) (hW : W.length ≤ 1048576) : Ev (fun k => impl_areLoads.f k W n) (decide (WeightOk W n)) := by
  unfold impl_areLoads.f
  by_cases g : (W.length : Int) = n
  · simp only [if_pos g]
    have e : decide (WeightOk W n) = !!decide (Within 0 999 W) := by
      rw [Bool.not_not]; exact decide_eq_decide.2 ⟨fun x => x.2, fun x => ⟨by omega, x⟩⟩
    rw [e]
    exact Ev.bind (impl_areLoads_1_contains W hW) (Ev.now _)
  · simp only [if_neg g]
    rw [decide_eq_false fun x : WeightOk W n => g (by have := x.1; omega)]
    exact Ev.now _
def WeighedOk (S : List (List Int)) (P : List S78) (W : List Int) : Prop := SpaceOk S P ∧ WeightOk W P.length
theorem specWeighted_ev (S : List (List Int)) (P : List S78) (W : List Int) (hS : S.length ≤ 1048576) (hr : ∀ x ∈ S, x.length ≤ 1048576) (hP : P.length ≤ 1048576) (hW : W.length ≤ 1048576) : Ev (fun k => spec_l11Weighted.f k S P W) (decide (WeighedOk S P W)) := by
  unfold spec_l11Weighted.f
  refine Ev.bind (specSpace_ev S P hS hr hP) ?_
  by_cases g : SpaceOk S P
  · simp only [decide_eq_true g, if_true]
    have e : decide (WeighedOk S P W) = decide (WeightOk W P.length) := decide_eq_decide.2 ⟨fun x => x.2, fun x => ⟨g, x⟩⟩
    rw [e]
    exact Ev.bind (specNumbers_ev W P.length hW) (Ev.now _)
  · simp only [decide_eq_false g, Bool.false_eq_true, if_false]
    rw [decide_eq_false fun x : WeighedOk S P W => g x.1]
    exact Ev.now _
theorem implWeighed_ev (S : List (List Int)) (P : List S78) (W : List Int) (hS : S.length ≤ 1048576) (hr : ∀ x ∈ S, x.length ≤ 1048576) (hP : P.length ≤ 1048576) (hW : W.length ≤ 1048576) : Ev (fun k => impl_isWeighed.f k S P W) (decide (WeighedOk S P W)) := by
  unfold impl_isWeighed.f
  refine Ev.bind (implSpace_ev S P hS hr hP) ?_
  by_cases g : SpaceOk S P
  · simp only [decide_eq_true g, if_true]
    have e : decide (WeighedOk S P W) = decide (WeightOk W P.length) := decide_eq_decide.2 ⟨fun x => x.2, fun x => ⟨g, x⟩⟩
    rw [e]
    exact Ev.bind (implLoads_ev W P.length hW) (Ev.now _)
  · simp only [decide_eq_false g, Bool.false_eq_true, if_false]
    rw [decide_eq_false fun x : WeighedOk S P W => g x.1]
    exact Ev.now _
/-! ### values -/
def ValuesOk (V : List Int) (n : Nat) : Prop := V.length = n ∧ Within (-1000000) 1000000 V
theorem impl_Space_areValues_1_contains (l : List Int) (hl : l.length ≤ 1048576) : Ev (fun k => slices_ContainsFunc_int_int_impl_Space_areValues_1.f k l) (!decide (Within (-1000000) 1000000 l)) := by
  have h := Ev.loop (F := fun k i => slices_IndexFunc_int_int_impl_Space_areValues_1.l0 k l l.length i) (n := l.length) (good := fun i : Nat => -1000000 ≤ rd l i ∧ rd l i ≤ 1000000) (fun r : Int => r < 0) (fun r => 0 ≤ r) ?_ ?_ ?_
  · obtain ⟨r, h, h1, h2⟩ := h
    unfold slices_ContainsFunc_int_int_impl_Space_areValues_1.f slices_IndexFunc_int_int_impl_Space_areValues_1.f
    have e : (!decide (Within (-1000000) 1000000 l)) = decide (r ≥ 0) := by
      by_cases a : Within (-1000000) 1000000 l
      · rw [decide_eq_true a, decide_eq_false (by have := h1 a; omega)]; rfl
      · rw [decide_eq_false a, decide_eq_true (h2 a)]; rfl
    rw [e]
    exact Ev.bind h (Ev.now _)
  · refine ⟨-1, Ev.step (fun k => by rw [slices_IndexFunc_int_int_impl_Space_areValues_1.l0]) ?_, by decide⟩
    simp only [if_neg (show ¬ ((l.length : Int) < l.length) by omega)]
    exact Ev.now _
  · intro i hi g r ih
    refine Ev.step (fun k => by rw [slices_IndexFunc_int_int_impl_Space_areValues_1.l0]) ?_
    simp only [if_pos (show (i : Int) < l.length by omega), if_pos (show (0 : Int) ≤ i by omega), impl_Space_areValues_1.f, between_iff, Option.bind_some, decide_eq_true g, Bool.not_true, Bool.false_eq_true, if_false, wrap_succ hi (show l.length ≤ 140737488351232 by omega)]
    exact ih
  · intro i hi g
    refine ⟨i, Ev.step (fun k => by rw [slices_IndexFunc_int_int_impl_Space_areValues_1.l0]) ?_, by omega⟩
    simp only [if_pos (show (i : Int) < l.length by omega), if_pos (show (0 : Int) ≤ i by omega), impl_Space_areValues_1.f, between_iff, Option.bind_some, decide_eq_false g, Bool.not_false, if_true]
    exact Ev.now _
theorem specValues_ev (S : List (List Int)) (P : List S78) (V : List Int) (hS : S.length ≤ 1048576) (hr : ∀ x ∈ S, x.length ≤ 1048576) (hP : P.length ≤ 1048576) (hV : V.length ≤ 1048576) (hsp : SpaceOk S P) : Ev (fun k => spec_l2Values.f k S P V) (decide (ValuesOk V S.length)) := by
  unfold spec_l2Values.f
  refine Ev.check (F := fun k i => spec_l2Values.l0 k V i S P) (n := V.length) (fun i : Nat => -1000000 ≤ rd V i ∧ rd V i ≤ 1000000) (X := (V.length : Int) = S.length) (Y := ValuesOk V S.length) ⟨fun x => ⟨x.2, by rw [x.1]⟩, fun x => ⟨by have := x.2; omega, x.1⟩⟩ ?_ ?_ ?_
  · refine Ev.step (fun k => by rw [spec_l2Values.l0]) ?_
    simp only [if_neg (show ¬ ((V.length : Int) < V.length) by omega)]
    refine Ev.bind (specSpace_ev S P hS hr hP) ?_
    simp only [decide_eq_true hsp, if_true]
    exact Ev.now _
  · intro i hi g r ih
    refine Ev.step (fun k => by rw [spec_l2Values.l0]) ?_
    simp only [if_pos (show (i : Int) < V.length by omega), if_pos (show (0 : Int) ≤ i by omega), in_iff, Option.bind_some, decide_eq_true_eq, if_pos g, wrap_succ hi (show V.length ≤ 140737488351232 by omega)]
    exact ih
  · intro i hi g
    refine Ev.step (fun k => by rw [spec_l2Values.l0]) ?_
    simp only [if_pos (show (i : Int) < V.length by omega), if_pos (show (0 : Int) ≤ i by omega), in_iff, Option.bind_some, decide_eq_true_eq, if_neg g]
    exact Ev.now _
theorem implValues_ev (S : List (List Int)) (P : List S78) (V : List Int) (hV : V.length ≤ 1048576) : Ev (fun k => impl_Space_areValues.f k S P V) (decide (ValuesOk V S.length)) := by
  unfold impl_Space_areValues.f
  by_cases g : (V.length : Int) = S.length
  · simp only [if_pos g]
    have e : decide (ValuesOk V S.length) = !!decide (Within (-1000000) 1000000 V) := by
      rw [Bool.not_not]; exact decide_eq_decide.2 ⟨fun x => x.2, fun x => ⟨by omega, x⟩⟩
    rw [e]
    exact Ev.bind (impl_Space_areValues_1_contains V hV) (Ev.now _)
  · simp only [if_neg g]
    rw [decide_eq_false fun x : ValuesOk V S.length => g (by have := x.1; omega)]
    exact Ev.now _
/-! ### fair prices -/
def FairAt (P : List S78) (W V : List Int) (i : Nat) : Prop := rd V (rd_T78 P i).f0 - rd V (rd_T78 P i).f1 ≤ rd W i ∧ rd V (rd_T78 P i).f1 - rd V (rd_T78 P i).f0 ≤ rd W i
def FairOk (P : List S78) (W V : List Int) : Prop := ∀ i, i < P.length → FairAt P W V i
theorem specFair_ev (S : List (List Int)) (P : List S78) (W V : List Int) (hP : P.length ≤ 1048576) (hw : W.length = P.length) (hv : ValuesOk V S.length) (hp : PairsOk P S.length) : Ev (fun k => spec_l11Fair.f k S P W V) (decide (FairOk P W V)) := by
  unfold spec_l11Fair.f
  have pos : ∀ i, i < P.length → (0 ≤ (rd_T78 P i).f0 ∧ (rd_T78 P i).f0 < V.length) ∧ (0 ≤ (rd_T78 P i).f1 ∧ (rd_T78 P i).f1 < V.length) ∧ (-1000000 ≤ rd V (rd_T78 P i).f0 ∧ rd V (rd_T78 P i).f0 ≤ 1000000) ∧ (-1000000 ≤ rd V (rd_T78 P i).f1 ∧ rd V (rd_T78 P i).f1 ≤ 1000000) := by
    intro i hi
    obtain ⟨⟨a, b, c⟩, _⟩ := hp i hi
    have e := hv.1
    exact ⟨⟨a, by omega⟩, ⟨by omega, by omega⟩, hv.2.at a (by omega), hv.2.at (by omega) (by omega)⟩
  have most : ∀ a b : Int, -1000000 ≤ a → a ≤ 1000000 → -1000000 ≤ b → b ≤ 1000000 → spec_l1Most.f (wrap64 (a - b)) (wrap64 (-(wrap64 (a - b)))) = some (if a - b > b - a then a - b else b - a) := by
    intro a b h1 h2 h3 h4
    rw [wrap_of (x := a - b) (by omega) (by omega), wrap_of (by omega) (by omega), show -(a - b) = b - a by omega]
    unfold spec_l1Most.f
    split <;> rfl
  refine Ev.check (F := fun k i => spec_l11Fair.l0 k W V i S P) (n := P.length) (FairAt P W V) (X := True) (Y := FairOk P W V) ⟨fun x => ⟨x, trivial⟩, fun x => x.1⟩ ?_ ?_ ?_
  · refine Ev.step (fun k => by rw [spec_l11Fair.l0]) ?_
    simp only [if_neg (show ¬ ((P.length : Int) < P.length) by omega)]
    exact Ev.now _
  · intro i hi g r ih
    obtain ⟨⟨a, b⟩, ⟨c, d⟩, ⟨e, f⟩, ⟨m, n⟩⟩ := pos i hi
    obtain ⟨g1, g2⟩ := g
    refine Ev.step (fun k => by rw [spec_l11Fair.l0]) ?_
    simp only [if_pos (show (i : Int) < P.length by omega), if_pos (show (0 : Int) ≤ i by omega), if_pos a, if_pos b, if_pos c, if_pos d, most _ _ e f m n, Option.bind_some, if_pos (show (i : Int) < W.length by omega), wrap_succ hi (show P.length ≤ 140737488351232 by omega)]
    have z : ¬ ((if rd V (rd_T78 P i).f0 - rd V (rd_T78 P i).f1 > rd V (rd_T78 P i).f1 - rd V (rd_T78 P i).f0 then rd V (rd_T78 P i).f0 - rd V (rd_T78 P i).f1 else rd V (rd_T78 P i).f1 - rd V (rd_T78 P i).f0) > rd W i) := by split <;> omega
    simp only [if_neg z]
    exact ih
  · intro i hi g
    obtain ⟨⟨a, b⟩, ⟨c, d⟩, ⟨e, f⟩, ⟨m, n⟩⟩ := pos i hi
    refine Ev.step (fun k => by rw [spec_l11Fair.l0]) ?_
    simp only [if_pos (show (i : Int) < P.length by omega), if_pos (show (0 : Int) ≤ i by omega), if_pos a, if_pos b, if_pos c, if_pos d, most _ _ e f m n, Option.bind_some, if_pos (show (i : Int) < W.length by omega)]
    unfold FairAt at g
    have z : (if rd V (rd_T78 P i).f0 - rd V (rd_T78 P i).f1 > rd V (rd_T78 P i).f1 - rd V (rd_T78 P i).f0 then rd V (rd_T78 P i).f0 - rd V (rd_T78 P i).f1 else rd V (rd_T78 P i).f1 - rd V (rd_T78 P i).f0) > rd W i := by split <;> omega
    simp only [if_pos z]
    exact Ev.now _
theorem implFair_ev (S : List (List Int)) (P : List S78) (W V : List Int) (hP : P.length ≤ 1048576) (hw : W.length = P.length) (hv : ValuesOk V S.length) (hp : PairsOk P S.length) : Ev (fun k => impl_Space_areFair.f k S P W V) (decide (FairOk P W V)) := by
  unfold impl_Space_areFair.f
  have dif : ∀ i, i < P.length → impl_differ.f V (rd_T78 P i).f0 (rd_T78 P i).f1 = some (mx (rd V (rd_T78 P i).f0 - rd V (rd_T78 P i).f1) (rd V (rd_T78 P i).f1 - rd V (rd_T78 P i).f0)) := by
    intro i hi
    obtain ⟨⟨a, b, c⟩, _⟩ := hp i hi
    have e := hv.1
    have p := hv.2.at a (show (rd_T78 P i).f0 < V.length by omega)
    have q := hv.2.at (show 0 ≤ (rd_T78 P i).f1 by omega) (show (rd_T78 P i).f1 < V.length by omega)
    unfold impl_differ.f
    rw [if_pos a, if_pos (by omega), if_pos (by omega), if_pos (by omega), wrap_of (by omega) (by omega), wrap_of (by omega) (by omega)]
  refine Ev.check (F := fun k i => impl_Space_areFair.l0 k W V P P.length i) (n := P.length) (FairAt P W V) (X := True) (Y := FairOk P W V) ⟨fun x => ⟨x, trivial⟩, fun x => x.1⟩ ?_ ?_ ?_
  · refine Ev.step (fun k => by rw [impl_Space_areFair.l0]) ?_
    simp only [if_neg (show ¬ ((P.length : Int) < P.length) by omega)]
    exact Ev.now _
  · intro i hi g r ih
    obtain ⟨g1, g2⟩ := g
    refine Ev.step (fun k => by rw [impl_Space_areFair.l0]) ?_
    simp only [if_pos (show (i : Int) < P.length by omega), if_pos (show (0 : Int) ≤ i by omega), dif i hi, Option.bind_some, if_pos (show (i : Int) < W.length by omega), wrap_succ hi (show P.length ≤ 140737488351232 by omega)]
    have z : ¬ (mx (rd V (rd_T78 P i).f0 - rd V (rd_T78 P i).f1) (rd V (rd_T78 P i).f1 - rd V (rd_T78 P i).f0) > rd W i) := by unfold mx; split <;> omega
    simp only [if_neg z]
    exact ih
  · intro i hi g
    refine Ev.step (fun k => by rw [impl_Space_areFair.l0]) ?_
    simp only [if_pos (show (i : Int) < P.length by omega), if_pos (show (0 : Int) ≤ i by omega), dif i hi, Option.bind_some, if_pos (show (i : Int) < W.length by omega)]
    unfold FairAt at g
    have z : mx (rd V (rd_T78 P i).f0 - rd V (rd_T78 P i).f1) (rd V (rd_T78 P i).f1 - rd V (rd_T78 P i).f0) > rd W i := by unfold mx; split <;> omega
    simp only [if_pos z]
    exact Ev.now _
/-! ### steps and ways -/
def PLt (a b c d : Int) : Prop := a < c ∨ (a = c ∧ b < d)
theorem pairs_sorted {P : List S78} {n : Nat} (hp : PairsOk P n) : ∀ j i : Nat, i < j → j < P.length → PLt (rd_T78 P i).f0 (rd_T78 P i).f1 (rd_T78 P j).f0 (rd_T78 P j).f1 := by
  intro j
  induction j with
  | zero => intro i h; exact absurd h (by omega)
  | succ j ih =>
    intro i h hj
    have h1 := (hp (j + 1) hj).2 (by omega)
    rw [show j + 1 - 1 = j by omega] at h1
    by_cases e : i = j
    · subst e; exact h1
    · have h2 := ih i (by omega) (by omega)
      unfold PLt at *
      omega
def Hit (P : List S78) (a b : Int) (j : Nat) : Prop := (rd_T78 P j).f0 = a ∧ (rd_T78 P j).f1 = b
theorem hit_one {P : List S78} {n : Nat} (hp : PairsOk P n) {a b : Int} {i j : Nat} (hi : i < P.length) (hj : j < P.length) (h : Hit P a b i) (k : Hit P a b j) : i = j := by
  obtain ⟨h1, h2⟩ := h
  obtain ⟨k1, k2⟩ := k
  rcases Nat.lt_trichotomy i j with e | e | e
  · have := pairs_sorted hp j i e hj; unfold PLt at this; omega
  · exact e
  · have := pairs_sorted hp i j e hi; unfold PLt at this; omega
theorem u64_wrap {x : Int} (h0 : 0 ≤ x) (h1 : x < 18446744073709551616) : IntKind.u64.wrap x = x := by
  simp only [IntKind.wrap, IntKind.signed, IntKind.bits]
  simp
  omega

theorem search_ev (P : List S78) (n : Nat) (hP : P.length ≤ 1048576) (hp : PairsOk P n) (a b : Int) :
    ∃ (i : Nat) (f : Bool), Ev (fun k => slices_BinarySearchFunc_2_int_2_int_2_int_impl_comparePairs.f k P a b) ((i : Int), f) ∧ (f = true → i < P.length ∧ Hit P a b i) ∧ (f = false → ∀ j, j < P.length → ¬ Hit P a b j) := by
  have main : ∀ d lo hi : Nat, lo ≤ hi → hi ≤ P.length → hi - lo ≤ d → (∀ j, j < lo → PLt (rd_T78 P j).f0 (rd_T78 P j).f1 a b) → (∀ j, hi ≤ j → j < P.length → ¬ PLt (rd_T78 P j).f0 (rd_T78 P j).f1 a b) →
      ∃ (i : Nat) (f : Bool), Ev (fun k => slices_BinarySearchFunc_2_int_2_int_2_int_impl_comparePairs.l0 k P P.length lo hi a b) ((i : Int), f) ∧ (f = true → i < P.length ∧ Hit P a b i) ∧ (f = false → ∀ j, j < P.length → ¬ Hit P a b j) := by
    intro d
    induction d with
    | zero =>
      intro lo hi h1 h2 h3 h4 h5
      obtain rfl : lo = hi := by omega
      by_cases g : lo < P.length
      · obtain ⟨c, hc, _, hz⟩ := comparePairs_ev (rd_T78 P lo).f0 (rd_T78 P lo).f1 a b
        refine ⟨lo, c == 0, ?_, ?_, ?_⟩
        · refine Ev.step (fun k => by rw [slices_BinarySearchFunc_2_int_2_int_2_int_impl_comparePairs.l0]) ?_
          simp only [if_neg (show ¬ ((lo : Int) < lo) by omega), if_pos (show (lo : Int) < P.length by omega), if_pos (show (0 : Int) ≤ lo by omega)]
          exact Ev.bind hc (Ev.now _)
        · intro e
          exact ⟨g, hz.1 (by simpa using e)⟩
        · intro e j hj hh
          have e' : ¬ (c = 0) := by simpa using e
          have ne : ¬ Hit P a b lo := fun h => e' (hz.2 h)
          unfold Hit at hh ne
          rcases Nat.lt_trichotomy j lo with x | x | x
          · have := h4 j x; unfold PLt at this; omega
          · subst x; exact ne hh
          · have y := pairs_sorted hp j lo x hj
            have z := h5 lo (Nat.le_refl _) g
            unfold PLt at y z
            omega
      · refine ⟨lo, false, ?_, (fun h => by cases h), ?_⟩
        · refine Ev.step (fun k => by rw [slices_BinarySearchFunc_2_int_2_int_2_int_impl_comparePairs.l0]) ?_
          simp only [if_neg (show ¬ ((lo : Int) < lo) by omega), if_neg (show ¬ ((lo : Int) < P.length) by omega)]
          exact Ev.now _
        · intro _ j hj hh
          have := h4 j (by omega)
          unfold Hit at hh
          unfold PLt at this
          omega
    | succ d ih =>
      intro lo hi h1 h2 h3 h4 h5
      by_cases e : lo = hi
      · exact ih lo hi h1 h2 (by omega) h4 h5
      · have hm : wrap64 ((IntKind.u64.wrap (wrap64 ((lo : Int) + hi))) / 2) = (((lo + hi) / 2 : Nat) : Int) := by
          rw [wrap_of (x := (lo : Int) + hi) (by omega) (by omega), u64_wrap (by omega) (by omega), wrap_of (by omega) (by omega)]
          omega
        generalize hmid : (lo + hi) / 2 = m at hm
        have m1 : lo ≤ m := by omega
        have m2 : m < hi := by omega
        obtain ⟨c, hc, hs, _⟩ := comparePairs_ev (rd_T78 P m).f0 (rd_T78 P m).f1 a b
        by_cases g : c < 0
        · have lt : PLt (rd_T78 P m).f0 (rd_T78 P m).f1 a b := Classical.byContradiction fun h => by have := hs.2 h; omega
          obtain ⟨i, f, q1, q2⟩ := ih (m + 1) hi (by omega) h2 (by omega) (fun j hj => by
            by_cases x : j = m
            · subst x; exact lt
            · have := pairs_sorted hp m j (by omega) (by omega)
              unfold PLt at *
              omega) h5
          refine ⟨i, f, ?_, q2⟩
          refine Ev.step (fun k => by rw [slices_BinarySearchFunc_2_int_2_int_2_int_impl_comparePairs.l0]) ?_
          simp only [if_pos (show (lo : Int) < hi by omega), hm, if_pos (show (0 : Int) ≤ m by omega), if_pos (show (m : Int) < P.length by omega)]
          refine Ev.bind hc ?_
          simp only [if_pos g, wrap_succ m2 (show hi ≤ 140737488351232 by omega)]
          exact q1
        · have nlt : ¬ PLt (rd_T78 P m).f0 (rd_T78 P m).f1 a b := hs.1 (by omega)
          obtain ⟨i, f, q1, q2⟩ := ih lo m m1 (by omega) (by omega) h4 (fun j hj hl => by
            by_cases x : j = m
            · subst x; exact nlt
            · have := pairs_sorted hp j m (by omega) hl
              unfold PLt at *
              omega)
          refine ⟨i, f, ?_, q2⟩
          refine Ev.step (fun k => by rw [slices_BinarySearchFunc_2_int_2_int_2_int_impl_comparePairs.l0]) ?_
          simp only [if_pos (show (lo : Int) < hi by omega), hm, if_pos (show (0 : Int) ≤ m by omega), if_pos (show (m : Int) < P.length by omega)]
          refine Ev.bind hc ?_
          simp only [if_neg g]
          exact q1
  unfold slices_BinarySearchFunc_2_int_2_int_2_int_impl_comparePairs.f
  exact main P.length 0 P.length (by omega) (by omega) (by omega) (fun j h => absurd h (by omega)) (fun j h1 h2 => absurd h2 (by omega))

def HasStep (P : List S78) (x y : Int) : Prop := ∃ j, j < P.length ∧ Hit P (mn x y) (mx x y) j
theorem least_eq (x y : Int) : spec_l1Least.f x y = some (mn x y) := by
  unfold spec_l1Least.f mn
  by_cases h : x < y
  · rw [if_pos h]; congr 1; split <;> omega
  · rw [if_neg h]; congr 1; split <;> omega
theorem most_eq (x y : Int) : spec_l1Most.f x y = some (mx x y) := by
  unfold spec_l1Most.f mx
  by_cases h : x > y
  · rw [if_pos h]; congr 1; split <;> omega
  · rw [if_neg h]; congr 1; split <;> omega
theorem hit_iff (P : List S78) (a b : Int) (i : Nat) : ((((rd_T78 P i).f0) == a && (((rd_T78 P i).f1) == b)) = true) ↔ Hit P a b i := by
  unfold Hit; simp

theorem specStep_ev (S : List (List Int)) (P : List S78) (hP : P.length ≤ 1048576) (x y : Int) : Ev (fun k => spec_l2Step.f k S P x y) (decide (HasStep P x y)) := by
  unfold spec_l2Step.f
  have hl := Ev.loop (F := fun k i => spec_l2Step.l0 k x y i S P) (n := P.length) (good := fun i => ¬ Hit P (mn x y) (mx x y) i) (· = false) (· = true) ?_ ?_ ?_
  · obtain ⟨r, h, h1, h2⟩ := hl
    have e : r = decide (HasStep P x y) := by
      by_cases a : ∀ i, i < P.length → ¬ Hit P (mn x y) (mx x y) i
      · rw [h1 a]; exact (decide_eq_false fun z => by obtain ⟨j, hj, hh⟩ := z; exact a j hj hh).symm
      · rw [h2 a]; exact (decide_eq_true (Classical.byContradiction fun z => a fun i hi hh => z ⟨i, hi, hh⟩)).symm
    rw [← e]; exact h
  · refine ⟨false, Ev.step (fun k => by rw [spec_l2Step.l0]) ?_, rfl⟩
    simp only [if_neg (show ¬ ((P.length : Int) < P.length) by omega)]
    exact Ev.now _
  · intro i hi g r ih
    refine Ev.step (fun k => by rw [spec_l2Step.l0]) ?_
    simp only [if_pos (show (i : Int) < P.length by omega), if_pos (show (0 : Int) ≤ i by omega), least_eq, most_eq, Option.bind_some, hit_iff, if_neg g, wrap_succ hi (show P.length ≤ 140737488351232 by omega)]
    exact ih
  · intro i hi g
    refine ⟨true, Ev.step (fun k => by rw [spec_l2Step.l0]) ?_, rfl⟩
    simp only [if_pos (show (i : Int) < P.length by omega), if_pos (show (0 : Int) ≤ i by omega), least_eq, most_eq, Option.bind_some, hit_iff, if_pos (Classical.not_not.1 g)]
    exact Ev.now _
theorem implStep_ev (S : List (List Int)) (P : List S78) (n : Nat) (hP : P.length ≤ 1048576) (hp : PairsOk P n) (x y : Int) : Ev (fun k => impl_Space_isStep.f k S P x y) (decide (HasStep P x y)) := by
  unfold impl_Space_isStep.f impl_pair.f
  simp only [Option.bind_some]
  obtain ⟨i, f, h, h1, h2⟩ := search_ev P n hP hp (mn x y) (mx x y)
  have e : decide (HasStep P x y) = f := by
    cases f with
    | true => exact decide_eq_true ⟨i, (h1 rfl).1, (h1 rfl).2⟩
    | false => exact decide_eq_false fun z => by obtain ⟨j, hj, hh⟩ := z; exact h2 rfl j hj hh
  rw [e]
  exact Ev.bind h (Ev.now _)

def PlaceAt (P : List S78) (n : Nat) (w : List Int) (i : Nat) : Prop := (0 ≤ rd w i ∧ rd w i ≤ (n : Int) - 1) ∧ (0 < i → HasStep P (rd w (i - 1 : Nat)) (rd w i))
def WayOk (P : List S78) (n : Nat) (w : List Int) : Prop := (w.length : Int) > 0 ∧ ∀ i, i < w.length → PlaceAt P n w i

theorem specIsWay_ev (S : List (List Int)) (P : List S78) (w : List Int) (hS : S.length ≤ 1048576) (hP : P.length ≤ 1048576) (hw : w.length ≤ 1048576) : Ev (fun k => spec_IsWay.l0 k w 0 S P) (decide (WayOk P S.length w), true) := by
  have hl := Ev.loop (F := fun k i => spec_IsWay.l0 k w i S P) (n := w.length) (good := PlaceAt P S.length w) (· = (decide ((w.length : Int) > 0), true)) (· = (false, true)) ?_ ?_ ?_
  · obtain ⟨r, h, h1, h2⟩ := hl
    have e : r = (decide (WayOk P S.length w), true) := by
      by_cases a : ∀ i, i < w.length → PlaceAt P S.length w i
      · rw [h1 a]; congr 1; exact decide_eq_decide.2 ⟨fun z => ⟨z, a⟩, fun z => z.1⟩
      · rw [h2 a]; congr 1; exact (decide_eq_false fun z => a z.2).symm
    rw [← e]; exact h
  · refine ⟨_, Ev.step (fun k => by rw [spec_IsWay.l0]) ?_, rfl⟩
    simp only [if_neg (show ¬ ((w.length : Int) < w.length) by omega)]
    exact Ev.now _
  · intro i hi ⟨g1, g2⟩ r ih
    refine Ev.step (fun k => by rw [spec_IsWay.l0]) ?_
    simp only [if_pos (show (i : Int) < w.length by omega), if_pos (show (0 : Int) ≤ i by omega), wrap_of (show -9223372036854775808 ≤ (S.length : Int) - 1 by omega) (show (S.length : Int) - 1 ≤ 9223372036854775807 by omega), in_iff, Option.bind_some, decide_eq_true_eq, if_pos g1, wrap_succ hi (show w.length ≤ 140737488351232 by omega)]
    by_cases z : 0 < i
    · simp only [if_pos (show (i : Int) > 0 by omega), wrap_pred hi (show w.length ≤ 140737488351232 by omega) z, if_pos (show (0 : Int) ≤ ((i - 1 : Nat) : Int) by omega), if_pos (show ((i - 1 : Nat) : Int) < w.length by omega)]
      refine Ev.bind (specStep_ev S P hP _ _) ?_
      simp only [decide_eq_true (g2 z), if_true]
      exact ih
    · simp only [if_neg (show ¬ ((i : Int) > 0) by omega)]
      exact ih
  · intro i hi g
    refine ⟨_, Ev.step (fun k => by rw [spec_IsWay.l0]) ?_, rfl⟩
    simp only [if_pos (show (i : Int) < w.length by omega), if_pos (show (0 : Int) ≤ i by omega), wrap_of (show -9223372036854775808 ≤ (S.length : Int) - 1 by omega) (show (S.length : Int) - 1 ≤ 9223372036854775807 by omega), in_iff, Option.bind_some, decide_eq_true_eq]
    by_cases g1 : 0 ≤ rd w i ∧ rd w i ≤ (S.length : Int) - 1
    · have z : 0 < i := by
        rcases Nat.eq_zero_or_pos i with z | z
        · exact absurd ⟨g1, fun y => absurd y (by omega)⟩ g
        · exact z
      have ns : ¬ HasStep P (rd w (i - 1 : Nat)) (rd w i) := fun h => g ⟨g1, fun _ => h⟩
      simp only [if_pos g1, if_pos (show (i : Int) > 0 by omega), wrap_pred hi (show w.length ≤ 140737488351232 by omega) z, if_pos (show (0 : Int) ≤ ((i - 1 : Nat) : Int) by omega), if_pos (show ((i - 1 : Nat) : Int) < w.length by omega)]
      refine Ev.bind (specStep_ev S P hP _ _) ?_
      simp only [decide_eq_false ns, Bool.false_eq_true, if_false]
      exact Ev.now _
    · simp only [if_neg g1]
      exact Ev.now _
theorem implIsWay_ev (S : List (List Int)) (P : List S78) (w : List Int) (hS : S.length ≤ 1048576) (hP : P.length ≤ 1048576) (hw : w.length ≤ 1048576) (hp : PairsOk P S.length) : Ev (fun k => impl_IsWay.l0 k w w w.length 0 S P) (decide (WayOk P S.length w), true) := by
  have hl := Ev.loop (F := fun k i => impl_IsWay.l0 k w w w.length i S P) (n := w.length) (good := PlaceAt P S.length w) (· = (decide ((w.length : Int) > 0), true)) (· = (false, true)) ?_ ?_ ?_
  · obtain ⟨r, h, h1, h2⟩ := hl
    have e : r = (decide (WayOk P S.length w), true) := by
      by_cases a : ∀ i, i < w.length → PlaceAt P S.length w i
      · rw [h1 a]; congr 1; exact decide_eq_decide.2 ⟨fun z => ⟨z, a⟩, fun z => z.1⟩
      · rw [h2 a]; congr 1; exact (decide_eq_false fun z => a z.2).symm
    rw [← e]; exact h
  · refine ⟨_, Ev.step (fun k => by rw [impl_IsWay.l0]) ?_, rfl⟩
    simp only [if_neg (show ¬ ((w.length : Int) < w.length) by omega)]
    exact Ev.now _
  · intro i hi ⟨g1, g2⟩ r ih
    refine Ev.step (fun k => by rw [impl_IsWay.l0]) ?_
    simp only [impl_Space_isPlace.f, if_pos (show (i : Int) < w.length by omega), if_pos (show (0 : Int) ≤ i by omega), wrap_of (show -9223372036854775808 ≤ (S.length : Int) - 1 by omega) (show (S.length : Int) - 1 ≤ 9223372036854775807 by omega), between_iff, Option.bind_some, decide_eq_true_eq, if_pos g1, wrap_succ hi (show w.length ≤ 140737488351232 by omega)]
    by_cases z : 0 < i
    · simp only [if_pos (show (i : Int) > 0 by omega), wrap_pred hi (show w.length ≤ 140737488351232 by omega) z, if_pos (show (0 : Int) ≤ ((i - 1 : Nat) : Int) by omega), if_pos (show ((i - 1 : Nat) : Int) < w.length by omega)]
      refine Ev.bind (implStep_ev S P S.length hP hp _ _) ?_
      simp only [decide_eq_true (g2 z), if_true]
      exact ih
    · simp only [if_neg (show ¬ ((i : Int) > 0) by omega)]
      exact ih
  · intro i hi g
    refine ⟨_, Ev.step (fun k => by rw [impl_IsWay.l0]) ?_, rfl⟩
    simp only [impl_Space_isPlace.f, if_pos (show (i : Int) < w.length by omega), if_pos (show (0 : Int) ≤ i by omega), wrap_of (show -9223372036854775808 ≤ (S.length : Int) - 1 by omega) (show (S.length : Int) - 1 ≤ 9223372036854775807 by omega), between_iff, Option.bind_some, decide_eq_true_eq]
    by_cases g1 : 0 ≤ rd w i ∧ rd w i ≤ (S.length : Int) - 1
    · have z : 0 < i := by
        rcases Nat.eq_zero_or_pos i with z | z
        · exact absurd ⟨g1, fun y => absurd y (by omega)⟩ g
        · exact z
      have ns : ¬ HasStep P (rd w (i - 1 : Nat)) (rd w i) := fun h => g ⟨g1, fun _ => h⟩
      simp only [if_pos g1, if_pos (show (i : Int) > 0 by omega), wrap_pred hi (show w.length ≤ 140737488351232 by omega) z, if_pos (show (0 : Int) ≤ ((i - 1 : Nat) : Int) by omega), if_pos (show ((i - 1 : Nat) : Int) < w.length by omega)]
      refine Ev.bind (implStep_ev S P S.length hP hp _ _) ?_
      simp only [decide_eq_false ns, Bool.false_eq_true, if_false]
      exact Ev.now _
    · simp only [if_neg g1]
      exact Ev.now _
theorem specWay_ev (S : List (List Int)) (P : List S78) (w : List Int) (hS : S.length ≤ 1048576) (hr : ∀ x ∈ S, x.length ≤ 1048576) (hP : P.length ≤ 1048576) (hw : w.length ≤ 1048576) (hsp : SpaceOk S P) : Ev (fun k => spec_l11Way.f k S P w) (decide (WayOk P S.length w)) := by
  unfold spec_l11Way.f spec_IsWay.f
  refine Ev.bind (a := (decide (WayOk P S.length w), true)) (Ev.bind (specSpace_ev S P hS hr hP) ?_) ?_
  · simp only [decide_eq_true hsp, if_true]
    exact specIsWay_ev S P w hS hP hw
  · by_cases g : WayOk P S.length w
    · simp only [decide_eq_true g, if_true]; exact Ev.now _
    · simp only [decide_eq_false g, Bool.false_eq_true, if_false]; exact Ev.now _
theorem implWay_ev (S : List (List Int)) (P : List S78) (w : List Int) (hS : S.length ≤ 1048576) (hr : ∀ x ∈ S, x.length ≤ 1048576) (hP : P.length ≤ 1048576) (hw : w.length ≤ 1048576) (hsp : SpaceOk S P) : Ev (fun k => impl_isWay.f k S P w) (decide (WayOk P S.length w)) := by
  unfold impl_isWay.f impl_IsWay.f
  refine Ev.bind (a := (decide (WayOk P S.length w), true)) (Ev.bind (implSpace_ev S P hS hr hP) ?_) ?_
  · simp only [decide_eq_true hsp, if_true]
    exact implIsWay_ev S P w hS hP hw hsp.2.2
  · exact Ev.now _
/-! ### a way's cost -/
theorem weight_same (S : List (List Int)) (P : List S78) (W : List Int) (n : Nat) (hP : P.length ≤ 1048576) (hp : PairsOk P n) (hW : W.length = P.length) (x y : Int) (hs : HasStep P x y) :
    ∃ t, Ev (fun k => spec_l11Weight.f k S P W x y) t ∧ Ev (fun k => impl_Space_weight.f k S P W x y) t := by
  obtain ⟨j, hj, hh⟩ := hs
  refine ⟨rd W j, ?_, ?_⟩
  · unfold spec_l11Weight.f
    have hl := Ev.loop (F := fun k i => spec_l11Weight.l0 k W x y i S P) (n := P.length) (good := fun i => ¬ Hit P (mn x y) (mx x y) i) (fun _ => True) (· = rd W j) ?_ ?_ ?_
    · obtain ⟨r, h, h1, h2⟩ := hl
      have e : r = rd W j := h2 fun a => a j hj hh
      rw [← e]; exact h
    · refine ⟨-1, Ev.step (fun k => by rw [spec_l11Weight.l0]) ?_, trivial⟩
      simp only [if_neg (show ¬ ((P.length : Int) < P.length) by omega)]
      exact Ev.now _
    · intro i hi g r ih
      refine Ev.step (fun k => by rw [spec_l11Weight.l0]) ?_
      simp only [if_pos (show (i : Int) < P.length by omega), if_pos (show (0 : Int) ≤ i by omega), least_eq, most_eq, Option.bind_some, hit_iff, if_neg g, wrap_succ hi (show P.length ≤ 140737488351232 by omega)]
      exact ih
    · intro i hi g
      have e := hit_one hp hi hj (Classical.not_not.1 g) hh
      refine ⟨rd W i, Ev.step (fun k => by rw [spec_l11Weight.l0]) ?_, by rw [e]⟩
      simp only [if_pos (show (i : Int) < P.length by omega), if_pos (show (0 : Int) ≤ i by omega), least_eq, most_eq, Option.bind_some, hit_iff, if_pos (Classical.not_not.1 g), if_pos (show (i : Int) < W.length by omega)]
      exact Ev.now _
  · unfold impl_Space_weight.f impl_pair.f
    simp only [Option.bind_some]
    obtain ⟨i, f, h, h1, h2⟩ := search_ev P n hP hp (mn x y) (mx x y)
    cases f with
    | false => exact absurd hh (h2 rfl j hj)
    | true =>
      obtain ⟨hi, hk⟩ := h1 rfl
      have e := hit_one hp hi hj hk hh
      subst e
      refine Ev.bind h ?_
      simp only [if_pos (show (0 : Int) ≤ i by omega), if_pos (show (i : Int) < W.length by omega)]
      exact Ev.now _
theorem cost_same (S : List (List Int)) (P : List S78) (W w : List Int) (hP : P.length ≤ 1048576) (hp : PairsOk P S.length) (hW : W.length = P.length) (hw : w.length ≤ 1048576) (ok : WayOk P S.length w) :
    ∃ t, Ev (fun k => spec_l11Cost.f k S P W w) t ∧ Ev (fun k => impl_Space_wayCost.f k S P W w) t := by
  have main : ∀ d i : Nat, 1 ≤ i → i ≤ w.length → w.length - i = d → ∀ acc : Int, ∃ t, Ev (fun k => spec_l11Cost.l0 k W w acc i S P) t ∧ Ev (fun k => impl_Space_wayCost.l0 k W w acc i S P) t := by
    intro d
    induction d with
    | zero =>
      intro i h1 hi hd acc
      obtain rfl : i = w.length := by omega
      refine ⟨acc, Ev.step (fun k => by rw [spec_l11Cost.l0]) ?_, Ev.step (fun k => by rw [impl_Space_wayCost.l0]) ?_⟩ <;>
      · simp only [if_neg (show ¬ ((w.length : Int) < w.length) by omega)]
        exact Ev.now _
    | succ d ih =>
      intro i h1 hi hd acc
      have hi' : i < w.length := by omega
      obtain ⟨t, w1, w2⟩ := weight_same S P W S.length hP hp hW _ _ ((ok.2 i hi').2 (by omega))
      obtain ⟨r, q1, q2⟩ := ih (i + 1) (by omega) (by omega) (by omega) (wrap64 (acc + t))
      refine ⟨r, Ev.step (fun k => by rw [spec_l11Cost.l0]) ?_, Ev.step (fun k => by rw [impl_Space_wayCost.l0]) ?_⟩
      · simp only [if_pos (show (i : Int) < w.length by omega), wrap_pred hi' (show w.length ≤ 140737488351232 by omega) (show 0 < i by omega), if_pos (show (0 : Int) ≤ ((i - 1 : Nat) : Int) by omega), if_pos (show ((i - 1 : Nat) : Int) < w.length by omega), if_pos (show (0 : Int) ≤ i by omega), wrap_succ hi' (show w.length ≤ 140737488351232 by omega)]
        exact Ev.bind w1 q1
      · simp only [if_pos (show (i : Int) < w.length by omega), wrap_pred hi' (show w.length ≤ 140737488351232 by omega) (show 0 < i by omega), if_pos (show (0 : Int) ≤ ((i - 1 : Nat) : Int) by omega), if_pos (show ((i - 1 : Nat) : Int) < w.length by omega), if_pos (show (0 : Int) ≤ i by omega), wrap_succ hi' (show w.length ≤ 140737488351232 by omega)]
        exact Ev.bind w2 q2
  unfold spec_l11Cost.f impl_Space_wayCost.f
  have := ok.1
  exact main (w.length - 1) 1 (by omega) (by omega) rfl 0
theorem FnExactIsCostProof (S : List (List Int)) (P : List S78) (W V w : List Int) (hS : S.length ≤ 140737488351232) (hr : ∀ x ∈ S, x.length ≤ 140737488351232) (hP : P.length ≤ 140737488351232) : ∃ k, laws_FnExactIsCostProof.f k S P W V w = some true := by
  refine Ev.rounds (g := fun k => laws_FnExactIsCostProof.f k S P W V w) ?_
  unfold laws_FnExactIsCostProof.f
  by_cases c1 : (W.length : Int) > 1048576
  · simp only [if_pos c1]; exact Ev.now _
  simp only [if_neg c1]
  by_cases c2 : (V.length : Int) > 1048576
  · simp only [if_pos c2]; exact Ev.now _
  simp only [if_neg c2]
  by_cases c4 : (w.length : Int) > 1048576
  · simp only [if_pos c4]; exact Ev.now _
  simp only [if_neg c4]
  obtain ⟨t, ht, hb⟩ := szSpace_ev S P hS hr hP
  refine Ev.bind ht ?_
  by_cases c3 : t < 0
  · simp only [if_pos c3]; exact Ev.now _
  simp only [if_neg c3]
  obtain ⟨hS, hr, hP⟩ := hb (by omega)
  have hW : W.length ≤ 1048576 := by omega
  have hV : V.length ≤ 1048576 := by omega
  have hw : w.length ≤ 1048576 := by omega
  refine Ev.bind (toSpace_ev S P hS hr hP) (Ev.bind (toIntS_ev W hW) (Ev.bind (toIntS_ev V hV) (Ev.bind (toIntS_ev w hw) ?_)))
  have main : ∃ r : Bool × Bool, Ev (fun k => spec_IsCostProof.f k S P W V w) r ∧ Ev (fun k => impl_IsCostProof.f k S P W V w) r := by
    unfold spec_IsCostProof.f impl_IsCostProof.f
    have bad : Ev (fun k => spec_IsCostProof.j0 k W V w true S P) (false, false) ∧ Ev (fun k => impl_IsCostProof.j0 k W V w true S P) (false, false) := by
      refine ⟨Ev.step (fun k => by rw [spec_IsCostProof.j0]) ?_, Ev.step (fun k => by rw [impl_IsCostProof.j0]) ?_⟩ <;>
      · simp only [if_true]; exact Ev.now _
    by_cases g : WeighedOk S P W
    · by_cases g2 : ValuesOk V S.length
      · by_cases g3 : WayOk P S.length w
        · have good : ∃ r : Bool × Bool, Ev (fun k => spec_IsCostProof.j0 k W V w false S P) r ∧ Ev (fun k => impl_IsCostProof.j0 k W V w false S P) r := by
            by_cases g4 : FairOk P W V
            · obtain ⟨t, q1, q2⟩ := cost_same S P W w hP g.1.2.2 g.2.1 hw g3
              have l0 := g3.1
              have e := g2.1
              obtain ⟨⟨a0, a1⟩, _⟩ := g3.2 0 (by omega)
              obtain ⟨⟨b0, b1⟩, _⟩ := g3.2 (w.length - 1) (by omega)
              have hz : wrap64 ((w.length : Int) - 1) = ((w.length - 1 : Nat) : Int) := by rw [wrap_of (by omega) (by omega)]; omega
              have a0' : 0 ≤ rd w 0 := a0
              have a1' : rd w 0 < (V.length : Int) := by have : rd w 0 ≤ (S.length : Int) - 1 := a1; omega
              refine ⟨(t == wrap64 (rd V (rd w ((w.length - 1 : Nat) : Int)) - rd V (rd w 0)), true), Ev.step (fun k => by rw [spec_IsCostProof.j0]) ?_, Ev.step (fun k => by rw [impl_IsCostProof.j0]) ?_⟩
              · simp only [Bool.false_eq_true, if_false]
                refine Ev.bind (specFair_ev S P W V hP g.2.1 g2 g.1.2.2) ?_
                simp only [decide_eq_true g4, if_true]
                refine Ev.bind q1 ?_
                simp only [hz, if_pos (show (0 : Int) ≤ ((w.length - 1 : Nat) : Int) by omega), if_pos (show ((w.length - 1 : Nat) : Int) < w.length by omega), if_pos b0, if_pos (show rd w ((w.length - 1 : Nat) : Int) < (V.length : Int) by omega), if_pos (show (0 : Int) < w.length by omega), if_pos a0', if_pos a1']
                exact Ev.now _
              · simp only [Bool.false_eq_true, if_false]
                refine Ev.bind (implFair_ev S P W V hP g.2.1 g2 g.1.2.2) ?_
                simp only [decide_eq_true g4, if_true]
                refine Ev.bind q2 ?_
                simp only [hz, if_pos (show (0 : Int) ≤ ((w.length - 1 : Nat) : Int) by omega), if_pos (show ((w.length - 1 : Nat) : Int) < w.length by omega), if_pos b0, if_pos (show rd w ((w.length - 1 : Nat) : Int) < (V.length : Int) by omega), if_pos (show (0 : Int) < w.length by omega), if_pos a0', if_pos a1']
                exact Ev.now _
            · refine ⟨(false, true), Ev.step (fun k => by rw [spec_IsCostProof.j0]) ?_, Ev.step (fun k => by rw [impl_IsCostProof.j0]) ?_⟩
              · simp only [Bool.false_eq_true, if_false]
                refine Ev.bind (specFair_ev S P W V hP g.2.1 g2 g.1.2.2) ?_
                simp only [decide_eq_false g4, Bool.false_eq_true, if_false]
                exact Ev.now _
              · simp only [Bool.false_eq_true, if_false]
                refine Ev.bind (implFair_ev S P W V hP g.2.1 g2 g.1.2.2) ?_
                simp only [decide_eq_false g4, Bool.false_eq_true, if_false]
                exact Ev.now _
          obtain ⟨r, q1, q2⟩ := good
          refine ⟨r, ?_, ?_⟩
          · refine Ev.bind (specWeighted_ev S P W hS hr hP hW) ?_
            simp only [decide_eq_true g, if_true]
            refine Ev.bind (specValues_ev S P V hS hr hP hV g.1) ?_
            simp only [decide_eq_true g2, if_true]
            refine Ev.bind (specWay_ev S P w hS hr hP hw g.1) ?_
            simp only [decide_eq_true g3, Bool.not_true]
            exact q1
          · refine Ev.bind (implWeighed_ev S P W hS hr hP hW) ?_
            simp only [decide_eq_true g, if_true]
            refine Ev.bind (implValues_ev S P V hV) ?_
            simp only [decide_eq_true g2, if_true]
            refine Ev.bind (implWay_ev S P w hS hr hP hw g.1) ?_
            simp only [decide_eq_true g3, Bool.not_true]
            exact q2
        · refine ⟨(false, false), ?_, ?_⟩
          · refine Ev.bind (specWeighted_ev S P W hS hr hP hW) ?_
            simp only [decide_eq_true g, if_true]
            refine Ev.bind (specValues_ev S P V hS hr hP hV g.1) ?_
            simp only [decide_eq_true g2, if_true]
            refine Ev.bind (specWay_ev S P w hS hr hP hw g.1) ?_
            simp only [decide_eq_false g3, Bool.not_false]
            exact bad.1
          · refine Ev.bind (implWeighed_ev S P W hS hr hP hW) ?_
            simp only [decide_eq_true g, if_true]
            refine Ev.bind (implValues_ev S P V hV) ?_
            simp only [decide_eq_true g2, if_true]
            refine Ev.bind (implWay_ev S P w hS hr hP hw g.1) ?_
            simp only [decide_eq_false g3, Bool.not_false]
            exact bad.2
      · refine ⟨(false, false), ?_, ?_⟩
        · refine Ev.bind (specWeighted_ev S P W hS hr hP hW) ?_
          simp only [decide_eq_true g, if_true]
          refine Ev.bind (specValues_ev S P V hS hr hP hV g.1) ?_
          simp only [decide_eq_false g2, Bool.false_eq_true, if_false]
          exact bad.1
        · refine Ev.bind (implWeighed_ev S P W hS hr hP hW) ?_
          simp only [decide_eq_true g, if_true]
          refine Ev.bind (implValues_ev S P V hV) ?_
          simp only [decide_eq_false g2, Bool.false_eq_true, if_false]
          exact bad.2
    · refine ⟨(false, false), ?_, ?_⟩
      · refine Ev.bind (specWeighted_ev S P W hS hr hP hW) ?_
        simp only [decide_eq_false g, Bool.false_eq_true, if_false]
        exact bad.1
      · refine Ev.bind (implWeighed_ev S P W hS hr hP hW) ?_
        simp only [decide_eq_false g, Bool.false_eq_true, if_false]
        exact bad.2
  obtain ⟨r, h1, h2⟩ := main
  refine Ev.bind h1 (Ev.bind (toSpace_ev S P hS hr hP) (Ev.bind (toIntS_ev W hW) (Ev.bind (toIntS_ev V hV) (Ev.bind (toIntS_ev w hw) (Ev.bind h2 ?_)))))
  simp only [bne_self_eq_false, Bool.false_eq_true, if_false, if_true]
  refine Ev.step (fun k => by rw [laws_FnExactIsCostProof.j0]) ?_
  simp only [Bool.false_eq_true, if_false]
  refine Ev.bind (toSpace_ev S P hS hr hP) (Ev.bind (eqSpace_ev S P hS hr hP) ?_)
  simp only [if_true]
  refine Ev.bind (toIntS_ev W hW) (Ev.bind (eqIntS_ev W hW) ?_)
  simp only [if_true]
  refine Ev.bind (toIntS_ev V hV) (Ev.bind (eqIntS_ev V hV) ?_)
  simp only [if_true]
  refine Ev.bind (toIntS_ev w hw) (Ev.bind (eqIntS_ev w hw) ?_)
  simp only [if_true]
  exact Ev.now _
end Go.Proofs.Ytiiaadgibkpaaaa.PureFnExactIsCostProof
