/-
  What the reference and the program compute agrees (FnExactAfterMap): plain lemmas over numbers and lists, by rounds. Conditions: those of the printed pure statement alone.
-/
import Derived.Test.YtiiaadgibkpaaaaPFnExactAfterMapx
import Derived.Test.YtiiaadgibkpaaaaPlain
namespace Go.Proofs.Ytiiaadgibkpaaaa.Pure
open Go.RowKit Go.Lib Go.Proofs.Ytiiaadgibkpaaaa.Plain Go.Proofs.Ytiiaadgibkpaaaa.PFnExactAfterMap Go.Proofs.YtiiaadgibkpaaaaW.PrintWords Go.Proofs.YtiiaadgibkpaaaaW.PrintLast Go.Proofs.YtiiaadgibkpaaaaW.PrintMore
open Classical
set_option linter.unusedVariables false
set_option linter.unusedSimpArgs false
theorem toIntS_ev (l : List Int) (hl : l.length ≤ 1048576) : Ev (fun k => laws_toIntS.f k l) l := by
  unfold laws_toIntS.f
  simp only [if_pos (show (0 : Int) ≤ l.length by omega), Int.toNat_natCast, if_pos (show l.length ≤ 35184372088832 by omega)]
  refine Ev.copy (F := fun k x i => laws_toIntS.l0 k l x i) ?_ ?_ (List.replicate l.length 0) List.length_replicate
  · intro x hx
    refine Ev.step (fun k => by rw [laws_toIntS.l0]) ?_
    simp only [if_neg (show ¬ ((l.length : Int) < l.length) by omega)]
    exact Ev.now _
  · intro i h x hx r ih
    refine Ev.step (fun k => by rw [laws_toIntS.l0]) ?_
    simp only [if_pos (show (i : Int) < l.length by omega), if_pos (show (0 : Int) ≤ i by omega), if_pos (show (i : Int) < x.length by omega), wrap_succ h (show l.length ≤ 140737488351232 by omega), Int.toNat_natCast, rd_at l i h]
    exact ih

theorem eqIntS_ev (l : List Int) (hl : l.length ≤ 1048576) : Ev (fun k => laws_eqIntS.f k l l) true := by
  unfold laws_eqIntS.f
  simp only [if_true]
  refine Ev.check (F := fun k i => laws_eqIntS.l0 k l l i) (n := l.length) (fun _ => True) (X := True) (Y := True) (by simp) ?_ ?_ ?_
  · refine Ev.step (fun k => by rw [laws_eqIntS.l0]) ?_
    simp only [if_neg (show ¬ ((l.length : Int) < l.length) by omega)]
    exact Ev.now _
  · intro i hi _ r ih
    refine Ev.step (fun k => by rw [laws_eqIntS.l0]) ?_
    simp only [if_pos (show (i : Int) < l.length by omega), if_pos (show (0 : Int) ≤ i by omega), wrap_succ hi (show l.length ≤ 140737488351232 by omega), if_true]
    exact ih
  · intro i hi g
    exact absurd trivial g

theorem rd_T78_at (l : List S78) (i : Nat) (h : i < l.length) : rd_T78 l (i : Int) = l[i] := by unfold rd_T78; simp [h]

theorem toIntA2_ev (a b : Int) : Ev (fun k => laws_toIntA2.f k a b) (a, b) := by
  unfold laws_toIntA2.f
  refine Ev.step (fun k => by rw [laws_toIntA2.l0]) ?_
  simp only [show ((0 : Int) < 2) = True from by simp, if_true, show wrap64 (0 + 1) = 1 from by rw [wrap_of (by decide) (by decide)]; rfl]
  refine Ev.step (fun k => by rw [laws_toIntA2.l0]) ?_
  simp only [show ((1 : Int) < 2) = True from by simp, show ((1 : Int) = 0) = False from by simp, if_true, if_false, show wrap64 (1 + 1) = 2 from by rw [wrap_of (by decide) (by decide)]; rfl]
  refine Ev.step (fun k => by rw [laws_toIntA2.l0]) ?_
  simp only [show ((2 : Int) < 2) = False from by simp, if_false]
  exact Ev.now _

theorem toIntA2S_ev (l : List S78) (hl : l.length ≤ 1048576) : Ev (fun k => laws_toIntA2S.f k l) l := by
  unfold laws_toIntA2S.f
  simp only [if_pos (show (0 : Int) ≤ l.length by omega), Int.toNat_natCast, if_pos (show l.length ≤ 17592186044416 by omega)]
  refine Ev.copy (F := fun k x i => laws_toIntA2S.l0 k l x i) ?_ ?_ (List.replicate l.length z78) List.length_replicate
  · intro x hx
    refine Ev.step (fun k => by rw [laws_toIntA2S.l0]) ?_
    simp only [if_neg (show ¬ ((l.length : Int) < l.length) by omega)]
    exact Ev.now _
  · intro i h x hx r ih
    refine Ev.step (fun k => by rw [laws_toIntA2S.l0]) ?_
    simp only [if_pos (show (i : Int) < l.length by omega), if_pos (show (0 : Int) ≤ i by omega), if_pos (show (i : Int) < x.length by omega), wrap_succ h (show l.length ≤ 140737488351232 by omega), Int.toNat_natCast, rd_T78_at l i h]
    exact Ev.bind (toIntA2_ev _ _) ih

theorem eqIntA2_ev (a b : Int) : Ev (fun k => laws_eqIntA2.f k a b a b) true := by
  unfold laws_eqIntA2.f
  refine Ev.step (fun k => by rw [laws_eqIntA2.l0]) ?_
  simp only [show ((0 : Int) < 2) = True from by simp, if_true, show wrap64 (0 + 1) = 1 from by rw [wrap_of (by decide) (by decide)]; rfl]
  refine Ev.step (fun k => by rw [laws_eqIntA2.l0]) ?_
  simp only [show ((1 : Int) < 2) = True from by simp, show ((1 : Int) = 0) = False from by simp, if_true, if_false, show wrap64 (1 + 1) = 2 from by rw [wrap_of (by decide) (by decide)]; rfl]
  refine Ev.step (fun k => by rw [laws_eqIntA2.l0]) ?_
  simp only [show ((2 : Int) < 2) = False from by simp, if_false]
  exact Ev.now _

theorem eqIntA2S_ev (l : List S78) (hl : l.length ≤ 1048576) : Ev (fun k => laws_eqIntA2S.f k l l) true := by
  unfold laws_eqIntA2S.f
  simp only [if_true]
  refine Ev.check (F := fun k i => laws_eqIntA2S.l0 k l l i) (n := l.length) (fun _ => True) (X := True) (Y := True) (by simp) ?_ ?_ ?_
  · refine Ev.step (fun k => by rw [laws_eqIntA2S.l0]) ?_
    simp only [if_neg (show ¬ ((l.length : Int) < l.length) by omega)]
    exact Ev.now _
  · intro i hi _ r ih
    refine Ev.step (fun k => by rw [laws_eqIntA2S.l0]) ?_
    simp only [if_pos (show (i : Int) < l.length by omega), if_pos (show (0 : Int) ≤ i by omega), wrap_succ hi (show l.length ≤ 140737488351232 by omega)]
    exact Ev.bind (eqIntA2_ev _ _) (by simpa using ih)
  · intro i hi g
    exact absurd trivial g

theorem in_iff (a b c : Int) : spec_l1In.f a b c = some (decide (b ≤ a ∧ a ≤ c)) := by
  unfold spec_l1In.f
  by_cases h : a ≥ b
  · rw [if_pos h]; congr 1; exact decide_eq_decide.2 ⟨fun x => ⟨h, x⟩, fun x => x.2⟩
  · rw [if_neg h]; congr 1; exact (decide_eq_false fun x => h x.1).symm
theorem between_iff (a b c : Int) : impl_between.f a b c = some (decide (b ≤ a ∧ a ≤ c)) := by
  unfold impl_between.f
  by_cases h : a ≥ b
  · rw [if_pos h]; congr 1; exact decide_eq_decide.2 ⟨fun x => ⟨h, x⟩, fun x => x.2⟩
  · rw [if_neg h]; congr 1; exact (decide_eq_false fun x => h x.1).symm

def PairOk (P : List S78) (n i : Nat) : Prop := (0 ≤ (rd_T78 P i).f0 ∧ (rd_T78 P i).f0 < (rd_T78 P i).f1 ∧ (rd_T78 P i).f1 < n) ∧
  (0 < i → (rd_T78 P (i - 1 : Nat)).f0 < (rd_T78 P i).f0 ∨ ((rd_T78 P (i - 1 : Nat)).f0 = (rd_T78 P i).f0 ∧ (rd_T78 P (i - 1 : Nat)).f1 < (rd_T78 P i).f1))
def PairsOk (P : List S78) (n : Nat) : Prop := ∀ i, i < P.length → PairOk P n i

theorem edge_iff (a b c d : Int) : spec_l2Edge.f a b c d = some (decide (a < c ∨ (a = c ∧ b < d))) := by
  unfold spec_l2Edge.f
  by_cases h : a < c
  · rw [if_pos h]; congr 1; exact (decide_eq_true (.inl h)).symm
  · rw [if_neg h]
    by_cases g : a = c
    · rw [if_pos g]; congr 1; exact decide_eq_decide.2 ⟨fun x => .inr ⟨g, x⟩, fun x => x.elim (fun x => absurd x h) fun x => x.2⟩
    · rw [if_neg g]; congr 1; exact (decide_eq_false fun x => x.elim h fun x => g x.1).symm

theorem comparePairs_ev (a b c d : Int) : ∃ r, Ev (fun k => impl_comparePairs.f k a b c d) r ∧ (0 ≤ r ↔ ¬ (a < c ∨ (a = c ∧ b < d))) ∧ (r = 0 ↔ a = c ∧ b = d) := by
  have cmp : ∀ x y : Int, cmp_Compare_int.f x y = some (if x < y then -1 else if x > y then 1 else 0) := by
    intro x y
    unfold cmp_Compare_int.f cmp_isNaN_int.f
    simp only [bne_self_eq_false, Option.bind_some, Bool.false_eq_true, if_false]
    split
    · rfl
    · split <;> rfl
  have or2 : ∀ x y : Int, Ev (fun k => cmp_Or_int.f k [x, y]) (if x = 0 then y else x) := by
    intro x y
    unfold cmp_Or_int.f
    refine Ev.step (fun k => by rw [cmp_Or_int.l0]) ?_
    simp only [List.length_cons, List.length_nil, show ((0 : Int) < ((0 + 1 + 1 : Nat) : Int)) = True from by simp, show ((0 : Int) ≤ 0) = True from by simp, if_true, show rd [x, y] 0 = x from rfl, show wrap64 (0 + 1) = 1 from by rw [wrap_of (by decide) (by decide)]; rfl]
    by_cases h : x = 0
    · simp only [if_pos h]
      refine Ev.step (fun k => by rw [cmp_Or_int.l0]) ?_
      simp only [List.length_cons, List.length_nil, show ((1 : Int) < ((0 + 1 + 1 : Nat) : Int)) = True from by simp, show ((0 : Int) ≤ 1) = True from by simp, if_true, show rd [x, y] 1 = y from rfl, show wrap64 (1 + 1) = 2 from by rw [wrap_of (by decide) (by decide)]; rfl]
      by_cases g : y = 0
      · simp only [if_pos g]
        refine Ev.step (fun k => by rw [cmp_Or_int.l0]) ?_
        simp only [List.length_cons, List.length_nil, show ((2 : Int) < ((0 + 1 + 1 : Nat) : Int)) = False from by simp, if_false, g]
        exact Ev.now _
      · simp only [if_neg g]
        exact Ev.now _
    · simp only [if_neg h]
      exact Ev.now _
  refine ⟨if (if a < c then -1 else if a > c then 1 else (0 : Int)) = 0 then (if b < d then -1 else if b > d then 1 else 0) else (if a < c then -1 else if a > c then 1 else 0), ?_, ?_, ?_⟩
  · unfold impl_comparePairs.f
    simp only [cmp, Option.bind_some]
    exact Ev.bind (or2 _ _) (Ev.now _)
  · (repeat' split) <;> omega
  · (repeat' split) <;> omega

theorem specPairs_ev (P : List S78) (n : Nat) (hP : P.length ≤ 1048576) (hn : n ≤ 1048576) : Ev (fun k => spec_l2Pairs.f k P n) (decide (PairsOk P n)) := by
  unfold spec_l2Pairs.f
  refine Ev.check (F := fun k i => spec_l2Pairs.l0 k P n i) (n := P.length) (PairOk P n) (X := True) (Y := PairsOk P n) ⟨fun x => ⟨x, trivial⟩, fun x => x.1⟩ ?_ ?_ ?_
  · refine Ev.step (fun k => by rw [spec_l2Pairs.l0]) ?_
    simp only [if_neg (show ¬ ((P.length : Int) < P.length) by omega)]
    exact Ev.now _
  · intro i hi g r ih
    obtain ⟨⟨g1, g2, g3⟩, g4⟩ := g
    refine Ev.step (fun k => by rw [spec_l2Pairs.l0]) ?_
    simp only [if_pos (show (i : Int) < P.length by omega), if_pos (show (0 : Int) ≤ i by omega), in_iff, Option.bind_some, decide_eq_true_eq, wrap_of (show -9223372036854775808 ≤ (n : Int) - 1 by omega) (show (n : Int) - 1 ≤ 9223372036854775807 by omega)]
    simp only [if_pos (show 0 ≤ (rd_T78 P i).f0 ∧ (rd_T78 P i).f0 ≤ (n : Int) - 1 by omega), if_pos (show 0 ≤ (rd_T78 P i).f1 ∧ (rd_T78 P i).f1 ≤ (n : Int) - 1 by omega), if_neg (show ¬ ((rd_T78 P i).f0 ≥ (rd_T78 P i).f1) by omega), wrap_succ hi (show P.length ≤ 140737488351232 by omega)]
    by_cases z : 0 < i
    · simp only [if_pos (show (i : Int) > 0 by omega), wrap_pred hi (show P.length ≤ 140737488351232 by omega) z, if_pos (show (0 : Int) ≤ ((i - 1 : Nat) : Int) by omega), if_pos (show ((i - 1 : Nat) : Int) < P.length by omega), edge_iff, Option.bind_some, decide_eq_true_eq, if_pos (g4 z)]
      exact ih
    · simp only [if_neg (show ¬ ((i : Int) > 0) by omega)]
      exact ih
  · intro i hi g
    refine Ev.step (fun k => by rw [spec_l2Pairs.l0]) ?_
    simp only [if_pos (show (i : Int) < P.length by omega), if_pos (show (0 : Int) ≤ i by omega), in_iff, Option.bind_some, decide_eq_true_eq, wrap_of (show -9223372036854775808 ≤ (n : Int) - 1 by omega) (show (n : Int) - 1 ≤ 9223372036854775807 by omega)]
    by_cases a : 0 ≤ (rd_T78 P i).f0 ∧ (rd_T78 P i).f0 ≤ (n : Int) - 1
    · by_cases b : 0 ≤ (rd_T78 P i).f1 ∧ (rd_T78 P i).f1 ≤ (n : Int) - 1
      · by_cases c : (rd_T78 P i).f0 ≥ (rd_T78 P i).f1
        · simp only [if_pos a, if_pos b, if_pos c]; exact Ev.now _
        · have z : 0 < i := by
            rcases Nat.eq_zero_or_pos i with z | z
            · exact absurd ⟨⟨a.1, by omega, by omega⟩, fun y => absurd y (by omega)⟩ g
            · exact z
          have w : ¬ ((rd_T78 P (i - 1 : Nat)).f0 < (rd_T78 P i).f0 ∨ ((rd_T78 P (i - 1 : Nat)).f0 = (rd_T78 P i).f0 ∧ (rd_T78 P (i - 1 : Nat)).f1 < (rd_T78 P i).f1)) := fun w => g ⟨⟨a.1, by omega, by omega⟩, fun _ => w⟩
          simp only [if_pos a, if_pos b, if_neg c, if_pos (show (i : Int) > 0 by omega), wrap_pred hi (show P.length ≤ 140737488351232 by omega) z, if_pos (show (0 : Int) ≤ ((i - 1 : Nat) : Int) by omega), if_pos (show ((i - 1 : Nat) : Int) < P.length by omega), edge_iff, Option.bind_some, decide_eq_true_eq, if_neg w]
          exact Ev.now _
      · simp only [if_pos a, if_neg b]; exact Ev.now _
    · simp only [if_neg a]; exact Ev.now _

theorem implPairs_ev (P : List S78) (n : Nat) (hP : P.length ≤ 1048576) (hn : n ≤ 1048576) : Ev (fun k => impl_isPairs.f k P n) (decide (PairsOk P n)) := by
  unfold impl_isPairs.f
  refine Ev.check (F := fun k i => impl_isPairs.l0 k P n P P.length i) (n := P.length) (PairOk P n) (X := True) (Y := PairsOk P n) ⟨fun x => ⟨x, trivial⟩, fun x => x.1⟩ ?_ ?_ ?_
  · refine Ev.step (fun k => by rw [impl_isPairs.l0]) ?_
    simp only [if_neg (show ¬ ((P.length : Int) < P.length) by omega)]
    exact Ev.now _
  · intro i hi g r ih
    obtain ⟨⟨g1, g2, g3⟩, g4⟩ := g
    refine Ev.step (fun k => by rw [impl_isPairs.l0]) ?_
    simp only [if_pos (show (i : Int) < P.length by omega), if_pos (show (0 : Int) ≤ i by omega), if_neg (show ¬ ((rd_T78 P i).f0 < 0) by omega), if_neg (show ¬ ((rd_T78 P i).f0 ≥ (rd_T78 P i).f1) by omega), if_neg (show ¬ ((rd_T78 P i).f1 ≥ (n : Int)) by omega), wrap_succ hi (show P.length ≤ 140737488351232 by omega)]
    by_cases z : 0 < i
    · simp only [if_pos (show (i : Int) > 0 by omega), wrap_pred hi (show P.length ≤ 140737488351232 by omega) z, if_pos (show (0 : Int) ≤ ((i - 1 : Nat) : Int) by omega), if_pos (show ((i - 1 : Nat) : Int) < P.length by omega)]
      obtain ⟨c, h1, h2, _⟩ := comparePairs_ev (rd_T78 P (i - 1 : Nat)).f0 (rd_T78 P (i - 1 : Nat)).f1 (rd_T78 P i).f0 (rd_T78 P i).f1
      refine Ev.bind h1 ?_
      simp only [if_neg (show ¬ (c ≥ 0) from fun h => (h2.1 h) (g4 z))]
      exact ih
    · simp only [if_neg (show ¬ ((i : Int) > 0) by omega)]
      exact ih
  · intro i hi g
    refine Ev.step (fun k => by rw [impl_isPairs.l0]) ?_
    simp only [if_pos (show (i : Int) < P.length by omega), if_pos (show (0 : Int) ≤ i by omega)]
    by_cases a : (rd_T78 P i).f0 < 0
    · simp only [if_pos a]; exact Ev.now _
    · by_cases b : (rd_T78 P i).f0 ≥ (rd_T78 P i).f1
      · simp only [if_neg a, if_pos b]; exact Ev.now _
      · by_cases c : (rd_T78 P i).f1 ≥ (n : Int)
        · simp only [if_neg a, if_neg b, if_pos c]; exact Ev.now _
        · have z : 0 < i := by
            rcases Nat.eq_zero_or_pos i with z | z
            · exact absurd ⟨⟨by omega, by omega, by omega⟩, fun y => absurd y (by omega)⟩ g
            · exact z
          have w : ¬ ((rd_T78 P (i - 1 : Nat)).f0 < (rd_T78 P i).f0 ∨ ((rd_T78 P (i - 1 : Nat)).f0 = (rd_T78 P i).f0 ∧ (rd_T78 P (i - 1 : Nat)).f1 < (rd_T78 P i).f1)) := fun w => g ⟨⟨by omega, by omega, by omega⟩, fun _ => w⟩
          simp only [if_neg a, if_neg b, if_neg c, if_pos (show (i : Int) > 0 by omega), wrap_pred hi (show P.length ≤ 140737488351232 by omega) z, if_pos (show (0 : Int) ≤ ((i - 1 : Nat) : Int) by omega), if_pos (show ((i - 1 : Nat) : Int) < P.length by omega)]
          obtain ⟨c, h1, h2, _⟩ := comparePairs_ev (rd_T78 P (i - 1 : Nat)).f0 (rd_T78 P (i - 1 : Nat)).f1 (rd_T78 P i).f0 (rd_T78 P i).f1
          refine Ev.bind h1 ?_
          simp only [if_pos (show c ≥ 0 from h2.2 w)]
          exact Ev.now _

def PLt (a b c d : Int) : Prop := a < c ∨ (a = c ∧ b < d)
def Hit (P : List S78) (a b : Int) (j : Nat) : Prop := (rd_T78 P j).f0 = a ∧ (rd_T78 P j).f1 = b
def HasStep (P : List S78) (x y : Int) : Prop := ∃ j, j < P.length ∧ Hit P (mn x y) (mx x y) j
theorem hit_iff (P : List S78) (a b : Int) (i : Nat) : ((((rd_T78 P i).f0) == a && (((rd_T78 P i).f1) == b)) = true) ↔ Hit P a b i := by
  unfold Hit; simp

/-! ### graphs -/
theorem toGraph_ev (n : Int) (E : List S78) (hE : E.length ≤ 1048576) : Ev (fun k => laws_toGraph.f k n E) (n, E) := by
  unfold laws_toGraph.f
  exact Ev.bind (toIntA2S_ev E hE) (Ev.now _)
theorem eqGraph_ev (n : Int) (E : List S78) (hE : E.length ≤ 1048576) : Ev (fun k => laws_eqGraph.f k n E n E) true := by
  unfold laws_eqGraph.f
  simp only [if_true]
  refine Ev.bind (eqIntA2S_ev E hE) ?_
  simp only [if_true]
  exact Ev.now _
theorem szGraph_ev (n : Int) (E : List S78) (z : Int) (h0 : 0 ≤ z) (h1 : z ≤ 1048576) (hE : E.length ≤ 140737488351232) : ∃ t, laws_szGraph.f n E z = some t ∧ (¬ t < 0 → E.length ≤ 1048576 ∧ 0 ≤ t ∧ t ≤ 1048576) := by
  unfold laws_szGraph.f laws_szIntA2S.f
  rw [wrap_of (x := z - (E.length : Int)) (by omega) (by omega)]
  by_cases g : (z - (E.length : Int)) < 0
  · rw [if_pos g]
    refine ⟨-1, ?_, fun h => absurd (by decide) h⟩
    simp only [Option.bind_some]; rfl
  · rw [if_neg g]
    refine ⟨z - E.length, ?_, fun h => ⟨by omega, by omega, by omega⟩⟩
    simp only [Option.bind_some, if_neg g]
def GraphOk (n : Int) (E : List S78) : Prop := (0 ≤ n ∧ n ≤ 8) ∧ PairsOk E n.toNat
theorem specGood_ev (n : Int) (E : List S78) (hE : E.length ≤ 1048576) : Ev (fun k => spec_l2Good.f k n E) (decide (GraphOk n E)) := by
  unfold spec_l2Good.f
  rw [in_iff]
  refine Ev.bind (Ev.now _) ?_
  by_cases g : 0 ≤ n ∧ n ≤ 8
  · obtain ⟨m, rfl⟩ := Int.eq_ofNat_of_zero_le g.1
    simp only [decide_eq_true g, if_true]
    have e : decide (GraphOk (m : Int) E) = decide (PairsOk E m) := decide_eq_decide.2 ⟨fun x => x.2, fun x => ⟨g, x⟩⟩
    rw [e]
    exact Ev.bind (specPairs_ev E m hE (by omega)) (Ev.now _)
  · simp only [decide_eq_false g, Bool.false_eq_true, if_false]
    rw [decide_eq_false fun x : GraphOk n E => g x.1]
    exact Ev.now _
theorem implGraph_ev (n : Int) (E : List S78) (hE : E.length ≤ 1048576) : Ev (fun k => impl_IsGraph.f k n E) (decide (GraphOk n E)) := by
  unfold impl_IsGraph.f
  rw [between_iff]
  refine Ev.bind (Ev.now _) ?_
  by_cases g : 0 ≤ n ∧ n ≤ 8
  · obtain ⟨m, rfl⟩ := Int.eq_ofNat_of_zero_le g.1
    simp only [decide_eq_true g, if_true]
    have e : decide (GraphOk (m : Int) E) = decide (PairsOk E m) := decide_eq_decide.2 ⟨fun x => x.2, fun x => ⟨g, x⟩⟩
    rw [e]
    exact Ev.bind (implPairs_ev E m hE (by omega)) (Ev.now _)
  · simp only [decide_eq_false g, Bool.false_eq_true, if_false]
    rw [decide_eq_false fun x : GraphOk n E => g x.1]
    exact Ev.now _
theorem GraphOk.edge {n : Int} {E : List S78} (h : GraphOk n E) (i : Nat) (hi : i < E.length) : 0 ≤ (rd_T78 E i).f0 ∧ (rd_T78 E i).f0 < (rd_T78 E i).f1 ∧ (rd_T78 E i).f1 < n := by
  have := (h.2 i hi).1
  have := h.1
  omega
/-- Two nodes are neighbors. -/
def Near (E : List S78) (a b : Int) : Prop := ∃ j, j < E.length ∧ (Hit E a b j ∨ Hit E b a j)
theorem specNear_ev (n : Int) (E : List S78) (hE : E.length ≤ 1048576) (a b : Int) : Ev (fun k => spec_l2Near.f k n E a b) (decide (Near E a b)) := by
  unfold spec_l2Near.f
  have hl := Ev.loop (F := fun k i => spec_l2Near.l0 k a b i n E) (n := E.length) (good := fun i => ¬ (Hit E a b i ∨ Hit E b a i)) (· = false) (· = true) ?_ ?_ ?_
  · obtain ⟨r, h, h1, h2⟩ := hl
    have e : r = decide (Near E a b) := by
      by_cases c : ∀ i, i < E.length → ¬ (Hit E a b i ∨ Hit E b a i)
      · rw [h1 c]; exact (decide_eq_false fun z => by obtain ⟨j, hj, hh⟩ := z; exact c j hj hh).symm
      · rw [h2 c]; exact (decide_eq_true (Classical.byContradiction fun z => c fun i hi hh => z ⟨i, hi, hh⟩)).symm
    rw [← e]; exact h
  · refine ⟨false, Ev.step (fun k => by rw [spec_l2Near.l0]) ?_, rfl⟩
    simp only [if_neg (show ¬ ((E.length : Int) < E.length) by omega)]
    exact Ev.now _
  · intro i hi g r ih
    refine Ev.step (fun k => by rw [spec_l2Near.l0]) ?_
    simp only [if_pos (show (i : Int) < E.length by omega), if_pos (show (0 : Int) ≤ i by omega), wrap_succ hi (show E.length ≤ 140737488351232 by omega)]
    unfold Hit at g
    by_cases c1 : (rd_T78 E i).f0 = a
    · have c2 : ¬ (rd_T78 E i).f1 = b := fun x => g (.inl ⟨c1, x⟩)
      simp only [if_pos c1, if_neg c2]
      by_cases c3 : (rd_T78 E i).f0 = b
      · have c4 : ¬ (rd_T78 E i).f1 = a := fun x => g (.inr ⟨c3, x⟩)
        simp only [if_pos c3, if_neg c4]; exact ih
      · simp only [if_neg c3]; exact ih
    · simp only [if_neg c1]
      by_cases c3 : (rd_T78 E i).f0 = b
      · have c4 : ¬ (rd_T78 E i).f1 = a := fun x => g (.inr ⟨c3, x⟩)
        simp only [if_pos c3, if_neg c4]; exact ih
      · simp only [if_neg c3]; exact ih
  · intro i hi g
    refine ⟨true, Ev.step (fun k => by rw [spec_l2Near.l0]) ?_, rfl⟩
    simp only [if_pos (show (i : Int) < E.length by omega), if_pos (show (0 : Int) ≤ i by omega)]
    have g := Classical.not_not.1 g
    unfold Hit at g
    by_cases c1 : (rd_T78 E i).f0 = a
    · simp only [if_pos c1]
      by_cases c2 : (rd_T78 E i).f1 = b
      · simp only [if_pos c2]; exact Ev.now _
      · simp only [if_neg c2]
        rcases g with g | g
        · exact absurd g.2 c2
        · simp only [if_pos g.1, if_pos g.2]; exact Ev.now _
    · simp only [if_neg c1]
      rcases g with g | g
      · exact absurd g.1 c1
      · simp only [if_pos g.1, if_pos g.2]; exact Ev.now _
theorem near_iff {n : Int} {E : List S78} (h : GraphOk n E) (a b : Int) : HasStep E a b ↔ Near E a b := by
  unfold HasStep Near
  constructor
  · rintro ⟨j, hj, hh⟩
    refine ⟨j, hj, ?_⟩
    unfold Hit at *
    unfold mn mx at hh
    by_cases c : b < a
    · rw [if_pos c, if_neg (by omega)] at hh; exact .inr hh
    · rw [if_neg c] at hh
      by_cases d : a < b
      · rw [if_pos d] at hh; exact .inl hh
      · rw [if_neg d] at hh
        have : a = b := by omega
        subst this; exact .inl hh
  · rintro ⟨j, hj, hh⟩
    refine ⟨j, hj, ?_⟩
    have he := h.edge j hj
    unfold Hit at *
    unfold mn mx
    rcases hh with hh | hh
    · have : a < b := by omega
      rw [if_neg (by omega), if_pos this]; exact hh
    · have : b < a := by omega
      rw [if_pos this, if_neg (by omega)]; exact hh
theorem index_ev (E : List S78) (hE : E.length ≤ 1048576) (a b : Int) : Ev (fun k => slices_Contains_2_int_2_int.f k E a b) (decide (∃ j, j < E.length ∧ Hit E a b j)) := by
  unfold slices_Contains_2_int_2_int.f slices_Index_2_int_2_int.f
  have hb : ∀ i : Nat, ((a == (rd_T78 E i).f0 && (b == (rd_T78 E i).f1)) = true) ↔ Hit E a b i := fun i => by
    unfold Hit
    rw [Bool.and_eq_true, beq_iff_eq, beq_iff_eq]
    exact ⟨fun x => ⟨x.1.symm, x.2.symm⟩, fun x => ⟨x.1.symm, x.2.symm⟩⟩
  have hl := Ev.loop (F := fun k i => slices_Index_2_int_2_int.l0 k E E.length i a b) (n := E.length) (good := fun i => ¬ Hit E a b i) (fun r : Int => r < 0) (fun r => 0 ≤ r) ?_ ?_ ?_
  · obtain ⟨r, h, h1, h2⟩ := hl
    have e : decide (∃ j, j < E.length ∧ Hit E a b j) = decide (r ≥ 0) := by
      by_cases c : ∀ i, i < E.length → ¬ Hit E a b i
      · have q : ¬ r ≥ 0 := by have := h1 c; omega
        rw [decide_eq_false q]; exact decide_eq_false fun z => by obtain ⟨j, hj, hh⟩ := z; exact c j hj hh
      · have q : r ≥ 0 := h2 c
        rw [decide_eq_true q]; exact decide_eq_true (Classical.byContradiction fun z => c fun i hi hh => z ⟨i, hi, hh⟩)
    rw [e]
    exact Ev.bind h (Ev.now _)
  · refine ⟨-1, Ev.step (fun k => by rw [slices_Index_2_int_2_int.l0]) ?_, by decide⟩
    simp only [if_neg (show ¬ ((E.length : Int) < E.length) by omega)]
    exact Ev.now _
  · intro i hi g r ih
    refine Ev.step (fun k => by rw [slices_Index_2_int_2_int.l0]) ?_
    simp only [if_pos (show (i : Int) < E.length by omega), if_pos (show (0 : Int) ≤ i by omega), hb, if_neg g, wrap_succ hi (show E.length ≤ 140737488351232 by omega)]
    exact ih
  · intro i hi g
    refine ⟨i, Ev.step (fun k => by rw [slices_Index_2_int_2_int.l0]) ?_, by omega⟩
    simp only [if_pos (show (i : Int) < E.length by omega), if_pos (show (0 : Int) ≤ i by omega), hb, if_pos (Classical.not_not.1 g)]
    exact Ev.now _
theorem implHas_ev (n : Int) (E : List S78) (h : GraphOk n E) (hE : E.length ≤ 1048576) (a b : Int) : Ev (fun k => impl_Graph_has.f k n E a b) (decide (Near E a b)) := by
  unfold impl_Graph_has.f impl_pair.f
  refine Ev.bind (Ev.now _) ?_
  rw [← decide_eq_decide.2 (near_iff h a b)]
  exact Ev.bind (index_ev E hE _ _) (Ev.now _)
/-! ### maps -/
def Fit (E : List S78) (a b : Int) (z : Bool) : Prop := Near E a b ∨ (z = true ∧ a = b)
theorem specFits_ev (n : Int) (E : List S78) (hE : E.length ≤ 1048576) (a b : Int) (z : Bool) : Ev (fun k => spec_l10Fits.f k n E a b z) (decide (Fit E a b z)) := by
  unfold spec_l10Fits.f
  refine Ev.bind (specNear_ev n E hE a b) ?_
  by_cases c : Near E a b
  · simp only [decide_eq_true c, if_true]
    rw [decide_eq_true (show Fit E a b z from .inl c)]; exact Ev.now _
  · simp only [decide_eq_false c, Bool.false_eq_true, if_false]
    by_cases d : z = true
    · simp only [if_pos d]
      have e : (a == b) = decide (Fit E a b z) := by
        by_cases f : a = b
        · rw [decide_eq_true (show Fit E a b z from .inr ⟨d, f⟩)]; simpa using f
        · rw [decide_eq_false (show ¬ Fit E a b z from fun x => x.elim c fun y => f y.2)]; simpa using f
      rw [e]; exact Ev.now _
    · simp only [if_neg d]
      rw [decide_eq_false (show ¬ Fit E a b z from fun x => x.elim c fun y => d y.1)]; exact Ev.now _
theorem implFit_ev (n : Int) (E : List S78) (h : GraphOk n E) (hE : E.length ≤ 1048576) (a b : Int) (z : Bool) : Ev (fun k => impl_Graph_isFit.f k n E a b z) (decide (Fit E a b z)) := by
  unfold impl_Graph_isFit.f
  refine Ev.bind (implHas_ev n E h hE a b) ?_
  by_cases c : Near E a b
  · simp only [decide_eq_true c, if_true]
    rw [decide_eq_true (show Fit E a b z from .inl c)]; exact Ev.now _
  · simp only [decide_eq_false c, Bool.false_eq_true, if_false]
    by_cases d : z = true
    · simp only [if_pos d]
      have e : (a == b) = decide (Fit E a b z) := by
        by_cases f : a = b
        · rw [decide_eq_true (show Fit E a b z from .inr ⟨d, f⟩)]; simpa using f
        · rw [decide_eq_false (show ¬ Fit E a b z from fun x => x.elim c fun y => f y.2)]; simpa using f
      rw [e]; exact Ev.now _
    · simp only [if_neg d]
      rw [decide_eq_false (show ¬ Fit E a b z from fun x => x.elim c fun y => d y.1)]; exact Ev.now _
def CaseOk (n : Int) (E : List S78) (m : Int) (D : List S78) : Prop := GraphOk n E ∧ GraphOk m D ∧ n ≤ 6
theorem specCase_ev (n : Int) (E : List S78) (m : Int) (D : List S78) (hE : E.length ≤ 1048576) (hD : D.length ≤ 1048576) : Ev (fun k => spec_l10Good.f k n E m D) (decide (CaseOk n E m D)) := by
  unfold spec_l10Good.f
  refine Ev.bind (specGood_ev n E hE) ?_
  by_cases c : GraphOk n E
  · simp only [decide_eq_true c, if_true]
    refine Ev.bind (specGood_ev m D hD) ?_
    by_cases d : GraphOk m D
    · simp only [decide_eq_true d, if_true]
      have e : decide (CaseOk n E m D) = decide (n ≤ 6) := decide_eq_decide.2 ⟨fun x => x.2.2, fun x => ⟨c, d, x⟩⟩
      rw [e]; exact Ev.now _
    · simp only [decide_eq_false d, Bool.false_eq_true, if_false]
      rw [decide_eq_false fun x : CaseOk n E m D => d x.2.1]; exact Ev.now _
  · simp only [decide_eq_false c, Bool.false_eq_true, if_false]
    rw [decide_eq_false fun x : CaseOk n E m D => c x.1]; exact Ev.now _
theorem implCase_ev (n : Int) (E : List S78) (m : Int) (D : List S78) (hE : E.length ≤ 1048576) (hD : D.length ≤ 1048576) : Ev (fun k => impl_isMapCase.f k n E m D) (decide (CaseOk n E m D)) := by
  unfold impl_isMapCase.f
  refine Ev.bind (implGraph_ev n E hE) ?_
  by_cases c : GraphOk n E
  · simp only [decide_eq_true c, if_true]
    refine Ev.bind (implGraph_ev m D hD) ?_
    by_cases d : GraphOk m D
    · simp only [decide_eq_true d, if_true]
      have e : decide (CaseOk n E m D) = decide (n ≤ 6) := decide_eq_decide.2 ⟨fun x => x.2.2, fun x => ⟨c, d, x⟩⟩
      rw [e]; exact Ev.now _
    · simp only [decide_eq_false d, Bool.false_eq_true, if_false]
      rw [decide_eq_false fun x : CaseOk n E m D => d x.2.1]; exact Ev.now _
  · simp only [decide_eq_false c, Bool.false_eq_true, if_false]
    rw [decide_eq_false fun x : CaseOk n E m D => c x.1]; exact Ev.now _
def FitAt (E D : List S78) (w : List Int) (z : Bool) (i : Nat) : Prop := Fit D (rd w (rd_T78 E i).f0) (rd w (rd_T78 E i).f1) z
def MapOk (n : Int) (E : List S78) (m : Int) (D : List S78) (w : List Int) (z : Bool) : Prop := (w.length : Int) = n ∧ Within 0 (m - 1) w ∧ ∀ i, i < E.length → FitAt E D w z i
theorem edges_in {n : Int} {E : List S78} {w : List Int} (h : GraphOk n E) (hl : (w.length : Int) = n) (i : Nat) (hi : i < E.length) :
    (0 ≤ (rd_T78 E i).f0 ∧ (rd_T78 E i).f0 < (w.length : Int)) ∧ 0 ≤ (rd_T78 E i).f1 ∧ (rd_T78 E i).f1 < (w.length : Int) := by
  have := h.edge i hi
  omega
theorem specMap_ev (n : Int) (E : List S78) (m : Int) (D : List S78) (w : List Int) (z : Bool) (hE : E.length ≤ 1048576) (hD : D.length ≤ 1048576) (hw : w.length ≤ 1048576) (c : CaseOk n E m D) :
    Ev (fun k => spec_l10Map.f k n E m D w z) (decide (MapOk n E m D w z)) := by
  have hm := c.2.1.1
  have hm1 : wrap64 (m - 1) = m - 1 := wrap_of (by omega) (by omega)
  have loop2 : (w.length : Int) = n → Ev (fun k => spec_l10Map.l1 k w z 0 n E m D) (decide (∀ i, i < E.length → FitAt E D w z i)) := by
    intro hl
    refine Ev.check (F := fun k i => spec_l10Map.l1 k w z i n E m D) (n := E.length) (FitAt E D w z) (X := True) (Y := ∀ i, i < E.length → FitAt E D w z i) (by simp) ?_ ?_ ?_
    · refine Ev.step (fun k => by rw [spec_l10Map.l1]) ?_
      simp only [if_neg (show ¬ ((E.length : Int) < E.length) by omega)]
      simp
      exact Ev.now _
    · intro i hi g r ih
      obtain ⟨⟨a1, a2⟩, a3, a4⟩ := edges_in c.1 hl i hi
      refine Ev.step (fun k => by rw [spec_l10Map.l1]) ?_
      simp only [if_pos (show (i : Int) < E.length by omega), if_pos (show (0 : Int) ≤ i by omega), if_pos a1, if_pos a2, if_pos a3, if_pos a4, wrap_succ hi (show E.length ≤ 140737488351232 by omega)]
      refine Ev.bind (specFits_ev m D hD _ _ z) ?_
      simp only [decide_eq_true (show Fit D (rd w (rd_T78 E i).f0) (rd w (rd_T78 E i).f1) z from g), if_true]
      exact ih
    · intro i hi g
      obtain ⟨⟨a1, a2⟩, a3, a4⟩ := edges_in c.1 hl i hi
      refine Ev.step (fun k => by rw [spec_l10Map.l1]) ?_
      simp only [if_pos (show (i : Int) < E.length by omega), if_pos (show (0 : Int) ≤ i by omega), if_pos a1, if_pos a2, if_pos a3, if_pos a4, wrap_succ hi (show E.length ≤ 140737488351232 by omega)]
      refine Ev.bind (specFits_ev m D hD _ _ z) ?_
      simp only [decide_eq_false (show ¬ Fit D (rd w (rd_T78 E i).f0) (rd w (rd_T78 E i).f1) z from g), Bool.false_eq_true, if_false]
      exact Ev.now _
  unfold spec_l10Map.f
  refine Ev.check (F := fun k i => spec_l10Map.l0 k w z i n E m D) (n := w.length) (fun i => 0 ≤ rd w i ∧ rd w i ≤ m - 1) (X := (w.length : Int) = n ∧ ∀ i, i < E.length → FitAt E D w z i) (Y := MapOk n E m D w z) ⟨fun h => ⟨h.2.1, h.1, h.2.2⟩, fun h => ⟨h.2.1, h.1, h.2.2⟩⟩ ?_ ?_ ?_
  · refine Ev.step (fun k => by rw [spec_l10Map.l0]) ?_
    simp only [if_neg (show ¬ ((w.length : Int) < w.length) by omega)]
    by_cases hl : (w.length : Int) = n
    · simp only [if_pos hl]
      have e : decide ((w.length : Int) = n ∧ ∀ i, i < E.length → FitAt E D w z i) = decide (∀ i, i < E.length → FitAt E D w z i) := decide_eq_decide.2 ⟨fun x => x.2, fun x => ⟨hl, x⟩⟩
      rw [e]; exact loop2 hl
    · simp only [if_neg hl]
      rw [decide_eq_false fun x : (w.length : Int) = n ∧ ∀ i, i < E.length → FitAt E D w z i => hl x.1]; exact Ev.now _
  · intro i hi g r ih
    refine Ev.step (fun k => by rw [spec_l10Map.l0]) ?_
    simp only [if_pos (show (i : Int) < w.length by omega), if_pos (show (0 : Int) ≤ i by omega), in_iff, Option.bind_some, hm1, decide_eq_true g, if_true, wrap_succ hi (show w.length ≤ 140737488351232 by omega)]
    exact ih
  · intro i hi g
    refine Ev.step (fun k => by rw [spec_l10Map.l0]) ?_
    simp only [if_pos (show (i : Int) < w.length by omega), if_pos (show (0 : Int) ≤ i by omega), in_iff, Option.bind_some, hm1, decide_eq_false g, Bool.false_eq_true, if_false]
    exact Ev.now _
theorem contains1_ev (w : List Int) (m : Int) (D : List S78) (hm : 0 ≤ m ∧ m ≤ 8) (hw : w.length ≤ 1048576) : Ev (fun k => slices_ContainsFunc_int_int_impl_isMap_1.f k w m D) (!decide (Within 0 (m - 1) w)) := by
  have hm1 : wrap64 (m - 1) = m - 1 := wrap_of (by omega) (by omega)
  have h := Ev.loop (F := fun k i => slices_IndexFunc_int_int_impl_isMap_1.l0 k w w.length i m D) (n := w.length) (good := fun i : Nat => 0 ≤ rd w i ∧ rd w i ≤ m - 1) (fun r : Int => r < 0) (fun r => 0 ≤ r) ?_ ?_ ?_
  · obtain ⟨r, h, h1, h2⟩ := h
    unfold slices_ContainsFunc_int_int_impl_isMap_1.f slices_IndexFunc_int_int_impl_isMap_1.f
    have e : (!decide (Within 0 (m - 1) w)) = decide (r ≥ 0) := by
      by_cases a : Within 0 (m - 1) w
      · rw [decide_eq_true a, decide_eq_false (by have := h1 a; omega)]; rfl
      · rw [decide_eq_false a, decide_eq_true (h2 a)]; rfl
    rw [e]
    exact Ev.bind h (Ev.now _)
  · refine ⟨-1, Ev.step (fun k => by rw [slices_IndexFunc_int_int_impl_isMap_1.l0]) ?_, by decide⟩
    simp only [if_neg (show ¬ ((w.length : Int) < w.length) by omega)]
    exact Ev.now _
  · intro i hi g r ih
    refine Ev.step (fun k => by rw [slices_IndexFunc_int_int_impl_isMap_1.l0]) ?_
    simp only [if_pos (show (i : Int) < w.length by omega), if_pos (show (0 : Int) ≤ i by omega), impl_isMap_1.f, between_iff, Option.bind_some, hm1, decide_eq_true g, Bool.not_true, Bool.false_eq_true, if_false, wrap_succ hi (show w.length ≤ 140737488351232 by omega)]
    exact ih
  · intro i hi g
    refine ⟨i, Ev.step (fun k => by rw [slices_IndexFunc_int_int_impl_isMap_1.l0]) ?_, by omega⟩
    simp only [if_pos (show (i : Int) < w.length by omega), if_pos (show (0 : Int) ≤ i by omega), impl_isMap_1.f, between_iff, Option.bind_some, hm1, decide_eq_false g, Bool.not_false, if_true]
    exact Ev.now _
theorem contains2_ev (n : Int) (E : List S78) (m : Int) (D : List S78) (w : List Int) (z : Bool) (hE : E.length ≤ 1048576) (hD : D.length ≤ 1048576) (c : CaseOk n E m D) (hl : (w.length : Int) = n) :
    Ev (fun k => slices_ContainsFunc_2_int_2_int_impl_isMap_2.f k E m D w z) (!decide (∀ i, i < E.length → FitAt E D w z i)) := by
  have one : ∀ i, i < E.length → Ev (fun k => impl_isMap_2.f k (rd_T78 E i).f0 (rd_T78 E i).f1 m D w z) (!decide (FitAt E D w z i)) := by
    intro i hi
    obtain ⟨⟨a1, a2⟩, a3, a4⟩ := edges_in c.1 hl i hi
    unfold impl_isMap_2.f
    simp only [if_pos a1, if_pos a2, if_pos a3, if_pos a4]
    exact Ev.bind (implFit_ev m D c.2.1 hD _ _ z) (Ev.now _)
  have h := Ev.loop (F := fun k i => slices_IndexFunc_2_int_2_int_impl_isMap_2.l0 k E E.length i m D w z) (n := E.length) (good := FitAt E D w z) (fun r : Int => r < 0) (fun r => 0 ≤ r) ?_ ?_ ?_
  · obtain ⟨r, h, h1, h2⟩ := h
    unfold slices_ContainsFunc_2_int_2_int_impl_isMap_2.f slices_IndexFunc_2_int_2_int_impl_isMap_2.f
    have e : (!decide (∀ i, i < E.length → FitAt E D w z i)) = decide (r ≥ 0) := by
      by_cases a : ∀ i, i < E.length → FitAt E D w z i
      · rw [decide_eq_true a, decide_eq_false (by have := h1 a; omega)]; rfl
      · rw [decide_eq_false a, decide_eq_true (h2 a)]; rfl
    rw [e]
    exact Ev.bind h (Ev.now _)
  · refine ⟨-1, Ev.step (fun k => by rw [slices_IndexFunc_2_int_2_int_impl_isMap_2.l0]) ?_, by decide⟩
    simp only [if_neg (show ¬ ((E.length : Int) < E.length) by omega)]
    exact Ev.now _
  · intro i hi g r ih
    refine Ev.step (fun k => by rw [slices_IndexFunc_2_int_2_int_impl_isMap_2.l0]) ?_
    simp only [if_pos (show (i : Int) < E.length by omega), if_pos (show (0 : Int) ≤ i by omega), wrap_succ hi (show E.length ≤ 140737488351232 by omega)]
    refine Ev.bind (one i hi) ?_
    simp only [decide_eq_true g, Bool.not_true, Bool.false_eq_true, if_false]
    exact ih
  · intro i hi g
    refine ⟨i, Ev.step (fun k => by rw [slices_IndexFunc_2_int_2_int_impl_isMap_2.l0]) ?_, by omega⟩
    simp only [if_pos (show (i : Int) < E.length by omega), if_pos (show (0 : Int) ≤ i by omega)]
    refine Ev.bind (one i hi) ?_
    simp only [decide_eq_false g, Bool.not_false, if_true]
    exact Ev.now _
theorem implMap_ev (n : Int) (E : List S78) (m : Int) (D : List S78) (w : List Int) (z : Bool) (hE : E.length ≤ 1048576) (hD : D.length ≤ 1048576) (hw : w.length ≤ 1048576) (c : CaseOk n E m D) :
    Ev (fun k => impl_isMap.f k n E m D w z) (decide (MapOk n E m D w z)) := by
  unfold impl_isMap.f
  by_cases hl : (w.length : Int) = n
  · simp only [if_pos hl]
    refine Ev.bind (contains1_ev w m D c.2.1.1 hw) ?_
    by_cases a : Within 0 (m - 1) w
    · simp only [decide_eq_true a, Bool.not_true, Bool.false_eq_true, if_false]
      refine Ev.bind (contains2_ev n E m D w z hE hD c hl) ?_
      have e : decide (MapOk n E m D w z) = decide (∀ i, i < E.length → FitAt E D w z i) := decide_eq_decide.2 ⟨fun x => x.2.2, fun x => ⟨hl, a, x⟩⟩
      rw [e, Bool.not_not]
      exact Ev.now _
    · simp only [decide_eq_false a, Bool.not_false, if_true]
      rw [decide_eq_false fun x : MapOk n E m D w z => a x.2.1]; exact Ev.now _
  · simp only [if_neg hl]
    rw [decide_eq_false fun x : MapOk n E m D w z => hl x.1]; exact Ev.now _
/-! ### marks of numbers and of graphs -/
def ups (c : Int) (n : Nat) : List Int := (List.range n).map fun i : Nat => c + (i : Int)
theorem ups_length (c : Int) (n : Nat) : (ups c n).length = n := by simp [ups]
theorem ups_at (c : Int) (n i : Nat) (h : i < n) : (ups c n)[i]'(by rw [ups_length]; exact h) = c + (i : Int) := by simp [ups]
theorem markIntS_ev (l : List Int) (c : Int) (h0 : 0 ≤ c) (hc : c ≤ 16777216) (hl : l.length ≤ 1048576) : Ev (fun k => laws_markIntS.f k l c) (c + (l.length : Int), ups c l.length) := by
  have main : ∀ d i : Nat, ∀ x : List Int, i ≤ l.length → l.length - i = d → x.length = l.length → x.take i = (ups c l.length).take i → Ev (fun k => laws_markIntS.l0 k x (c + (i : Int)) i) (c + (l.length : Int), ups c l.length) := by
    intro d
    induction d with
    | zero =>
      intro i x hi hd hx ht
      have hi' : i = l.length := by omega
      have e : x = ups c l.length := by rw [List.take_of_length_le (by omega), List.take_of_length_le (by rw [ups_length]; omega)] at ht; exact ht
      refine Ev.step (fun k => by rw [laws_markIntS.l0]) ?_
      simp only [if_neg (show ¬ ((i : Int) < (x.length : Int)) by omega)]
      rw [e, hi']; exact Ev.now _
    | succ d ih =>
      intro i x hi hd hx ht
      have hi' : i < x.length := by omega
      refine Ev.step (fun k => by rw [laws_markIntS.l0]) ?_
      simp only [if_pos (show (i : Int) < (x.length : Int) by omega), if_pos (show (0 : Int) ≤ (i : Int) by omega), Int.toNat_natCast, wrap_succ (show i < l.length by omega) (show l.length ≤ 140737488351232 by omega),
        show wrap64 (c + (i : Int) + 1) = c + ((i + 1 : Nat) : Int) from by rw [wrap_of (by omega) (by omega)]; omega]
      refine ih (i + 1) _ (by omega) (by omega) (by simpa using hx) ?_
      rw [List.take_succ_eq_append_getElem (by simpa using hi'), List.take_succ_eq_append_getElem (by rw [ups_length]; omega), List.take_set, ht, List.set_eq_of_length_le (by simp; omega), ups_at c _ i (by omega)]
      simp
  unfold laws_markIntS.f
  have := main l.length 0 l (by omega) (by omega) rfl (by simp)
  simpa using this
theorem heldIntS_ev (n : Nat) (c : Int) (h0 : 0 ≤ c) (hc : c ≤ 16777216) (hl : n ≤ 1048576) : Ev (fun k => laws_heldIntS.f k (ups c n) c) (c + (n : Int)) := by
  have main : ∀ d i : Nat, i ≤ n → n - i = d → Ev (fun k => laws_heldIntS.l0 k (ups c n) (c + (i : Int)) i) (c + (n : Int)) := by
    intro d
    induction d with
    | zero =>
      intro i hi hd
      obtain rfl : i = n := by omega
      refine Ev.step (fun k => by rw [laws_heldIntS.l0]) ?_
      simp only [ups_length, if_neg (show ¬ ((i : Int) < (i : Int)) by omega)]
      exact Ev.now _
    | succ d ih =>
      intro i hi hd
      have e : rd (ups c n) i = c + (i : Int) := by rw [rd_at _ i (by rw [ups_length]; omega), ups_at c n i (by omega)]
      refine Ev.step (fun k => by rw [laws_heldIntS.l0]) ?_
      simp only [ups_length, if_pos (show (i : Int) < (n : Int) by omega), if_pos (show (0 : Int) ≤ (i : Int) by omega), e, if_true, wrap_succ (show i < n by omega) (show n ≤ 140737488351232 by omega),
        show wrap64 (c + (i : Int) + 1) = c + ((i + 1 : Nat) : Int) from by rw [wrap_of (by omega) (by omega)]; omega]
      exact ih (i + 1) (by omega) (by omega)
  unfold laws_heldIntS.f
  have := main n 0 (by omega) (by omega)
  simpa using this
theorem markIntA2S_ex (l : List S78) (c : Int) (h0 : 0 ≤ c) (hc : c ≤ 16777216) (hl : l.length ≤ 1048576) : ∃ y, Ev (fun k => laws_markIntA2S.f k l c) (c + 2 * (l.length : Int), y) := by
  have main : ∀ d i : Nat, ∀ x : List S78, i ≤ l.length → l.length - i = d → x.length = l.length → ∃ y, Ev (fun k => laws_markIntA2S.l0 k x (c + 2 * (i : Int)) i) (c + 2 * (l.length : Int), y) := by
    intro d
    induction d with
    | zero =>
      intro i x hi hd hx
      have hi' : i = l.length := by omega
      refine ⟨x, Ev.step (fun k => by rw [laws_markIntA2S.l0]) ?_⟩
      simp only [if_neg (show ¬ ((i : Int) < (x.length : Int)) by omega)]
      rw [hi']; exact Ev.now _
    | succ d ih =>
      intro i x hi hd hx
      have hi' : i < x.length := by omega
      have hs : ∀ v : S78, (x.set i v).length = x.length := fun v => by simp
      have hs2 : ∀ v u : S78, ((x.set i v).set i u).length = x.length := fun v u => by simp
      obtain ⟨y, hy⟩ := ih (i + 1) ((x.set i (⟨c + 2 * (i : Int), (rd_T78 x i).f1⟩ : S78)).set i (⟨(rd_T78 (x.set i (⟨c + 2 * (i : Int), (rd_T78 x i).f1⟩ : S78)) i).f0, c + 2 * (i : Int) + 1⟩ : S78)) (by omega) (by omega) (by rw [hs2]; exact hx)
      refine ⟨y, Ev.step (fun k => by rw [laws_markIntA2S.l0]) ?_⟩
      simp only [if_pos (show (i : Int) < (x.length : Int) by omega)]
      refine Ev.step (fun k => by rw [laws_markIntA2S.l1]) ?_
      simp only [if_pos (show (0 : Int) < 2 by decide), if_pos (show (i : Int) < (x.length : Int) by omega), if_pos (show (0 : Int) ≤ (i : Int) by omega), if_true, Int.toNat_natCast,
        wrap_of (x := c + 2 * (i : Int) + 1) (by omega) (by omega), show wrap64 ((0 : Int) + 1) = 1 from by rw [wrap_of (by decide) (by decide)]; rfl]
      refine Ev.step (fun k => by rw [laws_markIntA2S.l1]) ?_
      simp only [if_pos (show (1 : Int) < 2 by decide), hs, if_pos (show (i : Int) < (x.length : Int) by omega), if_pos (show (0 : Int) ≤ (i : Int) by omega), if_neg (show ¬ ((1 : Int) = 0) by decide), if_true, Int.toNat_natCast,
        show wrap64 (c + 2 * (i : Int) + 1 + 1) = c + 2 * ((i + 1 : Nat) : Int) from by rw [wrap_of (by omega) (by omega)]; omega, show wrap64 ((1 : Int) + 1) = 2 from by rw [wrap_of (by decide) (by decide)]; rfl]
      refine Ev.step (fun k => by rw [laws_markIntA2S.l1]) ?_
      simp only [if_neg (show ¬ ((2 : Int) < 2) by decide), wrap_succ (show i < l.length by omega) (show l.length ≤ 140737488351232 by omega)]
      exact hy
  unfold laws_markIntA2S.f
  have := main l.length 0 l (by omega) (by omega) rfl
  simpa using this
theorem markGraph_ex (n : Int) (l : List S78) (c : Int) (h0 : 0 ≤ c) (hc : c ≤ 16777216) (hl : l.length ≤ 1048576) : ∃ y, Ev (fun k => laws_markGraph.f k n l c) (c + 2 * (l.length : Int), y) := by
  obtain ⟨y, h⟩ := markIntA2S_ex l c h0 hc hl
  refine ⟨y, ?_⟩
  unfold laws_markGraph.f
  exact Ev.bind h (Ev.now _)
def comp (a b : List Int) : List Int := a.map fun v => rd b v
theorem comp_step (a b : List Int) (i : Nat) (h : i < a.length) : (comp a b).take i ++ [rd b (rd a i)] = (comp a b).take (i + 1) := by
  rw [List.take_succ_eq_append_getElem (by simpa [comp] using h), rd_at a i h]
  simp [comp]
theorem specAfter_ev (a b : List Int) (ha : a.length ≤ 1048576) (h : ∀ i : Nat, i < a.length → 0 ≤ rd a i ∧ rd a i < (b.length : Int)) : Ev (fun k => spec_AfterMap.l0 k a b [] 0) (comp a b, true) := by
  have hc : (comp a b).length = a.length := by simp [comp]
  have main : ∀ d i : Nat, i ≤ a.length → a.length - i = d → Ev (fun k => spec_AfterMap.l0 k a b ((comp a b).take i) i) (comp a b, true) := by
    intro d
    induction d with
    | zero =>
      intro i hi hd
      refine Ev.step (fun k => by rw [spec_AfterMap.l0]) ?_
      simp only [if_neg (show ¬ ((i : Int) < (a.length : Int)) by omega)]
      rw [List.take_of_length_le (by omega)]; exact Ev.now _
    | succ d ih =>
      intro i hi hd
      have hi' : i < a.length := by omega
      have hl : ((comp a b).take i).length < 17592186044416 := by rw [List.length_take]; omega
      refine Ev.step (fun k => by rw [spec_AfterMap.l0]) ?_
      simp only [if_pos (show (i : Int) < (a.length : Int) by omega), if_pos (show (0 : Int) ≤ (i : Int) by omega), if_pos (h i hi').1, if_pos (h i hi').2, if_pos hl, comp_step a b i hi', wrap_succ hi' (show a.length ≤ 140737488351232 by omega)]
      exact ih (i + 1) (by omega) (by omega)
  exact main a.length 0 (by omega) (by omega)
theorem implAfter_ev (a b : List Int) (ha : a.length ≤ 1048576) (h : ∀ i : Nat, i < a.length → 0 ≤ rd a i ∧ rd a i < (b.length : Int)) : Ev (fun k => impl_AfterMap.l0 k b [] a (a.length : Int) 0) (comp a b, true) := by
  have hc : (comp a b).length = a.length := by simp [comp]
  have main : ∀ d i : Nat, i ≤ a.length → a.length - i = d → Ev (fun k => impl_AfterMap.l0 k b ((comp a b).take i) a (a.length : Int) i) (comp a b, true) := by
    intro d
    induction d with
    | zero =>
      intro i hi hd
      refine Ev.step (fun k => by rw [impl_AfterMap.l0]) ?_
      simp only [if_neg (show ¬ ((i : Int) < (a.length : Int)) by omega)]
      rw [List.take_of_length_le (by omega)]; exact Ev.now _
    | succ d ih =>
      intro i hi hd
      have hi' : i < a.length := by omega
      have hl : ((comp a b).take i).length < 17592186044416 := by rw [List.length_take]; omega
      refine Ev.step (fun k => by rw [impl_AfterMap.l0]) ?_
      simp only [if_pos (show (i : Int) < (a.length : Int) by omega), if_pos (show (0 : Int) ≤ (i : Int) by omega), if_pos (h i hi').1, if_pos (h i hi').2, if_pos hl, comp_step a b i hi', wrap_succ hi' (show a.length ≤ 140737488351232 by omega)]
      exact ih (i + 1) (by omega) (by omega)
  exact main a.length 0 (by omega) (by omega)
theorem after_both (n : Int) (E : List S78) (m : Int) (D : List S78) (o : Int) (F : List S78) (a b : List Int) (z : Bool) (hE : E.length ≤ 1048576) (hD : D.length ≤ 1048576) (hF : F.length ≤ 1048576) (ha : a.length ≤ 1048576) (hb : b.length ≤ 1048576) :
    ∃ p q, Ev (fun k => spec_AfterMap.f k n E m D o F a b z) (p, q) ∧ Ev (fun k => impl_AfterMap.f k n E m D o F a b z) (p, q) ∧ p.length ≤ 1048576 := by
  unfold spec_AfterMap.f impl_AfterMap.f
  have s0 : Ev (fun k => spec_AfterMap.j0 k a b [] true) ([], false) := by
    refine Ev.step (fun k => by rw [spec_AfterMap.j0]) ?_
    simp only [if_true]; exact Ev.now _
  have i0 : Ev (fun k => impl_AfterMap.j0 k a b true) ([], false) := by
    refine Ev.step (fun k => by rw [impl_AfterMap.j0]) ?_
    simp only [if_true]; exact Ev.now _
  by_cases c : CaseOk n E m D
  · by_cases d : CaseOk m D o F
    · by_cases e : MapOk n E m D a z
      · by_cases f : MapOk m D o F b z
        · have h : ∀ i : Nat, i < a.length → 0 ≤ rd a i ∧ rd a i < (b.length : Int) := by
            intro i hi
            have h1 := e.2.1 i hi
            have h2 := f.1
            omega
          refine ⟨comp a b, true, Ev.bind (Ev.now _) (Ev.bind (specCase_ev n E m D hE hD) ?_), Ev.bind (implCase_ev n E m D hE hD) ?_, by simpa [comp] using ha⟩
          · simp only [decide_eq_true c, if_true]
            refine Ev.bind (specCase_ev m D o F hD hF) ?_
            simp only [decide_eq_true d, if_true]
            refine Ev.bind (specMap_ev n E m D a z hE hD ha c) ?_
            simp only [decide_eq_true e, if_true]
            refine Ev.bind (specMap_ev m D o F b z hD hF hb d) ?_
            simp only [decide_eq_true f, Bool.not_true]
            refine Ev.step (fun k => by rw [spec_AfterMap.j0]) ?_
            simp only [Bool.false_eq_true, if_false]
            exact specAfter_ev a b ha h
          · simp only [decide_eq_true c, if_true]
            refine Ev.bind (implCase_ev m D o F hD hF) ?_
            simp only [decide_eq_true d, if_true]
            refine Ev.bind (implMap_ev n E m D a z hE hD ha c) ?_
            simp only [decide_eq_true e, if_true]
            refine Ev.bind (implMap_ev m D o F b z hD hF hb d) ?_
            simp only [decide_eq_true f, Bool.not_true]
            refine Ev.step (fun k => by rw [impl_AfterMap.j0]) ?_
            simp only [Bool.false_eq_true, if_false]
            exact implAfter_ev a b ha h
        · refine ⟨[], false, Ev.bind (Ev.now _) (Ev.bind (specCase_ev n E m D hE hD) ?_), Ev.bind (implCase_ev n E m D hE hD) ?_, by simp⟩
          · simp only [decide_eq_true c, if_true]
            refine Ev.bind (specCase_ev m D o F hD hF) ?_
            simp only [decide_eq_true d, if_true]
            refine Ev.bind (specMap_ev n E m D a z hE hD ha c) ?_
            simp only [decide_eq_true e, if_true]
            refine Ev.bind (specMap_ev m D o F b z hD hF hb d) ?_
            simp only [decide_eq_false f, Bool.not_false]
            exact s0
          · simp only [decide_eq_true c, if_true]
            refine Ev.bind (implCase_ev m D o F hD hF) ?_
            simp only [decide_eq_true d, if_true]
            refine Ev.bind (implMap_ev n E m D a z hE hD ha c) ?_
            simp only [decide_eq_true e, if_true]
            refine Ev.bind (implMap_ev m D o F b z hD hF hb d) ?_
            simp only [decide_eq_false f, Bool.not_false]
            exact i0
      · refine ⟨[], false, Ev.bind (Ev.now _) (Ev.bind (specCase_ev n E m D hE hD) ?_), Ev.bind (implCase_ev n E m D hE hD) ?_, by simp⟩
        · simp only [decide_eq_true c, if_true]
          refine Ev.bind (specCase_ev m D o F hD hF) ?_
          simp only [decide_eq_true d, if_true]
          refine Ev.bind (specMap_ev n E m D a z hE hD ha c) ?_
          simp only [decide_eq_false e, Bool.false_eq_true, if_false]
          exact s0
        · simp only [decide_eq_true c, if_true]
          refine Ev.bind (implCase_ev m D o F hD hF) ?_
          simp only [decide_eq_true d, if_true]
          refine Ev.bind (implMap_ev n E m D a z hE hD ha c) ?_
          simp only [decide_eq_false e, Bool.false_eq_true, if_false]
          exact i0
    · refine ⟨[], false, Ev.bind (Ev.now _) (Ev.bind (specCase_ev n E m D hE hD) ?_), Ev.bind (implCase_ev n E m D hE hD) ?_, by simp⟩
      · simp only [decide_eq_true c, if_true]
        refine Ev.bind (specCase_ev m D o F hD hF) ?_
        simp only [decide_eq_false d, Bool.false_eq_true, if_false]
        exact s0
      · simp only [decide_eq_true c, if_true]
        refine Ev.bind (implCase_ev m D o F hD hF) ?_
        simp only [decide_eq_false d, Bool.false_eq_true, if_false]
        exact i0
  · refine ⟨[], false, Ev.bind (Ev.now _) (Ev.bind (specCase_ev n E m D hE hD) ?_), Ev.bind (implCase_ev n E m D hE hD) ?_, by simp⟩
    · simp only [decide_eq_false c, Bool.false_eq_true, if_false]
      exact s0
    · simp only [decide_eq_false c, Bool.false_eq_true, if_false]
      exact i0
theorem FnExactAfterMap (n : Int) (E : List S78) (m : Int) (D : List S78) (o : Int) (F : List S78) (a b : List Int) (z : Bool) (hE0 : E.length ≤ 140737488351232) (hD0 : D.length ≤ 140737488351232) (hF0 : F.length ≤ 140737488351232) : ∃ k, laws_FnExactAfterMap.f k n E m D o F a b z = some true := by
  have main : Ev (fun k => laws_FnExactAfterMap.f k n E m D o F a b z) true := by
    unfold laws_FnExactAfterMap.f
    by_cases g0 : (a.length : Int) > 1048576
    · simp only [if_pos g0]; exact Ev.now _
    simp only [if_neg g0]
    refine Ev.step (fun k => by rw [laws_FnExactAfterMap.j0]) ?_
    by_cases g1 : (b.length : Int) > 1048576
    · simp only [if_pos g1]; exact Ev.now _
    simp only [if_neg g1]
    have ha : a.length ≤ 1048576 := by omega
    have hb : b.length ≤ 1048576 := by omega
    refine Ev.step (fun k => by rw [laws_FnExactAfterMap.j1]) ?_
    obtain ⟨t, ht, hz⟩ := szGraph_ev n E 1048576 (by decide) (by decide) hE0
    rw [ht]
    refine Ev.bind (Ev.now t) ?_
    by_cases g2 : t < 0
    · simp only [if_pos g2]; exact Ev.now _
    simp only [if_neg g2]
    obtain ⟨hE, t0, t1⟩ := hz g2
    refine Ev.step (fun k => by rw [laws_FnExactAfterMap.j2]) ?_
    obtain ⟨u, hu, hy⟩ := szGraph_ev m D t t0 t1 hD0
    rw [hu]
    refine Ev.bind (Ev.now u) ?_
    by_cases g3 : u < 0
    · simp only [if_pos g3]; exact Ev.now _
    simp only [if_neg g3]
    obtain ⟨hD, u0, u1⟩ := hy g3
    refine Ev.step (fun k => by rw [laws_FnExactAfterMap.j3]) ?_
    obtain ⟨v, hv, hx⟩ := szGraph_ev o F u u0 u1 hF0
    rw [hv]
    refine Ev.bind (Ev.now v) ?_
    by_cases g4 : v < 0
    · simp only [if_pos g4]; exact Ev.now _
    simp only [if_neg g4]
    have hF := (hx g4).1
    clear ht hz hu hy hv hx
    obtain ⟨p, q, h1, h2, hp⟩ := after_both n E m D o F a b z hE hD hF ha hb
    refine Ev.step (fun k => by rw [laws_FnExactAfterMap.j4]) ?_
    refine Ev.bind (toGraph_ev n E hE) ?_
    refine Ev.bind (toGraph_ev m D hD) ?_
    refine Ev.bind (toGraph_ev o F hF) ?_
    refine Ev.bind (toIntS_ev a ha) ?_
    refine Ev.bind (toIntS_ev b hb) ?_
    refine Ev.bind h1 ?_
    refine Ev.bind (toGraph_ev n E hE) ?_
    refine Ev.bind (toGraph_ev m D hD) ?_
    refine Ev.bind (toGraph_ev o F hF) ?_
    refine Ev.bind (toIntS_ev a ha) ?_
    refine Ev.bind (toIntS_ev b hb) ?_
    refine Ev.bind h2 ?_
    refine Ev.bind (eqIntS_ev p hp) ?_
    simp only [bne_self_eq_false, if_true]
    refine Ev.step (fun k => by rw [laws_FnExactAfterMap.j5]) ?_
    simp only [Bool.false_eq_true, if_false]
    refine Ev.step (fun k => by rw [laws_FnExactAfterMap.j6]) ?_
    refine Ev.bind (toGraph_ev n E hE) ?_
    refine Ev.bind (eqGraph_ev n E hE) ?_
    simp only [if_true]
    refine Ev.step (fun k => by rw [laws_FnExactAfterMap.j7]) ?_
    refine Ev.bind (toGraph_ev m D hD) ?_
    refine Ev.bind (eqGraph_ev m D hD) ?_
    simp only [if_true]
    refine Ev.step (fun k => by rw [laws_FnExactAfterMap.j8]) ?_
    refine Ev.bind (toGraph_ev o F hF) ?_
    refine Ev.bind (eqGraph_ev o F hF) ?_
    simp only [if_true]
    refine Ev.step (fun k => by rw [laws_FnExactAfterMap.j9]) ?_
    refine Ev.bind (toIntS_ev a ha) ?_
    refine Ev.bind (eqIntS_ev a ha) ?_
    simp only [if_true]
    refine Ev.step (fun k => by rw [laws_FnExactAfterMap.j10]) ?_
    refine Ev.bind (toIntS_ev b hb) ?_
    refine Ev.bind (eqIntS_ev b hb) ?_
    simp only [if_true]
    refine Ev.step (fun k => by rw [laws_FnExactAfterMap.j11]) ?_
    obtain ⟨y1, m1⟩ := markGraph_ex n E 1 (by decide) (by decide) hE
    refine Ev.bind m1 ?_
    obtain ⟨y2, m2⟩ := markGraph_ex m D (1 + 2 * (E.length : Int)) (by omega) (by omega) hD
    refine Ev.bind m2 ?_
    obtain ⟨y3, m3⟩ := markGraph_ex o F (1 + 2 * (E.length : Int) + 2 * (D.length : Int)) (by omega) (by omega) hF
    refine Ev.bind m3 ?_
    refine Ev.bind (markIntS_ev a (1 + 2 * (E.length : Int) + 2 * (D.length : Int) + 2 * (F.length : Int)) (by omega) (by omega) ha) ?_
    refine Ev.bind (markIntS_ev b (1 + 2 * (E.length : Int) + 2 * (D.length : Int) + 2 * (F.length : Int) + (a.length : Int)) (by omega) (by omega) hb) ?_
    simp only [if_neg (show ¬ (1 + 2 * (E.length : Int) + 2 * (D.length : Int) + 2 * (F.length : Int) + (a.length : Int) + (b.length : Int) < 0) by omega)]
    refine Ev.bind (eqIntS_ev p hp) ?_
    simp only [bne_self_eq_false, if_true]
    refine Ev.step (fun k => by rw [laws_FnExactAfterMap.j12]) ?_
    simp only [Bool.false_eq_true, if_false]
    refine Ev.step (fun k => by rw [laws_FnExactAfterMap.j13]) ?_
    refine Ev.bind (markIntS_ev p 1 (by decide) (by decide) hp) ?_
    refine Ev.bind (heldIntS_ev p.length 1 (by decide) (by decide) hp) ?_
    simp only [if_neg (show ¬ (1 + (p.length : Int) < 0) by omega)]
    refine Ev.step (fun k => by rw [laws_FnExactAfterMap.j14]) ?_
    simp only [if_true]
    refine Ev.step (fun k => by rw [laws_FnExactAfterMap.j15]) ?_
    refine Ev.bind (toGraph_ev n E hE) ?_
    refine Ev.bind (toGraph_ev m D hD) ?_
    refine Ev.bind (toGraph_ev o F hF) ?_
    refine Ev.bind (toIntS_ev a ha) ?_
    refine Ev.bind (toIntS_ev b hb) ?_
    refine Ev.bind h2 ?_
    refine Ev.bind (eqIntS_ev p hp) ?_
    simp only [bne_self_eq_false, if_true]
    refine Ev.step (fun k => by rw [laws_FnExactAfterMap.j16]) ?_
    simp only [Bool.false_eq_true, if_false]
    refine Ev.step (fun k => by rw [laws_FnExactAfterMap.j17]) ?_
    refine Ev.bind (heldIntS_ev p.length 1 (by decide) (by decide) hp) ?_
    simp only [if_neg (show ¬ (1 + (p.length : Int) < 0) by omega), if_true]
    exact Ev.now _
  obtain ⟨K, hK⟩ := main
  exact ⟨K, hK K (Nat.le_refl _)⟩
end Go.Proofs.Ytiiaadgibkpaaaa.Pure
