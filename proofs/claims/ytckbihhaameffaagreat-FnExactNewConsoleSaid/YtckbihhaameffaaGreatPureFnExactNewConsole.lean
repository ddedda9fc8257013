/-
  What the reference and the program compute agrees: plain lemmas over numbers and lists.
-/
import Derived.Test.YtckbihhaameffaaGreatTFnExactNewConsole
import Derived.Test.YtckbihhaameffaaGreatE4
namespace Go.Proofs.YtckbihhaameffaaGreat.V
open Go Go.Ve Go.Proofs
set_option linter.unusedVariables false
set_option linter.unusedSimpArgs false
theorem fold_len {n : Nat} (h : n ≤ 1048576) : (decide (0 ≤ (n : Int)) && decide ((n : Int) ≤ (n : Int)) && decide ((n : Int) * 8 ≤ 140737488355328)) = true ∧ (decide (0 ≤ (n : Int)) && decide ((n : Int) ≤ (n : Int)) && decide ((n : Int) * 24 ≤ 140737488355328)) = true ∧ (decide (0 ≤ (n : Int)) && decide ((n : Int) ≤ (n : Int)) && decide ((n : Int) * 16 ≤ 140737488355328)) = true := by
  refine ⟨?_, ?_, ?_⟩ <;> simp <;> omega
theorem toIntA2_eq (a : Int × Int) : laws_toIntA2 (a, ()) () = some ((a, ()), ()) := by
  obtain ⟨x, y⟩ := a
  have e0 : laws_toIntA2_B0 (((x, y), 0, ()), ((0, 0), (0, 0), ())) = some (.inl (((x, y), 1, ()), ((0, 0), (x, 0), ()))) := rfl
  have e1 : laws_toIntA2_B0 (((x, y), 1, ()), ((0, 0), (x, 0), ())) = some (.inl (((x, y), 2, ()), ((0, 0), (x, y), ()))) := rfl
  have e2 : laws_toIntA2_B0 (((x, y), 2, ()), ((0, 0), (x, y), ())) = some (.inr ((), ((0, 0), (x, y), ()))) := rfl
  simp only [laws_toIntA2, loop_step e0 (loop_step e1 (loop_end e2))]
theorem toIntA2S_eq (l : List (Int × Int)) (hl : l.length ≤ 1048576) : laws_toIntA2S (l, ()) () = some ((l, ()), ()) := by
  simp only [laws_toIntA2S, guardB_true (fold_len hl).2.2, Int.toNat_natCast]
  have key : loopO laws_toIntA2S_B0 ((l, fill (fun j => l.getD j (0, 0)) (0, 0) l.length 0, ((0 : Nat) : Int), ()), ()) = some ((fill (fun j => l.getD j (0, 0)) (0, 0) l.length l.length, ()), ()) := by
    refine loop_count (fun i => ((l, fill (fun j => l.getD j (0, 0)) (0, 0) l.length i, (i : Int), ()), ())) l.length _ (fun i hi => ?_) ?_ 0 (Nat.zero_le _)
    · simp only [laws_toIntA2S_B0, bif_decide, if_pos (show (i : Int) < (l.length : Int) by omega), fill_len, guardB_true (inb_true (Int.natCast_nonneg i) (show (i : Int) < (l.length : Int) by omega)), Int.toNat_natCast]
      rw [toIntA2_eq]
      simp only [fill_set (f := fun j => l.getD j (0, 0)) hi, w64_succ (show i < 4611686018427387904 by omega)]
    · simp only [laws_toIntA2S_B0, bif_decide, if_neg (show ¬ (l.length : Int) < (l.length : Int) by omega)]
  rw [fill_zero, fill_all, range_getD] at key
  erw [key]
theorem allUpto_true {n : Nat} : allUpto (fun _ => true) n = true := allUpto_iff.2 fun _ _ => rfl
theorem eqIntA2_eq (a : Int × Int) : laws_eqIntA2 (a, a, ()) () = some ((true, ()), ()) := by
  obtain ⟨x, y⟩ := a
  have e0 : laws_eqIntA2_B0 (((x, y), (x, y), 0, ()), ()) = some (.inl (((x, y), (x, y), 1, ()), ())) := by
    simp [laws_eqIntA2_B0, guardB]; rfl
  have e1 : laws_eqIntA2_B0 (((x, y), (x, y), 1, ()), ()) = some (.inl (((x, y), (x, y), 2, ()), ())) := by
    simp [laws_eqIntA2_B0, guardB]; rfl
  have e2 : laws_eqIntA2_B0 (((x, y), (x, y), 2, ()), ()) = some (.inr (.inr ((), ()))) := rfl
  simp only [laws_eqIntA2, loop_step e0 (loop_step e1 (loop_end e2))]
theorem eqIntA2S_eq (l : List (Int × Int)) (hl : l.length ≤ 1048576) : laws_eqIntA2S (l, l, ()) () = some ((true, ()), ()) := by
  have key := loop_all (B := laws_eqIntA2S_B0) (fun i => ((l, l, (i : Int), ()), ())) (fun _ => true) l.length (.inl ((false, ()), ())) (.inr ((), ())) (fun i hi _ => by
    simp only [laws_eqIntA2S_B0, bif_decide, if_pos (show (i : Int) < (l.length : Int) by omega), guardB_true (inb_true (Int.natCast_nonneg i) (show (i : Int) < (l.length : Int) by omega)), Int.toNat_natCast]
    rw [eqIntA2_eq]
    simp [w64_succ (show i < 4611686018427387904 by omega)]) (by simp [laws_eqIntA2S_B0])
  rw [allUpto_true] at key
  simp only [laws_eqIntA2S, bne_self_eq_false, cond_false]
  rw [show (0 : Int) = ((0 : Nat) : Int) from rfl, key]
  rfl
theorem szIntA2S_eq (l : List (Int × Int)) (n : Int) (h0 : 0 ≤ n) (hn : n ≤ 1048576) (hl : l.length ≤ 140737488351232) : laws_szIntA2S (l, n, ()) () = some (((if (l.length : Int) ≤ n then n - l.length else -1), ()), ()) := by
  simp only [laws_szIntA2S, w64_of (x := n - (l.length : Int)) (by omega) (by omega), bif_decide]
  by_cases h : (l.length : Int) ≤ n
  · rw [if_neg (by omega), if_pos h]
  · rw [if_pos (by omega), if_neg h]
def inR (x a b : Int) : Bool := decide (a ≤ x) && decide (x ≤ b)
theorem l1In_eq (x a b : Int) : spec_l1In (x, a, b, ()) () = some ((inR x a b, ()), ()) := by
  simp only [spec_l1In, inR]
  by_cases h : a ≤ x <;> simp [h]
theorem between_eq (x a b : Int) : impl_between (x, a, b, ()) () = some ((inR x a b, ()), ()) := by
  simp only [impl_between, inR]
  by_cases h : a ≤ x <;> simp [h]
theorem cmp_eq (x y : Int) : cmp_Compare_int (x, y, ()) () = some (((if x < y then -1 else if y < x then 1 else 0), ()), ()) := by
  simp only [cmp_Compare_int, cmp_isNaN_int, bne_self_eq_false, cond_false, bif_decide]
  split
  · rfl
  · split <;> rfl
def edgeB (a b : Int × Int) : Bool := decide (a.1 < b.1) || (decide (a.1 = b.1) && decide (a.2 < b.2))
theorem l2Edge_eq (a b : Int × Int) : spec_l2Edge (a, b, ()) () = some ((edgeB a b, ()), ()) := by
  simp only [spec_l2Edge, edgeB]
  by_cases h : a.1 < b.1
  · simp [h]
  · by_cases h2 : a.1 = b.1
    · simp [h, h2]
    · simp [h, h2, beq_ne h2]
theorem cmpOr_eq (x y : Int) : cmp_Or_int ([x, y], ()) () = some (((if x = 0 then y else x), ()), ()) := by
  simp only [cmp_Or_int]
  have e0 : cmp_Or_int_B0 ((0, [x, y], ([x, y].length : Int), 0, ()), ()) = some (if x = 0 then .inl ((0, [x, y], ([x, y].length : Int), 1, ()), ()) else .inr (.inl ((x, ()), ()))) := by
    by_cases h : x = 0
    · simp [cmp_Or_int_B0, inb, guardB, h]; rfl
    · simp [cmp_Or_int_B0, inb, guardB, h, bne_ne h]
  have e1 : cmp_Or_int_B0 ((0, [x, y], ([x, y].length : Int), 1, ()), ()) = some (if y = 0 then .inl ((0, [x, y], ([x, y].length : Int), 2, ()), ()) else .inr (.inl ((y, ()), ()))) := by
    by_cases h : y = 0
    · simp [cmp_Or_int_B0, inb, guardB, h]; rfl
    · simp [cmp_Or_int_B0, inb, guardB, h, bne_ne h]
  have e2 : cmp_Or_int_B0 ((0, [x, y], ([x, y].length : Int), 2, ()), ()) = some (.inr (.inr ((0, ()), ()))) := by
    simp [cmp_Or_int_B0]
  by_cases h : x = 0
  · rw [if_pos h] at e0 ⊢
    by_cases g : y = 0
    · rw [if_pos g] at e1
      rw [loop_step e0 (loop_step e1 (loop_end e2)), g]
    · rw [if_neg g] at e1
      rw [loop_step e0 (loop_end e1)]
  · rw [if_neg h] at e0 ⊢
    rw [loop_end e0]
theorem comparePairs_eq (a b : Int × Int) : ∃ r : Int, impl_comparePairs (a, b, ()) () = some ((r, ()), ()) ∧ (decide ((0 : Int) ≤ r) = !edgeB a b) ∧ (r = 0 ↔ a = b) := by
  obtain ⟨a1, a2⟩ := a
  obtain ⟨b1, b2⟩ := b
  simp only [impl_comparePairs, cmp_eq _ _, cmpOr_eq _ _]
  refine ⟨_, rfl, ?_, ?_⟩
  · simp only [edgeB]
    by_cases h : a1 < b1
    · simp [h]
    · by_cases h2 : b1 < a1
      · have : ¬ a1 = b1 := by omega
        simp [h, h2, this]
      · have : a1 = b1 := by omega
        subst this
        by_cases h3 : a2 < b2
        · simp [h3]
        · by_cases h4 : b2 < a2 <;> simp [h3, h4]
  · simp only [Prod.mk.injEq]
    by_cases h : a1 < b1
    · simp [h]; omega
    · by_cases h2 : b1 < a1
      · simp [h, h2]; omega
      · have : a1 = b1 := by omega
        subst this
        by_cases h3 : a2 < b2
        · simp [h3]; omega
        · by_cases h4 : b2 < a2
          · simp [h3, h4]; omega
          · simp [h3, h4]; omega
def pairB (l : List (Int × Int)) (n : Int) (i : Nat) : Bool :=
  decide (0 ≤ (l.getD i (0, 0)).1) && (decide ((l.getD i (0, 0)).1 < (l.getD i (0, 0)).2) && (decide ((l.getD i (0, 0)).2 < n) && (decide (i = 0) || edgeB (l.getD (i - 1) (0, 0)) (l.getD i (0, 0)))))
def pairsB (l : List (Int × Int)) (n : Int) : Bool := allUpto (pairB l n) l.length
theorem l2Pairs_eq (l : List (Int × Int)) (n : Int) (hl : l.length ≤ 1048576) (h0 : -1048576 ≤ n) (hn : n ≤ 1048576) : spec_l2Pairs (l, n, ()) () = some ((pairsB l n, ()), ()) := by
  have key := loop_all (B := spec_l2Pairs_B0) (fun i => ((l, n, (i : Int), ()), ())) (pairB l n) l.length (.inl ((false, ()), ())) (.inr ((), ())) (fun i hi _ => by
    obtain ⟨e, he⟩ : ∃ e : Int × Int, l.getD i (0, 0) = e := ⟨_, rfl⟩
    simp only [spec_l2Pairs_B0, bif_decide, if_pos (show (i : Int) < (l.length : Int) by omega), guardB_true (inb_true (Int.natCast_nonneg i) (show (i : Int) < (l.length : Int) by omega)), Int.toNat_natCast, l1In_eq _ _ _, w64_succ (show i < 4611686018427387904 by omega), w64_of (x := n - 1) (by omega) (by omega), pairB, inR, he]
    by_cases h1 : 0 ≤ e.1
    · by_cases h2 : e.1 ≤ n - 1
      · by_cases h3 : 0 ≤ e.2
        · by_cases h4 : e.2 ≤ n - 1
          · by_cases h5 : e.2 ≤ e.1
            · simp [h1, h2, h3, h4, h5, show ¬ e.1 < e.2 by omega]
            · by_cases h6 : i = 0
              · subst h6
                simp [h1, h2, h3, h4, h5, show e.1 < e.2 by omega, show e.2 < n by omega]
              · rw [w64_pred (by omega) (by omega), guardB_true (inb_true (Int.natCast_nonneg _) (show ((i - 1 : Nat) : Int) < (l.length : Int) by omega)), Int.toNat_natCast, l2Edge_eq]
                cases edgeB (l.getD (i - 1) (0, 0)) e <;> simp [h1, h2, h3, h4, h5, h6, show e.1 < e.2 by omega, show e.2 < n by omega, show 0 < i by omega]
          · simp [h1, h2, h3, h4, show ¬ e.2 < n by omega]
        · simp [h1, h2, h3, show ¬ e.1 < e.2 by omega]
      · simp only [h1, h2, decide_true, decide_false, Bool.and_false, Bool.not_false, cond_true, Bool.true_and]
        by_cases h3 : e.1 < e.2
        · simp [h3, show ¬ e.2 < n by omega]
        · simp [h3]
    · simp [h1]) (by simp [spec_l2Pairs_B0])
  simp only [spec_l2Pairs]
  erw [key]
  simp only [pairsB]
  cases allUpto (pairB l n) l.length <;> rfl
theorem isPairs_eq (l : List (Int × Int)) (n : Int) (hl : l.length ≤ 1048576) : impl_isPairs (l, n, ()) () = some ((pairsB l n, ()), ()) := by
  have key := loop_all (B := impl_isPairs_B0) (fun i => ((l, n, l, (l.length : Int), (i : Int), ()), ())) (pairB l n) l.length (.inl ((false, ()), ())) (.inr ((), ())) (fun i hi _ => by
    obtain ⟨e, he⟩ : ∃ e : Int × Int, l.getD i (0, 0) = e := ⟨_, rfl⟩
    simp only [impl_isPairs_B0, bif_decide, if_pos (show (i : Int) < (l.length : Int) by omega), guardB_true (inb_true (Int.natCast_nonneg i) (show (i : Int) < (l.length : Int) by omega)), Int.toNat_natCast, w64_succ (show i < 4611686018427387904 by omega), pairB, he]
    by_cases h1 : e.1 < 0
    · simp [h1, show ¬ 0 ≤ e.1 by omega]
    · by_cases h2 : e.2 ≤ e.1
      · simp [h1, h2, show ¬ e.1 < e.2 by omega]
      · by_cases h3 : n ≤ e.2
        · simp [h1, h2, h3, show ¬ e.2 < n by omega]
        · by_cases h6 : i = 0
          · subst h6
            simp [h1, h2, h3, show 0 ≤ e.1 by omega, show e.1 < e.2 by omega, show e.2 < n by omega]
          · obtain ⟨r, r1, r2, _⟩ := comparePairs_eq (l.getD (i - 1) (0, 0)) e
            rw [w64_pred (by omega) (by omega), guardB_true (inb_true (Int.natCast_nonneg _) (show ((i - 1 : Nat) : Int) < (l.length : Int) by omega)), Int.toNat_natCast, r1]
            simp only [if_neg h1, if_neg h2, if_neg h3, if_pos (show (0 : Int) < (i : Int) by omega), ← bif_decide, r2]
            cases edgeB (l.getD (i - 1) (0, 0)) e <;> simp [h6, show 0 ≤ e.1 by omega, show e.1 < e.2 by omega, show e.2 < n by omega]) (by simp [impl_isPairs_B0])
  simp only [impl_isPairs]
  erw [key]
  simp only [pairsB]
  cases allUpto (pairB l n) l.length <;> rfl
theorem w64_nat {x : Int} (h0 : 0 ≤ x) (h : x ≤ 4611686018427387904) : w64 (x + 1) = x + 1 := w64_of (by omega) (by omega)
theorem toIntS_eq (l : List Int) (hl : l.length ≤ 1048576) : laws_toIntS (l, ()) () = some ((l, ()), ()) := by
  simp only [laws_toIntS, guardB_true (fold_len hl).1, Int.toNat_natCast]
  have key : loopO laws_toIntS_B0 ((l, fill (fun j => l.getD j 0) 0 l.length 0, ((0 : Nat) : Int), ()), ()) = some ((fill (fun j => l.getD j 0) 0 l.length l.length, ()), ()) := by
    refine loop_count (fun i => ((l, fill (fun j => l.getD j 0) 0 l.length i, (i : Int), ()), ())) l.length _ (fun i hi => ?_) ?_ 0 (Nat.zero_le _)
    · simp only [laws_toIntS_B0, bif_decide, if_pos (show (i : Int) < (l.length : Int) by omega), fill_len, guardB_true (inb_true (Int.natCast_nonneg i) (show (i : Int) < (l.length : Int) by omega)), Int.toNat_natCast, fill_set hi, w64_succ (show i < 4611686018427387904 by omega)]
    · simp only [laws_toIntS_B0, bif_decide, if_neg (show ¬ (l.length : Int) < (l.length : Int) by omega)]
  rw [fill_zero, fill_all, range_getD] at key
  erw [key]

theorem eqIntS_gen (l : List Int) (hl : l.length ≤ 2000000000000) : laws_eqIntS (l, l, ()) () = some ((true, ()), ()) := by
  have key := loop_all (B := laws_eqIntS_B0) (fun i => ((l, l, (i : Int), ()), ())) (fun _ => true) l.length (.inl ((false, ()), ())) (.inr ((), ())) (fun i hi _ => by
    simp [laws_eqIntS_B0, inb_nat, hi, guardB, w64_succ (show i < 4611686018427387904 by omega)]) (by simp [laws_eqIntS_B0])
  rw [allUpto_true] at key
  simp only [laws_eqIntS, bne_self_eq_false, cond_false]
  rw [show (0 : Int) = ((0 : Nat) : Int) from rfl, key]
  rfl
theorem eqIntS_eq (l : List Int) (hl : l.length ≤ 1048576) : laws_eqIntS (l, l, ()) () = some ((true, ()), ()) := eqIntS_gen l (by omega)
theorem szIntS_eq (l : List Int) (n : Int) (h0 : 0 ≤ n) (hn : n ≤ 1048576) (hl : l.length ≤ 140737488351232) : laws_szIntS (l, n, ()) () = some (((if (l.length : Int) ≤ n then n - l.length else -1), ()), ()) := by
  simp only [laws_szIntS, w64_of (x := n - (l.length : Int)) (by omega) (by omega), bif_decide]
  by_cases h : (l.length : Int) ≤ n
  · rw [if_neg (by omega), if_pos h]
  · rw [if_pos (by omega), if_neg h]
theorem l1Has_eq (l : List Int) (n : Int) (hl : l.length ≤ 1048576) : spec_l1Has (l, n, ()) () = some ((decide (n ∈ l), ()), ()) := by
  have key := loop_all (B := spec_l1Has_B0) (fun i => ((l, n, (i : Int), ()), ())) (fun i => !decide (l.getD i 0 = n)) l.length (.inl ((true, ()), ())) (.inr ((), ())) (fun i hi _ => by
    simp only [spec_l1Has_B0, bif_decide, if_pos (show (i : Int) < (l.length : Int) by omega), guardB_true (inb_true (Int.natCast_nonneg i) (show (i : Int) < (l.length : Int) by omega)), Int.toNat_natCast, w64_succ (show i < 4611686018427387904 by omega)]
    by_cases h : l.getD i 0 = n
    · rw [beq_eq h, decide_eq_true h]; rfl
    · rw [beq_ne h, decide_eq_false h]; rfl) (by simp [spec_l1Has_B0])
  have e : decide (n ∈ l) = !allUpto (fun i => !decide (l.getD i 0 = n)) l.length := by
    rw [Bool.eq_iff_iff, decide_eq_true_iff, Bool.not_eq_true', ← Bool.not_eq_true, allUpto_iff]
    constructor
    · intro h g
      obtain ⟨i, hi, rfl⟩ := List.getElem_of_mem h
      have := g i hi
      rw [getD_at hi] at this
      simp at this
    · intro h
      refine Classical.byContradiction fun g => h fun i hi => ?_
      rw [getD_at hi]
      simp only [Bool.not_eq_true', decide_eq_false_iff_not]
      intro e
      exact g (e ▸ List.getElem_mem hi)
  simp only [spec_l1Has]
  erw [key]
  rw [e]
  cases allUpto (fun i => !decide (l.getD i 0 = n)) l.length <;> rfl
theorem sort_sorted (l : List Int) : (l.mergeSort fun a b => decide (a ≤ b)).Pairwise (· ≤ ·) := by
  have := List.pairwise_mergeSort (le := fun a b : Int => decide (a ≤ b)) (fun a b c h1 h2 => by simp at *; omega) (fun a b => by simp; omega) l
  exact this.imp fun h => by simpa using h
def rows {α : Type} (n : Nat) (F : Nat → α) : List α := (List.range n).map F
theorem rows_len {α : Type} {n : Nat} {F : Nat → α} : (rows n F).length = n := by simp [rows]
theorem rows_get {α : Type} {n i : Nat} {F : Nat → α} (h : i < n) (d : α) : (rows n F).getD i d = F i := by simp [rows, List.getD, h]
theorem rows_set {α : Type} {n i : Nat} {F : Nat → α} (v : α) : (rows n F).set i v = rows n (fun j => if j = i then v else F j) := by
  apply List.ext_getElem
  · simp [rows]
  · intro j h1 h2
    simp only [rows, List.getElem_set, List.getElem_map, List.getElem_range]
    by_cases h : i = j
    · subst h; simp
    · rw [if_neg h, if_neg (fun e => h e.symm)]
theorem rows_congr {α : Type} {n : Nat} {F G : Nat → α} (h : ∀ j, j < n → F j = G j) : rows n F = rows n G := by
  apply List.map_congr_left
  intro j hj
  exact h j (by simpa using hj)
/-- steps: pairs of places -/
def StepsOk (S : List (Int × Int)) (n : Nat) : Prop := ∀ i, i < S.length → ∃ a b : Nat, S.getD i (0, 0) = ((a : Int), (b : Int)) ∧ a < b ∧ b < n
theorem pairsB_at {S : List (Int × Int)} {n : Nat} (h : pairsB S n = true) (i : Nat) (hi : i < S.length) : pairB S n i = true := allUpto_iff.1 h i hi
theorem pairsB_ok {S : List (Int × Int)} {n : Nat} (h : pairsB S n = true) : StepsOk S n := by
  intro i hi
  have := pairsB_at h i hi
  simp only [pairB, Bool.and_eq_true, decide_eq_true_eq] at this
  obtain ⟨h1, h2, h3, _⟩ := this
  generalize S.getD i (0, 0) = e at h1 h2 h3
  obtain ⟨a, b⟩ := e
  simp only at h1 h2 h3
  exact ⟨a.toNat, b.toNat, by rw [Int.toNat_of_nonneg h1, Int.toNat_of_nonneg (by omega)], by omega, by omega⟩
theorem sort_of_perm {l k : List Int} (h : l.Perm k) (hk : k.Pairwise (· < ·)) : l.mergeSort (fun a b => decide (a ≤ b)) = k := by
  refine List.Perm.eq_of_pairwise (le := (· ≤ ·)) ?_ (sort_sorted l) (hk.imp fun h => Int.le_of_lt h) ((List.mergeSort_perm l _).trans h)
  intro a b _ _ h1 h2
  omega
def iota (k : Int) (n : Nat) : List Int := rows n fun i => k + (i : Int)
theorem markIntS_eq (l : List Int) (k : Int) (h0 : 0 ≤ k) (hk : k + (l.length : Int) ≤ 4611686018427387000) : laws_markIntS_e0v_ls (k, ()) (l, ()) = some ((k + (l.length : Int), ()), (iota k l.length, ())) := by
  have key := loop_count (B := laws_markIntS_e0v_ls_B0) (fun i => ((k + (i : Int), (i : Int), ()), (rows l.length (fun j => if j < i then k + (j : Int) else l.getD j 0), ()))) l.length ((k + (l.length : Int), ()), (rows l.length (fun j => if j < l.length then k + (j : Int) else l.getD j 0), ())) (fun i hi => by
    simp only [laws_markIntS_e0v_ls_B0, rows_len, bif_decide, if_pos (show (i : Int) < (l.length : Int) by omega), guardB_true (inb_true (Int.natCast_nonneg i) (show (i : Int) < (l.length : Int) by omega)), Int.toNat_natCast, w64_succ (show i < 4611686018427387904 by omega), w64_nat (x := k + (i : Int)) (by omega) (by omega), rows_set]
    have : rows l.length (fun j => if j = i then k + (i : Int) else if j < i then k + (j : Int) else l.getD j 0) = rows l.length (fun j => if j < i + 1 then k + (j : Int) else l.getD j 0) := rows_congr fun j _ => by
      by_cases h : j = i
      · subst h; rw [if_pos rfl, if_pos (by omega)]
      · by_cases h2 : j < i
        · rw [if_neg h, if_pos h2, if_pos (by omega)]
        · rw [if_neg h, if_neg h2, if_neg (by omega)]
    rw [this, show k + (i : Int) + 1 = k + ((i + 1 : Nat) : Int) by omega]) (by simp only [laws_markIntS_e0v_ls_B0, rows_len, bif_decide, if_neg (show ¬ (l.length : Int) < (l.length : Int) by omega)]) 0 (Nat.zero_le _)
  have z0 : rows l.length (fun j => if j < 0 then k + (j : Int) else l.getD j 0) = l := by
    rw [show rows l.length (fun j => if j < 0 then k + (j : Int) else l.getD j 0) = rows l.length (fun j => l.getD j 0) from rows_congr fun j _ => by simp]
    exact range_getD l 0
  have z1 : rows l.length (fun j => if j < l.length then k + (j : Int) else l.getD j 0) = iota k l.length := rows_congr fun j hj => by simp [hj]
  rw [z0, z1] at key
  simp only [laws_markIntS_e0v_ls]
  rw [show k + ((0 : Nat) : Int) = k by omega] at key
  erw [key]
theorem heldIntS_eq (n : Nat) (k : Int) (h0 : 0 ≤ k) (hk : k + (n : Int) ≤ 4611686018427387000) : laws_heldIntS (iota k n, k, ()) () = some ((k + (n : Int), ()), ()) := by
  have key := loop_count (B := laws_heldIntS_B0) (fun i => ((iota k n, k + (i : Int), (i : Int), ()), ())) n (.inr ((k + (n : Int), ()), ())) (fun i hi => by
    simp only [laws_heldIntS_B0, iota, rows_len, bif_decide, if_pos (show (i : Int) < (n : Int) by omega), guardB_true (inb_true (Int.natCast_nonneg i) (show (i : Int) < (n : Int) by omega)), Int.toNat_natCast, w64_succ (show i < 4611686018427387904 by omega), w64_nat (x := k + (i : Int)) (by omega) (by omega), rows_get hi]
    rw [bne_eq rfl, show k + (i : Int) + 1 = k + ((i + 1 : Nat) : Int) by omega]
    rfl) (by simp only [laws_heldIntS_B0, iota, rows_len, bif_decide, if_neg (show ¬ (n : Int) < (n : Int) by omega)]) 0 (Nat.zero_le _)
  simp only [laws_heldIntS]
  rw [show k + ((0 : Nat) : Int) = k by omega] at key
  erw [key]
theorem ofInt_nat {a : Nat} (h : a < 18446744073709551616) : (BitVec.ofInt 64 (a : Int)).toNat = a := by
  have e : (BitVec.ofInt 64 (a : Int)) = BitVec.ofNat 64 a := by simp
  rw [e, BitVec.toNat_ofNat, Nat.mod_eq_of_lt (show a < 2 ^ 64 by omega)]
theorem wrapN {a : Nat} (h : a < 9223372036854775808) : IntKind.wrap .u64 (a : Int) = a ∧ IntKind.wrap .i64 (a : Int) = a := by
  constructor
  · simp only [IntKind.wrap, IntKind.bits, IntKind.signed]; simp; omega
  · simp only [IntKind.wrap, IntKind.bits, IntKind.signed]; simp; omega
theorem or_bag {a b : Nat} (ha : a < 256) (hb : b < 256) : IntKind.wrap .u64 ((BitVec.ofInt 64 (a : Int) ||| BitVec.ofInt 64 (b : Int)).toNat : Int) = ((a ||| b : Nat) : Int) := by
  have : a ||| b < 2 ^ 8 := Nat.or_lt_two_pow (by omega) (by omega)
  rw [BitVec.toNat_or, ofInt_nat (by omega), ofInt_nat (by omega), (wrapN (by omega)).1]
theorem bit_bag {m x : Nat} (hm : m < 256) (hx : x < 64) : ((IntKind.wrap .u64 ((BitVec.ofInt 64 (Int.fdiv (m : Int) (2 ^ (min x 64))) &&& BitVec.ofInt 64 (1 : Int)).toNat : Int)) == (1 : Int)) = m.testBit x ∧ ((IntKind.wrap .i64 ((BitVec.ofInt 64 (Int.fdiv (m : Int) (2 ^ (min x 64))) &&& BitVec.ofInt 64 (1 : Int)).toNat : Int)) == (1 : Int)) = m.testBit x := by
  have e1 : Int.fdiv (m : Int) (2 ^ (min x 64)) = ((m / 2 ^ x : Nat) : Int) := by
    rw [Nat.min_eq_left (by omega), Int.fdiv_eq_ediv_of_nonneg _ (by exact Int.le_of_lt (Int.pow_pos (by decide)))]
    simp
  have h2 : m / 2 ^ x ≤ m := Nat.div_le_self _ _
  have e2 : ((BitVec.ofInt 64 ((m / 2 ^ x : Nat) : Int)) &&& BitVec.ofInt 64 (1 : Int)).toNat = m / 2 ^ x % 2 := by
    rw [BitVec.toNat_and, ofInt_nat (by omega), show (BitVec.ofInt 64 (1 : Int)).toNat = 1 by decide, Nat.and_one_is_mod]
  have e3 : m.testBit x = decide (m / 2 ^ x % 2 = 1) := Nat.testBit_eq_decide_div_mod_eq
  rw [e1, e2, e3, (wrapN (by omega)).1, (wrapN (by omega)).2]
  have h3 : m / 2 ^ x % 2 < 2 := Nat.mod_lt _ (by decide)
  generalize m / 2 ^ x % 2 = r at h3
  have : (((r : Nat) : Int) == (1 : Int)) = decide (r = 1) := by
    by_cases h : r = 1
    · subst h; rfl
    · rw [beq_ne (by omega), decide_eq_false h]
  exact ⟨this, this⟩
theorem pow_bag : ∀ x : Nat, x < 8 → IntKind.wrap .u64 ((1 : Int) * 2 ^ (min x 64)) = ((2 ^ x : Nat) : Int) ∧ 2 ^ x < 256 := by decide +kernel
theorem take_oneG {l : List Int} {i : Nat} (h : i < l.length) : l.take (i + 1) = l.take i ++ [l.getD i 0] := by
  rw [getD_at h, List.take_succ_eq_append_getElem h]
theorem spec_l2Near_B0_at (a : Int) (b : Int) (g : (Int) × (List ((Int) × (Int)))) (i : Int) : spec_l2Near_B0 ((a, b, g, i, ()), ()) = bif (decide (i < (List.length g.2 : Int))) then (guardB (inb i (List.length g.2)) (bif (((List.getD g.2 (Int.toNat i) ((0 : Int), (0 : Int))).1) == a) then (bif (((List.getD g.2 (Int.toNat i) ((0 : Int), (0 : Int))).2) == b) then (some (.inr (.inl ((true, ()), ())))) else (bif (((List.getD g.2 (Int.toNat i) ((0 : Int), (0 : Int))).1) == b) then (bif (((List.getD g.2 (Int.toNat i) ((0 : Int), (0 : Int))).2) == a) then (some (.inr (.inl ((true, ()), ())))) else (some (.inl ((a, b, g, (w64 (i + (1 : Int))), ()), ())))) else (some (.inl ((a, b, g, (w64 (i + (1 : Int))), ()), ()))))) else (bif (((List.getD g.2 (Int.toNat i) ((0 : Int), (0 : Int))).1) == b) then (bif (((List.getD g.2 (Int.toNat i) ((0 : Int), (0 : Int))).2) == a) then (some (.inr (.inl ((true, ()), ())))) else (some (.inl ((a, b, g, (w64 (i + (1 : Int))), ()), ())))) else (some (.inl ((a, b, g, (w64 (i + (1 : Int))), ()), ())))))) else (some (.inr (.inr ((), ())))) := rfl
def hitB (e : Int × Int) (a b : Int) : Bool := (decide (e.1 = a) && decide (e.2 = b)) || (decide (e.1 = b) && decide (e.2 = a))
def nearB (S : List (Int × Int)) (a b : Int) : Bool := !allUpto (fun i => !hitB (S.getD i (0, 0)) a b) S.length
theorem nearB_iff {S : List (Int × Int)} {a b : Int} : nearB S a b = true ↔ (a, b) ∈ S ∨ (b, a) ∈ S := by
  have e : nearB S a b = true ↔ ∃ i, i < S.length ∧ hitB (S.getD i (0, 0)) a b = true := by
    simp only [nearB, Bool.not_eq_true', ← Bool.not_eq_true, allUpto_iff]
    constructor
    · intro h
      refine Classical.byContradiction fun g => h fun i hi => ?_
      cases hh : hitB (S.getD i (0, 0)) a b
      · simp
      · exact absurd ⟨i, hi, hh⟩ g
    · rintro ⟨i, hi, hh⟩ g
      have := g i hi
      rw [hh] at this; simp at this
  rw [e]
  simp only [hitB, Bool.or_eq_true, Bool.and_eq_true, decide_eq_true_eq]
  constructor
  · rintro ⟨i, hi, h⟩
    have hm := List.getElem_mem hi
    rw [getD_at hi] at h
    rcases h with ⟨h1, h2⟩ | ⟨h1, h2⟩
    · left; rw [← h1, ← h2]; exact hm
    · right; rw [← h1, ← h2]; exact hm
  · rintro (h | h)
    · obtain ⟨i, hi, he⟩ := List.getElem_of_mem h
      exact ⟨i, hi, .inl (by rw [getD_at hi, he]; exact ⟨rfl, rfl⟩)⟩
    · obtain ⟨i, hi, he⟩ := List.getElem_of_mem h
      exact ⟨i, hi, .inr (by rw [getD_at hi, he]; exact ⟨rfl, rfl⟩)⟩
theorem Near_eq (g : Int × List (Int × Int)) (a b : Int) (hl : g.2.length ≤ 1048576) : spec_l2Near (g, a, b, ()) () = some ((nearB g.2 a b, ()), ()) := by
  have key := loop_all (B := spec_l2Near_B0) (fun i => ((a, b, g, (i : Int), ()), ())) (fun i => !hitB (g.2.getD i (0, 0)) a b) g.2.length (.inl ((true, ()), ())) (.inr ((), ())) (fun i hi _ => by
    rw [spec_l2Near_B0_at]
    simp only [bif_decide, Int.toNat_natCast, hitB]
    rw [if_pos (by omega), guardB_true (by simp [inb] <;> omega), w64_succ (by omega)]
    generalize g.2.getD i (0, 0) = e
    have bd : ∀ x y : Int, (x == y) = decide (x = y) := fun x y => by
      by_cases h : x = y
      · rw [beq_eq h, decide_eq_true h]
      · rw [beq_ne h, decide_eq_false h]
    simp only [bd]
    generalize decide (e.1 = a) = p1
    generalize decide (e.2 = b) = p2
    generalize decide (e.1 = b) = p3
    generalize decide (e.2 = a) = p4
    cases p1 <;> cases p2 <;> cases p3 <;> cases p4 <;> rfl) (by rw [spec_l2Near_B0_at]; simp)
  simp only [spec_l2Near]
  erw [key]
  simp only [nearB]
  cases allUpto (fun i => !hitB (g.2.getD i (0, 0)) a b) g.2.length <;> rfl
theorem impl_bagOf_B0_at (out : Int) (t6 : List (Int)) (t7 : Int) (t8 : Int) : impl_bagOf_B0 ((out, t6, t7, t8, ()), ()) = bif (decide (t8 < t7)) then (guardB (inb t8 (List.length t6)) (guardB (decide (0 ≤ (List.getD t6 (Int.toNat t8) (0 : Int)))) (some (.inl (((IntKind.wrap .u64 (BitVec.ofInt 64 out ||| BitVec.ofInt 64 (IntKind.wrap .u64 ((1 : Int) * 2 ^ (min (Int.toNat (List.getD t6 (Int.toNat t8) (0 : Int))) 64)))).toNat), t6, t7, (w64 (t8 + (1 : Int))), ()), ()))))) else (some (.inr ((out, ()), ()))) := rfl
def bagN (l : List Int) : Nat := l.foldl (fun m v => m ||| 2 ^ v.toNat) 0
theorem bagN_snoc (l : List Int) (v : Int) : bagN (l ++ [v]) = bagN l ||| 2 ^ v.toNat := by simp [bagN, List.foldl_append]
theorem bagN_lt : ∀ (n : Nat) (l : List Int), l.length = n → (∀ v ∈ l, 0 ≤ v ∧ v < 8) → bagN l < 256 ∧ ∀ y : Nat, (bagN l).testBit y = decide ((y : Int) ∈ l) := by
  intro n
  induction n with
  | zero =>
    intro l hl _
    have := List.eq_nil_of_length_eq_zero hl
    subst this
    exact ⟨by decide, fun y => by simp [bagN]⟩
  | succ n ih =>
    intro l hl h
    have hne : l ≠ [] := fun e => by rw [e] at hl; simp at hl
    have e := List.dropLast_concat_getLast hne
    obtain ⟨a1, a2⟩ := ih l.dropLast (by simp [hl]) (fun v hv => h v (List.dropLast_subset _ hv))
    have hv := h _ (List.getLast_mem hne)
    obtain ⟨d, hd⟩ : ∃ d, l.dropLast = d := ⟨_, rfl⟩
    obtain ⟨v, hve⟩ : ∃ v, l.getLast hne = v := ⟨_, rfl⟩
    rw [hd, hve] at e
    rw [hd] at a1 a2
    rw [hve] at hv
    rw [← e, bagN_snoc]
    have hpw : 2 ^ v.toNat < 2 ^ 8 := Nat.pow_lt_pow_right (by decide) (by omega)
    refine ⟨Nat.or_lt_two_pow (n := 8) (by omega) hpw, fun y => ?_⟩
    rw [Nat.testBit_or, a2, Nat.testBit_two_pow]
    rw [Bool.eq_iff_iff]
    simp only [Bool.or_eq_true, decide_eq_true_eq, List.mem_append, List.mem_singleton]
    constructor
    · rintro (h | h)
      · exact .inl h
      · exact .inr (by omega)
    · rintro (h | h)
      · exact .inl h
      · exact .inr (by omega)
theorem bagOf_eq (l : List Int) (h : ∀ v ∈ l, 0 ≤ v ∧ v < 8) (hl : l.length ≤ 1048576) : impl_bagOf (l, ()) () = some ((((bagN l : Nat) : Int), ()), ()) := by
  have key := loop_count (B := impl_bagOf_B0) (fun i => ((((bagN (l.take i) : Nat) : Int), l, (l.length : Int), (i : Int), ()), ())) l.length ((((bagN l : Nat) : Int), ()), ()) ?_ ?_ 0 (Nat.zero_le _)
  · simp only [impl_bagOf]
    erw [key]
  · intro i hi
    have hv : 0 ≤ l.getD i 0 ∧ l.getD i 0 < 8 := by rw [getD_at hi]; exact h _ (List.getElem_mem hi)
    have hb := (bagN_lt _ (l.take i) rfl (fun v hv => h v (List.mem_of_mem_take hv))).1
    have hw := pow_bag (l.getD i 0).toNat (by omega)
    rw [impl_bagOf_B0_at]
    simp only [bif_decide, Int.toNat_natCast, take_oneG hi, bagN_snoc]
    rw [if_pos (by omega), guardB_true (by simp [inb] <;> omega), guardB_true (by simp only [decide_eq_true_eq]; exact hv.1), hw.1, or_bag hb hw.2, w64_succ (by omega)]
  · rw [impl_bagOf_B0_at]; simp

open Classical in
def goodG (g : Int × List (Int × Int)) : Bool := inR g.1 0 8 && pairsB g.2 g.1
theorem l2Good_eq (g : Int × List (Int × Int)) (hl : g.2.length ≤ 1048576) : spec_l2Good (g, ()) () = some ((goodG g, ()), ()) := by
  simp only [spec_l2Good, l1In_eq _ _ _, goodG]
  cases h : inR g.1 0 8
  · rfl
  · have h' := h
    simp only [inR, Bool.and_eq_true, decide_eq_true_eq] at h'
    simp only [cond_true, l2Pairs_eq g.2 g.1 hl (by omega) (by omega), Bool.true_and]
theorem IsGraph_eq (g : Int × List (Int × Int)) (hl : g.2.length ≤ 1048576) : impl_IsGraph (g, ()) () = some ((goodG g, ()), ()) := by
  simp only [impl_IsGraph, between_eq _ _ _, goodG]
  cases h : inR g.1 0 8
  · rfl
  · simp only [cond_true, isPairs_eq g.2 g.1 hl, Bool.true_and]
theorem toGraph_eq (g : Int × List (Int × Int)) (hl : g.2.length ≤ 1048576) : laws_toGraph (g, ()) () = some ((g, ()), ()) := by
  simp only [laws_toGraph, toIntA2S_eq g.2 hl]
theorem eqGraph_eq (g : Int × List (Int × Int)) (hl : g.2.length ≤ 1048576) : laws_eqGraph (g, g, ()) () = some ((true, ()), ()) := by
  simp only [laws_eqGraph, bne_self_eq_false, cond_false, eqIntA2S_eq g.2 hl, Bool.not_true]
theorem laws_heldIntA2S_B0_at (a : List ((Int) × (Int))) (k : Int) (i : Int) (j : Int) : laws_heldIntA2S_B0 ((a, k, i, j, ()), ()) = bif (decide (j < (2 : Int))) then (guardB (inb i (List.length a)) (guardB (decide (0 ≤ j) && decide (j < 2)) (bif ((bif Nat.beq (Int.toNat j) 0 then (List.getD a (Int.toNat i) ((0 : Int), (0 : Int))).1 else (List.getD a (Int.toNat i) ((0 : Int), (0 : Int))).2) != k) then (some (.inr (.inl (((-1 : Int), ()), ())))) else (some (.inl ((a, (w64 (k + (1 : Int))), i, (w64 (j + (1 : Int))), ()), ())))))) else (some (.inr (.inr ((a, k, i, ()), ())))) := rfl
theorem laws_heldIntA2S_B1_at (a : List ((Int) × (Int))) (k : Int) (i : Int) : laws_heldIntA2S_B1 ((a, k, i, ()), ()) = bif (decide (i < (List.length a : Int))) then (match loopO laws_heldIntA2S_B0 ((a, k, i, (0 : Int), ()), ()) with | some (.inl ((t4, ()), ())) => some (.inr (.inl ((t4, ()), ()))) | some (.inr ((a2, k2, i2, ()), ())) => some (.inl ((a2, k2, (w64 (i2 + (1 : Int))), ()), ())) | none => none) else (some (.inr (.inr ((k, ()), ())))) := rfl
theorem laws_markIntA2S_e0v_ls_B0_at (k : Int) (i : Int) (j : Int) (o0 : List ((Int) × (Int))) : laws_markIntA2S_e0v_ls_B0 ((k, i, j, ()), (o0, ())) = bif (decide (j < (2 : Int))) then (guardB (inb i (List.length o0)) (guardB (decide (0 ≤ j) && decide (j < 2)) (some (.inl (((w64 (k + (1 : Int))), i, (w64 (j + (1 : Int))), ()), ((List.set o0 (Int.toNat i) (bif Nat.beq (Int.toNat j) 0 then (k, (List.getD o0 (Int.toNat i) ((0 : Int), (0 : Int))).2) else ((List.getD o0 (Int.toNat i) ((0 : Int), (0 : Int))).1, k))), ())))))) else (some (.inr ((k, i, ()), (o0, ())))) := rfl
theorem laws_markIntA2S_e0v_ls_B1_at (k : Int) (i : Int) (o0 : List ((Int) × (Int))) : laws_markIntA2S_e0v_ls_B1 ((k, i, ()), (o0, ())) = bif (decide (i < (List.length o0 : Int))) then (match loopO laws_markIntA2S_e0v_ls_B0 ((k, i, (0 : Int), ()), (o0, ())) with | some ((k2, i2, ()), (o0_2, ())) => some (.inl ((k2, (w64 (i2 + (1 : Int))), ()), (o0_2, ()))) | none => none) else (some (.inr ((k, ()), (o0, ())))) := rfl
def pm (k : Int) (n : Nat) : List (Int × Int) := (List.range n).map fun (i : Nat) => (k + 2 * (i : Int), k + 2 * (i : Int) + 1)
theorem pm_len (k : Int) (n : Nat) : (pm k n).length = n := by simp [pm]
theorem pm_snoc (k : Int) (n : Nat) : pm k (n + 1) = pm k n ++ [(k + 2 * (n : Int), k + 2 * (n : Int) + 1)] := by simp [pm, List.range_succ]
theorem pm_get {k : Int} {n i : Nat} (h : i < n) : (pm k n).getD i (0, 0) = (k + 2 * (i : Int), k + 2 * (i : Int) + 1) := by simp [pm, List.getD, h]
theorem markA2S_to (l : List (Int × Int)) (k : Int) (h0 : 0 ≤ k) (hk : k ≤ 4611686018000000000) (hl : l.length ≤ 1048576) : laws_markIntA2S_e0v_ls (k, ()) (l, ()) = some ((k + 2 * (l.length : Int), ()), (pm k l.length, ())) := by
  have key := loop_count (B := laws_markIntA2S_e0v_ls_B1) (fun i => ((k + 2 * (i : Int), (i : Int), ()), (pm k i ++ l.drop i, ()))) l.length ((k + 2 * (l.length : Int), ()), (pm k l.length, ())) ?_ ?_ 0 (Nat.zero_le _)
  · simp only [laws_markIntA2S_e0v_ls]
    have e : pm k 0 ++ l.drop 0 = l := by simp [pm]
    simp only [e] at key
    rw [show k + 2 * ((0 : Nat) : Int) = k by omega] at key
    erw [key]
  · intro i hi
    have hlen : (pm k i ++ l.drop i).length = l.length := by simp [pm_len]; omega
    have hset : ∀ z : Int × Int, (pm k i ++ l.drop i).set i z = pm k i ++ z :: l.drop (i + 1) := fun z => by
      rw [List.drop_eq_getElem_cons hi, List.set_append_right _ _ (by rw [pm_len]; exact Nat.le_refl _), pm_len, Nat.sub_self, List.set_cons_zero]
    have hget : ∀ z : Int × Int, (pm k i ++ z :: l.drop (i + 1)).getD i (0, 0) = z := fun z => by
      simp [List.getD, List.getElem?_append_right, pm_len]
    have hlen2 : ∀ z : Int × Int, (pm k i ++ z :: l.drop (i + 1)).length = l.length := fun z => by simp [pm_len]; omega
    have hset2 : ∀ z z' : Int × Int, (pm k i ++ z :: l.drop (i + 1)).set i z' = pm k i ++ z' :: l.drop (i + 1) := fun z z' => by
      rw [List.set_append_right _ _ (by rw [pm_len]; exact Nat.le_refl _), pm_len, Nat.sub_self, List.set_cons_zero]
    have e0 : laws_markIntA2S_e0v_ls_B0 ((k + 2 * (i : Int), (i : Int), 0, ()), (pm k i ++ l.drop i, ())) = some (.inl ((k + 2 * (i : Int) + 1, (i : Int), 1, ()), (pm k i ++ (k + 2 * (i : Int), ((pm k i ++ l.drop i).getD i (0, 0)).2) :: l.drop (i + 1), ()))) := by
      rw [laws_markIntA2S_e0v_ls_B0_at, guardB_true (by rw [hlen]; exact inb_true (by omega) (by omega)), Int.toNat_natCast, ← hset, w64_of (by omega) (by omega)]
      rfl
    have e1 : ∀ z, laws_markIntA2S_e0v_ls_B0 ((k + 2 * (i : Int) + 1, (i : Int), 1, ()), (pm k i ++ (k + 2 * (i : Int), z) :: l.drop (i + 1), ())) = some (.inl ((k + 2 * ((i + 1 : Nat) : Int), (i : Int), 2, ()), (pm k (i + 1) ++ l.drop (i + 1), ()))) := by
      intro z
      rw [laws_markIntA2S_e0v_ls_B0_at, guardB_true (by rw [hlen2]; exact inb_true (by omega) (by omega)), Int.toNat_natCast, w64_of (by omega) (by omega)]
      simp only [hget]
      have : pm k (i + 1) ++ l.drop (i + 1) = (pm k i ++ (k + 2 * (i : Int), z) :: l.drop (i + 1)).set i (k + 2 * (i : Int), k + 2 * (i : Int) + 1) := by
        rw [hset2, pm_snoc, List.append_assoc]; rfl
      rw [this, show k + 2 * ((i + 1 : Nat) : Int) = k + 2 * (i : Int) + 1 + 1 by omega]
      rfl
    have e2 : laws_markIntA2S_e0v_ls_B0 ((k + 2 * ((i + 1 : Nat) : Int), (i : Int), 2, ()), (pm k (i + 1) ++ l.drop (i + 1), ())) = some (.inr ((k + 2 * ((i + 1 : Nat) : Int), (i : Int), ()), (pm k (i + 1) ++ l.drop (i + 1), ()))) := by
      rw [laws_markIntA2S_e0v_ls_B0_at]; rfl
    rw [laws_markIntA2S_e0v_ls_B1_at]
    simp only [bif_decide, hlen]
    rw [if_pos (by omega)]
    erw [loop_step e0 (loop_step (e1 _) (loop_end e2))]
    simp only [w64_succ (show i < 4611686018427387904 by omega)]
  · rw [laws_markIntA2S_e0v_ls_B1_at]
    simp only [bif_decide, List.drop_length, List.append_nil, pm_len]
    rw [if_neg (by omega)]

theorem heldA2S_to (n : Nat) (k : Int) (h0 : 0 ≤ k) (hk : k ≤ 4611686018000000000) (hn : n ≤ 1048576) : laws_heldIntA2S (pm k n, k, ()) () = some ((k + 2 * (n : Int), ()), ()) := by
  have key := loop_count (B := laws_heldIntA2S_B1) (fun i => ((pm k n, k + 2 * (i : Int), (i : Int), ()), ())) n (.inr ((k + 2 * (n : Int), ()), ())) ?_ ?_ 0 (Nat.zero_le _)
  · rw [show k + 2 * ((0 : Nat) : Int) = k by omega] at key
    simp only [laws_heldIntA2S]
    erw [key]
  · intro i hi
    have hb : inb (i : Int) (pm k n).length = true := by rw [pm_len]; exact inb_true (by omega) (by omega)
    have e0 : laws_heldIntA2S_B0 ((pm k n, k + 2 * (i : Int), (i : Int), 0, ()), ()) = some (.inl ((pm k n, k + 2 * (i : Int) + 1, (i : Int), 1, ()), ())) := by
      rw [laws_heldIntA2S_B0_at, guardB_true hb, Int.toNat_natCast, pm_get hi, w64_of (by omega) (by omega)]
      show (bif (k + 2 * (i : Int)) != (k + 2 * (i : Int)) then _ else _) = _
      rw [bne_eq rfl]; rfl
    have e1 : laws_heldIntA2S_B0 ((pm k n, k + 2 * (i : Int) + 1, (i : Int), 1, ()), ()) = some (.inl ((pm k n, k + 2 * ((i + 1 : Nat) : Int), (i : Int), 2, ()), ())) := by
      rw [laws_heldIntA2S_B0_at, guardB_true hb, Int.toNat_natCast, pm_get hi, w64_of (by omega) (by omega), show k + 2 * ((i + 1 : Nat) : Int) = k + 2 * (i : Int) + 1 + 1 by omega]
      show (bif (k + 2 * (i : Int) + 1) != (k + 2 * (i : Int) + 1) then _ else _) = _
      rw [bne_eq rfl]; rfl
    have e2 : laws_heldIntA2S_B0 ((pm k n, k + 2 * ((i + 1 : Nat) : Int), (i : Int), 2, ()), ()) = some (.inr (.inr ((pm k n, k + 2 * ((i + 1 : Nat) : Int), (i : Int), ()), ()))) := by
      rw [laws_heldIntA2S_B0_at]; rfl
    rw [laws_heldIntA2S_B1_at]
    simp only [bif_decide, pm_len]
    rw [if_pos (by omega)]
    erw [loop_step e0 (loop_step e1 (loop_end e2))]
    simp only [w64_succ (show i < 4611686018427387904 by omega)]
  · rw [laws_heldIntA2S_B1_at]
    simp only [bif_decide, pm_len]
    rw [if_neg (by omega)]
theorem spec_l1Rising_B0_at (l : List (Int)) (lo : Int) (hi : Int) (i : Int) : spec_l1Rising_B0 ((l, lo, hi, i, ()), ()) = bif (decide (i < (List.length l : Int))) then (guardB (inb i (List.length l)) (match spec_l1In ((List.getD l (Int.toNat i) (0 : Int)), lo, hi, ()) () with | some ((r, ()), ()) => (bif (!r) then (some (.inr (.inl ((false, ()), ())))) else (bif (decide ((0 : Int) < i)) then (guardB (inb (w64 (i - (1 : Int))) (List.length l)) (guardB (inb i (List.length l)) (bif (decide ((List.getD l (Int.toNat i) (0 : Int)) ≤ (List.getD l (Int.toNat (w64 (i - (1 : Int)))) (0 : Int)))) then (some (.inr (.inl ((false, ()), ())))) else (some (.inl ((l, lo, hi, (w64 (i + (1 : Int))), ()), ())))))) else (some (.inl ((l, lo, hi, (w64 (i + (1 : Int))), ()), ()))))) | none => none)) else (some (.inr (.inr ((), ())))) := rfl
theorem impl_isRising_B0_at (list : List (Int)) (below : Int) (t7 : List (Int)) (t8 : Int) (t9 : Int) : impl_isRising_B0 ((list, below, t7, t8, t9, ()), ()) = bif (decide (t9 < t8)) then (guardB (inb t9 (List.length t7)) (match impl_between ((List.getD t7 (Int.toNat t9) (0 : Int)), (0 : Int), (w64 (below - (1 : Int))), ()) () with | some ((r, ()), ()) => (bif (!r) then (some (.inr (.inl ((false, ()), ())))) else (bif (decide ((0 : Int) < t9)) then (guardB (inb (w64 (t9 - (1 : Int))) (List.length list)) (bif (decide ((List.getD t7 (Int.toNat t9) (0 : Int)) ≤ (List.getD list (Int.toNat (w64 (t9 - (1 : Int)))) (0 : Int)))) then (some (.inr (.inl ((false, ()), ())))) else (some (.inl ((list, below, t7, t8, (w64 (t9 + (1 : Int))), ()), ()))))) else (some (.inl ((list, below, t7, t8, (w64 (t9 + (1 : Int))), ()), ()))))) | none => none)) else (some (.inr (.inr ((), ())))) := rfl
theorem spec_l9Perm_B0_at (p : List (Int)) (x : Int) : spec_l9Perm_B0 ((p, x, ()), ()) = bif (decide (x < (List.length p : Int))) then (bif (decide ((List.length p : Int) ≤ (8 : Int))) then (match spec_l1Has (p, x, ()) () with | some ((r, ()), ()) => (bif (!r) then (some (.inr (.inl ((false, ()), ())))) else (some (.inl ((p, (w64 (x + (1 : Int))), ()), ())))) | none => none) else (some (.inr (.inr ((p, ()), ()))))) else (some (.inr (.inr ((p, ()), ())))) := rfl
theorem spec_l3Free_B0_at (set : List (Int)) (g : (Int) × (List ((Int) × (Int)))) (i : Int) (k : Int) : spec_l3Free_B0 ((set, g, i, k, ()), ()) = bif (decide (k < i)) then (guardB (inb k (List.length set)) (guardB (inb i (List.length set)) (match spec_l2Near (g, (List.getD set (Int.toNat k) (0 : Int)), (List.getD set (Int.toNat i) (0 : Int)), ()) () with | some ((r, ()), ()) => (bif r then (some (.inr (.inl ((false, ()), ())))) else (some (.inl ((set, g, i, (w64 (k + (1 : Int))), ()), ())))) | none => none))) else (some (.inr (.inr ((set, g, i, ()), ())))) := rfl
theorem spec_l3Free_B1_at (set : List (Int)) (g : (Int) × (List ((Int) × (Int)))) (i : Int) : spec_l3Free_B1 ((set, g, i, ()), ()) = bif (decide (i < (List.length set : Int))) then (match loopO spec_l3Free_B0 ((set, g, i, (0 : Int), ()), ()) with | some (.inl ((t4, ()), ())) => some (.inr (.inl ((t4, ()), ()))) | some (.inr ((set2, g2, i2, ()), ())) => some (.inl ((set2, g2, (w64 (i2 + (1 : Int))), ()), ())) | none => none) else (some (.inr (.inr ((set, g, ()), ())))) := rfl
theorem spec_l5Proper_B0_at (k : Int) (colours : List (Int)) (g : (Int) × (List ((Int) × (Int)))) (x : Int) : spec_l5Proper_B0 ((k, colours, g, x, ()), ()) = bif (decide (x < g.1)) then (guardB (inb x (List.length colours)) (match spec_l1In ((List.getD colours (Int.toNat x) (0 : Int)), (0 : Int), (w64 (k - (1 : Int))), ()) () with | some ((r, ()), ()) => (bif (!r) then (some (.inr (.inl ((false, ()), ())))) else (some (.inl ((k, colours, g, (w64 (x + (1 : Int))), ()), ())))) | none => none)) else (some (.inr (.inr ((colours, g, ()), ())))) := rfl
theorem spec_l5Proper_B1_at (colours : List (Int)) (g : (Int) × (List ((Int) × (Int)))) (i : Int) : spec_l5Proper_B1 ((colours, g, i, ()), ()) = bif (decide (i < (List.length g.2 : Int))) then (guardB (inb i (List.length g.2)) (guardB (inb ((List.getD g.2 (Int.toNat i) ((0 : Int), (0 : Int))).1) (List.length colours)) (guardB (inb i (List.length g.2)) (guardB (inb ((List.getD g.2 (Int.toNat i) ((0 : Int), (0 : Int))).2) (List.length colours)) (bif ((List.getD colours (Int.toNat ((List.getD g.2 (Int.toNat i) ((0 : Int), (0 : Int))).1)) (0 : Int)) == (List.getD colours (Int.toNat ((List.getD g.2 (Int.toNat i) ((0 : Int), (0 : Int))).2)) (0 : Int))) then (some (.inr (.inl ((false, ()), ())))) else (some (.inl ((colours, g, (w64 (i + (1 : Int))), ()), ())))))))) else (some (.inr (.inr ((), ())))) := rfl
theorem slices_IndexFunc_2_int_2_int_vf_impl_Graph_isFree_1_0__bs_B0_at (s : List ((Int) × (Int))) (t7 : Int) (t8 : Int) (o0 : Int) : slices_IndexFunc_2_int_2_int_vf_impl_Graph_isFree_1_0__bs_B0 ((s, t7, t8, ()), (o0, ())) = bif (decide (t8 < t7)) then (guardB (inb t8 (List.length s)) (match impl_Graph_isFree_1_vc ((List.getD s (Int.toNat t8) ((0 : Int), (0 : Int))), o0, ()) () with | some ((r, ()), ()) => (bif r then (some (.inr (.inl ((t8, ()), (o0, ()))))) else (some (.inl ((s, t7, (w64 (t8 + (1 : Int))), ()), (o0, ()))))) | none => none)) else (some (.inr (.inr ((), (o0, ()))))) := rfl
theorem slices_IndexFunc_int_int_2_vf_impl_Graph_isColouring_1_0__bs_B0_at (s : List (Int)) (t7 : Int) (t8 : Int) (o0 : Int) : slices_IndexFunc_int_int_2_vf_impl_Graph_isColouring_1_0__bs_B0 ((s, t7, t8, ()), (o0, ())) = bif (decide (t8 < t7)) then (guardB (inb t8 (List.length s)) (match impl_Graph_isColouring_1_vc ((List.getD s (Int.toNat t8) (0 : Int)), o0, ()) () with | some ((r, ()), ()) => (bif r then (some (.inr (.inl ((t8, ()), (o0, ()))))) else (some (.inl ((s, t7, (w64 (t8 + (1 : Int))), ()), (o0, ()))))) | none => none)) else (some (.inr (.inr ((), (o0, ()))))) := rfl
theorem slices_IndexFunc_2_int_2_int_vf_impl_Graph_isColouring_2_0__bs_B0_at (s : List ((Int) × (Int))) (t7 : Int) (t8 : Int) (o0 : List (Int)) : slices_IndexFunc_2_int_2_int_vf_impl_Graph_isColouring_2_0__bs_B0 ((s, t7, t8, ()), (o0, ())) = bif (decide (t8 < t7)) then (guardB (inb t8 (List.length s)) (match impl_Graph_isColouring_2_vc ((List.getD s (Int.toNat t8) ((0 : Int), (0 : Int))), o0, ()) () with | some ((r, ()), ()) => (bif r then (some (.inr (.inl ((t8, ()), (o0, ()))))) else (some (.inl ((s, t7, (w64 (t8 + (1 : Int))), ()), (o0, ()))))) | none => none)) else (some (.inr (.inr ((), (o0, ()))))) := rfl
def risB (l : List Int) (n : Nat) : Bool := allUpto (fun i => inR (l.getD i 0) 0 ((n : Int) - 1) && (decide (i = 0) || decide (l.getD (i - 1) 0 < l.getD i 0))) l.length
theorem l1Rising_eq (l : List Int) (n : Nat) (hl : l.length ≤ 1048576) : spec_l1Rising (l, 0, (n : Int) - 1, ()) () = some ((risB l n, ()), ()) := by
  have key := loop_all (B := spec_l1Rising_B0) (fun i => ((l, 0, (n : Int) - 1, (i : Int), ()), ())) (fun i => inR (l.getD i 0) 0 ((n : Int) - 1) && (decide (i = 0) || decide (l.getD (i - 1) 0 < l.getD i 0))) l.length (.inl ((false, ()), ())) (.inr ((), ())) (fun i hi _ => by
    rw [spec_l1Rising_B0_at]
    simp only [bif_decide, Int.toNat_natCast, l1In_eq _ _ _]
    rw [if_pos (show (i : Int) < (l.length : Int) by omega), guardB_true (by simp [inb] <;> omega), w64_succ (by omega)]
    cases inR (l.getD i 0) 0 ((n : Int) - 1)
    · rfl
    · by_cases h0 : 0 < i
      · rw [if_pos (show (0 : Int) < (i : Int) by omega), w64_pred (by omega) h0, guardB_true (by simp [inb] <;> omega), Int.toNat_natCast, guardB_true (by simp [inb] <;> omega)]
        by_cases h : l.getD i 0 ≤ l.getD (i - 1) 0
        · rw [if_pos h, decide_eq_false (show ¬ l.getD (i - 1) 0 < l.getD i 0 by omega), decide_eq_false (show ¬ i = 0 by omega)]; rfl
        · rw [if_neg h, decide_eq_true (show l.getD (i - 1) 0 < l.getD i 0 by omega), Bool.or_true]; rfl
      · rw [if_neg (show ¬ (0 : Int) < (i : Int) by omega), decide_eq_true (show i = 0 by omega)]; rfl) (by rw [spec_l1Rising_B0_at]; simp)
  simp only [spec_l1Rising]
  erw [key]
  simp only [risB]
  cases allUpto (fun i => inR (l.getD i 0) 0 ((n : Int) - 1) && (decide (i = 0) || decide (l.getD (i - 1) 0 < l.getD i 0))) l.length <;> rfl
theorem isRising_eq (l : List Int) (n : Nat) (hl : l.length ≤ 1048576) (hn : n ≤ 1048576) : impl_isRising (l, (n : Int), ()) () = some ((risB l n, ()), ()) := by
  have key := loop_all (B := impl_isRising_B0) (fun i => ((l, (n : Int), l, (l.length : Int), (i : Int), ()), ())) (fun i => inR (l.getD i 0) 0 ((n : Int) - 1) && (decide (i = 0) || decide (l.getD (i - 1) 0 < l.getD i 0))) l.length (.inl ((false, ()), ())) (.inr ((), ())) (fun i hi _ => by
    rw [impl_isRising_B0_at]
    simp only [bif_decide, Int.toNat_natCast, between_eq _ _ _, w64_of (x := (n : Int) - 1) (by omega) (by omega)]
    rw [if_pos (show (i : Int) < (l.length : Int) by omega), guardB_true (by simp [inb] <;> omega), w64_succ (by omega)]
    cases inR (l.getD i 0) 0 ((n : Int) - 1)
    · rfl
    · by_cases h0 : 0 < i
      · rw [if_pos (show (0 : Int) < (i : Int) by omega), w64_pred (by omega) h0, guardB_true (by simp [inb] <;> omega), Int.toNat_natCast]
        by_cases h : l.getD i 0 ≤ l.getD (i - 1) 0
        · rw [if_pos h, decide_eq_false (show ¬ l.getD (i - 1) 0 < l.getD i 0 by omega), decide_eq_false (show ¬ i = 0 by omega)]; rfl
        · rw [if_neg h, decide_eq_true (show l.getD (i - 1) 0 < l.getD i 0 by omega), Bool.or_true]; rfl
      · rw [if_neg (show ¬ (0 : Int) < (i : Int) by omega), decide_eq_true (show i = 0 by omega)]; rfl) (by rw [impl_isRising_B0_at]; simp)
  simp only [impl_isRising]
  erw [key]
  simp only [risB]
  cases allUpto (fun i => inR (l.getD i 0) 0 ((n : Int) - 1) && (decide (i = 0) || decide (l.getD (i - 1) 0 < l.getD i 0))) l.length <;> rfl
theorem risB_iff {l : List Int} {n : Nat} : risB l n = true ↔ l.Pairwise (· < ·) ∧ ∀ v ∈ l, 0 ≤ v ∧ v < n := by
  simp only [risB, allUpto_iff, Bool.and_eq_true, Bool.or_eq_true, decide_eq_true_eq, inR]
  constructor
  · intro h
    refine ⟨?_, fun v hv => ?_⟩
    · rw [List.pairwise_iff_getElem]
      intro i j hi hj hij
      rw [← getD_at hi 0, ← getD_at hj 0]
      have gen : ∀ d, i + 1 + d < l.length → l.getD i 0 < l.getD (i + 1 + d) 0 := by
        intro d
        induction d with
        | zero => intro hd; have := (h (i + 1) hd).2; rw [Nat.add_sub_cancel] at this; exact this.resolve_left (by omega)
        | succ d ih =>
          intro hd
          have h1 := ih (by omega)
          have := (h (i + 1 + (d + 1)) hd).2.resolve_left (by omega)
          rw [show i + 1 + (d + 1) - 1 = i + 1 + d by omega] at this
          omega
      have := gen (j - i - 1) (by omega)
      rwa [show i + 1 + (j - i - 1) = j by omega] at this
    · obtain ⟨i, hi, rfl⟩ := List.getElem_of_mem hv
      have := (h i hi).1
      rw [getD_at hi] at this
      omega
  · rintro ⟨h1, h2⟩ i hi
    have := h2 _ (List.getElem_mem hi)
    rw [getD_at hi]
    refine ⟨by omega, ?_⟩
    by_cases h0 : i = 0
    · exact .inl h0
    · right
      have := List.pairwise_iff_getElem.1 h1 (i - 1) i (by omega) hi (by omega)
      rwa [getD_at (show i - 1 < l.length by omega)]
theorem cover_perm : ∀ (n : Nat) (s : List Int), s.length = n → (∀ x : Nat, x < n → (x : Int) ∈ s) → s.Perm ((List.range n).map fun (i : Nat) => (i : Int))
  | 0, s, h, _ => by
    have : s = [] := List.eq_nil_of_length_eq_zero h
    subst this; exact List.Perm.refl _
  | n + 1, s, h, hs => by
    have hm := hs n (by omega)
    have h1 := List.perm_cons_erase hm
    have h2 := cover_perm n (s.erase (n : Int)) (by rw [List.length_erase_of_mem hm]; omega) (fun x hx => (List.mem_erase_of_ne (by omega)).2 (hs x (by omega)))
    rw [List.range_succ, List.map_append]
    exact (h1.trans (h2.cons _)).trans (List.perm_append_comm (l₁ := [(n : Int)])) 
theorem range_rising (n : Nat) : ((List.range n).map fun (i : Nat) => (i : Int)).Pairwise (· < ·) := by
  rw [List.pairwise_map]
  exact List.pairwise_lt_range.imp fun h => by omega
theorem perm_same (p : List Int) : risB (p.mergeSort fun a b => decide (a ≤ b)) p.length = allUpto (fun x => decide ((x : Int) ∈ p)) p.length := by
  rw [Bool.eq_iff_iff, risB_iff, allUpto_iff]
  simp only [decide_eq_true_eq]
  have hp := List.mergeSort_perm p fun a b => decide (a ≤ b)
  have hl : (p.mergeSort fun a b => decide (a ≤ b)).length = p.length := List.length_mergeSort p
  constructor
  · rintro ⟨h1, h2⟩ x hx
    rw [← hp.mem_iff]
    generalize (p.mergeSort fun a b => decide (a ≤ b)) = s at h1 h2 hl
    have up : ∀ i, i < s.length → (i : Int) ≤ s.getD i 0 := by
      intro i
      induction i with
      | zero => intro hi; rw [getD_at hi]; exact (h2 _ (List.getElem_mem hi)).1
      | succ i ih =>
        intro hi
        have a := ih (by omega)
        have b := List.pairwise_iff_getElem.1 h1 i (i + 1) (by omega) hi (by omega)
        rw [← getD_at (show i < s.length by omega) 0, ← getD_at hi 0] at b
        omega
    have down : ∀ d, d < s.length → s.getD (s.length - 1 - d) 0 ≤ ((s.length - 1 - d : Nat) : Int) := by
      intro d
      induction d with
      | zero => intro hd; rw [getD_at (show s.length - 1 - 0 < s.length by omega)]; have := (h2 _ (List.getElem_mem (show s.length - 1 - 0 < s.length by omega))).2; omega
      | succ d ih =>
        intro hd
        have a := ih (by omega)
        have b := List.pairwise_iff_getElem.1 h1 (s.length - 1 - (d + 1)) (s.length - 1 - d) (by omega) (by omega) (by omega)
        rw [← getD_at (show s.length - 1 - (d + 1) < s.length by omega) 0, ← getD_at (show s.length - 1 - d < s.length by omega) 0] at b
        omega
    have a := up x (by omega)
    have b := down (s.length - 1 - x) (by omega)
    rw [show s.length - 1 - (s.length - 1 - x) = x by omega] at b
    have c : s.getD x 0 = (x : Int) := by omega
    rw [← c, getD_at (show x < s.length by omega)]
    exact List.getElem_mem _
  · intro h
    have h1 := cover_perm p.length p rfl h
    rw [sort_of_perm h1 (range_rising _)]
    refine ⟨range_rising _, fun v hv => ?_⟩
    obtain ⟨k, hk, rfl⟩ := List.mem_map.1 hv
    have := List.mem_range.1 hk
    omega
def permB (p : List Int) : Bool := decide (p.length ≤ 8) && allUpto (fun x => decide ((x : Int) ∈ p)) p.length
theorem l9Perm_eq (p : List Int) (hl : p.length ≤ 1048576) : spec_l9Perm (p, ()) () = some ((permB p, ()), ()) := by
  simp only [spec_l9Perm, permB]
  by_cases h : p.length ≤ 8
  · have key := loop_all (B := spec_l9Perm_B0) (fun i => ((p, (i : Int), ()), ())) (fun x => decide ((x : Int) ∈ p)) p.length (.inl ((false, ()), ())) (.inr ((p, ()), ())) (fun i hi _ => by
      rw [spec_l9Perm_B0_at]
      simp only [bif_decide, l1Has_eq p _ hl]
      rw [if_pos (show (i : Int) < (p.length : Int) by omega), if_pos (show (p.length : Int) ≤ 8 by omega), w64_succ (by omega)]
      by_cases hm : (i : Int) ∈ p
      · rw [decide_eq_true hm, if_pos hm]; rfl
      · rw [decide_eq_false hm, if_neg hm]; rfl) (by rw [spec_l9Perm_B0_at]; simp)
    erw [key]
    rw [decide_eq_true h, Bool.true_and]
    cases allUpto (fun x => decide ((x : Int) ∈ p)) p.length
    · rfl
    · simp only [cond_true]
      rw [decide_eq_true (show (p.length : Int) ≤ 8 by omega)]
  · have e : loopO spec_l9Perm_B0 ((p, (0 : Int), ()), ()) = some (.inr ((p, ()), ())) := loop_end (by
      rw [spec_l9Perm_B0_at]
      simp only [bif_decide]
      rw [if_pos (show (0 : Int) < (p.length : Int) by omega), if_neg (show ¬ (p.length : Int) ≤ 8 by omega)])
    erw [e]
    simp only
    rw [decide_eq_false (show ¬ (p.length : Int) ≤ 8 by omega), decide_eq_false h, Bool.false_and]
theorem isOrder_eq (p : List Int) (n : Nat) (hl : p.length ≤ 1048576) (hn : n ≤ 1048576) : impl_isOrder (p, (n : Int), ()) () = some (((p.length == n) && allUpto (fun x => decide ((x : Int) ∈ p)) p.length, ()), ()) := by
  simp only [impl_isOrder]
  by_cases h : p.length = n
  · subst h
    rw [beq_eq (rfl : (p.length : Int) = (p.length : Int))]
    simp only [cond_true, slices_Sorted_int, sortedFn]
    rw [guardB_true (by simp only [decide_eq_true_eq]; omega)]
    simp only [isRising_eq (p.mergeSort fun a b => decide (a ≤ b)) p.length (by rw [List.length_mergeSort]; exact hl) hl, perm_same, beq_self_eq_true, Bool.true_and]
  · rw [beq_ne (show ¬ (p.length : Int) = (n : Int) by omega), beq_false_of_ne h]
    rfl
theorem IsPermutation_eq (p : List Int) (hl : p.length ≤ 1048576) : impl_IsPermutation (p, ()) () = some ((permB p, ()), ()) := by
  simp only [impl_IsPermutation, bif_decide, permB]
  by_cases h : p.length ≤ 8
  · rw [if_pos (show (p.length : Int) ≤ 8 by omega), decide_eq_true h]
    simp only [isOrder_eq p p.length hl hl, beq_self_eq_true, Bool.true_and]
  · rw [if_neg (show ¬ (p.length : Int) ≤ 8 by omega), decide_eq_false h]
    rfl
def freeB (S : List (Int × Int)) (l : List Int) : Bool := allUpto (fun i => allUpto (fun k => !nearB S (l.getD k 0) (l.getD i 0)) i) l.length
theorem l3Free_eq (g : Int × List (Int × Int)) (n : Nat) (hg : g.1 = n) (hn : n ≤ 8) (l : List Int) (hl : l.length ≤ 1048576) (hs : g.2.length ≤ 1048576) : spec_l3Free (g, l, ()) () = some ((freeB g.2 l && risB l n, ()), ()) := by
  have key := loop_all (B := spec_l3Free_B1) (fun i => ((l, g, (i : Int), ()), ())) (fun i => allUpto (fun k => !nearB g.2 (l.getD k 0) (l.getD i 0)) i) l.length (.inl ((false, ()), ())) (.inr ((l, g, ()), ())) (fun i hi _ => by
    have k2 := loop_all (B := spec_l3Free_B0) (fun k => ((l, g, (i : Int), (k : Int), ()), ())) (fun k => !nearB g.2 (l.getD k 0) (l.getD i 0)) i (.inl ((false, ()), ())) (.inr ((l, g, (i : Int), ()), ())) (fun k hk _ => by
      rw [spec_l3Free_B0_at]
      simp only [bif_decide, Int.toNat_natCast, Near_eq g _ _ hs]
      rw [if_pos (show (k : Int) < (i : Int) by omega), guardB_true (by simp [inb] <;> omega), guardB_true (by simp [inb] <;> omega), w64_succ (by omega)]
      cases nearB g.2 (l.getD k 0) (l.getD i 0) <;> rfl) (by rw [spec_l3Free_B0_at]; simp)
    rw [spec_l3Free_B1_at]
    simp only [bif_decide]
    rw [if_pos (show (i : Int) < (l.length : Int) by omega)]
    erw [k2]
    cases allUpto (fun k => !nearB g.2 (l.getD k 0) (l.getD i 0)) i
    · rfl
    · simp only [cond_true, w64_succ (show i < 4611686018427387904 by omega)]) (by rw [spec_l3Free_B1_at]; simp)
  simp only [spec_l3Free]
  erw [key]
  show _ = some ((freeB g.2 l && risB l n, ()), ())
  simp only [freeB]
  cases allUpto (fun i => allUpto (fun k => !nearB g.2 (l.getD k 0) (l.getD i 0)) i) l.length
  · rfl
  · simp only [cond_true, spec_l2Set, hg, w64_of (x := (n : Int) - 1) (by omega) (by omega), l1Rising_eq l n hl, Bool.true_and]
theorem bag_has_eq (m : Nat) (hm : m < 256) (x : Nat) (hx : x < 64) : impl_bag_has ((m : Int), (x : Int), ()) () = some ((m.testBit x, ()), ()) := by
  simp only [impl_bag_has, Int.toNat_natCast]
  rw [guardB_true (by simp), (bit_bag hm hx).1]
theorem loop_idx {P Q : Type} {B : P → Option (P ⊕ Q)} (st : Nat → P) (good : Nat → Bool) (n : Nat) (bad : Int → Q) (fin : Q) (step : ∀ i, i < n → B (st i) = some (bif good i then .inl (st (i + 1)) else .inr (bad (i : Int)))) (stop : B (st n) = some (.inr fin)) :
    (allUpto good n = true ∧ loopO B (st 0) = some fin) ∨ (allUpto good n = false ∧ ∃ k : Int, 0 ≤ k ∧ loopO B (st 0) = some (bad k)) := by
  suffices h : ∀ d k, k + d = n → (∀ j, j < k → good j = true) → (allUpto good n = true ∧ loopO B (st k) = some fin) ∨ (allUpto good n = false ∧ ∃ k' : Int, 0 ≤ k' ∧ loopO B (st k) = some (bad k')) from h n 0 (by omega) (fun j hj => by omega)
  intro d
  induction d with
  | zero =>
    intro k hk hg
    have : k = n := by omega
    subst this
    exact .inl ⟨allUpto_iff.2 hg, loop_end stop⟩
  | succ d ih =>
    intro k hk hg
    have h := step k (by omega)
    cases e : good k
    · rw [e] at h
      refine .inr ⟨?_, (k : Int), by omega, loop_end h⟩
      cases e' : allUpto good n
      · rfl
      · rw [allUpto_iff.1 e' k (by omega)] at e; cases e
    · rw [e] at h
      have := ih (k + 1) (by omega) (fun j hj => by
        by_cases hjk : j = k
        · rw [hjk]; exact e
        · exact hg j (by omega))
      exact this.elim (fun h2 => .inl ⟨h2.1, loop_step h h2.2⟩) fun h2 => by
        obtain ⟨h2, k', h3, h4⟩ := h2
        exact .inr ⟨h2, k', h3, loop_step h h4⟩
def clearB (m : Nat) (S : List (Int × Int)) : Bool := allUpto (fun i => !(m.testBit (S.getD i (0, 0)).1.toNat && m.testBit (S.getD i (0, 0)).2.toNat)) S.length
theorem isFree_eq (g : Int × List (Int × Int)) (n : Nat) (hn : n ≤ 8) (hp : pairsB g.2 n = true) (m : Nat) (hm : m < 256) (hs : g.2.length ≤ 1048576) : impl_Graph_isFree (g, (m : Int), ()) () = some ((clearB m g.2, ()), ()) := by
  have hok := pairsB_ok hp
  have key := loop_idx (B := slices_IndexFunc_2_int_2_int_vf_impl_Graph_isFree_1_0__bs_B0) (fun i => ((g.2, (g.2.length : Int), (i : Int), ()), ((m : Int), ()))) (fun i => !(m.testBit (g.2.getD i (0, 0)).1.toNat && m.testBit (g.2.getD i (0, 0)).2.toNat)) g.2.length (fun k => .inl ((k, ()), ((m : Int), ()))) (.inr ((), ((m : Int), ()))) (fun i hi => by
    obtain ⟨a, b, e1, e2, e3⟩ := hok i hi
    rw [slices_IndexFunc_2_int_2_int_vf_impl_Graph_isFree_1_0__bs_B0_at]
    simp only [bif_decide, Int.toNat_natCast, e1, impl_Graph_isFree_1_vc, bag_has_eq m hm a (by omega), bag_has_eq m hm b (by omega)]
    rw [if_pos (show (i : Int) < (g.2.length : Int) by omega), guardB_true (by simp [inb] <;> omega), w64_succ (by omega)]
    cases m.testBit a <;> cases m.testBit b <;> rfl) (by rw [slices_IndexFunc_2_int_2_int_vf_impl_Graph_isFree_1_0__bs_B0_at]; simp)
  simp only [impl_Graph_isFree, slices_ContainsFunc_2_int_2_int_vf_impl_Graph_isFree_1_0__bs, slices_IndexFunc_2_int_2_int_vf_impl_Graph_isFree_1_0__bs, clearB]
  rcases key with ⟨k1, k2⟩ | ⟨k1, k, k0, k2⟩
  · rw [k1]; erw [k2]; rfl
  · rw [k1]; erw [k2]
    simp only
    rw [decide_eq_true k0]; rfl
theorem free_same {S : List (Int × Int)} {n : Nat} (hn : n ≤ 8) (hp : pairsB S n = true) {l : List Int} (h : risB l n = true) : freeB S l = clearB (bagN l) S := by
  obtain ⟨h1, h2⟩ := risB_iff.1 h
  have hb := bagN_lt _ l rfl (fun v hv => by have := h2 v hv; omega)
  have hok := pairsB_ok hp
  rw [Bool.eq_iff_iff]
  simp only [freeB, clearB, allUpto_iff, Bool.not_eq_true', Bool.and_eq_false_iff]
  constructor
  · intro hf i hi
    obtain ⟨a, b, e1, e2, e3⟩ := hok i hi
    rw [e1]
    simp only [Int.toNat_natCast, hb.2]
    refine Classical.byContradiction fun hc => ?_
    have ha : (a : Int) ∈ l := Classical.byContradiction fun hx => hc (.inl (decide_eq_false hx))
    have hbm : (b : Int) ∈ l := Classical.byContradiction fun hx => hc (.inr (decide_eq_false hx))
    have hmem : ((a : Int), (b : Int)) ∈ S := by rw [← e1, getD_at hi]; exact List.getElem_mem hi
    obtain ⟨i1, hi1, f1⟩ := List.getElem_of_mem ha
    obtain ⟨i2, hi2, f2⟩ := List.getElem_of_mem hbm
    rcases Nat.lt_trichotomy i1 i2 with hlt | heq | hgt
    · have := hf i2 hi2 i1 hlt
      rw [getD_at hi1, getD_at hi2, f1, f2, nearB_iff.2 (.inl hmem)] at this
      cases this
    · subst heq; rw [f1] at f2; omega
    · have := hf i1 hi1 i2 hgt
      rw [getD_at hi1, getD_at hi2, f1, f2, nearB_iff.2 (.inr hmem)] at this
      cases this
  · intro hc i hi k hk
    cases e : nearB S (l.getD k 0) (l.getD i 0)
    · rfl
    · exfalso
      have m1 : l.getD k 0 ∈ l := by rw [getD_at (show k < l.length by omega)]; exact List.getElem_mem _
      have m2 : l.getD i 0 ∈ l := by rw [getD_at hi]; exact List.getElem_mem _
      have go : ∀ x y : Int, x ∈ l → y ∈ l → (x, y) ∈ S → False := by
        intro x y hx hy hxy
        obtain ⟨j, hj, f⟩ := List.getElem_of_mem hxy
        have := hc j hj
        have x0 := h2 x hx
        have y0 := h2 y hy
        rw [getD_at hj, f] at this
        simp only [hb.2, Int.toNat_of_nonneg x0.1, Int.toNat_of_nonneg y0.1, hx, hy, decide_true] at this
        rcases this with h | h <;> cases h
      rcases nearB_iff.1 e with h | h
      · exact go _ _ m1 m2 h
      · exact go _ _ m2 m1 h
theorem isIndependent_eq (g : Int × List (Int × Int)) (n : Nat) (hg : g.1 = n) (hn : n ≤ 8) (hp : pairsB g.2 n = true) (l : List Int) (hl : l.length ≤ 1048576) (hs : g.2.length ≤ 1048576) : impl_Graph_isIndependent (g, l, ()) () = some ((freeB g.2 l && risB l n, ()), ()) := by
  simp only [impl_Graph_isIndependent, hg, isRising_eq l n hl (by omega)]
  cases h : risB l n
  · rw [Bool.and_false]; rfl
  · have h2 := (risB_iff.1 h).2
    have hb := bagN_lt _ l rfl (fun v hv => by have := h2 v hv; omega)
    simp only [cond_true, bagOf_eq l (fun v hv => by have := h2 v hv; omega) hl, isFree_eq g n hn hp _ hb.1 hs, free_same hn hp h, Bool.and_true]
def colB (g : Int × List (Int × Int)) (k : Int) (c : List Int) : Bool := ((c.length : Int) == g.1) && (allUpto (fun x => inR (c.getD x 0) 0 (k - 1)) c.length && allUpto (fun i => !decide (c.getD (g.2.getD i (0, 0)).1.toNat 0 = c.getD (g.2.getD i (0, 0)).2.toNat 0)) g.2.length)
theorem l5Proper_eq (g : Int × List (Int × Int)) (n : Nat) (hg : g.1 = n) (hn : n ≤ 8) (hp : pairsB g.2 n = true) (k : Int) (hk : inR k 1 5 = true) (c : List Int) (hs : g.2.length ≤ 1048576) : spec_l5Proper (g, k, c, ()) () = some ((colB g k c, ()), ()) := by
  have hok := pairsB_ok hp
  simp only [inR, Bool.and_eq_true, decide_eq_true_eq] at hk
  simp only [spec_l5Proper, colB]
  by_cases h : (c.length : Int) = g.1
  · have hc : c.length = n := by omega
    rw [bne_eq h, beq_eq h]
    have k1 := loop_all (B := spec_l5Proper_B0) (fun i => ((k, c, g, (i : Int), ()), ())) (fun x => inR (c.getD x 0) 0 (k - 1)) c.length (.inl ((false, ()), ())) (.inr ((c, g, ()), ())) (fun i hi _ => by
      rw [spec_l5Proper_B0_at]
      simp only [bif_decide, Int.toNat_natCast, l1In_eq _ _ _, w64_of (x := k - 1) (by omega) (by omega)]
      rw [if_pos (show (i : Int) < g.1 by omega), guardB_true (by simp [inb] <;> omega), w64_succ (by omega)]
      cases inR (c.getD i 0) 0 (k - 1) <;> rfl) (by
      rw [spec_l5Proper_B0_at]
      simp only [bif_decide]
      rw [if_neg (show ¬ ((c.length : Nat) : Int) < g.1 by omega)])
    have k2 := loop_all (B := spec_l5Proper_B1) (fun i => ((c, g, (i : Int), ()), ())) (fun i => !decide (c.getD (g.2.getD i (0, 0)).1.toNat 0 = c.getD (g.2.getD i (0, 0)).2.toNat 0)) g.2.length (.inl ((false, ()), ())) (.inr ((), ())) (fun i hi _ => by
      obtain ⟨a, b, e1, e2, e3⟩ := hok i hi
      rw [spec_l5Proper_B1_at]
      simp only [bif_decide, Int.toNat_natCast, e1]
      rw [if_pos (show (i : Int) < (g.2.length : Int) by omega), guardB_true (by simp [inb] <;> omega), guardB_true (by simp [inb] <;> omega), guardB_true (by simp [inb] <;> omega), guardB_true (by simp [inb] <;> omega), w64_succ (by omega)]
      by_cases e : c.getD a 0 = c.getD b 0
      · rw [beq_eq e, decide_eq_true e]; rfl
      · rw [beq_ne e, decide_eq_false e]; rfl) (by rw [spec_l5Proper_B1_at]; simp)
    simp only [cond_false]
    erw [k1]
    cases allUpto (fun x => inR (c.getD x 0) 0 (k - 1)) c.length
    · rfl
    · simp only [cond_true]
      erw [k2]
      cases allUpto (fun i => !decide (c.getD (g.2.getD i (0, 0)).1.toNat 0 = c.getD (g.2.getD i (0, 0)).2.toNat 0)) g.2.length <;> rfl
  · rw [bne_ne h, beq_ne h]; rfl
theorem isColouring_eq (g : Int × List (Int × Int)) (n : Nat) (hg : g.1 = n) (hn : n ≤ 8) (hp : pairsB g.2 n = true) (k : Int) (hk : inR k 1 5 = true) (c : List Int) (hs : g.2.length ≤ 1048576) : impl_Graph_isColouring (g, k, c, ()) () = some ((colB g k c, ()), ()) := by
  have hok := pairsB_ok hp
  simp only [inR, Bool.and_eq_true, decide_eq_true_eq] at hk
  simp only [impl_Graph_isColouring, colB]
  by_cases h : (c.length : Int) = g.1
  · have hc : c.length = n := by omega
    rw [bne_eq h, beq_eq h]
    have k1 := loop_idx (B := slices_IndexFunc_int_int_2_vf_impl_Graph_isColouring_1_0__bs_B0) (fun i => ((c, (c.length : Int), (i : Int), ()), (k, ()))) (fun x => inR (c.getD x 0) 0 (k - 1)) c.length (fun q => .inl ((q, ()), (k, ()))) (.inr ((), (k, ()))) (fun i hi => by
      rw [slices_IndexFunc_int_int_2_vf_impl_Graph_isColouring_1_0__bs_B0_at]
      simp only [bif_decide, Int.toNat_natCast, impl_Graph_isColouring_1_vc, between_eq _ _ _, w64_of (x := k - 1) (by omega) (by omega)]
      rw [if_pos (show (i : Int) < (c.length : Int) by omega), guardB_true (by simp [inb] <;> omega), w64_succ (by omega)]
      cases inR (c.getD i 0) 0 (k - 1) <;> rfl) (by rw [slices_IndexFunc_int_int_2_vf_impl_Graph_isColouring_1_0__bs_B0_at]; simp)
    have k2 := loop_idx (B := slices_IndexFunc_2_int_2_int_vf_impl_Graph_isColouring_2_0__bs_B0) (fun i => ((g.2, (g.2.length : Int), (i : Int), ()), (c, ()))) (fun i => !decide (c.getD (g.2.getD i (0, 0)).1.toNat 0 = c.getD (g.2.getD i (0, 0)).2.toNat 0)) g.2.length (fun q => .inl ((q, ()), (c, ()))) (.inr ((), (c, ()))) (fun i hi => by
      obtain ⟨a, b, e1, e2, e3⟩ := hok i hi
      rw [slices_IndexFunc_2_int_2_int_vf_impl_Graph_isColouring_2_0__bs_B0_at]
      simp only [bif_decide, Int.toNat_natCast, e1, impl_Graph_isColouring_2_vc]
      rw [if_pos (show (i : Int) < (g.2.length : Int) by omega), guardB_true (by simp [inb] <;> omega), guardB_true (by simp [inb] <;> omega), guardB_true (by simp [inb] <;> omega), w64_succ (by omega)]
      by_cases e : c.getD a 0 = c.getD b 0
      · rw [beq_eq e, decide_eq_true e]; rfl
      · rw [beq_ne e, decide_eq_false e]; rfl) (by rw [slices_IndexFunc_2_int_2_int_vf_impl_Graph_isColouring_2_0__bs_B0_at]; simp)
    simp only [cond_false, slices_ContainsFunc_int_int_vf_impl_Graph_isColouring_1_0__bs, slices_IndexFunc_int_int_2_vf_impl_Graph_isColouring_1_0__bs, slices_ContainsFunc_2_int_2_int_vf_impl_Graph_isColouring_2_0__bs, slices_IndexFunc_2_int_2_int_vf_impl_Graph_isColouring_2_0__bs]
    rcases k1 with ⟨p1, p2⟩ | ⟨p1, q, p0, p2⟩
    · rw [p1]; erw [p2]
      simp only [show decide ((0 : Int) ≤ -1) = false from rfl, cond_false]
      rcases k2 with ⟨r1, r2⟩ | ⟨r1, q, r0, r2⟩
      · rw [r1]; erw [r2]; rfl
      · rw [r1]; erw [r2]
        simp only
        rw [decide_eq_true r0]; rfl
    · rw [p1]; erw [p2]
      simp only
      rw [decide_eq_true p0]; rfl
  · rw [bne_ne h, beq_ne h]; rfl
def boardB (g : Int × List (Int × Int)) (p : List Int) : Bool := inR g.1 1 6 && (((p.length : Int) == g.1) && permB p)
theorem l9Board_eq (g : Int × List (Int × Int)) (p : List Int) (hg : goodG g = true) (hl : p.length ≤ 1048576) (hs : g.2.length ≤ 1048576) : spec_l9Board (g, p, ()) () = some ((boardB g p, ()), ()) := by
  simp only [spec_l9Board, spec_l9Field, l2Good_eq g hs, hg, cond_true, l9Perm_eq p hl, boardB, inR]
  by_cases h1 : g.1 ≤ 6
  · rw [decide_eq_true h1]
    by_cases h2 : (p.length : Int) = g.1
    · rw [beq_eq h2]
      cases permB p
      · simp
      · by_cases h3 : 0 < g.1
        · simp [h3, show 1 ≤ g.1 by omega]
        · simp [h3, show ¬ 1 ≤ g.1 by omega]
    · rw [beq_ne h2]; simp
  · rw [decide_eq_false h1]; simp
theorem isBoard_eq (g : Int × List (Int × Int)) (p : List Int) (hg : goodG g = true) (hl : p.length ≤ 1048576) (hs : g.2.length ≤ 1048576) : impl_isBoard (g, p, ()) () = some ((boardB g p, ()), ()) := by
  simp only [impl_isBoard, impl_isTokens, IsGraph_eq g hs, hg, cond_true, IsPermutation_eq p hl, boardB, between_eq _ _ _]
  cases permB p
  · simp
  · cases ((p.length : Int) == g.1)
    · simp
    · simp
def studioB (s : (Int × List (Int × Int)) × Int × List Int × List Int × List Int × Int) : Bool :=
  (goodG s.1 && inR s.2.1 1 5) && (boardB s.1 s.2.2.2.2.1 && ((freeB s.1.2 s.2.2.1 && risB s.2.2.1 s.1.1.toNat) && (inR s.2.2.2.2.2 0 1000 && (((s.2.2.2.1.length : Int) == 0) || colB s.1 s.2.1 s.2.2.2.1))))
theorem goodG_nat {g : Int × List (Int × Int)} (h : goodG g = true) : g.1 = (g.1.toNat : Int) ∧ g.1.toNat ≤ 8 ∧ pairsB g.2 (g.1.toNat : Int) = true := by
  simp only [goodG, inR, Bool.and_eq_true, decide_eq_true_eq] at h
  have : g.1 = (g.1.toNat : Int) := by omega
  exact ⟨this, by omega, by rw [← this]; exact h.2⟩
theorem l12Good_eq (s : (Int × List (Int × Int)) × Int × List Int × List Int × List Int × Int) (h1 : s.1.2.length ≤ 1048576) (h2 : s.2.2.1.length ≤ 1048576) (h3 : s.2.2.2.1.length ≤ 1048576) (h4 : s.2.2.2.2.1.length ≤ 1048576) : spec_l12Good (s, ()) () = some ((studioB s, ()), ()) := by
  obtain ⟨g, k, t, c, b, n⟩ := s
  simp only at h1 h2 h3 h4
  simp only [spec_l12Good, spec_l5Ask, l2Good_eq g h1, studioB, l1In_eq _ _ _]
  cases hg : goodG g
  · rfl
  · obtain ⟨g1, g2, g3⟩ := goodG_nat hg
    simp only [cond_true, Bool.true_and]
    cases hk : inR k 1 5
    · rfl
    · simp only [Bool.not_true, cond_false, l9Board_eq g b hg h4 h1, l3Free_eq g g.1.toNat g1 g2 t h2 h1, Bool.true_and, l5Proper_eq g g.1.toNat g1 g2 g3 k hk c h1]
      cases boardB g b <;> cases (freeB g.2 t && risB t g.1.toNat) <;> cases inR n 0 1000 <;> cases ((c.length : Int) == 0) <;> rfl
theorem IsStudio_eq (s : (Int × List (Int × Int)) × Int × List Int × List Int × List Int × Int) (h1 : s.1.2.length ≤ 1048576) (h2 : s.2.2.1.length ≤ 1048576) (h3 : s.2.2.2.1.length ≤ 1048576) (h4 : s.2.2.2.2.1.length ≤ 1048576) : impl_IsStudio (s, ()) () = some ((studioB s, ()), ()) := by
  obtain ⟨g, k, t, c, b, n⟩ := s
  simp only at h1 h2 h3 h4
  simp only [impl_IsStudio, impl_isColourCase, IsGraph_eq g h1, studioB, between_eq _ _ _]
  cases hg : goodG g
  · cases inR n 0 1000 <;> rfl
  · obtain ⟨g1, g2, g3⟩ := goodG_nat hg
    simp only [cond_true, Bool.true_and]
    cases hk : inR k 1 5
    · cases inR n 0 1000 <;> rfl
    · simp only [cond_true, isBoard_eq g b hg h4 h1, isIndependent_eq g g.1.toNat g1 g2 g3 t h2 h1, Bool.true_and, isColouring_eq g g.1.toNat g1 g2 g3 k hk c h1]
      cases boardB g b <;> cases (freeB g.2 t && risB t g.1.toNat) <;> cases inR n 0 1000 <;> cases ((c.length : Int) == 0) <;> cases colB g k c <;> rfl

theorem szStudio_eq (s : (Int × List (Int × Int)) × Int × List Int × List Int × List Int × Int) (h1 : s.1.2.length ≤ 140737488351232) (h2 : s.2.2.1.length ≤ 140737488351232) (h3 : s.2.2.2.1.length ≤ 140737488351232) (h4 : s.2.2.2.2.1.length ≤ 140737488351232) :
    ∃ r : Int, laws_szStudio (s, 1048576, ()) () = some ((r, ()), ()) ∧ (0 ≤ r → s.1.2.length ≤ 1048576 ∧ s.2.2.1.length ≤ 1048576 ∧ s.2.2.2.1.length ≤ 1048576 ∧ s.2.2.2.2.1.length ≤ 1048576) := by
  obtain ⟨g, k, t, c, b, n⟩ := s
  simp only at h1 h2 h3 h4 ⊢
  simp only [laws_szStudio, bif_decide]
  obtain ⟨r, e1, e2, e3⟩ : ∃ r : Int, laws_szGraph (g, 1048576, ()) () = some ((r, ()), ()) ∧ (0 ≤ r → g.2.length ≤ 1048576) ∧ r ≤ 1048576 := by
    simp only [laws_szGraph, szIntA2S_eq g.2 1048576 (by omega) (by omega) h1, bif_decide]
    by_cases h : (g.2.length : Int) ≤ 1048576
    · rw [if_pos h]; rw [if_neg (show ¬ ((1048576 : Int) - (g.2.length : Int)) < 0 by omega)]; exact ⟨_, rfl, fun _ => by omega, by omega⟩
    · rw [if_neg h]; rw [if_pos (show (-1 : Int) < 0 by omega)]; exact ⟨-1, rfl, fun h => by omega, by omega⟩
  have one : ∀ (l : List Int) (q : Int), l.length ≤ 140737488351232 → 0 ≤ q → q ≤ 1048576 → ∃ r : Int, laws_szIntS (l, q, ()) () = some ((r, ()), ()) ∧ (0 ≤ r → l.length ≤ 1048576) ∧ r ≤ 1048576 := fun l q hl h0 hq => by
    rw [szIntS_eq l q h0 hq hl]
    by_cases h : (l.length : Int) ≤ q
    · rw [if_pos h]; exact ⟨_, rfl, fun _ => by omega, by omega⟩
    · rw [if_neg h]; exact ⟨_, rfl, fun h => by omega, by omega⟩
  simp only [e1]
  by_cases p1 : r < 0
  · rw [if_pos p1]; exact ⟨-1, rfl, fun h => by omega⟩
  rw [if_neg p1]
  obtain ⟨r2, a1, a2, a3⟩ := one t r h2 (by omega) e3
  simp only [a1]
  by_cases p2 : r2 < 0
  · rw [if_pos p2]; exact ⟨-1, rfl, fun h => by omega⟩
  rw [if_neg p2]
  obtain ⟨r3, b1, b2, b3⟩ := one c r2 h3 (by omega) a3
  simp only [b1]
  by_cases p3 : r3 < 0
  · rw [if_pos p3]; exact ⟨-1, rfl, fun h => by omega⟩
  rw [if_neg p3]
  obtain ⟨r4, c1, c2, c3⟩ := one b r3 h4 (by omega) b3
  simp only [c1]
  by_cases p4 : r4 < 0
  · rw [if_pos p4]; exact ⟨-1, rfl, fun h => by omega⟩
  rw [if_neg p4]
  exact ⟨_, rfl, fun _ => ⟨e2 (by omega), a2 (by omega), b2 (by omega), c2 (by omega)⟩⟩
theorem toStudio_eq (s : (Int × List (Int × Int)) × Int × List Int × List Int × List Int × Int) (h1 : s.1.2.length ≤ 1048576) (h2 : s.2.2.1.length ≤ 1048576) (h3 : s.2.2.2.1.length ≤ 1048576) (h4 : s.2.2.2.2.1.length ≤ 1048576) : laws_toStudio (s, ()) () = some ((s, ()), ()) := by
  simp only [laws_toStudio, toGraph_eq s.1 h1, toIntS_eq _ h2, toIntS_eq _ h3, toIntS_eq _ h4]
theorem eqStudio_eq (s : (Int × List (Int × Int)) × Int × List Int × List Int × List Int × Int) (h1 : s.1.2.length ≤ 1048576) (h2 : s.2.2.1.length ≤ 1048576) (h3 : s.2.2.2.1.length ≤ 1048576) (h4 : s.2.2.2.2.1.length ≤ 1048576) : laws_eqStudio (s, s, ()) () = some ((true, ()), ()) := by
  simp only [laws_eqStudio, eqGraph_eq s.1 h1, eqIntS_eq _ h2, eqIntS_eq _ h3, eqIntS_eq _ h4, bne_self_eq_false, cond_false, Bool.not_true]
abbrev StudioT := (Int × List (Int × Int)) × Int × List Int × List Int × List Int × Int
theorem l1Own_eq (l : List Int) (hl : l.length ≤ 1048576) : spec_l1Own (l, ()) () = some ((l, ()), ()) := by
  simp only [spec_l1Own, List.nil_append]
  rw [guardB_true (by simp <;> omega)]
theorem l12Own_eq (s : StudioT) (h1 : s.1.2.length ≤ 1048576) (h2 : s.2.2.1.length ≤ 1048576) (h3 : s.2.2.2.1.length ≤ 1048576) (h4 : s.2.2.2.2.1.length ≤ 1048576) : spec_l12Own (s, ()) () = some ((s, ()), ()) := by
  simp only [spec_l12Own, l1Own_eq _ h2, l1Own_eq _ h3, l1Own_eq _ h4, List.nil_append]
  rw [guardB_true (by simp <;> omega)]
theorem clone_eq (l : List Int) (hl : l.length ≤ 1048576) : slices_Clone_int_int (l, ()) () = some ((l, ()), ()) := by
  show guardB _ _ = _
  rw [guardB_true (by simp <;> omega)]
theorem clone2_eq (l : List (Int × Int)) (hl : l.length ≤ 1048576) : slices_Clone_2_int_2_int (l, ()) () = some ((l, ()), ()) := by
  show guardB _ _ = _
  rw [guardB_true (by simp <;> omega)]
structure FewS (s : StudioT) : Prop where
  edges : s.1.2.length ≤ 1048576
  tokens : s.2.2.1.length ≤ 1048576
  colours : s.2.2.2.1.length ≤ 1048576
  board : s.2.2.2.2.1.length ≤ 1048576
def markS (s : StudioT) (k : Int) : StudioT := ((s.1.1, pm k s.1.2.length), (s.2.1, (iota (k + 2 * (s.1.2.length : Int)) s.2.2.1.length, (iota (k + 2 * (s.1.2.length : Int) + (s.2.2.1.length : Int)) s.2.2.2.1.length, (iota (k + 2 * (s.1.2.length : Int) + (s.2.2.1.length : Int) + (s.2.2.2.1.length : Int)) s.2.2.2.2.1.length, s.2.2.2.2.2)))))
def sizeS (s : StudioT) (k : Int) : Int := k + 2 * (s.1.2.length : Int) + (s.2.2.1.length : Int) + (s.2.2.2.1.length : Int) + (s.2.2.2.2.1.length : Int)
theorem markGraph_to (a : Int) (l : List (Int × Int)) (k : Int) (h0 : 0 ≤ k) (hk : k ≤ 4611686018000000000) (hl : l.length ≤ 1048576) : laws_markGraph_tpv0v_ls ((a, ()), k, ()) (l, ()) = some ((k + 2 * (l.length : Int), ()), (pm k l.length, ())) := by
  simp only [laws_markGraph_tpv0v_ls, markA2S_to l k h0 hk hl]
theorem markStudio_to (s : StudioT) (k : Int) (h : FewS s) (h0 : 0 ≤ k) (hk : k ≤ 1000) : laws_markStudio_tppv0fspvp0ssfp0sssfp0ssssfvv_bpps1psp1p1p1s (((s.1.1, ()), (s.2.1, ((), ((), ((), s.2.2.2.2.2))))), k, ()) (s, ()) = some ((sizeS s k, ()), (markS s k, ())) := by
  obtain ⟨h1, h2, h3, h4⟩ := h
  simp only [laws_markStudio_tppv0fspvp0ssfp0sssfp0ssssfvv_bpps1psp1p1p1s, markGraph_to s.1.1 s.1.2 k h0 (by omega) h1]
  rw [markIntS_eq s.2.2.1 (k + 2 * (s.1.2.length : Int)) (by omega) (by omega)]
  simp only
  rw [markIntS_eq s.2.2.2.1 (k + 2 * (s.1.2.length : Int) + (s.2.2.1.length : Int)) (by omega) (by omega)]
  simp only
  rw [markIntS_eq s.2.2.2.2.1 (k + 2 * (s.1.2.length : Int) + (s.2.2.1.length : Int) + (s.2.2.2.1.length : Int)) (by omega) (by omega)]
  rfl
theorem heldStudio_to (s : StudioT) (k : Int) (h : FewS s) (h0 : 0 ≤ k) (hk : k ≤ 1000) : laws_heldStudio (markS s k, k, ()) () = some ((sizeS s k, ()), ()) := by
  obtain ⟨h1, h2, h3, h4⟩ := h
  simp only [laws_heldStudio, laws_heldGraph, markS, bif_decide]
  rw [heldA2S_to s.1.2.length k h0 (by omega) h1]
  simp only
  rw [if_neg (show ¬ (k + 2 * (s.1.2.length : Int)) < 0 by omega)]
  simp only
  rw [if_neg (show ¬ (k + 2 * (s.1.2.length : Int)) < 0 by omega), heldIntS_eq s.2.2.1.length (k + 2 * (s.1.2.length : Int)) (by omega) (by omega)]
  simp only
  rw [if_neg (show ¬ (k + 2 * (s.1.2.length : Int) + (s.2.2.1.length : Int)) < 0 by omega), heldIntS_eq s.2.2.2.1.length (k + 2 * (s.1.2.length : Int) + (s.2.2.1.length : Int)) (by omega) (by omega)]
  simp only
  rw [if_neg (show ¬ (k + 2 * (s.1.2.length : Int) + (s.2.2.1.length : Int) + (s.2.2.2.1.length : Int)) < 0 by omega), heldIntS_eq s.2.2.2.2.1.length (k + 2 * (s.1.2.length : Int) + (s.2.2.1.length : Int) + (s.2.2.2.1.length : Int)) (by omega) (by omega)]
  simp only
  rw [if_neg (show ¬ (k + 2 * (s.1.2.length : Int) + (s.2.2.1.length : Int) + (s.2.2.2.1.length : Int) + (s.2.2.2.2.1.length : Int)) < 0 by omega)]
  rfl
theorem copiedS_eq (s : StudioT) (h1 : s.1.2.length ≤ 1048576) (h2 : s.2.2.1.length ≤ 1048576) (h3 : s.2.2.2.1.length ≤ 1048576) (h4 : s.2.2.2.2.1.length ≤ 1048576) : impl_Studio_copied_os (s, ()) () = some ((s, ()), ()) := by
  simp only [impl_Studio_copied_os, impl_Studio_copied_os_D0, impl_Studio_copied_os_D1, clone2_eq _ h1, clone_eq _ h2, clone_eq _ h3, clone_eq _ h4]
abbrev ConsoleT := StudioT × ByteArray × ByteArray × Int
def noS : StudioT := ((0, []), (0, ([], ([], ([], 0)))))
def newC (s : StudioT) : ConsoleT := (bif studioB s then s else noS, (⟨#[]⟩, (⟨#[]⟩, 0)))
theorem specNewC_eq (s : StudioT) (h : FewS s) : spec_NewConsole (s, ()) () = some ((newC s, studioB s, ()), ()) := by
  simp only [spec_NewConsole, l12Good_eq s h.edges h.tokens h.colours h.board, l12Own_eq s h.edges h.tokens h.colours h.board, newC]
  cases studioB s <;> rfl
theorem implNewC_eq (s : StudioT) (h : FewS s) : impl_NewConsole (s, ()) () = some ((newC s, studioB s, ()), ()) := by
  simp only [impl_NewConsole, IsStudio_eq s h.edges h.tokens h.colours h.board, copiedS_eq s h.edges h.tokens h.colours h.board, newC]
  cases studioB s <;> rfl
theorem newC_few (s : StudioT) (h : FewS s) : FewS (newC s).1 := by
  simp only [newC]
  cases studioB s
  · exact ⟨by simp [noS], by simp [noS], by simp [noS], by simp [noS]⟩
  · exact h
theorem eqConsole_eq (c : ConsoleT) (h : FewS c.1) : laws_eqConsole (c, c, ()) () = some ((true, ()), ()) := by
  simp only [laws_eqConsole, laws_eqLog, eqStudio_eq c.1 h.edges h.tokens h.colours h.board, beq_self_eq_true, bne_self_eq_false, Bool.not_true, cond_false]
theorem markConsole_to (c : ConsoleT) (k : Int) (h : FewS c.1) (h0 : 0 ≤ k) (hk : k ≤ 1000) : laws_markConsole_tpppv0ffspvp0fssfp0fsssfp0fssssfvvv_bppps1psp1p1p1ss ((((c.1.1.1, ()), (c.1.2.1, ((), ((), ((), c.1.2.2.2.2.2))))), c.2), k, ()) (c, ()) = some ((sizeS c.1 k, ()), ((markS c.1 k, c.2), ())) := by
  obtain ⟨s, l⟩ := c
  have e := markStudio_to s k h h0 hk
  obtain ⟨h1, h2, h3, h4⟩ := h
  simp only at h1 h2 h3 h4
  simp only [laws_markConsole_tpppv0ffspvp0fssfp0fsssfp0fssssfvvv_bppps1psp1p1p1ss, laws_markStudio_tppv0ffspvp0fssfp0fsssfp0fssssfvv_bppps1psp1p1p1ss, markGraph_to s.1.1 s.1.2 k h0 (by omega) h1]
  rw [markIntS_eq s.2.2.1 (k + 2 * (s.1.2.length : Int)) (by omega) (by omega)]
  simp only
  rw [markIntS_eq s.2.2.2.1 (k + 2 * (s.1.2.length : Int) + (s.2.2.1.length : Int)) (by omega) (by omega)]
  simp only
  rw [markIntS_eq s.2.2.2.2.1 (k + 2 * (s.1.2.length : Int) + (s.2.2.1.length : Int) + (s.2.2.2.1.length : Int)) (by omega) (by omega)]
  rfl
theorem FnExactNewConsole_true (s : (Int × List (Int × Int)) × Int × List Int × List Int × List Int × Int) (hs : Sm (.prod (.prod I (.list (.prod I I))) (.prod I (.prod (.list I) (.prod (.list I) (.prod (.list I) I))))) s) : laws_FnExactNewConsole (s, ()) () = some ((true, ()), ()) := by
  obtain ⟨⟨_, h1, _⟩, _, ⟨h2, _⟩, ⟨h3, _⟩, ⟨h4, _⟩, _⟩ := hs
  simp only [laws_FnExactNewConsole, bif_decide]
  obtain ⟨r, e1, e2⟩ := szStudio_eq s h1 h2 h3 h4
  rw [e1]
  by_cases p : r < 0
  · simp only [if_pos p]
  obtain ⟨h1, h2, h3, h4⟩ := e2 (by omega)
  have hF : FewS s := ⟨h1, h2, h3, h4⟩
  have hC := newC_few s hF
  have hE := eqConsole_eq (newC s) hC
  have hx := markStudio_to s 1 hF (by omega) (by omega)
  have hm := markConsole_to (newC s) 1 hC (by omega) (by omega)
  have hh := heldStudio_to (newC s).1 1 hC (by omega) (by omega)
  have hq : ¬ sizeS s 1 < 0 := by simp only [sizeS]; omega
  have hq2 : ¬ sizeS (newC s).1 1 < 0 := by simp only [sizeS]; omega
  simp only [if_neg p, toStudio_eq s h1 h2 h3 h4, specNewC_eq s hF, implNewC_eq s hF, hE, laws_FnExactNewConsole_D0, eqStudio_eq s h1 h2 h3 h4, beq_self_eq_true, Bool.not_true, cond_false, hx, if_neg hq, hm, laws_heldConsole, bif_decide]
  simp only [hh, if_neg hq2, bne_self_eq_false, cond_false]

end Go.Proofs.YtckbihhaameffaaGreat.V
