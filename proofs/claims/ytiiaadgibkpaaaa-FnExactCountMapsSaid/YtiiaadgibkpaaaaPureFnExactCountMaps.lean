/-
  What the reference and the program compute agrees: plain lemmas over numbers and lists.
-/
import Derived.Test.YtiiaadgibkpaaaaTFnExactCountMaps
import Derived.Test.YtiiaadgibkpaaaaE3
namespace Go.Proofs.Ytiiaadgibkpaaaa.V
open Go Go.Ve Go.Proofs
set_option linter.unusedVariables false
set_option linter.unusedSimpArgs false
theorem fold_len {n : Nat} (h : n ≤ 1048576) : (decide (0 ≤ (n : Int)) && decide ((n : Int) ≤ (n : Int)) && decide ((n : Int) * 8 ≤ 140737488355328)) = true ∧ (decide (0 ≤ (n : Int)) && decide ((n : Int) ≤ (n : Int)) && decide ((n : Int) * 24 ≤ 140737488355328)) = true ∧ (decide (0 ≤ (n : Int)) && decide ((n : Int) ≤ (n : Int)) && decide ((n : Int) * 16 ≤ 140737488355328)) = true := by
  refine ⟨?_, ?_, ?_⟩ <;> simp <;> omega
theorem toIntA2_eq (a : Int × Int) : laws_toIntA2 (a, ()) () = some ((a, ()), ()) := by
  obtain ⟨x, y⟩ := a
  have e0 : laws_toIntA2_B0 (((x, y), 0, ()), ((0, 0), (0, 0), ())) = some (.inl (((x, y), 1, ()), ((0, 0), (x, 0), ()))) := rfl
  have e1 : laws_toIntA2_B0 (((x, y), 1, ()), ((0, 0), (x, 0), ())) = some (.inl (((x, y), 2, ()), ((0, 0), (x, y), ()))) := rfl
  have e2 : laws_toIntA2_B0 (((x, y), 2, ()), ((0, 0), (x, y), ())) = some (.inr ((), ((0, 0), (x, y), ()))) := rfl
  simp only [laws_toIntA2, loop_step e0 (loop_step e1 (loop_end e2))]
theorem toIntA2S_eq (l : List (Int × Int)) (hl : l.length ≤ 1048576) : laws_toIntA2S (l, ()) () = some ((l, ()), ()) := by
  simp only [laws_toIntA2S, guardB_true (fold_len hl).2.2, Int.toNat_natCast]
  have key : loopO laws_toIntA2S_B0 ((l, fill (fun j => l.getD j (0, 0)) (0, 0) l.length 0, ((0 : Nat) : Int), ()), ()) = some ((fill (fun j => l.getD j (0, 0)) (0, 0) l.length l.length, ()), ()) := by
    refine loop_count (fun i => ((l, fill (fun j => l.getD j (0, 0)) (0, 0) l.length i, (i : Int), ()), ())) l.length _ (fun i hi => ?_) ?_ 0 (Nat.zero_le _)
    · simp only [laws_toIntA2S_B0, bif_decide, if_pos (show (i : Int) < (l.length : Int) by omega), fill_len, guardB_true (inb_true (Int.natCast_nonneg i) (show (i : Int) < (l.length : Int) by omega)), Int.toNat_natCast]
      rw [toIntA2_eq]
      simp only [fill_set (f := fun j => l.getD j (0, 0)) hi, w64_succ (show i < 4611686018427387904 by omega)]
    · simp only [laws_toIntA2S_B0, bif_decide, if_neg (show ¬ (l.length : Int) < (l.length : Int) by omega)]
  rw [fill_zero, fill_all, range_getD] at key
  erw [key]
theorem allUpto_true {n : Nat} : allUpto (fun _ => true) n = true := allUpto_iff.2 fun _ _ => rfl
theorem eqIntA2_eq (a : Int × Int) : laws_eqIntA2 (a, a, ()) () = some ((true, ()), ()) := by
  obtain ⟨x, y⟩ := a
  have e0 : laws_eqIntA2_B0 (((x, y), (x, y), 0, ()), ()) = some (.inl (((x, y), (x, y), 1, ()), ())) := by
    simp [laws_eqIntA2_B0, guardB]; rfl
  have e1 : laws_eqIntA2_B0 (((x, y), (x, y), 1, ()), ()) = some (.inl (((x, y), (x, y), 2, ()), ())) := by
    simp [laws_eqIntA2_B0, guardB]; rfl
  have e2 : laws_eqIntA2_B0 (((x, y), (x, y), 2, ()), ()) = some (.inr (.inr ((), ()))) := rfl
  simp only [laws_eqIntA2, loop_step e0 (loop_step e1 (loop_end e2))]
theorem eqIntA2S_eq (l : List (Int × Int)) (hl : l.length ≤ 1048576) : laws_eqIntA2S (l, l, ()) () = some ((true, ()), ()) := by
  have key := loop_all (B := laws_eqIntA2S_B0) (fun i => ((l, l, (i : Int), ()), ())) (fun _ => true) l.length (.inl ((false, ()), ())) (.inr ((), ())) (fun i hi _ => by
    simp only [laws_eqIntA2S_B0, bif_decide, if_pos (show (i : Int) < (l.length : Int) by omega), guardB_true (inb_true (Int.natCast_nonneg i) (show (i : Int) < (l.length : Int) by omega)), Int.toNat_natCast]
    rw [eqIntA2_eq]
    simp [w64_succ (show i < 4611686018427387904 by omega)]) (by simp [laws_eqIntA2S_B0])
  rw [allUpto_true] at key
  simp only [laws_eqIntA2S, bne_self_eq_false, cond_false]
  rw [show (0 : Int) = ((0 : Nat) : Int) from rfl, key]
  rfl
theorem szIntA2S_eq (l : List (Int × Int)) (n : Int) (h0 : 0 ≤ n) (hn : n ≤ 1048576) (hl : l.length ≤ 140737488351232) : laws_szIntA2S (l, n, ()) () = some (((if (l.length : Int) ≤ n then n - l.length else -1), ()), ()) := by
  simp only [laws_szIntA2S, w64_of (x := n - (l.length : Int)) (by omega) (by omega), bif_decide]
  by_cases h : (l.length : Int) ≤ n
  · rw [if_neg (by omega), if_pos h]
  · rw [if_pos (by omega), if_neg h]
def inR (x a b : Int) : Bool := decide (a ≤ x) && decide (x ≤ b)
theorem l1In_eq (x a b : Int) : spec_l1In (x, a, b, ()) () = some ((inR x a b, ()), ()) := by
  simp only [spec_l1In, inR]
  by_cases h : a ≤ x <;> simp [h]
theorem between_eq (x a b : Int) : impl_between (x, a, b, ()) () = some ((inR x a b, ()), ()) := by
  simp only [impl_between, inR]
  by_cases h : a ≤ x <;> simp [h]
theorem cmp_eq (x y : Int) : cmp_Compare_int (x, y, ()) () = some (((if x < y then -1 else if y < x then 1 else 0), ()), ()) := by
  simp only [cmp_Compare_int, cmp_isNaN_int, bne_self_eq_false, cond_false, bif_decide]
  split
  · rfl
  · split <;> rfl
def edgeB (a b : Int × Int) : Bool := decide (a.1 < b.1) || (decide (a.1 = b.1) && decide (a.2 < b.2))
theorem l2Edge_eq (a b : Int × Int) : spec_l2Edge (a, b, ()) () = some ((edgeB a b, ()), ()) := by
  simp only [spec_l2Edge, edgeB]
  by_cases h : a.1 < b.1
  · simp [h]
  · by_cases h2 : a.1 = b.1
    · simp [h, h2]
    · simp [h, h2, beq_ne h2]
theorem cmpOr_eq (x y : Int) : cmp_Or_int ([x, y], ()) () = some (((if x = 0 then y else x), ()), ()) := by
  simp only [cmp_Or_int]
  have e0 : cmp_Or_int_B0 ((0, [x, y], ([x, y].length : Int), 0, ()), ()) = some (if x = 0 then .inl ((0, [x, y], ([x, y].length : Int), 1, ()), ()) else .inr (.inl ((x, ()), ()))) := by
    by_cases h : x = 0
    · simp [cmp_Or_int_B0, inb, guardB, h]; rfl
    · simp [cmp_Or_int_B0, inb, guardB, h, bne_ne h]
  have e1 : cmp_Or_int_B0 ((0, [x, y], ([x, y].length : Int), 1, ()), ()) = some (if y = 0 then .inl ((0, [x, y], ([x, y].length : Int), 2, ()), ()) else .inr (.inl ((y, ()), ()))) := by
    by_cases h : y = 0
    · simp [cmp_Or_int_B0, inb, guardB, h]; rfl
    · simp [cmp_Or_int_B0, inb, guardB, h, bne_ne h]
  have e2 : cmp_Or_int_B0 ((0, [x, y], ([x, y].length : Int), 2, ()), ()) = some (.inr (.inr ((0, ()), ()))) := by
    simp [cmp_Or_int_B0]
  by_cases h : x = 0
  · rw [if_pos h] at e0 ⊢
    by_cases g : y = 0
    · rw [if_pos g] at e1
      rw [loop_step e0 (loop_step e1 (loop_end e2)), g]
    · rw [if_neg g] at e1
      rw [loop_step e0 (loop_end e1)]
  · rw [if_neg h] at e0 ⊢
    rw [loop_end e0]
theorem comparePairs_eq (a b : Int × Int) : ∃ r : Int, impl_comparePairs (a, b, ()) () = some ((r, ()), ()) ∧ (decide ((0 : Int) ≤ r) = !edgeB a b) ∧ (r = 0 ↔ a = b) := by
  obtain ⟨a1, a2⟩ := a
  obtain ⟨b1, b2⟩ := b
  simp only [impl_comparePairs, cmp_eq _ _, cmpOr_eq _ _]
  refine ⟨_, rfl, ?_, ?_⟩
  · simp only [edgeB]
    by_cases h : a1 < b1
    · simp [h]
    · by_cases h2 : b1 < a1
      · have : ¬ a1 = b1 := by omega
        simp [h, h2, this]
      · have : a1 = b1 := by omega
        subst this
        by_cases h3 : a2 < b2
        · simp [h3]
        · by_cases h4 : b2 < a2 <;> simp [h3, h4]
  · simp only [Prod.mk.injEq]
    by_cases h : a1 < b1
    · simp [h]; omega
    · by_cases h2 : b1 < a1
      · simp [h, h2]; omega
      · have : a1 = b1 := by omega
        subst this
        by_cases h3 : a2 < b2
        · simp [h3]; omega
        · by_cases h4 : b2 < a2
          · simp [h3, h4]; omega
          · simp [h3, h4]; omega
def pairB (l : List (Int × Int)) (n : Int) (i : Nat) : Bool :=
  decide (0 ≤ (l.getD i (0, 0)).1) && (decide ((l.getD i (0, 0)).1 < (l.getD i (0, 0)).2) && (decide ((l.getD i (0, 0)).2 < n) && (decide (i = 0) || edgeB (l.getD (i - 1) (0, 0)) (l.getD i (0, 0)))))
def pairsB (l : List (Int × Int)) (n : Int) : Bool := allUpto (pairB l n) l.length
theorem l2Pairs_eq (l : List (Int × Int)) (n : Int) (hl : l.length ≤ 1048576) (h0 : -1048576 ≤ n) (hn : n ≤ 1048576) : spec_l2Pairs (l, n, ()) () = some ((pairsB l n, ()), ()) := by
  have key := loop_all (B := spec_l2Pairs_B0) (fun i => ((l, n, (i : Int), ()), ())) (pairB l n) l.length (.inl ((false, ()), ())) (.inr ((), ())) (fun i hi _ => by
    obtain ⟨e, he⟩ : ∃ e : Int × Int, l.getD i (0, 0) = e := ⟨_, rfl⟩
    simp only [spec_l2Pairs_B0, bif_decide, if_pos (show (i : Int) < (l.length : Int) by omega), guardB_true (inb_true (Int.natCast_nonneg i) (show (i : Int) < (l.length : Int) by omega)), Int.toNat_natCast, l1In_eq _ _ _, w64_succ (show i < 4611686018427387904 by omega), w64_of (x := n - 1) (by omega) (by omega), pairB, inR, he]
    by_cases h1 : 0 ≤ e.1
    · by_cases h2 : e.1 ≤ n - 1
      · by_cases h3 : 0 ≤ e.2
        · by_cases h4 : e.2 ≤ n - 1
          · by_cases h5 : e.2 ≤ e.1
            · simp [h1, h2, h3, h4, h5, show ¬ e.1 < e.2 by omega]
            · by_cases h6 : i = 0
              · subst h6
                simp [h1, h2, h3, h4, h5, show e.1 < e.2 by omega, show e.2 < n by omega]
              · rw [w64_pred (by omega) (by omega), guardB_true (inb_true (Int.natCast_nonneg _) (show ((i - 1 : Nat) : Int) < (l.length : Int) by omega)), Int.toNat_natCast, l2Edge_eq]
                cases edgeB (l.getD (i - 1) (0, 0)) e <;> simp [h1, h2, h3, h4, h5, h6, show e.1 < e.2 by omega, show e.2 < n by omega, show 0 < i by omega]
          · simp [h1, h2, h3, h4, show ¬ e.2 < n by omega]
        · simp [h1, h2, h3, show ¬ e.1 < e.2 by omega]
      · simp only [h1, h2, decide_true, decide_false, Bool.and_false, Bool.not_false, cond_true, Bool.true_and]
        by_cases h3 : e.1 < e.2
        · simp [h3, show ¬ e.2 < n by omega]
        · simp [h3]
    · simp [h1]) (by simp [spec_l2Pairs_B0])
  simp only [spec_l2Pairs]
  erw [key]
  simp only [pairsB]
  cases allUpto (pairB l n) l.length <;> rfl
theorem isPairs_eq (l : List (Int × Int)) (n : Int) (hl : l.length ≤ 1048576) : impl_isPairs (l, n, ()) () = some ((pairsB l n, ()), ()) := by
  have key := loop_all (B := impl_isPairs_B0) (fun i => ((l, n, l, (l.length : Int), (i : Int), ()), ())) (pairB l n) l.length (.inl ((false, ()), ())) (.inr ((), ())) (fun i hi _ => by
    obtain ⟨e, he⟩ : ∃ e : Int × Int, l.getD i (0, 0) = e := ⟨_, rfl⟩
    simp only [impl_isPairs_B0, bif_decide, if_pos (show (i : Int) < (l.length : Int) by omega), guardB_true (inb_true (Int.natCast_nonneg i) (show (i : Int) < (l.length : Int) by omega)), Int.toNat_natCast, w64_succ (show i < 4611686018427387904 by omega), pairB, he]
    by_cases h1 : e.1 < 0
    · simp [h1, show ¬ 0 ≤ e.1 by omega]
    · by_cases h2 : e.2 ≤ e.1
      · simp [h1, h2, show ¬ e.1 < e.2 by omega]
      · by_cases h3 : n ≤ e.2
        · simp [h1, h2, h3, show ¬ e.2 < n by omega]
        · by_cases h6 : i = 0
          · subst h6
            simp [h1, h2, h3, show 0 ≤ e.1 by omega, show e.1 < e.2 by omega, show e.2 < n by omega]
          · obtain ⟨r, r1, r2, _⟩ := comparePairs_eq (l.getD (i - 1) (0, 0)) e
            rw [w64_pred (by omega) (by omega), guardB_true (inb_true (Int.natCast_nonneg _) (show ((i - 1 : Nat) : Int) < (l.length : Int) by omega)), Int.toNat_natCast, r1]
            simp only [if_neg h1, if_neg h2, if_neg h3, if_pos (show (0 : Int) < (i : Int) by omega), ← bif_decide, r2]
            cases edgeB (l.getD (i - 1) (0, 0)) e <;> simp [h6, show 0 ≤ e.1 by omega, show e.1 < e.2 by omega, show e.2 < n by omega]) (by simp [impl_isPairs_B0])
  simp only [impl_isPairs]
  erw [key]
  simp only [pairsB]
  cases allUpto (pairB l n) l.length <;> rfl
theorem spec_l2Near_B0_at (a : Int) (b : Int) (g : (Int) × (List ((Int) × (Int)))) (i : Int) : spec_l2Near_B0 ((a, b, g, i, ()), ()) = bif (decide (i < (List.length g.2 : Int))) then (guardB (inb i (List.length g.2)) (bif (((List.getD g.2 (Int.toNat i) ((0 : Int), (0 : Int))).1) == a) then (bif (((List.getD g.2 (Int.toNat i) ((0 : Int), (0 : Int))).2) == b) then (some (.inr (.inl ((true, ()), ())))) else (bif (((List.getD g.2 (Int.toNat i) ((0 : Int), (0 : Int))).1) == b) then (bif (((List.getD g.2 (Int.toNat i) ((0 : Int), (0 : Int))).2) == a) then (some (.inr (.inl ((true, ()), ())))) else (some (.inl ((a, b, g, (w64 (i + (1 : Int))), ()), ())))) else (some (.inl ((a, b, g, (w64 (i + (1 : Int))), ()), ()))))) else (bif (((List.getD g.2 (Int.toNat i) ((0 : Int), (0 : Int))).1) == b) then (bif (((List.getD g.2 (Int.toNat i) ((0 : Int), (0 : Int))).2) == a) then (some (.inr (.inl ((true, ()), ())))) else (some (.inl ((a, b, g, (w64 (i + (1 : Int))), ()), ())))) else (some (.inl ((a, b, g, (w64 (i + (1 : Int))), ()), ())))))) else (some (.inr (.inr ((), ())))) := rfl
theorem slices_Index_2_int_2_int_B0_at (s : List ((Int) × (Int))) (v : (Int) × (Int)) (t7 : Int) (t8 : Int) : slices_Index_2_int_2_int_B0 ((s, v, t7, t8, ()), ()) = bif (decide (t8 < t7)) then (guardB (inb t8 (List.length s)) (bif ((v.1 == ((List.getD s (Int.toNat t8) ((0 : Int), (0 : Int))).1)) && (v.2 == ((List.getD s (Int.toNat t8) ((0 : Int), (0 : Int))).2))) then (some (.inr (.inl ((t8, ()), ())))) else (some (.inl ((s, v, t7, (w64 (t8 + (1 : Int))), ()), ()))))) else (some (.inr (.inr ((), ())))) := rfl
def hitB (e : Int × Int) (a b : Int) : Bool := (decide (e.1 = a) && decide (e.2 = b)) || (decide (e.1 = b) && decide (e.2 = a))
def nearB (S : List (Int × Int)) (a b : Int) : Bool := !allUpto (fun i => !hitB (S.getD i (0, 0)) a b) S.length
theorem nearB_iff {S : List (Int × Int)} {a b : Int} : nearB S a b = true ↔ (a, b) ∈ S ∨ (b, a) ∈ S := by
  have e : nearB S a b = true ↔ ∃ i, i < S.length ∧ hitB (S.getD i (0, 0)) a b = true := by
    simp only [nearB, Bool.not_eq_true', ← Bool.not_eq_true, allUpto_iff]
    constructor
    · intro h
      refine Classical.byContradiction fun g => h fun i hi => ?_
      cases hh : hitB (S.getD i (0, 0)) a b
      · simp
      · exact absurd ⟨i, hi, hh⟩ g
    · rintro ⟨i, hi, hh⟩ g
      have := g i hi
      rw [hh] at this; simp at this
  rw [e]
  simp only [hitB, Bool.or_eq_true, Bool.and_eq_true, decide_eq_true_eq]
  constructor
  · rintro ⟨i, hi, h⟩
    have hm := List.getElem_mem hi
    rw [getD_at hi] at h
    rcases h with ⟨h1, h2⟩ | ⟨h1, h2⟩
    · left; rw [← h1, ← h2]; exact hm
    · right; rw [← h1, ← h2]; exact hm
  · rintro (h | h)
    · obtain ⟨i, hi, he⟩ := List.getElem_of_mem h
      exact ⟨i, hi, .inl (by rw [getD_at hi, he]; exact ⟨rfl, rfl⟩)⟩
    · obtain ⟨i, hi, he⟩ := List.getElem_of_mem h
      exact ⟨i, hi, .inr (by rw [getD_at hi, he]; exact ⟨rfl, rfl⟩)⟩
theorem Near_eq (g : Int × List (Int × Int)) (a b : Int) (hl : g.2.length ≤ 1048576) : spec_l2Near (g, a, b, ()) () = some ((nearB g.2 a b, ()), ()) := by
  have key := loop_all (B := spec_l2Near_B0) (fun i => ((a, b, g, (i : Int), ()), ())) (fun i => !hitB (g.2.getD i (0, 0)) a b) g.2.length (.inl ((true, ()), ())) (.inr ((), ())) (fun i hi _ => by
    rw [spec_l2Near_B0_at]
    simp only [bif_decide, Int.toNat_natCast, hitB]
    rw [if_pos (by omega), guardB_true (by simp [inb] <;> omega), w64_succ (by omega)]
    generalize g.2.getD i (0, 0) = e
    have bd : ∀ x y : Int, (x == y) = decide (x = y) := fun x y => by
      by_cases h : x = y
      · rw [beq_eq h, decide_eq_true h]
      · rw [beq_ne h, decide_eq_false h]
    simp only [bd]
    generalize decide (e.1 = a) = p1
    generalize decide (e.2 = b) = p2
    generalize decide (e.1 = b) = p3
    generalize decide (e.2 = a) = p4
    cases p1 <;> cases p2 <;> cases p3 <;> cases p4 <;> rfl) (by rw [spec_l2Near_B0_at]; simp)
  simp only [spec_l2Near]
  erw [key]
  simp only [nearB]
  cases allUpto (fun i => !hitB (g.2.getD i (0, 0)) a b) g.2.length <;> rfl
theorem Contains_eq (S : List (Int × Int)) (v : Int × Int) (hl : S.length ≤ 1048576) : slices_Contains_2_int_2_int (S, v, ()) () = some ((decide (v ∈ S), ()), ()) := by
  have one : ∀ e : Int × Int, ((v.1 == e.1) && (v.2 == e.2)) = decide (e = v) := fun e => by
    obtain ⟨a, b⟩ := e
    obtain ⟨c, d⟩ := v
    have bd : ∀ x y : Int, (x == y) = decide (y = x) := fun x y => by
      by_cases h : x = y
      · rw [beq_eq h, decide_eq_true h.symm]
      · rw [beq_ne h, decide_eq_false (fun e => h e.symm)]
    simp only [bd, Prod.mk.injEq, Bool.decide_and]
  have key : ∀ d k, k + d = S.length → ∃ q : Int, (loopO slices_Index_2_int_2_int_B0 ((S, v, (S.length : Int), (k : Int), ()), ()) = some (.inl ((q, ()), ())) ∧ 0 ≤ q ∧ v ∈ S) ∨ (loopO slices_Index_2_int_2_int_B0 ((S, v, (S.length : Int), (k : Int), ()), ()) = some (.inr ((), ())) ∧ v ∉ S.drop k) := by
    intro d
    induction d with
    | zero =>
      intro k hk
      refine ⟨0, .inr ⟨loop_end ?_, ?_⟩⟩
      · rw [slices_Index_2_int_2_int_B0_at]
        simp only [bif_decide]
        rw [if_neg (by omega)]
      · rw [List.drop_of_length_le (by omega)]; simp
    | succ d ih =>
      intro k hk
      have hkl : k < S.length := by omega
      have st : slices_Index_2_int_2_int_B0 ((S, v, (S.length : Int), (k : Int), ()), ()) = some (if S.getD k (0, 0) = v then .inr (.inl (((k : Int), ()), ())) else .inl ((S, v, (S.length : Int), ((k + 1 : Nat) : Int), ()), ())) := by
        rw [slices_Index_2_int_2_int_B0_at]
        simp only [bif_decide, Int.toNat_natCast, one]
        rw [if_pos (by omega), guardB_true (by simp [inb] <;> omega), w64_succ (by omega)]
        by_cases h : S.getD k (0, 0) = v
        · rw [if_pos h, if_pos h]
        · rw [if_neg h, if_neg h]
      by_cases h : S.getD k (0, 0) = v
      · rw [if_pos h] at st
        refine ⟨(k : Int), .inl ⟨loop_end st, by omega, ?_⟩⟩
        rw [← h, getD_at hkl]; exact List.getElem_mem hkl
      · rw [if_neg h] at st
        obtain ⟨q, ⟨q1, q2⟩ | ⟨q1, q2⟩⟩ := ih (k + 1) (by omega)
        · exact ⟨q, .inl ⟨loop_step st q1, q2⟩⟩
        · refine ⟨q, .inr ⟨loop_step st q1, ?_⟩⟩
          rw [List.drop_eq_getElem_cons hkl, List.mem_cons]
          rintro (e | e)
          · exact h (by rw [getD_at hkl]; exact e.symm)
          · exact q2 e
  obtain ⟨q, ⟨q1, q2, q3⟩ | ⟨q1, q2⟩⟩ := key S.length 0 (by omega)
  · simp only [slices_Contains_2_int_2_int, slices_Index_2_int_2_int]
    erw [q1]
    simp only
    rw [decide_eq_true q2, decide_eq_true q3]
  · rw [List.drop_zero] at q2
    simp only [slices_Contains_2_int_2_int, slices_Index_2_int_2_int]
    erw [q1]
    simp only
    rw [decide_eq_false (show ¬ (0 : Int) ≤ -1 by omega), decide_eq_false q2]
theorem impl_Graph_neighbors_B0_at (x : Int) (g : (Int) × (List ((Int) × (Int)))) (out : List (Int)) (t9 : Int) (t10 : Int) : impl_Graph_neighbors_B0 ((x, g, out, t9, t10, ()), ()) = bif (decide (t10 < t9)) then (bif (t10 != x) then (match impl_Graph_has (g, x, t10, ()) () with | some ((r, ()), ()) => (bif r then (guardB (decide ((List.length out + List.length [t10]) * 8 ≤ 70368744177664)) (some (.inl ((x, g, (out ++ [t10]), t9, (w64 (t10 + (1 : Int))), ()), ())))) else (some (.inl ((x, g, out, t9, (w64 (t10 + (1 : Int))), ()), ())))) | none => none) else (some (.inl ((x, g, out, t9, (w64 (t10 + (1 : Int))), ()), ())))) else (some (.inr ((out, ()), ()))) := rfl
def StepsOk (S : List (Int × Int)) (n : Nat) : Prop := ∀ i, i < S.length → ∃ a b : Nat, S.getD i (0, 0) = ((a : Int), (b : Int)) ∧ a < b ∧ b < n
theorem pairsB_at {S : List (Int × Int)} {n : Nat} (h : pairsB S n = true) (i : Nat) (hi : i < S.length) : pairB S n i = true := allUpto_iff.1 h i hi
theorem pairsB_ok {S : List (Int × Int)} {n : Nat} (h : pairsB S n = true) : StepsOk S n := by
  intro i hi
  have := pairsB_at h i hi
  simp only [pairB, Bool.and_eq_true, decide_eq_true_eq] at this
  obtain ⟨h1, h2, h3, _⟩ := this
  generalize S.getD i (0, 0) = e at h1 h2 h3
  obtain ⟨a, b⟩ := e
  simp only at h1 h2 h3
  exact ⟨a.toNat, b.toNat, by rw [Int.toNat_of_nonneg h1, Int.toNat_of_nonneg (by omega)], by omega, by omega⟩
theorem steps_mem {S : List (Int × Int)} {n : Nat} (h : StepsOk S n) {e : Int × Int} (he : e ∈ S) : 0 ≤ e.1 ∧ e.1 < e.2 ∧ e.2 < n := by
  obtain ⟨i, hi, rfl⟩ := List.getElem_of_mem he
  obtain ⟨a, b, h1, h2, h3⟩ := h i hi
  rw [getD_at hi] at h1
  rw [h1]
  simp only
  omega
theorem has_eq (g : Int × List (Int × Int)) {n : Nat} (hp : pairsB g.2 n = true) (a b : Int) (hl : g.2.length ≤ 1048576) : impl_Graph_has (g, a, b, ()) () = some ((nearB g.2 a b, ()), ()) := by
  have hS := pairsB_ok hp
  have e : decide (((if b < a then b else a), (if a < b then b else a)) ∈ g.2) = nearB g.2 a b := by
    rw [Bool.eq_iff_iff, decide_eq_true_iff, nearB_iff]
    by_cases h1 : a < b
    · rw [if_neg (by omega), if_pos h1]
      exact ⟨.inl, fun h => h.elim id fun h => by have := steps_mem hS h; simp only at this; omega⟩
    · by_cases h2 : b < a
      · rw [if_pos h2, if_neg h1]
        exact ⟨.inr, fun h => h.elim (fun h => by have := steps_mem hS h; simp only at this; omega) id⟩
      · rw [if_neg h2, if_neg h1]
        have : a = b := by omega
        subst this
        exact ⟨.inl, fun h => h.elim id id⟩
  simp only [impl_Graph_has, impl_pair, bif_decide, Contains_eq g.2 _ hl]
  simp only [e]
def nbB (S : List (Int × Int)) (x : Nat) (y : Nat) : Bool := !decide (y = x) && nearB S (x : Int) (y : Int)
def nbs (S : List (Int × Int)) (n x : Nat) : List Int := ((List.range n).filter fun y => nbB S x y).map fun (i : Nat) => (i : Int)
theorem nbs_snoc (S : List (Int × Int)) (n x : Nat) : nbs S (n + 1) x = nbs S n x ++ (if nbB S x n then [(n : Int)] else []) := by
  unfold nbs
  rw [List.range_succ, List.filter_append, List.map_append]
  cases h : nbB S x n
  · simp only [List.filter_cons, h, Bool.false_eq_true, if_false, List.filter_nil, List.map_nil]
  · simp only [List.filter_cons, h, if_true, List.filter_nil, List.map_cons, List.map_nil]
theorem nbs_len (S : List (Int × Int)) (n x : Nat) : (nbs S n x).length ≤ n := by
  unfold nbs; rw [List.length_map]; exact Nat.le_trans (List.length_filter_le _ _) (by simp)
theorem nbs_mem {S : List (Int × Int)} {n x : Nat} {y : Nat} : (y : Int) ∈ nbs S n x ↔ y < n ∧ nbB S x y = true := by
  simp only [nbs, List.mem_map, List.mem_filter, List.mem_range]
  constructor
  · rintro ⟨k, ⟨h1, h2⟩, h3⟩
    have : k = y := by omega
    subst this; exact ⟨h1, h2⟩
  · rintro ⟨h1, h2⟩; exact ⟨y, ⟨h1, h2⟩, rfl⟩
theorem neighbors_eq (g : Int × List (Int × Int)) {n : Nat} (hg : g.1 = n) (hn : n ≤ 8) (hp : pairsB g.2 n = true) (x : Nat) (hl : g.2.length ≤ 1048576) : impl_Graph_neighbors (g, (x : Int), ()) () = some ((nbs g.2 n x, ()), ()) := by
  have key := loop_count (B := impl_Graph_neighbors_B0) (fun i => (((x : Int), g, nbs g.2 i x, (n : Int), (i : Int), ()), ())) n ((nbs g.2 n x, ()), ()) (fun i hi => by
    have hle := nbs_len g.2 i x
    rw [impl_Graph_neighbors_B0_at]
    simp only [bif_decide, has_eq g hp _ _ hl, nbs_snoc]
    rw [if_pos (by omega), w64_succ (by omega)]
    by_cases h : i = x
    · have hb : nbB g.2 x i = false := by simp [nbB, h]
      rw [bne_eq (show (i : Int) = (x : Int) by omega)]
      simp only [hb, cond_false, Bool.false_eq_true, if_false, List.append_nil]
    · rw [bne_ne (show ¬ (i : Int) = (x : Int) by omega)]
      cases h2 : nearB g.2 (x : Int) (i : Int)
      · have hb : nbB g.2 x i = false := by simp [nbB, h2]
        simp only [hb, cond_true, cond_false, Bool.false_eq_true, if_false, List.append_nil]
      · have hb : nbB g.2 x i = true := by simp [nbB, h, h2]
        simp only [hb, cond_true, if_true]
        rw [guardB_true (by simp only [List.length_singleton, decide_eq_true_eq]; omega)]) (by rw [impl_Graph_neighbors_B0_at]; simp) 0 (Nat.zero_le _)
  simp only [impl_Graph_neighbors, hg]
  erw [key]
open Classical in
theorem nearB_symm (S : List (Int × Int)) (a b : Int) : nearB S a b = nearB S b a := by
  rw [Bool.eq_iff_iff, nearB_iff, nearB_iff]
  exact ⟨fun h => h.elim .inr .inl, fun h => h.elim .inr .inl⟩
open Classical in
open Classical in
open Classical in
def goodG (g : Int × List (Int × Int)) : Bool := inR g.1 0 8 && pairsB g.2 g.1
theorem l2Good_eq (g : Int × List (Int × Int)) (hl : g.2.length ≤ 1048576) : spec_l2Good (g, ()) () = some ((goodG g, ()), ()) := by
  simp only [spec_l2Good, l1In_eq _ _ _, goodG]
  cases h : inR g.1 0 8
  · rfl
  · have h' := h
    simp only [inR, Bool.and_eq_true, decide_eq_true_eq] at h'
    simp only [cond_true, l2Pairs_eq g.2 g.1 hl (by omega) (by omega), Bool.true_and]
theorem IsGraph_eq (g : Int × List (Int × Int)) (hl : g.2.length ≤ 1048576) : impl_IsGraph (g, ()) () = some ((goodG g, ()), ()) := by
  simp only [impl_IsGraph, between_eq _ _ _, goodG]
  cases h : inR g.1 0 8
  · rfl
  · simp only [cond_true, isPairs_eq g.2 g.1 hl, Bool.true_and]
theorem toGraph_eq (g : Int × List (Int × Int)) (hl : g.2.length ≤ 1048576) : laws_toGraph (g, ()) () = some ((g, ()), ()) := by
  simp only [laws_toGraph, toIntA2S_eq g.2 hl]
theorem eqGraph_eq (g : Int × List (Int × Int)) (hl : g.2.length ≤ 1048576) : laws_eqGraph (g, g, ()) () = some ((true, ()), ()) := by
  simp only [laws_eqGraph, bne_self_eq_false, cond_false, eqIntA2S_eq g.2 hl, Bool.not_true]
theorem spec_l10Count_D0_at (rc : argP spec_l10Count_a → obP (extObs 0 spec_l10Count_o) → Option spec_l10Count_E.P) (lazy : Bool) (begun : List (Int)) (g : (Int) × (List ((Int) × (Int)))) (h : (Int) × (List ((Int) × (Int)))) (x : Int) (sum : Int) (v : Int) (t50 : Int) (t51 : (Int) × (List ((Int) × (Int)))) (t52 : (Int) × (List ((Int) × (Int)))) (t53 : Bool) (t54 : List (Int)) (t56 : Int) : spec_l10Count_D0 rc ((lazy, begun, g, h, x, sum, v, t50, t51, t52, t53, t54, t56, ()), ()) = match spec_l1Own (t54, ()) () with | some ((r, ()), ()) => guardB (decide ((List.length r + List.length [t56]) * 8 ≤ 70368744177664)) (match rc (t51, t52, t53, (r ++ [t56]), ()) () with | some ((r2, ()), ()) => some ((lazy, begun, g, h, x, (w64 (t50 + r2)), v, ()), ()) | none => none) | none => none := rfl
theorem spec_l10Count_B0_at (rc : argP spec_l10Count_a → obP (extObs 0 spec_l10Count_o) → Option spec_l10Count_E.P) (lazy : Bool) (begun : List (Int)) (g : (Int) × (List ((Int) × (Int)))) (h : (Int) × (List ((Int) × (Int)))) (x : Int) (sum : Int) (v : Int) (fits : Bool) (k : Int) : spec_l10Count_B0 rc ((lazy, begun, g, h, x, sum, v, fits, k, ()), ()) = bif (decide (k < x)) then (bif fits then (match spec_l2Near (g, k, x, ()) () with | some ((r, ()), ()) => (bif (!r) then (some (.inl ((lazy, begun, g, h, x, sum, v, true, (w64 (k + (1 : Int))), ()), ()))) else (guardB (inb k (List.length begun)) (match spec_l10Fits (h, (List.getD begun (Int.toNat k) (0 : Int)), v, lazy, ()) () with | some ((r2, ()), ()) => some (.inl ((lazy, begun, g, h, x, sum, v, r2, (w64 (k + (1 : Int))), ()), ())) | none => none))) | none => none) else (some (.inr ((lazy, begun, g, h, x, sum, v, fits, ()), ())))) else (some (.inr ((lazy, begun, g, h, x, sum, v, fits, ()), ()))) := rfl
theorem spec_l10Count_B1_at (rc : argP spec_l10Count_a → obP (extObs 0 spec_l10Count_o) → Option spec_l10Count_E.P) (lazy : Bool) (begun : List (Int)) (g : (Int) × (List ((Int) × (Int)))) (h : (Int) × (List ((Int) × (Int)))) (x : Int) (sum : Int) (v : Int) : spec_l10Count_B1 rc ((lazy, begun, g, h, x, sum, v, ()), ()) = bif (decide (v < h.1)) then (match loopO (spec_l10Count_B0 rc) ((lazy, begun, g, h, x, sum, v, true, (0 : Int), ()), ()) with | some ((lazy2, begun2, g2, h2, x2, sum2, v2, fits, ()), ()) => (bif fits then (match (spec_l10Count_D0 rc) ((lazy2, begun2, g2, h2, x2, sum2, v2, sum2, g2, h2, lazy2, begun2, v2, ()), ()) with | some ((lazy3, begun3, g3, h3, x3, sum3, v3, ()), ()) => some (.inl ((lazy3, begun3, g3, h3, x3, sum3, (w64 (v3 + (1 : Int))), ()), ())) | none => none) else (some (.inl ((lazy2, begun2, g2, h2, x2, sum2, (w64 (v2 + (1 : Int))), ()), ())))) | none => none) else (some (.inr ((sum, ()), ()))) := rfl
def fitB (T : List (Int × Int)) (lazy : Bool) (a b : Int) : Bool := nearB T a b || (lazy && decide (a = b))
theorem fitB_symm (T : List (Int × Int)) (lazy : Bool) (a b : Int) : fitB T lazy a b = fitB T lazy b a := by
  simp only [fitB, nearB_symm T a b]
  by_cases h : a = b
  · subst h; rfl
  · rw [decide_eq_false h, decide_eq_false (fun e => h e.symm)]
theorem Fits_eq (h : Int × List (Int × Int)) (a b : Int) (lazy : Bool) (hl : h.2.length ≤ 1048576) : spec_l10Fits (h, a, b, lazy, ()) () = some ((fitB h.2 lazy a b, ()), ()) := by
  simp only [spec_l10Fits, Near_eq h a b hl, fitB]
  cases nearB h.2 a b
  · cases lazy
    · rfl
    · by_cases e : a = b
      · simp only [cond_false, cond_true, Bool.false_or, Bool.true_and, beq_eq e, decide_eq_true e]
      · simp only [cond_false, cond_true, Bool.false_or, Bool.true_and, beq_ne e, decide_eq_false e]
  · rfl
def okOne (S T : List (Int × Int)) (lazy : Bool) (l : List Int) (x : Nat) (v : Int) (k : Nat) : Bool := !nearB S (k : Int) (x : Int) || fitB T lazy (l.getD k 0) v
def allFrom (good : Nat → Bool) : Nat → Nat → Bool
  | _, 0 => true
  | k, d + 1 => good k && allFrom good (k + 1) d
theorem allFrom_iff {good : Nat → Bool} : ∀ {d k : Nat}, allFrom good k d = true ↔ ∀ j, k ≤ j → j < k + d → good j = true
  | 0, k => by simp [allFrom]; omega
  | d + 1, k => by
    simp only [allFrom, Bool.and_eq_true, allFrom_iff]
    constructor
    · rintro ⟨h1, h2⟩ j hj hj'
      rcases Nat.lt_or_ge k j with h | h
      · exact h2 j (by omega) (by omega)
      · rw [show j = k by omega]; exact h1
    · intro h
      exact ⟨h k (Nat.le_refl _) (by omega), fun j hj hj' => h j (by omega) (by omega)⟩
def sumFrom (f : Nat → Nat) : Nat → Nat → Nat
  | _, 0 => 0
  | k, d + 1 => f k + sumFrom f (k + 1) d
theorem sumFrom_le {f : Nat → Nat} {B : Nat} (h : ∀ k, f k ≤ B) : ∀ d k, sumFrom f k d ≤ d * B
  | 0, k => by simp [sumFrom]
  | d + 1, k => by
    have h1 := h k
    have h2 := sumFrom_le h d (k + 1)
    simp only [sumFrom, Nat.succ_mul]
    omega
def cnt (S T : List (Int × Int)) (lazy : Bool) (m : Nat) : Nat → List Int → Nat
  | 0, _ => 1
  | d + 1, l => sumFrom (fun v => if allFrom (okOne S T lazy l l.length (v : Int)) 0 l.length then cnt S T lazy m d (l ++ [(v : Int)]) else 0) 0 m
theorem cnt_le (S T : List (Int × Int)) (lazy : Bool) {m : Nat} (hm : m ≤ 8) : ∀ (d : Nat) (l : List Int), cnt S T lazy m d l ≤ 8 ^ d
  | 0, l => by simp [cnt]
  | d + 1, l => by
    simp only [cnt]
    refine Nat.le_trans (sumFrom_le (B := 8 ^ d) (fun k => ?_) m 0) ?_
    · split
      · exact cnt_le S T lazy hm d _
      · exact Nat.zero_le _
    · rw [Nat.pow_succ, Nat.mul_comm]; exact Nat.mul_le_mul_left _ hm
theorem own_small (l : List Int) (hl : l.length ≤ 1048576) : spec_l1Own (l, ()) () = some ((l, ()), ()) := by
  simp only [spec_l1Own, List.nil_append]
  rw [guardB_true (by simp only [List.length_nil, decide_eq_true_eq]; omega)]
theorem count_fits (rc) (g h : Int × List (Int × Int)) (lazy : Bool) (l : List Int) (hg : g.2.length ≤ 1048576) (hh : h.2.length ≤ 1048576) (hl : l.length ≤ 8) (sum v : Int) : ∀ d k, k + d = l.length →
    loopO (spec_l10Count_B0 rc) ((lazy, l, g, h, (l.length : Int), sum, v, true, (k : Int), ()), ()) = some ((lazy, l, g, h, (l.length : Int), sum, v, allFrom (okOne g.2 h.2 lazy l l.length v) k d, ()), ()) := by
  intro d
  induction d with
  | zero =>
    intro k hk
    refine loop_end ?_
    rw [spec_l10Count_B0_at]
    simp only [bif_decide, allFrom]
    rw [if_neg (by omega)]
  | succ d ih =>
    intro k hk
    have st : spec_l10Count_B0 rc ((lazy, l, g, h, (l.length : Int), sum, v, true, (k : Int), ()), ()) = some (.inl ((lazy, l, g, h, (l.length : Int), sum, v, okOne g.2 h.2 lazy l l.length v k, ((k + 1 : Nat) : Int), ()), ())) := by
      rw [spec_l10Count_B0_at]
      simp only [bif_decide, Near_eq g _ _ hg, Fits_eq h _ _ lazy hh, okOne, Int.toNat_natCast]
      rw [if_pos (by omega), w64_succ (by omega)]
      cases nearB g.2 (k : Int) (l.length : Int)
      · rfl
      · simp only [cond_true, Bool.not_true, cond_false, Bool.false_or]
        rw [guardB_true (by simp [inb] <;> omega)]
    simp only [allFrom]
    cases ho : okOne g.2 h.2 lazy l l.length v k
    · rw [ho] at st
      refine loop_step st (loop_end ?_)
      rw [spec_l10Count_B0_at]
      simp only [bif_decide, cond_false, Bool.false_and]
      split <;> rfl
    · rw [ho] at st
      rw [Bool.true_and]
      exact loop_step st (ih (k + 1) (by omega))
theorem count_run (g h : Int × List (Int × Int)) (lazy : Bool) {n m : Nat} (hg1 : g.1 = n) (hn : n ≤ 6) (hh1 : h.1 = m) (hm : m ≤ 8) (hg : g.2.length ≤ 1048576) (hh : h.2.length ≤ 1048576) : ∀ (d f : Nat) (l : List Int), l.length + d = n → d < f →
    fuelF spec_l10Count_F f (g, h, lazy, l, ()) () = some ((((cnt g.2 h.2 lazy m d l : Nat) : Int), ()), ())
  | d, 0, l, _, hf => by omega
  | 0, f + 1, l, hl, _ => by
    simp only [fuelF, spec_l10Count_F, cnt]
    rw [beq_eq (by omega)]
    rfl
  | d + 1, f + 1, l, hl, hf => by
    simp only [fuelF, spec_l10Count_F]
    rw [beq_ne (by omega)]
    simp only [cond_false]
    generalize hF : (fun v : Nat => if allFrom (okOne g.2 h.2 lazy l l.length (v : Int)) 0 l.length then cnt g.2 h.2 lazy m d (l ++ [(v : Int)]) else 0) = F
    have hB : ∀ v, F v ≤ 8 ^ d := fun v => by
      rw [← hF]
      simp only
      split
      · exact cnt_le _ _ _ hm _ _
      · exact Nat.zero_le _
    have h8 : 8 ^ d ≤ 262144 := Nat.le_trans (Nat.pow_le_pow_right (by decide) (show d ≤ 6 by omega)) (by decide)
    have key : ∀ e v sum : Nat, v + e = m → sum ≤ v * 262144 → loopO (spec_l10Count_B1 (fuelF spec_l10Count_F f)) ((lazy, l, g, h, (l.length : Int), (sum : Int), (v : Int), ()), ()) = some ((((sum + sumFrom F v e : Nat) : Int), ()), ()) := by
      intro e
      induction e with
      | zero =>
        intro v sum hv _
        refine loop_end ?_
        rw [spec_l10Count_B1_at]
        simp only [bif_decide, hh1, sumFrom, Nat.add_zero]
        rw [if_neg (by omega)]
      | succ e ih =>
        intro v sum hv hs
        have hFv := hB v
        have nx := ih (v + 1) (sum + F v) (by omega) (by omega)
        rw [Nat.add_assoc] at nx
        simp only [sumFrom]
        refine loop_step ?_ nx
        rw [spec_l10Count_B1_at]
        have hfl := count_fits (fuelF spec_l10Count_F f) g h lazy l hg hh (by omega) (sum : Int) (v : Int) l.length 0 (by omega)
        simp only [bif_decide, hh1]
        rw [if_pos (by omega)]
        erw [hfl]
        rw [← hF]
        simp only
        cases ha : allFrom (okOne g.2 h.2 lazy l l.length (v : Int)) 0 l.length
        · simp only [cond_false, Bool.false_eq_true, if_false, Nat.add_zero, w64_succ (show v < 4611686018427387904 by omega)]
        · have hr := count_run g h lazy hg1 hn hh1 hm hg hh d f (l ++ [(v : Int)]) (by simp; omega) (by omega)
          have hc : cnt g.2 h.2 lazy m d (l ++ [(v : Int)]) ≤ 262144 := Nat.le_trans (cnt_le _ _ _ hm _ _) h8
          simp only [cond_true, if_true]
          rw [spec_l10Count_D0_at, own_small l (by omega)]
          simp only
          rw [guardB_true (by simp only [List.length_singleton, decide_eq_true_eq]; omega), hr]
          simp only [w64_succ (show v < 4611686018427387904 by omega)]
          rw [w64_of (by omega) (by omega)]
          simp only [Int.natCast_add]
    have k0 := key m 0 0 (by omega) (by omega)
    simp only [Nat.zero_add] at k0
    erw [k0]
    simp only [cnt]
    rw [hF]
theorem slices_IndexFunc_int_int_vf_impl_maps_1_1_01234__bsbsbsb1bs_B0_at (s : List (Int)) (t7 : Int) (t8 : Int) (o0 : Int) (o1 : (Int) × (List ((Int) × (Int)))) (o2 : Int) (o3 : List (Int)) (o4 : Bool) : slices_IndexFunc_int_int_vf_impl_maps_1_1_01234__bsbsbsb1bs_B0 ((s, t7, t8, ()), (o0, o1, o2, o3, o4, ())) = bif (decide (t8 < t7)) then (guardB (inb t8 (List.length s)) (match impl_maps_1_1_vccccc ((List.getD s (Int.toNat t8) (0 : Int)), o0, o1, o2, o3, o4, ()) () with | some ((r, ()), ()) => (bif r then (some (.inr (.inl ((t8, ()), (o0, o1, o2, o3, o4, ()))))) else (some (.inl ((s, t7, (w64 (t8 + (1 : Int))), ()), (o0, o1, o2, o3, o4, ()))))) | none => none)) else (some (.inr (.inr ((), (o0, o1, o2, o3, o4, ()))))) := rfl
def badZ (T : List (Int × Int)) (lazy : Bool) (L : List Int) (x y z : Int) : Bool := decide (z < x) && !fitB T lazy y (L.getD z.toNat 0)
theorem isFit_eq (h : Int × List (Int × Int)) {m : Nat} (hp : pairsB h.2 m = true) (a b : Int) (lazy : Bool) (hl : h.2.length ≤ 1048576) : impl_Graph_isFit (h, a, b, lazy, ()) () = some ((fitB h.2 lazy a b, ()), ()) := by
  simp only [impl_Graph_isFit, has_eq h hp a b hl, fitB]
  cases nearB h.2 a b
  · cases lazy
    · rfl
    · by_cases e : a = b
      · simp only [cond_false, cond_true, Bool.false_or, Bool.true_and, beq_eq e, decide_eq_true e]
      · simp only [cond_false, cond_true, Bool.false_or, Bool.true_and, beq_ne e, decide_eq_false e]
  · rfl
theorem wrong_one (h : Int × List (Int × Int)) {m : Nat} (hp : pairsB h.2 m = true) (lazy : Bool) (L : List Int) (x y z : Int) (hl : h.2.length ≤ 1048576) (hz : 0 ≤ z) (hL : z < x → z < L.length) : impl_maps_1_1_vccccc (z, x, h, y, L, lazy, ()) () = some ((badZ h.2 lazy L x y z, ()), ()) := by
  simp only [impl_maps_1_1_vccccc, bif_decide, badZ]
  by_cases e : z < x
  · rw [if_pos e, guardB_true (inb_true hz (hL e)), isFit_eq h hp _ _ lazy hl, decide_eq_true e]
    simp only [Bool.true_and]
  · rw [if_neg e, decide_eq_false e]
    rfl
theorem wrong_idx (h : Int × List (Int × Int)) {m : Nat} (hp : pairsB h.2 m = true) (lazy : Bool) (L s : List Int) (x y : Int) (hl : h.2.length ≤ 1048576) (hs : s.length ≤ 1048576) (hz : ∀ z ∈ s, 0 ≤ z ∧ (z < x → z < L.length)) : ∀ d k, k + d = s.length →
    ∃ q : Int, 0 ≤ q ∧ loopO slices_IndexFunc_int_int_vf_impl_maps_1_1_01234__bsbsbsb1bs_B0 ((s, (s.length : Int), (k : Int), ()), (x, h, y, L, lazy, ())) = some (bif (s.drop k).any (badZ h.2 lazy L x y) then .inl ((q, ()), (x, h, y, L, lazy, ())) else .inr ((), (x, h, y, L, lazy, ()))) := by
  intro d
  induction d with
  | zero =>
    intro k hk
    refine ⟨0, by omega, loop_end ?_⟩
    rw [slices_IndexFunc_int_int_vf_impl_maps_1_1_01234__bsbsbsb1bs_B0_at, List.drop_of_length_le (by omega)]
    simp only [bif_decide, List.any_nil, cond_false]
    rw [if_neg (by omega)]
  | succ d ih =>
    intro k hk
    have hkl : k < s.length := by omega
    have hm := hz _ (List.getElem_mem hkl)
    rw [← getD_at hkl 0] at hm
    have st : slices_IndexFunc_int_int_vf_impl_maps_1_1_01234__bsbsbsb1bs_B0 ((s, (s.length : Int), (k : Int), ()), (x, h, y, L, lazy, ())) = some (bif badZ h.2 lazy L x y (s.getD k 0) then .inr (.inl (((k : Int), ()), (x, h, y, L, lazy, ()))) else .inl ((s, (s.length : Int), ((k + 1 : Nat) : Int), ()), (x, h, y, L, lazy, ()))) := by
      rw [slices_IndexFunc_int_int_vf_impl_maps_1_1_01234__bsbsbsb1bs_B0_at]
      simp only [bif_decide, Int.toNat_natCast]
      rw [if_pos (by omega), guardB_true (by simp [inb] <;> omega), wrong_one h hp lazy L x y _ hl hm.1 hm.2, w64_succ (by omega)]
      cases badZ h.2 lazy L x y (s.getD k 0) <;> rfl
    rw [List.drop_eq_getElem_cons hkl, List.any_cons, ← getD_at hkl 0]
    cases hb : badZ h.2 lazy L x y (s.getD k 0)
    · rw [hb] at st
      rw [Bool.false_or]
      obtain ⟨q, q0, q1⟩ := ih (k + 1) (by omega)
      exact ⟨q, q0, loop_step st q1⟩
    · rw [hb] at st
      exact ⟨(k : Int), by omega, loop_end st⟩
theorem wrong_eq (h : Int × List (Int × Int)) {m : Nat} (hp : pairsB h.2 m = true) (lazy : Bool) (L s : List Int) (x y : Int) (hl : h.2.length ≤ 1048576) (hs : s.length ≤ 1048576) (hz : ∀ z ∈ s, 0 ≤ z ∧ (z < x → z < L.length)) :
    slices_ContainsFunc_int_int_vf_impl_maps_1_1_01234__bsbsbsb1bs (s, ()) (x, h, y, L, lazy, ()) = some ((s.any (badZ h.2 lazy L x y), ()), (x, h, y, L, lazy, ())) := by
  obtain ⟨q, q0, q1⟩ := wrong_idx h hp lazy L s x y hl hs hz s.length 0 (by omega)
  rw [List.drop_zero] at q1
  simp only [slices_ContainsFunc_int_int_vf_impl_maps_1_1_01234__bsbsbsb1bs, slices_IndexFunc_int_int_vf_impl_maps_1_1_01234__bsbsbsb1bs]
  erw [q1]
  cases s.any (badZ h.2 lazy L x y)
  · simp only [cond_false]
    rw [decide_eq_false (by omega)]
  · simp only [cond_true]
    rw [decide_eq_true q0]
theorem wrong_ok (S T : List (Int × Int)) (lazy : Bool) {n x : Nat} (L : List Int) (hL : L.length = n) (hx : x < n) (v : Int) : (nbs S n x).any (badZ T lazy (L.set x v) (x : Int) v) = !allFrom (okOne S T lazy (L.take x) x v) 0 x := by
  rw [Bool.eq_iff_iff, Bool.not_eq_true', ← Bool.not_eq_true, allFrom_iff, List.any_eq_true]
  have gd : ∀ k, k < x → (L.set x v).getD k 0 = (L.take x).getD k 0 := fun k hk => by
    rw [getD_at (by rw [List.length_set]; omega), getD_at (by rw [List.length_take]; omega), List.getElem_set_ne (by omega), List.getElem_take]
  constructor
  · rintro ⟨z, hz, hb⟩ h
    obtain ⟨y, hy, e⟩ : ∃ y : Nat, (y : Int) ∈ nbs S n x ∧ z = y := by
      simp only [nbs, List.mem_map] at hz
      obtain ⟨k, hk, e⟩ := hz
      exact ⟨k, by simp only [nbs, List.mem_map]; exact ⟨k, hk, rfl⟩, e.symm⟩
    subst e
    obtain ⟨h1, h2⟩ := nbs_mem.1 hy
    simp only [badZ, Bool.and_eq_true, decide_eq_true_eq, Bool.not_eq_true', Int.toNat_natCast] at hb
    have hyx : y < x := by omega
    have := h y (by omega) (by omega)
    simp only [nbB, Bool.and_eq_true] at h2
    simp only [okOne, nearB_symm S (y : Int) (x : Int), h2.2, Bool.not_true, Bool.false_or] at this
    rw [gd y hyx, fitB_symm, this] at hb
    cases hb.2
  · intro h
    refine Classical.byContradiction fun g => h fun k _ hk => ?_
    have hk : k < x := by omega
    simp only [okOne]
    cases hn : nearB S (k : Int) (x : Int)
    · rfl
    · simp only [Bool.not_true, Bool.false_or]
      cases hf : fitB T lazy ((L.take x).getD k 0) v
      · refine absurd ⟨(k : Int), nbs_mem.2 ⟨by omega, ?_⟩, ?_⟩ g
        · simp only [nbB, Bool.and_eq_true, Bool.not_eq_true', decide_eq_false_iff_not]
          exact ⟨by omega, by rw [nearB_symm]; exact hn⟩
        · simp only [badZ, Bool.and_eq_true, decide_eq_true_eq, Bool.not_eq_true', Int.toNat_natCast]
          exact ⟨by omega, by rw [gd k hk, fitB_symm]; exact hf⟩
      · rfl
theorem impl_maps_1_va0a1a2a3a4a5_bsfimpl_CountMaps_1_6b1bsbsfimpl_maps_1_012345bs_B0_at (rc : argP impl_maps_1_va0a1a2a3a4a5_bsfimpl_CountMaps_1_6b1bsbsfimpl_maps_1_012345bs_a → obP (extObs 0 impl_maps_1_va0a1a2a3a4a5_bsfimpl_CountMaps_1_6b1bsbsfimpl_maps_1_012345bs_o) → Option impl_maps_1_va0a1a2a3a4a5_bsfimpl_CountMaps_1_6b1bsbsfimpl_maps_1_012345bs_E.P) (t19 : Int) (t20 : Int) (o0 : (Int) × (List ((Int) × (Int)))) (o2 : List (Int)) (o3 : (Int) × (List ((Int) × (Int)))) (o4 : Bool) (x : Int) (o6 : Int) : impl_maps_1_va0a1a2a3a4a5_bsfimpl_CountMaps_1_6b1bsbsfimpl_maps_1_012345bs_B0 rc ((t19, t20, ()), (o0, o2, o3, o4, x, o6, ())) = bif (decide (t20 < t19)) then (guardB (inb x (List.length o2)) (match impl_Graph_neighbors (o0, x, ()) () with | some ((r, ()), ()) => (match slices_ContainsFunc_int_int_vf_impl_maps_1_1_01234__bsbsbsb1bs (r, ()) (x, o3, t20, (List.set o2 (Int.toNat x) t20), o4, ()) with | some ((r2, ()), (o, o2, o3, o4, o5, ())) => (bif (!r2) then (match rc ((w64 (o + (1 : Int))), ()) (o0, o4, o2, o5, o6, ()) with | some ((r3, ()), (o6, o7, o8, o9, o10, ())) => (bif (!r3) then (some (.inr (.inl ((false, ()), (o6, o7, o8, o9, o10, ()))))) else (some (.inl ((t19, (w64 (t20 + (1 : Int))), ()), (o6, o7, o8, o9, o, o10, ()))))) | none => none) else (some (.inl ((t19, (w64 (t20 + (1 : Int))), ()), (o0, o4, o2, o5, o, o6, ()))))) | none => none) | none => none)) else (some (.inr (.inr ((), (o0, o2, o3, o4, o6, ()))))) := rfl
theorem maps_run (g h : Int × List (Int × Int)) (lazy : Bool) {n m : Nat} (hg1 : g.1 = n) (hn : n ≤ 6) (hh1 : h.1 = m) (hm : m ≤ 8) (hgp : pairsB g.2 n = true) (hhp : pairsB h.2 m = true) (hg : g.2.length ≤ 1048576) (hh : h.2.length ≤ 1048576) : ∀ (d f x : Nat) (L : List Int) (c : Nat), x + d = n → d < f → L.length = n → c + 8 ^ d ≤ 1000000000000 →
    ∃ L' : List Int, L'.length = n ∧ L'.take x = L.take x ∧ fuelF impl_maps_1_va0a1a2a3a4a5_bsfimpl_CountMaps_1_6b1bsbsfimpl_maps_1_012345bs_F f ((x : Int), ()) (g, L, h, lazy, (c : Int), ()) = some ((true, ()), (g, L', h, lazy, ((c + cnt g.2 h.2 lazy m d (L.take x) : Nat) : Int), ()))
  | d, 0, x, L, c, _, hf, _, _ => by omega
  | 0, f + 1, x, L, c, hx, _, hL, hc => by
    refine ⟨L, hL, rfl, ?_⟩
    simp only [fuelF, impl_maps_1_va0a1a2a3a4a5_bsfimpl_CountMaps_1_6b1bsbsfimpl_maps_1_012345bs_F, impl_CountMaps_1_va0_bs, cnt]
    rw [beq_eq (by omega), w64_succ (by omega)]
    rfl
  | d + 1, f + 1, x, L, c, hx, hf, hL, hc => by
    have hxn : x < n := by omega
    have hps : m * 8 ^ d ≤ 8 ^ (d + 1) := by rw [Nat.pow_succ, Nat.mul_comm (8 ^ d)]; exact Nat.mul_le_mul_right _ hm
    generalize hF : (fun v : Nat => if allFrom (okOne g.2 h.2 lazy (L.take x) (L.take x).length (v : Int)) 0 (L.take x).length then cnt g.2 h.2 lazy m d (L.take x ++ [(v : Int)]) else 0) = F
    have hlen : (L.take x).length = x := by rw [List.length_take]; omega
    have hB : ∀ v, F v ≤ 8 ^ d := fun v => by
      rw [← hF]
      simp only
      split
      · exact cnt_le _ _ _ hm _ _
      · exact Nat.zero_le _
    have key : ∀ e v c : Nat, ∀ K : List Int, v + e = m → K.length = n → K.take x = L.take x → c + e * 8 ^ d ≤ 1000000000000 → ∃ L' : List Int, L'.length = n ∧ L'.take x = L.take x ∧
        loopO (impl_maps_1_va0a1a2a3a4a5_bsfimpl_CountMaps_1_6b1bsbsfimpl_maps_1_012345bs_B0 (fuelF impl_maps_1_va0a1a2a3a4a5_bsfimpl_CountMaps_1_6b1bsbsfimpl_maps_1_012345bs_F f)) (((m : Int), (v : Int), ()), (g, K, h, lazy, (x : Int), (c : Int), ())) = some (.inr ((), (g, L', h, lazy, ((c + sumFrom F v e : Nat) : Int), ()))) := by
      intro e
      induction e with
      | zero =>
        intro v c K hv hK ht _
        refine ⟨K, hK, ht, loop_end ?_⟩
        rw [impl_maps_1_va0a1a2a3a4a5_bsfimpl_CountMaps_1_6b1bsbsfimpl_maps_1_012345bs_B0_at]
        simp only [bif_decide, sumFrom, Nat.add_zero]
        rw [if_neg (by omega)]
      | succ e ih =>
        intro v c K hv hK ht hc
        have hFv := hB v
        rw [Nat.succ_mul] at hc
        have hok := wrong_ok g.2 h.2 lazy (n := n) (x := x) K hK hxn (v : Int)
        have hnl := nbs_len g.2 n x
        have hcon := wrong_eq h hhp lazy (K.set x (v : Int)) (nbs g.2 n x) (x : Int) (v : Int) hh (by omega) (fun z hz => by
          simp only [nbs, List.mem_map] at hz
          obtain ⟨k, _, e⟩ := hz
          rw [List.length_set]
          omega)
        rw [hok, ht] at hcon
        have stp : ∀ R, impl_maps_1_va0a1a2a3a4a5_bsfimpl_CountMaps_1_6b1bsbsfimpl_maps_1_012345bs_B0 (fuelF impl_maps_1_va0a1a2a3a4a5_bsfimpl_CountMaps_1_6b1bsbsfimpl_maps_1_012345bs_F f) (((m : Int), (v : Int), ()), (g, K, h, lazy, (x : Int), (c : Int), ())) = R → impl_maps_1_va0a1a2a3a4a5_bsfimpl_CountMaps_1_6b1bsbsfimpl_maps_1_012345bs_B0 (fuelF impl_maps_1_va0a1a2a3a4a5_bsfimpl_CountMaps_1_6b1bsbsfimpl_maps_1_012345bs_F f) (((m : Int), (v : Int), ()), (g, K, h, lazy, (x : Int), (c : Int), ())) = R := fun _ h => h
        cases ha : allFrom (okOne g.2 h.2 lazy (L.take x) x (v : Int)) 0 x
        · have hF0 : F v = 0 := by
            rw [← hF]
            simp only [hlen, ha, Bool.false_eq_true, if_false]
          obtain ⟨L', l1, l2, l3⟩ := ih (v + 1) c (K.set x (v : Int)) (by omega) (by rw [List.length_set]; exact hK) (by rw [List.take_set_of_le (Nat.le_refl _)]; exact ht) (by omega)
          refine ⟨L', l1, l2, ?_⟩
          simp only [sumFrom, hF0, Nat.zero_add]
          refine loop_step ?_ l3
          rw [impl_maps_1_va0a1a2a3a4a5_bsfimpl_CountMaps_1_6b1bsbsfimpl_maps_1_012345bs_B0_at]
          simp only [bif_decide, neighbors_eq g hg1 (by omega) hgp x hg, Int.toNat_natCast]
          rw [if_pos (by omega), guardB_true (by simp [inb] <;> omega), hcon, ha]
          simp only [Bool.not_false, Bool.not_true, cond_false, w64_succ (show v < 4611686018427387904 by omega)]
        · have hF1 : F v = cnt g.2 h.2 lazy m d (L.take x ++ [(v : Int)]) := by
            rw [← hF]
            simp only [hlen, ha, if_true]
          obtain ⟨L1, a1, a2, a3⟩ := maps_run g h lazy hg1 hn hh1 hm hgp hhp hg hh d f (x + 1) (K.set x (v : Int)) c (by omega) (by omega) (by rw [List.length_set]; exact hK) (by omega)
          have htk : (K.set x (v : Int)).take (x + 1) = L.take x ++ [(v : Int)] := by
            rw [List.take_succ_eq_append_getElem (by rw [List.length_set]; omega), List.getElem_set_self, List.take_set_of_le (Nat.le_refl _), ht]
          rw [htk] at a2 a3
          have ht1 : L1.take x = L.take x := by
            have := congrArg (List.take x) a2
            rw [List.take_take, Nat.min_eq_left (by omega), List.take_append_of_le_length (by omega), List.take_take, Nat.min_self] at this
            exact this
          rw [← hF1] at a3
          obtain ⟨L', l1, l2, l3⟩ := ih (v + 1) (c + F v) L1 (by omega) a1 ht1 (by omega)
          rw [Nat.add_assoc] at l3
          refine ⟨L', l1, l2, ?_⟩
          simp only [sumFrom]
          refine loop_step ?_ l3
          rw [impl_maps_1_va0a1a2a3a4a5_bsfimpl_CountMaps_1_6b1bsbsfimpl_maps_1_012345bs_B0_at]
          simp only [bif_decide, neighbors_eq g hg1 (by omega) hgp x hg, Int.toNat_natCast]
          rw [if_pos (by omega), guardB_true (by simp [inb] <;> omega), hcon, ha]
          simp only [Bool.not_false, Bool.not_true, cond_false, cond_true]
          rw [w64_succ (show x < 4611686018427387904 by omega), a3]
          simp only [Bool.not_true, cond_false, w64_succ (show v < 4611686018427387904 by omega)]
    obtain ⟨L', l1, l2, l3⟩ := key m 0 c L (by omega) hL rfl (by omega)
    refine ⟨L', l1, l2, ?_⟩
    simp only [fuelF, impl_maps_1_va0a1a2a3a4a5_bsfimpl_CountMaps_1_6b1bsbsfimpl_maps_1_012345bs_F, cnt]
    rw [beq_ne (by omega)]
    simp only [cond_false, hh1]
    erw [l3]
    rw [← hF]
def caseB (g h : Int × List (Int × Int)) : Bool := goodG g && (goodG h && decide (g.1 ≤ 6))
theorem Good2_eq (g h : Int × List (Int × Int)) (hg : g.2.length ≤ 1048576) (hh : h.2.length ≤ 1048576) : spec_l10Good (g, h, ()) () = some ((caseB g h, ()), ()) := by
  simp only [spec_l10Good, l2Good_eq g hg, l2Good_eq h hh, caseB]
  cases goodG g <;> cases goodG h <;> rfl
theorem Case_eq (g h : Int × List (Int × Int)) (hg : g.2.length ≤ 1048576) (hh : h.2.length ≤ 1048576) : impl_isMapCase (g, h, ()) () = some ((caseB g h, ()), ()) := by
  simp only [impl_isMapCase, IsGraph_eq g hg, IsGraph_eq h hh, caseB]
  cases goodG g <;> cases goodG h <;> rfl
theorem good_nat {g : Int × List (Int × Int)} (h : goodG g = true) : ∃ n : Nat, g.1 = n ∧ n ≤ 8 ∧ pairsB g.2 n = true := by
  simp only [goodG, Bool.and_eq_true, inR, decide_eq_true_eq] at h
  obtain ⟨n, hn⟩ : ∃ n : Nat, g.1 = n := ⟨g.1.toNat, by omega⟩
  exact ⟨n, hn, by omega, by rw [← hn]; exact h.2⟩
theorem szGraph_gen (g : Int × List (Int × Int)) (k : Int) (h0 : 0 ≤ k) (hk : k ≤ 1048576) (hl : g.2.length ≤ 140737488351232) : ∃ r : Int, laws_szGraph (g, k, ()) () = some ((r, ()), ()) ∧ r ≤ 1048576 ∧ (0 ≤ r → g.2.length ≤ 1048576) := by
  simp only [laws_szGraph, szIntA2S_eq g.2 k h0 hk hl, bif_decide]
  by_cases h : (g.2.length : Int) ≤ k
  · rw [if_pos h]; rw [if_neg (show ¬ (k - (g.2.length : Int)) < 0 by omega)]; exact ⟨_, rfl, by omega, fun _ => by omega⟩
  · rw [if_neg h]; rw [if_pos (show (-1 : Int) < 0 by omega)]; exact ⟨-1, rfl, by omega, fun h => by omega⟩
theorem maps_both (g h : Int × List (Int × Int)) (lazy : Bool) (hg : g.2.length ≤ 1048576) (hh : h.2.length ≤ 1048576) : ∃ (c : Int) (b : Bool), spec_CountMaps (g, h, lazy, ()) () = some ((c, b, ()), ()) ∧ impl_CountMaps (g, h, lazy, ()) () = some ((c, b, ()), ()) := by
  simp only [spec_CountMaps, impl_CountMaps, Good2_eq g h hg hh, Case_eq g h hg hh]
  cases hc : caseB g h
  · exact ⟨0, false, rfl, rfl⟩
  · simp only [caseB, Bool.and_eq_true, decide_eq_true_eq] at hc
    obtain ⟨n, hn, hn8, hgp⟩ := good_nat hc.1
    obtain ⟨m, hm, hm8, hhp⟩ := good_nat hc.2.1
    have h6 : n ≤ 6 := by omega
    have hp8 : 8 ^ n ≤ 262144 := Nat.le_trans (Nat.pow_le_pow_right (by decide) h6) (by decide)
    have s1 := count_run g h lazy hn h6 hm hm8 hg hh n 1000 [] (by simp) (by omega)
    obtain ⟨L', _, _, s2⟩ := maps_run g h lazy hn h6 hm hm8 hgp hhp hg hh n 1000 0 (List.replicate n 0) 0 (by omega) (by omega) (by simp) (by omega)
    simp only [List.take_zero, Nat.zero_add] at s2
    refine ⟨((cnt g.2 h.2 lazy m n [] : Nat) : Int), true, ?_, ?_⟩
    · simp only [Bool.not_true, cond_false, show spec_l10Count = fuelF spec_l10Count_F 1000 from rfl, s1]
    · simp only [Bool.not_true, cond_false, impl_maps_vvvf_impl_CountMaps_1_0__bs, show impl_maps_1_va0a1a2a3a4a5_bsfimpl_CountMaps_1_6b1bsbsfimpl_maps_1_012345bs = fuelF impl_maps_1_va0a1a2a3a4a5_bsfimpl_CountMaps_1_6b1bsbsfimpl_maps_1_012345bs_F 1000 from rfl, hn, Int.toNat_natCast]
      rw [guardB_true (fold_len (n := n) (by omega)).1]
      erw [s2]
theorem FnExactCountMaps_true (g h : Int × List (Int × Int)) (lazy : Bool) (hg : Sm (.prod I (.list (.prod I I))) g) (hh : Sm (.prod I (.list (.prod I I))) h) (_ : Sm .bool lazy) : laws_FnExactCountMaps (g, h, lazy, ()) () = some ((true, ()), ()) := by
  obtain ⟨_, hl, _⟩ := hg
  obtain ⟨_, hl2, _⟩ := hh
  simp only [laws_FnExactCountMaps, bif_decide]
  obtain ⟨r, e1, e0, e2⟩ := szGraph_gen g 1048576 (by omega) (by omega) hl
  rw [e1]
  by_cases h2 : r < 0
  · simp only [if_pos h2]
  have hl' := e2 (by omega)
  simp only [if_neg h2]
  obtain ⟨r', f1, _, f2⟩ := szGraph_gen h r (by omega) e0 hl2
  rw [f1]
  by_cases h3 : r' < 0
  · simp only [if_pos h3]
  have hl2' := f2 (by omega)
  obtain ⟨c, b, s1, s2⟩ := maps_both g h lazy hl' hl2'
  simp only [if_neg h3, toGraph_eq g hl', toGraph_eq h hl2', s1, s2, eqGraph_eq g hl', eqGraph_eq h hl2', bne_self_eq_false, beq_self_eq_true, Bool.not_true, cond_false]

end Go.Proofs.Ytiiaadgibkpaaaa.V
