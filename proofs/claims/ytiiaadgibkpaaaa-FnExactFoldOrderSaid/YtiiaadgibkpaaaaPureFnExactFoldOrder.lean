/-
  What the reference and the program compute agrees: plain lemmas over numbers and lists.
-/
import Derived.Test.YtiiaadgibkpaaaaTFnExactFoldOrder
import Derived.Test.YtiiaadgibkpaaaaE3
namespace Go.Proofs.Ytiiaadgibkpaaaa.V
open Go Go.Ve Go.Proofs
set_option linter.unusedVariables false
set_option linter.unusedSimpArgs false
theorem fold_len {n : Nat} (h : n ≤ 1048576) : (decide (0 ≤ (n : Int)) && decide ((n : Int) ≤ (n : Int)) && decide ((n : Int) * 8 ≤ 140737488355328)) = true ∧ (decide (0 ≤ (n : Int)) && decide ((n : Int) ≤ (n : Int)) && decide ((n : Int) * 24 ≤ 140737488355328)) = true ∧ (decide (0 ≤ (n : Int)) && decide ((n : Int) ≤ (n : Int)) && decide ((n : Int) * 16 ≤ 140737488355328)) = true := by
  refine ⟨?_, ?_, ?_⟩ <;> simp <;> omega
theorem toIntA2_eq (a : Int × Int) : laws_toIntA2 (a, ()) () = some ((a, ()), ()) := by
  obtain ⟨x, y⟩ := a
  have e0 : laws_toIntA2_B0 (((x, y), 0, ()), ((0, 0), (0, 0), ())) = some (.inl (((x, y), 1, ()), ((0, 0), (x, 0), ()))) := rfl
  have e1 : laws_toIntA2_B0 (((x, y), 1, ()), ((0, 0), (x, 0), ())) = some (.inl (((x, y), 2, ()), ((0, 0), (x, y), ()))) := rfl
  have e2 : laws_toIntA2_B0 (((x, y), 2, ()), ((0, 0), (x, y), ())) = some (.inr ((), ((0, 0), (x, y), ()))) := rfl
  simp only [laws_toIntA2, loop_step e0 (loop_step e1 (loop_end e2))]
theorem toIntA2S_eq (l : List (Int × Int)) (hl : l.length ≤ 1048576) : laws_toIntA2S (l, ()) () = some ((l, ()), ()) := by
  simp only [laws_toIntA2S, guardB_true (fold_len hl).2.2, Int.toNat_natCast]
  have key : loopO laws_toIntA2S_B0 ((l, fill (fun j => l.getD j (0, 0)) (0, 0) l.length 0, ((0 : Nat) : Int), ()), ()) = some ((fill (fun j => l.getD j (0, 0)) (0, 0) l.length l.length, ()), ()) := by
    refine loop_count (fun i => ((l, fill (fun j => l.getD j (0, 0)) (0, 0) l.length i, (i : Int), ()), ())) l.length _ (fun i hi => ?_) ?_ 0 (Nat.zero_le _)
    · simp only [laws_toIntA2S_B0, bif_decide, if_pos (show (i : Int) < (l.length : Int) by omega), fill_len, guardB_true (inb_true (Int.natCast_nonneg i) (show (i : Int) < (l.length : Int) by omega)), Int.toNat_natCast]
      rw [toIntA2_eq]
      simp only [fill_set (f := fun j => l.getD j (0, 0)) hi, w64_succ (show i < 4611686018427387904 by omega)]
    · simp only [laws_toIntA2S_B0, bif_decide, if_neg (show ¬ (l.length : Int) < (l.length : Int) by omega)]
  rw [fill_zero, fill_all, range_getD] at key
  erw [key]
theorem allUpto_true {n : Nat} : allUpto (fun _ => true) n = true := allUpto_iff.2 fun _ _ => rfl
theorem eqIntA2_eq (a : Int × Int) : laws_eqIntA2 (a, a, ()) () = some ((true, ()), ()) := by
  obtain ⟨x, y⟩ := a
  have e0 : laws_eqIntA2_B0 (((x, y), (x, y), 0, ()), ()) = some (.inl (((x, y), (x, y), 1, ()), ())) := by
    simp [laws_eqIntA2_B0, guardB]; rfl
  have e1 : laws_eqIntA2_B0 (((x, y), (x, y), 1, ()), ()) = some (.inl (((x, y), (x, y), 2, ()), ())) := by
    simp [laws_eqIntA2_B0, guardB]; rfl
  have e2 : laws_eqIntA2_B0 (((x, y), (x, y), 2, ()), ()) = some (.inr (.inr ((), ()))) := rfl
  simp only [laws_eqIntA2, loop_step e0 (loop_step e1 (loop_end e2))]
theorem eqIntA2S_eq (l : List (Int × Int)) (hl : l.length ≤ 1048576) : laws_eqIntA2S (l, l, ()) () = some ((true, ()), ()) := by
  have key := loop_all (B := laws_eqIntA2S_B0) (fun i => ((l, l, (i : Int), ()), ())) (fun _ => true) l.length (.inl ((false, ()), ())) (.inr ((), ())) (fun i hi _ => by
    simp only [laws_eqIntA2S_B0, bif_decide, if_pos (show (i : Int) < (l.length : Int) by omega), guardB_true (inb_true (Int.natCast_nonneg i) (show (i : Int) < (l.length : Int) by omega)), Int.toNat_natCast]
    rw [eqIntA2_eq]
    simp [w64_succ (show i < 4611686018427387904 by omega)]) (by simp [laws_eqIntA2S_B0])
  rw [allUpto_true] at key
  simp only [laws_eqIntA2S, bne_self_eq_false, cond_false]
  rw [show (0 : Int) = ((0 : Nat) : Int) from rfl, key]
  rfl
theorem szIntA2S_eq (l : List (Int × Int)) (n : Int) (h0 : 0 ≤ n) (hn : n ≤ 1048576) (hl : l.length ≤ 140737488351232) : laws_szIntA2S (l, n, ()) () = some (((if (l.length : Int) ≤ n then n - l.length else -1), ()), ()) := by
  simp only [laws_szIntA2S, w64_of (x := n - (l.length : Int)) (by omega) (by omega), bif_decide]
  by_cases h : (l.length : Int) ≤ n
  · rw [if_neg (by omega), if_pos h]
  · rw [if_pos (by omega), if_neg h]
def inR (x a b : Int) : Bool := decide (a ≤ x) && decide (x ≤ b)
theorem l1In_eq (x a b : Int) : spec_l1In (x, a, b, ()) () = some ((inR x a b, ()), ()) := by
  simp only [spec_l1In, inR]
  by_cases h : a ≤ x <;> simp [h]
theorem between_eq (x a b : Int) : impl_between (x, a, b, ()) () = some ((inR x a b, ()), ()) := by
  simp only [impl_between, inR]
  by_cases h : a ≤ x <;> simp [h]
theorem cmp_eq (x y : Int) : cmp_Compare_int (x, y, ()) () = some (((if x < y then -1 else if y < x then 1 else 0), ()), ()) := by
  simp only [cmp_Compare_int, cmp_isNaN_int, bne_self_eq_false, cond_false, bif_decide]
  split
  · rfl
  · split <;> rfl
def edgeB (a b : Int × Int) : Bool := decide (a.1 < b.1) || (decide (a.1 = b.1) && decide (a.2 < b.2))
theorem l2Edge_eq (a b : Int × Int) : spec_l2Edge (a, b, ()) () = some ((edgeB a b, ()), ()) := by
  simp only [spec_l2Edge, edgeB]
  by_cases h : a.1 < b.1
  · simp [h]
  · by_cases h2 : a.1 = b.1
    · simp [h, h2]
    · simp [h, h2, beq_ne h2]
theorem cmpOr_eq (x y : Int) : cmp_Or_int ([x, y], ()) () = some (((if x = 0 then y else x), ()), ()) := by
  simp only [cmp_Or_int]
  have e0 : cmp_Or_int_B0 ((0, [x, y], ([x, y].length : Int), 0, ()), ()) = some (if x = 0 then .inl ((0, [x, y], ([x, y].length : Int), 1, ()), ()) else .inr (.inl ((x, ()), ()))) := by
    by_cases h : x = 0
    · simp [cmp_Or_int_B0, inb, guardB, h]; rfl
    · simp [cmp_Or_int_B0, inb, guardB, h, bne_ne h]
  have e1 : cmp_Or_int_B0 ((0, [x, y], ([x, y].length : Int), 1, ()), ()) = some (if y = 0 then .inl ((0, [x, y], ([x, y].length : Int), 2, ()), ()) else .inr (.inl ((y, ()), ()))) := by
    by_cases h : y = 0
    · simp [cmp_Or_int_B0, inb, guardB, h]; rfl
    · simp [cmp_Or_int_B0, inb, guardB, h, bne_ne h]
  have e2 : cmp_Or_int_B0 ((0, [x, y], ([x, y].length : Int), 2, ()), ()) = some (.inr (.inr ((0, ()), ()))) := by
    simp [cmp_Or_int_B0]
  by_cases h : x = 0
  · rw [if_pos h] at e0 ⊢
    by_cases g : y = 0
    · rw [if_pos g] at e1
      rw [loop_step e0 (loop_step e1 (loop_end e2)), g]
    · rw [if_neg g] at e1
      rw [loop_step e0 (loop_end e1)]
  · rw [if_neg h] at e0 ⊢
    rw [loop_end e0]
theorem comparePairs_eq (a b : Int × Int) : ∃ r : Int, impl_comparePairs (a, b, ()) () = some ((r, ()), ()) ∧ (decide ((0 : Int) ≤ r) = !edgeB a b) ∧ (r = 0 ↔ a = b) := by
  obtain ⟨a1, a2⟩ := a
  obtain ⟨b1, b2⟩ := b
  simp only [impl_comparePairs, cmp_eq _ _, cmpOr_eq _ _]
  refine ⟨_, rfl, ?_, ?_⟩
  · simp only [edgeB]
    by_cases h : a1 < b1
    · simp [h]
    · by_cases h2 : b1 < a1
      · have : ¬ a1 = b1 := by omega
        simp [h, h2, this]
      · have : a1 = b1 := by omega
        subst this
        by_cases h3 : a2 < b2
        · simp [h3]
        · by_cases h4 : b2 < a2 <;> simp [h3, h4]
  · simp only [Prod.mk.injEq]
    by_cases h : a1 < b1
    · simp [h]; omega
    · by_cases h2 : b1 < a1
      · simp [h, h2]; omega
      · have : a1 = b1 := by omega
        subst this
        by_cases h3 : a2 < b2
        · simp [h3]; omega
        · by_cases h4 : b2 < a2
          · simp [h3, h4]; omega
          · simp [h3, h4]; omega
def pairB (l : List (Int × Int)) (n : Int) (i : Nat) : Bool :=
  decide (0 ≤ (l.getD i (0, 0)).1) && (decide ((l.getD i (0, 0)).1 < (l.getD i (0, 0)).2) && (decide ((l.getD i (0, 0)).2 < n) && (decide (i = 0) || edgeB (l.getD (i - 1) (0, 0)) (l.getD i (0, 0)))))
def pairsB (l : List (Int × Int)) (n : Int) : Bool := allUpto (pairB l n) l.length
theorem l2Pairs_eq (l : List (Int × Int)) (n : Int) (hl : l.length ≤ 1048576) (h0 : -1048576 ≤ n) (hn : n ≤ 1048576) : spec_l2Pairs (l, n, ()) () = some ((pairsB l n, ()), ()) := by
  have key := loop_all (B := spec_l2Pairs_B0) (fun i => ((l, n, (i : Int), ()), ())) (pairB l n) l.length (.inl ((false, ()), ())) (.inr ((), ())) (fun i hi _ => by
    obtain ⟨e, he⟩ : ∃ e : Int × Int, l.getD i (0, 0) = e := ⟨_, rfl⟩
    simp only [spec_l2Pairs_B0, bif_decide, if_pos (show (i : Int) < (l.length : Int) by omega), guardB_true (inb_true (Int.natCast_nonneg i) (show (i : Int) < (l.length : Int) by omega)), Int.toNat_natCast, l1In_eq _ _ _, w64_succ (show i < 4611686018427387904 by omega), w64_of (x := n - 1) (by omega) (by omega), pairB, inR, he]
    by_cases h1 : 0 ≤ e.1
    · by_cases h2 : e.1 ≤ n - 1
      · by_cases h3 : 0 ≤ e.2
        · by_cases h4 : e.2 ≤ n - 1
          · by_cases h5 : e.2 ≤ e.1
            · simp [h1, h2, h3, h4, h5, show ¬ e.1 < e.2 by omega]
            · by_cases h6 : i = 0
              · subst h6
                simp [h1, h2, h3, h4, h5, show e.1 < e.2 by omega, show e.2 < n by omega]
              · rw [w64_pred (by omega) (by omega), guardB_true (inb_true (Int.natCast_nonneg _) (show ((i - 1 : Nat) : Int) < (l.length : Int) by omega)), Int.toNat_natCast, l2Edge_eq]
                cases edgeB (l.getD (i - 1) (0, 0)) e <;> simp [h1, h2, h3, h4, h5, h6, show e.1 < e.2 by omega, show e.2 < n by omega, show 0 < i by omega]
          · simp [h1, h2, h3, h4, show ¬ e.2 < n by omega]
        · simp [h1, h2, h3, show ¬ e.1 < e.2 by omega]
      · simp only [h1, h2, decide_true, decide_false, Bool.and_false, Bool.not_false, cond_true, Bool.true_and]
        by_cases h3 : e.1 < e.2
        · simp [h3, show ¬ e.2 < n by omega]
        · simp [h3]
    · simp [h1]) (by simp [spec_l2Pairs_B0])
  simp only [spec_l2Pairs]
  erw [key]
  simp only [pairsB]
  cases allUpto (pairB l n) l.length <;> rfl
theorem isPairs_eq (l : List (Int × Int)) (n : Int) (hl : l.length ≤ 1048576) : impl_isPairs (l, n, ()) () = some ((pairsB l n, ()), ()) := by
  have key := loop_all (B := impl_isPairs_B0) (fun i => ((l, n, l, (l.length : Int), (i : Int), ()), ())) (pairB l n) l.length (.inl ((false, ()), ())) (.inr ((), ())) (fun i hi _ => by
    obtain ⟨e, he⟩ : ∃ e : Int × Int, l.getD i (0, 0) = e := ⟨_, rfl⟩
    simp only [impl_isPairs_B0, bif_decide, if_pos (show (i : Int) < (l.length : Int) by omega), guardB_true (inb_true (Int.natCast_nonneg i) (show (i : Int) < (l.length : Int) by omega)), Int.toNat_natCast, w64_succ (show i < 4611686018427387904 by omega), pairB, he]
    by_cases h1 : e.1 < 0
    · simp [h1, show ¬ 0 ≤ e.1 by omega]
    · by_cases h2 : e.2 ≤ e.1
      · simp [h1, h2, show ¬ e.1 < e.2 by omega]
      · by_cases h3 : n ≤ e.2
        · simp [h1, h2, h3, show ¬ e.2 < n by omega]
        · by_cases h6 : i = 0
          · subst h6
            simp [h1, h2, h3, show 0 ≤ e.1 by omega, show e.1 < e.2 by omega, show e.2 < n by omega]
          · obtain ⟨r, r1, r2, _⟩ := comparePairs_eq (l.getD (i - 1) (0, 0)) e
            rw [w64_pred (by omega) (by omega), guardB_true (inb_true (Int.natCast_nonneg _) (show ((i - 1 : Nat) : Int) < (l.length : Int) by omega)), Int.toNat_natCast, r1]
            simp only [if_neg h1, if_neg h2, if_neg h3, if_pos (show (0 : Int) < (i : Int) by omega), ← bif_decide, r2]
            cases edgeB (l.getD (i - 1) (0, 0)) e <;> simp [h6, show 0 ≤ e.1 by omega, show e.1 < e.2 by omega, show e.2 < n by omega]) (by simp [impl_isPairs_B0])
  simp only [impl_isPairs]
  erw [key]
  simp only [pairsB]
  cases allUpto (pairB l n) l.length <;> rfl
theorem ofInt_nat {a : Nat} (h : a < 18446744073709551616) : (BitVec.ofInt 64 (a : Int)).toNat = a := by
  have e : (BitVec.ofInt 64 (a : Int)) = BitVec.ofNat 64 a := by simp
  rw [e, BitVec.toNat_ofNat, Nat.mod_eq_of_lt (show a < 2 ^ 64 by omega)]
theorem wrapN {a : Nat} (h : a < 9223372036854775808) : IntKind.wrap .u64 (a : Int) = a ∧ IntKind.wrap .i64 (a : Int) = a := by
  constructor
  · simp only [IntKind.wrap, IntKind.bits, IntKind.signed]; simp; omega
  · simp only [IntKind.wrap, IntKind.bits, IntKind.signed]; simp; omega
theorem and_le' (a b : Nat) : a &&& b ≤ a := Nat.and_le_left
theorem and_bag {a b : Nat} (ha : a < 65536) (hb : b < 65536) : IntKind.wrap .u64 ((BitVec.ofInt 64 (a : Int) &&& BitVec.ofInt 64 (b : Int)).toNat : Int) = ((a &&& b : Nat) : Int) := by
  have := and_le' a b
  rw [BitVec.toNat_and, ofInt_nat (by omega), ofInt_nat (by omega), (wrapN (by omega)).1]
theorem or_bag {a b : Nat} (ha : a < 256) (hb : b < 256) : IntKind.wrap .u64 ((BitVec.ofInt 64 (a : Int) ||| BitVec.ofInt 64 (b : Int)).toNat : Int) = ((a ||| b : Nat) : Int) := by
  have : a ||| b < 2 ^ 8 := Nat.or_lt_two_pow (by omega) (by omega)
  rw [BitVec.toNat_or, ofInt_nat (by omega), ofInt_nat (by omega), (wrapN (by omega)).1]
theorem bit_bag {m x : Nat} (hm : m < 256) (hx : x < 64) : ((IntKind.wrap .u64 ((BitVec.ofInt 64 (Int.fdiv (m : Int) (2 ^ (min x 64))) &&& BitVec.ofInt 64 (1 : Int)).toNat : Int)) == (1 : Int)) = m.testBit x ∧ ((IntKind.wrap .i64 ((BitVec.ofInt 64 (Int.fdiv (m : Int) (2 ^ (min x 64))) &&& BitVec.ofInt 64 (1 : Int)).toNat : Int)) == (1 : Int)) = m.testBit x := by
  have e1 : Int.fdiv (m : Int) (2 ^ (min x 64)) = ((m / 2 ^ x : Nat) : Int) := by
    rw [Nat.min_eq_left (by omega), Int.fdiv_eq_ediv_of_nonneg _ (by exact Int.le_of_lt (Int.pow_pos (by decide)))]
    simp
  have h2 : m / 2 ^ x ≤ m := Nat.div_le_self _ _
  have e2 : ((BitVec.ofInt 64 ((m / 2 ^ x : Nat) : Int)) &&& BitVec.ofInt 64 (1 : Int)).toNat = m / 2 ^ x % 2 := by
    rw [BitVec.toNat_and, ofInt_nat (by omega), show (BitVec.ofInt 64 (1 : Int)).toNat = 1 by decide, Nat.and_one_is_mod]
  have e3 : m.testBit x = decide (m / 2 ^ x % 2 = 1) := Nat.testBit_eq_decide_div_mod_eq
  rw [e1, e2, e3, (wrapN (by omega)).1, (wrapN (by omega)).2]
  have h3 : m / 2 ^ x % 2 < 2 := Nat.mod_lt _ (by decide)
  generalize m / 2 ^ x % 2 = r at h3
  have : (((r : Nat) : Int) == (1 : Int)) = decide (r = 1) := by
    by_cases h : r = 1
    · subst h; rfl
    · rw [beq_ne (by omega), decide_eq_false h]
  exact ⟨this, this⟩
def clr (m x : Nat) : Nat := m &&& (255 - 2 ^ x)
theorem pow_bag : ∀ x : Nat, x < 8 → IntKind.wrap .u64 ((1 : Int) * 2 ^ (min x 64)) = ((2 ^ x : Nat) : Int) ∧ 2 ^ x < 256 := by decide +kernel
theorem all_bag : ∀ n : Nat, n < 9 → IntKind.wrap .u64 ((IntKind.wrap .u64 ((1 : Int) * 2 ^ (min n 64))) - (1 : Int)) = ((2 ^ n - 1 : Nat) : Int) ∧ w64 ((w64 ((1 : Int) * 2 ^ (min n 64))) - (1 : Int)) = ((2 ^ n - 1 : Nat) : Int) ∧ 2 ^ n - 1 < 256 := by decide +kernel
theorem clr_bag : ∀ m : Nat, m < 256 → ∀ x : Nat, x < 8 → IntKind.wrap .u64 ((BitVec.ofInt 64 (m : Int) &&& ~~~ BitVec.ofInt 64 (IntKind.wrap .u64 ((1 : Int) * 2 ^ (min x 64)))).toNat : Int) = ((clr m x : Nat) : Int) ∧ clr m x < 256 := by decide +kernel
theorem clr_test : ∀ m : Nat, m < 256 → ∀ x : Nat, x < 8 → ∀ y : Nat, y < 8 → (clr m x).testBit y = (m.testBit y && !decide (y = x)) := by decide +kernel
theorem spec_l2Bits_B0_at (n : Int) (code : Int) (out : List (Int)) (x : Int) : spec_l2Bits_B0 ((n, code, out, x, ()), ()) = bif (decide (x < n)) then (guardB (decide (0 ≤ x)) (bif ((IntKind.wrap .i64 (BitVec.ofInt 64 (Int.fdiv code (2 ^ (min (Int.toNat x) 64))) &&& BitVec.ofInt 64 (1 : Int)).toNat) == (1 : Int)) then (guardB (decide ((List.length out + List.length [x]) * 8 ≤ 70368744177664)) (some (.inl ((n, code, (out ++ [x]), (w64 (x + (1 : Int))), ()), ())))) else (some (.inl ((n, code, out, (w64 (x + (1 : Int))), ()), ()))))) else (some (.inr ((out, ()), ()))) := rfl
theorem impl_bag_list_B0_at (b : Int) (out : List (Int)) (t6 : Int) : impl_bag_list_B0 ((b, out, t6, ()), ()) = bif (decide (t6 < (8 : Int))) then (guardB (decide (0 ≤ t6)) (bif ((IntKind.wrap .u64 (BitVec.ofInt 64 (Int.fdiv b (2 ^ (min (Int.toNat t6) 64))) &&& BitVec.ofInt 64 (1 : Int)).toNat) == (1 : Int)) then (guardB (decide ((List.length out + List.length [t6]) * 8 ≤ 70368744177664)) (some (.inl ((b, (out ++ [t6]), (w64 (t6 + (1 : Int))), ()), ())))) else (some (.inl ((b, out, (w64 (t6 + (1 : Int))), ()), ()))))) else (some (.inr ((out, ()), ()))) := rfl
theorem spec_l4Without_B0_at (set : List (Int)) (x : Int) (out : List (Int)) (i : Int) : spec_l4Without_B0 ((set, x, out, i, ()), ()) = bif (decide (i < (List.length set : Int))) then (guardB (inb i (List.length set)) (bif ((List.getD set (Int.toNat i) (0 : Int)) != x) then (guardB (inb i (List.length set)) (guardB (decide ((List.length out + List.length [(List.getD set (Int.toNat i) (0 : Int))]) * 8 ≤ 70368744177664)) (some (.inl ((set, x, (out ++ [(List.getD set (Int.toNat i) (0 : Int))]), (w64 (i + (1 : Int))), ()), ()))))) else (some (.inl ((set, x, out, (w64 (i + (1 : Int))), ()), ()))))) else (some (.inr ((out, ()), ()))) := rfl
def lst (n m : Nat) : List Int := ((List.range n).filter fun i => m.testBit i).map fun (i : Nat) => (i : Int)
theorem lst_snoc (n m : Nat) : lst (n + 1) m = lst n m ++ (if m.testBit n then [(n : Int)] else []) := by
  unfold lst
  rw [List.range_succ, List.filter_append, List.map_append]
  cases h : m.testBit n
  · simp only [List.filter_cons, h, Bool.false_eq_true, if_false, List.filter_nil, List.map_nil]
  · simp only [List.filter_cons, h, if_true, List.filter_nil, List.map_cons, List.map_nil]
theorem lst_len (n m : Nat) : (lst n m).length ≤ n := by
  unfold lst; rw [List.length_map]; exact Nat.le_trans (List.length_filter_le _ _) (by simp)
theorem lst_mem {n m : Nat} {v : Int} : v ∈ lst n m ↔ ∃ k : Nat, k < n ∧ m.testBit k = true ∧ v = k := by
  simp only [lst, List.mem_map, List.mem_filter, List.mem_range]
  constructor
  · rintro ⟨k, ⟨h1, h2⟩, h3⟩; exact ⟨k, h1, h2, h3.symm⟩
  · rintro ⟨k, h1, h2, h3⟩; exact ⟨k, ⟨h1, h2⟩, h3.symm⟩
theorem lst_more {n m : Nat} (hm : m < 2 ^ n) : ∀ d, lst (n + d) m = lst n m
  | 0 => rfl
  | d + 1 => by
    rw [← Nat.add_assoc, lst_snoc, lst_more hm d]
    have : m.testBit (n + d) = false := Nat.testBit_lt_two_pow (Nat.lt_of_lt_of_le hm (Nat.pow_le_pow_right (by decide) (by omega)))
    rw [this]; simp
theorem Bits_eq (n m : Nat) (hn : n ≤ 8) (hm : m < 256) : spec_l2Bits ((n : Int), (m : Int), ()) () = some ((lst n m, ()), ()) := by
  have key := loop_count (B := spec_l2Bits_B0) (fun i => (((n : Int), (m : Int), lst i m, (i : Int), ()), ())) n ((lst n m, ()), ()) (fun i hi => by
    have hl := lst_len i m
    rw [spec_l2Bits_B0_at]
    simp only [bif_decide, Int.toNat_natCast, (bit_bag hm (show i < 64 by omega)).2, lst_snoc i m]
    rw [if_pos (by omega), guardB_true (by simp), w64_succ (by omega)]
    cases h : m.testBit i
    · simp
    · simp only [cond_true, if_true]
      rw [guardB_true (by simp only [List.length_singleton, decide_eq_true_eq]; omega)]) (by rw [spec_l2Bits_B0_at]; simp) 0 (Nat.zero_le _)
  simp only [spec_l2Bits]
  erw [key]
theorem bag_list_eq (m : Nat) (hm : m < 256) : impl_bag_list ((m : Int), ()) () = some ((lst 8 m, ()), ()) := by
  have key := loop_count (B := impl_bag_list_B0) (fun i => (((m : Int), lst i m, (i : Int), ()), ())) 8 ((lst 8 m, ()), ()) (fun i hi => by
    have hl := lst_len i m
    rw [impl_bag_list_B0_at]
    simp only [bif_decide, Int.toNat_natCast, (bit_bag hm (show i < 64 by omega)).1, lst_snoc i m]
    rw [if_pos (by omega), guardB_true (by simp), w64_succ (by omega)]
    cases h : m.testBit i
    · simp
    · simp only [cond_true, if_true]
      rw [guardB_true (by simp only [List.length_singleton, decide_eq_true_eq]; omega)]) (by rw [impl_bag_list_B0_at]; simp) 0 (Nat.zero_le _)
  simp only [impl_bag_list]
  erw [key]
theorem take_oneG {l : List Int} {i : Nat} (h : i < l.length) : l.take (i + 1) = l.take i ++ [l.getD i 0] := by
  rw [getD_at h, List.take_succ_eq_append_getElem h]
theorem Without_eq (l : List Int) (x : Int) (hl : l.length ≤ 1048576) : spec_l4Without (l, x, ()) () = some ((l.filter fun y => !decide (y = x), ()), ()) := by
  have key := loop_count (B := spec_l4Without_B0) (fun i => ((l, x, (l.take i).filter fun y => !decide (y = x), (i : Int), ()), ())) l.length ((l.filter fun y => !decide (y = x), ()), ()) (fun i hi => by
    have hle : ∀ p : Int → Bool, ((l.take i).filter p).length ≤ i := fun p => Nat.le_trans (List.length_filter_le _ _) (by simp; omega)
    rw [spec_l4Without_B0_at]
    simp only [bif_decide, Int.toNat_natCast, take_oneG hi, List.filter_append]
    rw [if_pos (by omega), guardB_true (by simp [inb] <;> omega), w64_succ (by omega)]
    by_cases h : l.getD i 0 = x
    · rw [bne_eq h]
      simp only [cond_false, List.filter_cons, h, decide_true, Bool.not_true, Bool.false_eq_true, if_false, List.filter_nil, List.append_nil]
    · rw [bne_ne h]
      simp only [cond_true, List.filter_cons, h, decide_false, Bool.not_false, if_true, List.filter_nil]
      rw [guardB_true (by simp [inb] <;> omega), guardB_true (by simp only [List.length_singleton, decide_eq_true_eq]; exact Nat.le_trans (Nat.mul_le_mul_right 8 (Nat.add_le_add_right (hle _) 1)) (by omega))]) (by rw [spec_l4Without_B0_at]; simp) 0 (Nat.zero_le _)
  simp only [spec_l4Without]
  erw [key]
theorem lst_clr {n m x : Nat} (hn : n ≤ 8) (hm : m < 256) (hx : x < 8) : (lst n m).filter (fun y => !decide (y = (x : Int))) = lst n (clr m x) := by
  have gen : ∀ k, k ≤ n → (lst k m).filter (fun y => !decide (y = (x : Int))) = lst k (clr m x) := by
    intro k
    induction k with
    | zero => intro _; simp [lst]
    | succ k ih =>
      intro hk
      rw [lst_snoc, lst_snoc, List.filter_append, ih (by omega), clr_test m hm x hx k (by omega)]
      congr 1
      cases h : m.testBit k
      · simp
      · by_cases e : k = x
        · subst e; simp
        · have : ¬ (k : Int) = (x : Int) := by omega
          simp [e, this]
  exact gen n (Nat.le_refl _)
theorem spec_l2Near_B0_at (a : Int) (b : Int) (g : (Int) × (List ((Int) × (Int)))) (i : Int) : spec_l2Near_B0 ((a, b, g, i, ()), ()) = bif (decide (i < (List.length g.2 : Int))) then (guardB (inb i (List.length g.2)) (bif (((List.getD g.2 (Int.toNat i) ((0 : Int), (0 : Int))).1) == a) then (bif (((List.getD g.2 (Int.toNat i) ((0 : Int), (0 : Int))).2) == b) then (some (.inr (.inl ((true, ()), ())))) else (bif (((List.getD g.2 (Int.toNat i) ((0 : Int), (0 : Int))).1) == b) then (bif (((List.getD g.2 (Int.toNat i) ((0 : Int), (0 : Int))).2) == a) then (some (.inr (.inl ((true, ()), ())))) else (some (.inl ((a, b, g, (w64 (i + (1 : Int))), ()), ())))) else (some (.inl ((a, b, g, (w64 (i + (1 : Int))), ()), ()))))) else (bif (((List.getD g.2 (Int.toNat i) ((0 : Int), (0 : Int))).1) == b) then (bif (((List.getD g.2 (Int.toNat i) ((0 : Int), (0 : Int))).2) == a) then (some (.inr (.inl ((true, ()), ())))) else (some (.inl ((a, b, g, (w64 (i + (1 : Int))), ()), ())))) else (some (.inl ((a, b, g, (w64 (i + (1 : Int))), ()), ())))))) else (some (.inr (.inr ((), ())))) := rfl
theorem slices_Index_2_int_2_int_B0_at (s : List ((Int) × (Int))) (v : (Int) × (Int)) (t7 : Int) (t8 : Int) : slices_Index_2_int_2_int_B0 ((s, v, t7, t8, ()), ()) = bif (decide (t8 < t7)) then (guardB (inb t8 (List.length s)) (bif ((v.1 == ((List.getD s (Int.toNat t8) ((0 : Int), (0 : Int))).1)) && (v.2 == ((List.getD s (Int.toNat t8) ((0 : Int), (0 : Int))).2))) then (some (.inr (.inl ((t8, ()), ())))) else (some (.inl ((s, v, t7, (w64 (t8 + (1 : Int))), ()), ()))))) else (some (.inr (.inr ((), ())))) := rfl
def hitB (e : Int × Int) (a b : Int) : Bool := (decide (e.1 = a) && decide (e.2 = b)) || (decide (e.1 = b) && decide (e.2 = a))
def nearB (S : List (Int × Int)) (a b : Int) : Bool := !allUpto (fun i => !hitB (S.getD i (0, 0)) a b) S.length
theorem nearB_iff {S : List (Int × Int)} {a b : Int} : nearB S a b = true ↔ (a, b) ∈ S ∨ (b, a) ∈ S := by
  have e : nearB S a b = true ↔ ∃ i, i < S.length ∧ hitB (S.getD i (0, 0)) a b = true := by
    simp only [nearB, Bool.not_eq_true', ← Bool.not_eq_true, allUpto_iff]
    constructor
    · intro h
      refine Classical.byContradiction fun g => h fun i hi => ?_
      cases hh : hitB (S.getD i (0, 0)) a b
      · simp
      · exact absurd ⟨i, hi, hh⟩ g
    · rintro ⟨i, hi, hh⟩ g
      have := g i hi
      rw [hh] at this; simp at this
  rw [e]
  simp only [hitB, Bool.or_eq_true, Bool.and_eq_true, decide_eq_true_eq]
  constructor
  · rintro ⟨i, hi, h⟩
    have hm := List.getElem_mem hi
    rw [getD_at hi] at h
    rcases h with ⟨h1, h2⟩ | ⟨h1, h2⟩
    · left; rw [← h1, ← h2]; exact hm
    · right; rw [← h1, ← h2]; exact hm
  · rintro (h | h)
    · obtain ⟨i, hi, he⟩ := List.getElem_of_mem h
      exact ⟨i, hi, .inl (by rw [getD_at hi, he]; exact ⟨rfl, rfl⟩)⟩
    · obtain ⟨i, hi, he⟩ := List.getElem_of_mem h
      exact ⟨i, hi, .inr (by rw [getD_at hi, he]; exact ⟨rfl, rfl⟩)⟩
theorem Near_eq (g : Int × List (Int × Int)) (a b : Int) (hl : g.2.length ≤ 1048576) : spec_l2Near (g, a, b, ()) () = some ((nearB g.2 a b, ()), ()) := by
  have key := loop_all (B := spec_l2Near_B0) (fun i => ((a, b, g, (i : Int), ()), ())) (fun i => !hitB (g.2.getD i (0, 0)) a b) g.2.length (.inl ((true, ()), ())) (.inr ((), ())) (fun i hi _ => by
    rw [spec_l2Near_B0_at]
    simp only [bif_decide, Int.toNat_natCast, hitB]
    rw [if_pos (by omega), guardB_true (by simp [inb] <;> omega), w64_succ (by omega)]
    generalize g.2.getD i (0, 0) = e
    have bd : ∀ x y : Int, (x == y) = decide (x = y) := fun x y => by
      by_cases h : x = y
      · rw [beq_eq h, decide_eq_true h]
      · rw [beq_ne h, decide_eq_false h]
    simp only [bd]
    generalize decide (e.1 = a) = p1
    generalize decide (e.2 = b) = p2
    generalize decide (e.1 = b) = p3
    generalize decide (e.2 = a) = p4
    cases p1 <;> cases p2 <;> cases p3 <;> cases p4 <;> rfl) (by rw [spec_l2Near_B0_at]; simp)
  simp only [spec_l2Near]
  erw [key]
  simp only [nearB]
  cases allUpto (fun i => !hitB (g.2.getD i (0, 0)) a b) g.2.length <;> rfl
theorem Contains_eq (S : List (Int × Int)) (v : Int × Int) (hl : S.length ≤ 1048576) : slices_Contains_2_int_2_int (S, v, ()) () = some ((decide (v ∈ S), ()), ()) := by
  have one : ∀ e : Int × Int, ((v.1 == e.1) && (v.2 == e.2)) = decide (e = v) := fun e => by
    obtain ⟨a, b⟩ := e
    obtain ⟨c, d⟩ := v
    have bd : ∀ x y : Int, (x == y) = decide (y = x) := fun x y => by
      by_cases h : x = y
      · rw [beq_eq h, decide_eq_true h.symm]
      · rw [beq_ne h, decide_eq_false (fun e => h e.symm)]
    simp only [bd, Prod.mk.injEq, Bool.decide_and]
  have key : ∀ d k, k + d = S.length → ∃ q : Int, (loopO slices_Index_2_int_2_int_B0 ((S, v, (S.length : Int), (k : Int), ()), ()) = some (.inl ((q, ()), ())) ∧ 0 ≤ q ∧ v ∈ S) ∨ (loopO slices_Index_2_int_2_int_B0 ((S, v, (S.length : Int), (k : Int), ()), ()) = some (.inr ((), ())) ∧ v ∉ S.drop k) := by
    intro d
    induction d with
    | zero =>
      intro k hk
      refine ⟨0, .inr ⟨loop_end ?_, ?_⟩⟩
      · rw [slices_Index_2_int_2_int_B0_at]
        simp only [bif_decide]
        rw [if_neg (by omega)]
      · rw [List.drop_of_length_le (by omega)]; simp
    | succ d ih =>
      intro k hk
      have hkl : k < S.length := by omega
      have st : slices_Index_2_int_2_int_B0 ((S, v, (S.length : Int), (k : Int), ()), ()) = some (if S.getD k (0, 0) = v then .inr (.inl (((k : Int), ()), ())) else .inl ((S, v, (S.length : Int), ((k + 1 : Nat) : Int), ()), ())) := by
        rw [slices_Index_2_int_2_int_B0_at]
        simp only [bif_decide, Int.toNat_natCast, one]
        rw [if_pos (by omega), guardB_true (by simp [inb] <;> omega), w64_succ (by omega)]
        by_cases h : S.getD k (0, 0) = v
        · rw [if_pos h, if_pos h]
        · rw [if_neg h, if_neg h]
      by_cases h : S.getD k (0, 0) = v
      · rw [if_pos h] at st
        refine ⟨(k : Int), .inl ⟨loop_end st, by omega, ?_⟩⟩
        rw [← h, getD_at hkl]; exact List.getElem_mem hkl
      · rw [if_neg h] at st
        obtain ⟨q, ⟨q1, q2⟩ | ⟨q1, q2⟩⟩ := ih (k + 1) (by omega)
        · exact ⟨q, .inl ⟨loop_step st q1, q2⟩⟩
        · refine ⟨q, .inr ⟨loop_step st q1, ?_⟩⟩
          rw [List.drop_eq_getElem_cons hkl, List.mem_cons]
          rintro (e | e)
          · exact h (by rw [getD_at hkl]; exact e.symm)
          · exact q2 e
  obtain ⟨q, ⟨q1, q2, q3⟩ | ⟨q1, q2⟩⟩ := key S.length 0 (by omega)
  · simp only [slices_Contains_2_int_2_int, slices_Index_2_int_2_int]
    erw [q1]
    simp only
    rw [decide_eq_true q2, decide_eq_true q3]
  · rw [List.drop_zero] at q2
    simp only [slices_Contains_2_int_2_int, slices_Index_2_int_2_int]
    erw [q1]
    simp only
    rw [decide_eq_false (show ¬ (0 : Int) ≤ -1 by omega), decide_eq_false q2]
theorem impl_Graph_neighbors_B0_at (x : Int) (g : (Int) × (List ((Int) × (Int)))) (out : List (Int)) (t9 : Int) (t10 : Int) : impl_Graph_neighbors_B0 ((x, g, out, t9, t10, ()), ()) = bif (decide (t10 < t9)) then (bif (t10 != x) then (match impl_Graph_has (g, x, t10, ()) () with | some ((r, ()), ()) => (bif r then (guardB (decide ((List.length out + List.length [t10]) * 8 ≤ 70368744177664)) (some (.inl ((x, g, (out ++ [t10]), t9, (w64 (t10 + (1 : Int))), ()), ())))) else (some (.inl ((x, g, out, t9, (w64 (t10 + (1 : Int))), ()), ())))) | none => none) else (some (.inl ((x, g, out, t9, (w64 (t10 + (1 : Int))), ()), ())))) else (some (.inr ((out, ()), ()))) := rfl
theorem impl_bagOf_B0_at (out : Int) (t6 : List (Int)) (t7 : Int) (t8 : Int) : impl_bagOf_B0 ((out, t6, t7, t8, ()), ()) = bif (decide (t8 < t7)) then (guardB (inb t8 (List.length t6)) (guardB (decide (0 ≤ (List.getD t6 (Int.toNat t8) (0 : Int)))) (some (.inl (((IntKind.wrap .u64 (BitVec.ofInt 64 out ||| BitVec.ofInt 64 (IntKind.wrap .u64 ((1 : Int) * 2 ^ (min (Int.toNat (List.getD t6 (Int.toNat t8) (0 : Int))) 64)))).toNat), t6, t7, (w64 (t8 + (1 : Int))), ()), ()))))) else (some (.inr ((out, ()), ()))) := rfl
def StepsOk (S : List (Int × Int)) (n : Nat) : Prop := ∀ i, i < S.length → ∃ a b : Nat, S.getD i (0, 0) = ((a : Int), (b : Int)) ∧ a < b ∧ b < n
theorem pairsB_at {S : List (Int × Int)} {n : Nat} (h : pairsB S n = true) (i : Nat) (hi : i < S.length) : pairB S n i = true := allUpto_iff.1 h i hi
theorem pairsB_ok {S : List (Int × Int)} {n : Nat} (h : pairsB S n = true) : StepsOk S n := by
  intro i hi
  have := pairsB_at h i hi
  simp only [pairB, Bool.and_eq_true, decide_eq_true_eq] at this
  obtain ⟨h1, h2, h3, _⟩ := this
  generalize S.getD i (0, 0) = e at h1 h2 h3
  obtain ⟨a, b⟩ := e
  simp only at h1 h2 h3
  exact ⟨a.toNat, b.toNat, by rw [Int.toNat_of_nonneg h1, Int.toNat_of_nonneg (by omega)], by omega, by omega⟩
theorem steps_mem {S : List (Int × Int)} {n : Nat} (h : StepsOk S n) {e : Int × Int} (he : e ∈ S) : 0 ≤ e.1 ∧ e.1 < e.2 ∧ e.2 < n := by
  obtain ⟨i, hi, rfl⟩ := List.getElem_of_mem he
  obtain ⟨a, b, h1, h2, h3⟩ := h i hi
  rw [getD_at hi] at h1
  rw [h1]
  simp only
  omega
theorem has_eq (g : Int × List (Int × Int)) {n : Nat} (hp : pairsB g.2 n = true) (a b : Int) (hl : g.2.length ≤ 1048576) : impl_Graph_has (g, a, b, ()) () = some ((nearB g.2 a b, ()), ()) := by
  have hS := pairsB_ok hp
  have e : decide (((if b < a then b else a), (if a < b then b else a)) ∈ g.2) = nearB g.2 a b := by
    rw [Bool.eq_iff_iff, decide_eq_true_iff, nearB_iff]
    by_cases h1 : a < b
    · rw [if_neg (by omega), if_pos h1]
      exact ⟨.inl, fun h => h.elim id fun h => by have := steps_mem hS h; simp only at this; omega⟩
    · by_cases h2 : b < a
      · rw [if_pos h2, if_neg h1]
        exact ⟨.inr, fun h => h.elim (fun h => by have := steps_mem hS h; simp only at this; omega) id⟩
      · rw [if_neg h2, if_neg h1]
        have : a = b := by omega
        subst this
        exact ⟨.inl, fun h => h.elim id id⟩
  simp only [impl_Graph_has, impl_pair, bif_decide, Contains_eq g.2 _ hl]
  simp only [e]
def nbB (S : List (Int × Int)) (x : Nat) (y : Nat) : Bool := !decide (y = x) && nearB S (x : Int) (y : Int)
def nbs (S : List (Int × Int)) (n x : Nat) : List Int := ((List.range n).filter fun y => nbB S x y).map fun (i : Nat) => (i : Int)
theorem nbs_snoc (S : List (Int × Int)) (n x : Nat) : nbs S (n + 1) x = nbs S n x ++ (if nbB S x n then [(n : Int)] else []) := by
  unfold nbs
  rw [List.range_succ, List.filter_append, List.map_append]
  cases h : nbB S x n
  · simp only [List.filter_cons, h, Bool.false_eq_true, if_false, List.filter_nil, List.map_nil]
  · simp only [List.filter_cons, h, if_true, List.filter_nil, List.map_cons, List.map_nil]
theorem nbs_len (S : List (Int × Int)) (n x : Nat) : (nbs S n x).length ≤ n := by
  unfold nbs; rw [List.length_map]; exact Nat.le_trans (List.length_filter_le _ _) (by simp)
theorem nbs_mem {S : List (Int × Int)} {n x : Nat} {y : Nat} : (y : Int) ∈ nbs S n x ↔ y < n ∧ nbB S x y = true := by
  simp only [nbs, List.mem_map, List.mem_filter, List.mem_range]
  constructor
  · rintro ⟨k, ⟨h1, h2⟩, h3⟩
    have : k = y := by omega
    subst this; exact ⟨h1, h2⟩
  · rintro ⟨h1, h2⟩; exact ⟨y, ⟨h1, h2⟩, rfl⟩
theorem neighbors_eq (g : Int × List (Int × Int)) {n : Nat} (hg : g.1 = n) (hn : n ≤ 8) (hp : pairsB g.2 n = true) (x : Nat) (hl : g.2.length ≤ 1048576) : impl_Graph_neighbors (g, (x : Int), ()) () = some ((nbs g.2 n x, ()), ()) := by
  have key := loop_count (B := impl_Graph_neighbors_B0) (fun i => (((x : Int), g, nbs g.2 i x, (n : Int), (i : Int), ()), ())) n ((nbs g.2 n x, ()), ()) (fun i hi => by
    have hle := nbs_len g.2 i x
    rw [impl_Graph_neighbors_B0_at]
    simp only [bif_decide, has_eq g hp _ _ hl, nbs_snoc]
    rw [if_pos (by omega), w64_succ (by omega)]
    by_cases h : i = x
    · have hb : nbB g.2 x i = false := by simp [nbB, h]
      rw [bne_eq (show (i : Int) = (x : Int) by omega)]
      simp only [hb, cond_false, Bool.false_eq_true, if_false, List.append_nil]
    · rw [bne_ne (show ¬ (i : Int) = (x : Int) by omega)]
      cases h2 : nearB g.2 (x : Int) (i : Int)
      · have hb : nbB g.2 x i = false := by simp [nbB, h2]
        simp only [hb, cond_true, cond_false, Bool.false_eq_true, if_false, List.append_nil]
      · have hb : nbB g.2 x i = true := by simp [nbB, h, h2]
        simp only [hb, cond_true, if_true]
        rw [guardB_true (by simp only [List.length_singleton, decide_eq_true_eq]; omega)]) (by rw [impl_Graph_neighbors_B0_at]; simp) 0 (Nat.zero_le _)
  simp only [impl_Graph_neighbors, hg]
  erw [key]
def bagN (l : List Int) : Nat := l.foldl (fun m v => m ||| 2 ^ v.toNat) 0
theorem bagN_snoc (l : List Int) (v : Int) : bagN (l ++ [v]) = bagN l ||| 2 ^ v.toNat := by simp [bagN, List.foldl_append]
theorem bagN_lt : ∀ (n : Nat) (l : List Int), l.length = n → (∀ v ∈ l, 0 ≤ v ∧ v < 8) → bagN l < 256 ∧ ∀ y : Nat, (bagN l).testBit y = decide ((y : Int) ∈ l) := by
  intro n
  induction n with
  | zero =>
    intro l hl _
    have := List.eq_nil_of_length_eq_zero hl
    subst this
    exact ⟨by decide, fun y => by simp [bagN]⟩
  | succ n ih =>
    intro l hl h
    have hne : l ≠ [] := fun e => by rw [e] at hl; simp at hl
    have e := List.dropLast_concat_getLast hne
    obtain ⟨a1, a2⟩ := ih l.dropLast (by simp [hl]) (fun v hv => h v (List.dropLast_subset _ hv))
    have hv := h _ (List.getLast_mem hne)
    obtain ⟨d, hd⟩ : ∃ d, l.dropLast = d := ⟨_, rfl⟩
    obtain ⟨v, hve⟩ : ∃ v, l.getLast hne = v := ⟨_, rfl⟩
    rw [hd, hve] at e
    rw [hd] at a1 a2
    rw [hve] at hv
    rw [← e, bagN_snoc]
    have hpw : 2 ^ v.toNat < 2 ^ 8 := Nat.pow_lt_pow_right (by decide) (by omega)
    refine ⟨Nat.or_lt_two_pow (n := 8) (by omega) hpw, fun y => ?_⟩
    rw [Nat.testBit_or, a2, Nat.testBit_two_pow]
    rw [Bool.eq_iff_iff]
    simp only [Bool.or_eq_true, decide_eq_true_eq, List.mem_append, List.mem_singleton]
    constructor
    · rintro (h | h)
      · exact .inl h
      · exact .inr (by omega)
    · rintro (h | h)
      · exact .inl h
      · exact .inr (by omega)
theorem bagOf_eq (l : List Int) (h : ∀ v ∈ l, 0 ≤ v ∧ v < 8) (hl : l.length ≤ 1048576) : impl_bagOf (l, ()) () = some ((((bagN l : Nat) : Int), ()), ()) := by
  have key := loop_count (B := impl_bagOf_B0) (fun i => ((((bagN (l.take i) : Nat) : Int), l, (l.length : Int), (i : Int), ()), ())) l.length ((((bagN l : Nat) : Int), ()), ()) ?_ ?_ 0 (Nat.zero_le _)
  · simp only [impl_bagOf]
    erw [key]
  · intro i hi
    have hv : 0 ≤ l.getD i 0 ∧ l.getD i 0 < 8 := by rw [getD_at hi]; exact h _ (List.getElem_mem hi)
    have hb := (bagN_lt _ (l.take i) rfl (fun v hv => h v (List.mem_of_mem_take hv))).1
    have hw := pow_bag (l.getD i 0).toNat (by omega)
    rw [impl_bagOf_B0_at]
    simp only [bif_decide, Int.toNat_natCast, take_oneG hi, bagN_snoc]
    rw [if_pos (by omega), guardB_true (by simp [inb] <;> omega), guardB_true (by simp only [decide_eq_true_eq]; exact hv.1), hw.1, or_bag hb hw.2, w64_succ (by omega)]
  · rw [impl_bagOf_B0_at]; simp
def CovP (S : List (Int × Int)) (n m x y : Nat) : Prop := (nbB S x y = true ∧ m.testBit y = true) ∧ ∀ z, z < n → m.testBit z = true → nbB S x z = true → z = y ∨ nbB S y z = true
theorem and_same {a s : Nat} : a &&& s = s ↔ ∀ z : Nat, s.testBit z = true → a.testBit z = true := by
  constructor
  · intro h z hz
    have := congrArg (fun t : Nat => t.testBit z) h
    simp only [Nat.testBit_and, hz, Bool.and_true] at this
    exact this
  · intro h
    refine Nat.eq_of_testBit_eq fun z => ?_
    rw [Nat.testBit_and]
    cases hz : s.testBit z
    · simp
    · rw [h z hz]; rfl
open Classical in
theorem covers_impl (g : Int × List (Int × Int)) {n : Nat} (hg : g.1 = n) (hn : n ≤ 8) (hp : pairsB g.2 n = true) (hl : g.2.length ≤ 1048576) {m x y : Nat} (hm : m < 256) (hx : x < n) (hy : y < n) :
    impl_Graph_covers (g, (m : Int), (x : Int), (y : Int), ()) () = some ((decide (CovP g.2 n m x y), ()), ()) := by
  have rng : ∀ x, ∀ v ∈ nbs g.2 n x, 0 ≤ v ∧ v < 8 := fun x v hv => by
    simp only [nbs, List.mem_map, List.mem_filter, List.mem_range] at hv
    obtain ⟨k, ⟨h1, _⟩, rfl⟩ := hv
    omega
  have bl : ∀ x, (nbs g.2 n x).length ≤ 1048576 := fun x => by have := nbs_len g.2 n x; omega
  obtain ⟨bx, tx⟩ := bagN_lt _ (nbs g.2 n x) rfl (rng x)
  obtain ⟨by_, ty⟩ := bagN_lt _ (nbs g.2 n y) rfl (rng y)
  have hbit := pow_bag y (by omega)
  obtain ⟨A, hA⟩ : ∃ A, bagN (nbs g.2 n x) = A := ⟨_, rfl⟩
  obtain ⟨B, hB⟩ : ∃ B, bagN (nbs g.2 n y) = B := ⟨_, rfl⟩
  rw [hA] at bx tx
  rw [hB] at by_ ty
  have hs : A &&& m < 256 := Nat.lt_of_le_of_lt (and_le' A m) bx
  have hor : B ||| 2 ^ y < 256 := Nat.or_lt_two_pow (n := 8) (by omega) hbit.2
  have nx := neighbors_eq g hg hn hp x hl
  have ny := neighbors_eq g hg hn hp y hl
  have ox := bagOf_eq _ (rng x) (bl x)
  have oy := bagOf_eq _ (rng y) (bl y)
  rw [hA] at ox
  rw [hB] at oy
  have hand := and_bag (show A < 65536 by omega) (show m < 65536 by omega)
  have hhas : impl_bag_has (((A &&& m : Nat) : Int), (y : Int), ()) () = some (((A &&& m).testBit y, ()), ()) := by
    simp only [impl_bag_has, Int.toNat_natCast, (bit_bag hs (show y < 64 by omega)).1]
    rw [guardB_true (by simp)]
  simp only [impl_Graph_covers, nx, ox, hand, hhas, ny, oy, hbit.1, Int.toNat_natCast, or_bag by_ hbit.2, and_bag (show B ||| 2 ^ y < 65536 by omega) (show A &&& m < 65536 by omega)]
  have t1 : (A &&& m).testBit y = (nbB g.2 x y && m.testBit y) := by
    rw [Nat.testBit_and, tx]
    congr 1
    rw [Bool.eq_iff_iff, decide_eq_true_iff, nbs_mem]
    exact ⟨fun h => h.2, fun h => ⟨hy, h⟩⟩
  cases hc : (A &&& m).testBit y
  · simp only [cond_false]
    rw [decide_eq_false]
    rintro ⟨⟨h1, h2⟩, _⟩
    rw [t1, h1, h2] at hc
    simp at hc
  · simp only [cond_true]
    rw [guardB_true (by simp)]
    rw [t1, Bool.and_eq_true] at hc
    have hiff : ((((B ||| 2 ^ y) &&& (A &&& m) : Nat) : Int) == ((A &&& m : Nat) : Int)) = decide (CovP g.2 n m x y) := by
      rw [Bool.eq_iff_iff, decide_eq_true_iff, beq_iff_eq, Int.ofNat_inj, and_same]
      constructor
      · intro h
        refine ⟨hc, fun z hz h1 h2 => ?_⟩
        have := h z (by rw [Nat.testBit_and, tx, h1, Bool.and_true, decide_eq_true_iff, nbs_mem]; exact ⟨hz, h2⟩)
        rw [Nat.testBit_or, ty, Nat.testBit_two_pow, Bool.or_eq_true, decide_eq_true_iff, decide_eq_true_iff, nbs_mem] at this
        rcases this with h | h
        · exact .inr h.2
        · exact .inl h.symm
      · rintro ⟨_, h⟩ z hz
        rw [Nat.testBit_and, tx, Bool.and_eq_true, decide_eq_true_iff, nbs_mem] at hz
        rw [Nat.testBit_or, ty, Nat.testBit_two_pow, Bool.or_eq_true, decide_eq_true_iff, decide_eq_true_iff, nbs_mem]
        rcases h z hz.1.1 hz.2 hz.1.2 with h | h
        · exact .inr h.symm
        · exact .inl ⟨hz.1.1, h⟩
    rw [hiff]
theorem spec_l10Covers_B0_at (left : List (Int)) (x : Int) (y : Int) (h : (Int) × (List ((Int) × (Int)))) (i : Int) : spec_l10Covers_B0 ((left, x, y, h, i, ()), ()) = bif (decide (i < (List.length left : Int))) then (guardB (inb i (List.length left)) (bif ((List.getD left (Int.toNat i) (0 : Int)) == x) then (bif ((List.getD left (Int.toNat i) (0 : Int)) != y) then (match spec_l2Near (h, y, (List.getD left (Int.toNat i) (0 : Int)), ()) () with | some ((r, ()), ()) => (bif (!r) then (some (.inr (.inl ((false, ()), ())))) else (some (.inl ((left, x, y, h, (w64 (i + (1 : Int))), ()), ())))) | none => none) else (some (.inl ((left, x, y, h, (w64 (i + (1 : Int))), ()), ())))) else (match spec_l2Near (h, x, (List.getD left (Int.toNat i) (0 : Int)), ()) () with | some ((r2, ()), ()) => (bif r2 then (bif ((List.getD left (Int.toNat i) (0 : Int)) != y) then (match spec_l2Near (h, y, (List.getD left (Int.toNat i) (0 : Int)), ()) () with | some ((r3, ()), ()) => (bif (!r3) then (some (.inr (.inl ((false, ()), ())))) else (some (.inl ((left, x, y, h, (w64 (i + (1 : Int))), ()), ())))) | none => none) else (some (.inl ((left, x, y, h, (w64 (i + (1 : Int))), ()), ())))) else (some (.inl ((left, x, y, h, (w64 (i + (1 : Int))), ()), ())))) | none => none))) else (some (.inr (.inr ((), ())))) := rfl
theorem nearB_symm (S : List (Int × Int)) (a b : Int) : nearB S a b = nearB S b a := by
  rw [Bool.eq_iff_iff, nearB_iff, nearB_iff]
  exact ⟨fun h => h.elim .inr .inl, fun h => h.elim .inr .inl⟩
def covG (S : List (Int × Int)) (x y z : Int) : Bool := !((decide (z = x) || nearB S x z) && (!decide (z = y) && !nearB S y z))
open Classical in
theorem covers_spec (g : Int × List (Int × Int)) {n : Nat} (hn : n ≤ 8) (hl : g.2.length ≤ 1048576) {m x y : Nat} (hx : x < n) (hy : y < n) (bx : m.testBit x = true) (by_ : m.testBit y = true) (hxy : x ≠ y) :
    spec_l10Covers (g, lst n m, (x : Int), (y : Int), ()) () = some ((decide (CovP g.2 n m x y), ()), ()) := by
  have hll := lst_len n m
  have key := loop_all (B := spec_l10Covers_B0) (fun i => ((lst n m, (x : Int), (y : Int), g, (i : Int), ()), ())) (fun i => covG g.2 (x : Int) (y : Int) ((lst n m).getD i 0)) (lst n m).length (.inl ((false, ()), ())) (.inr ((), ())) (fun i hi _ => by
    have bd : ∀ x y : Int, (x == y) = decide (x = y) := fun x y => by
      by_cases h : x = y
      · rw [beq_eq h, decide_eq_true h]
      · rw [beq_ne h, decide_eq_false h]
    have bn : ∀ x y : Int, (x != y) = !decide (x = y) := fun x y => by
      by_cases h : x = y
      · rw [bne_eq h, decide_eq_true h]; rfl
      · rw [bne_ne h, decide_eq_false h]; rfl
    rw [spec_l10Covers_B0_at]
    rw [decide_eq_true (show (i : Int) < ((lst n m).length : Int) by omega)]
    simp only [cond_true, Int.toNat_natCast, Near_eq g _ _ hl, bd, bn, covG]
    rw [guardB_true (by simp [inb] <;> omega), w64_succ (by omega)]
    generalize (lst n m).getD i 0 = z
    generalize nearB g.2 (x : Int) z = p1
    generalize nearB g.2 (y : Int) z = p2
    generalize decide (z = (x : Int)) = p3
    generalize decide (z = (y : Int)) = p4
    cases p1 <;> cases p2 <;> cases p3 <;> cases p4 <;> rfl) (by rw [spec_l10Covers_B0_at]; simp)
  simp only [spec_l10Covers]
  erw [key]
  have e : allUpto (fun i => covG g.2 (x : Int) (y : Int) ((lst n m).getD i 0)) (lst n m).length = decide (CovP g.2 n m x y) := by
    rw [Bool.eq_iff_iff, allUpto_iff, decide_eq_true_iff]
    have all : (∀ i, i < (lst n m).length → covG g.2 (x : Int) (y : Int) ((lst n m).getD i 0) = true) ↔ ∀ z : Nat, z < n → m.testBit z = true → covG g.2 (x : Int) (y : Int) (z : Int) = true := by
      constructor
      · intro h z hz bz
        obtain ⟨i, hi, ei⟩ := List.getElem_of_mem (lst_mem.2 ⟨z, hz, bz, rfl⟩)
        have := h i hi
        rwa [getD_at hi, ei] at this
      · intro h i hi
        obtain ⟨k, h1, h2, h3⟩ := lst_mem.1 (List.getElem_mem hi)
        rw [getD_at hi, h3]
        exact h k h1 h2
    rw [all]
    have ci : ∀ a b : Nat, decide ((a : Int) = (b : Int)) = decide (a = b) := fun a b => by rw [decide_eq_decide]; omega
    simp only [covG, ci, CovP, nbB, by_, and_true]
    constructor
    · intro h
      have hx' := h x hx bx
      have : nearB g.2 (y : Int) (x : Int) = true := by simpa [hxy] using hx'
      refine ⟨by rw [nearB_symm, this]; simp; exact fun e => hxy e.symm, fun z hz bz hn => ?_⟩
      have hz' := h z hz bz
      simp only [Bool.and_eq_true, Bool.not_eq_true', decide_eq_false_iff_not] at hn
      by_cases e : z = y
      · exact .inl e
      · right
        have : nearB g.2 (y : Int) (z : Int) = true := by simpa [hn, e] using hz'
        simp [this, e]
    · rintro ⟨h1, h2⟩ z hz bz
      simp only [Bool.and_eq_true, Bool.not_eq_true', decide_eq_false_iff_not] at h1
      by_cases e : z = y
      · simp [e]
      · by_cases ex : z = x
        · subst ex
          have := h1.2
          rw [nearB_symm] at this
          simp [this]
        · cases hn : nearB g.2 (x : Int) (z : Int)
          · simp [ex]
          · rcases h2 z hz bz (by simp [hn, ex]) with h | h
            · exact absurd h e
            · simp only [Bool.and_eq_true] at h
              simp [h.2]
  rw [e]
  cases decide (CovP g.2 n m x y) <;> rfl
theorem spec_l10Fold_B0_at (left : List (Int)) (h : (Int) × (List ((Int) × (Int)))) (i : Int) (k : Int) (t4 : (Int) × (Int)) : spec_l10Fold_B0 ((left, h, i, k, ()), (t4, ())) = bif (decide (k < (List.length left : Int))) then (bif (i != k) then (guardB (inb i (List.length left)) (guardB (inb k (List.length left)) (match spec_l10Covers (h, left, (List.getD left (Int.toNat i) (0 : Int)), (List.getD left (Int.toNat k) (0 : Int)), ()) () with | some ((r, ()), ()) => (bif r then (guardB (inb i (List.length left)) (guardB (inb k (List.length left)) (some (.inr (.inl ((), (((List.getD left (Int.toNat i) (0 : Int)), (List.getD left (Int.toNat k) (0 : Int))), ()))))))) else (some (.inl ((left, h, i, (w64 (k + (1 : Int))), ()), (t4, ()))))) | none => none))) else (some (.inl ((left, h, i, (w64 (k + (1 : Int))), ()), (t4, ()))))) else (some (.inr (.inr ((left, h, i, ()), (t4, ()))))) := rfl
theorem spec_l10Fold_B1_at (left : List (Int)) (h : (Int) × (List ((Int) × (Int)))) (i : Int) (t4 : (Int) × (Int)) : spec_l10Fold_B1 ((left, h, i, ()), (t4, ())) = bif (decide (i < (List.length left : Int))) then (match loopO spec_l10Fold_B0 ((left, h, i, (0 : Int), ()), (t4, ())) with | some (.inl ((), (t4_2, ()))) => some (.inr (.inl ((), (t4_2, ())))) | some (.inr ((left2, h2, i2, ()), (t4_3, ()))) => some (.inl ((left2, h2, (w64 (i2 + (1 : Int))), ()), (t4_3, ()))) | none => none) else (some (.inr (.inr ((), (t4, ()))))) := rfl
theorem impl_Graph_folds_1_a0ca1_bsb1_B0_at (t1 : (Int) × (List ((Int) × (Int)))) (x : Int) (t9 : List (Int)) (t10 : Int) (t11 : Int) (t16 : List (Int)) (t17 : Int) (t18 : Int) (o0 : Int) (o1 : List ((Int) × (Int))) : impl_Graph_folds_1_a0ca1_bsb1_B0 ((t1, x, t9, t10, t11, t16, t17, t18, ()), (o0, o1, ())) = bif (decide (t18 < t17)) then (guardB (inb t18 (List.length t16)) (match impl_Graph_covers (t1, o0, x, (List.getD t16 (Int.toNat t18) (0 : Int)), ()) () with | some ((r, ()), ()) => (bif r then (guardB (decide ((List.length o1 + List.length [(x, (List.getD t16 (Int.toNat t18) (0 : Int)))]) * 16 ≤ 70368744177664)) (guardB (decide (0 ≤ x)) (some (.inr (.inl ((true, ()), ((IntKind.wrap .u64 (BitVec.ofInt 64 o0 &&& ~~~ BitVec.ofInt 64 (IntKind.wrap .u64 ((1 : Int) * 2 ^ (min (Int.toNat x) 64)))).toNat), (o1 ++ [(x, (List.getD t16 (Int.toNat t18) (0 : Int)))]), ()))))))) else (some (.inl ((t1, x, t9, t10, t11, t16, t17, (w64 (t18 + (1 : Int))), ()), (o0, o1, ()))))) | none => none)) else (some (.inr (.inr ((t1, t9, t10, t11, ()), (o0, o1, ()))))) := rfl
theorem impl_Graph_folds_1_a0ca1_bsb1_B1_at (t1 : (Int) × (List ((Int) × (Int)))) (t9 : List (Int)) (t10 : Int) (t11 : Int) (o0 : Int) (o1 : List ((Int) × (Int))) : impl_Graph_folds_1_a0ca1_bsb1_B1 ((t1, t9, t10, t11, ()), (o0, o1, ())) = bif (decide (t11 < t10)) then (guardB (inb t11 (List.length t9)) (match impl_bag_list (o0, ()) () with | some ((r, ()), ()) => (match loopO impl_Graph_folds_1_a0ca1_bsb1_B0 ((t1, (List.getD t9 (Int.toNat t11) (0 : Int)), t9, t10, t11, r, (List.length r : Int), (0 : Int), ()), (o0, o1, ())) with | some (.inl ((t3, ()), (o0_2, o1_2, ()))) => some (.inr (.inl ((t3, ()), (o0_2, o1_2, ())))) | some (.inr ((t1_2, t9_2, t10_2, t11_2, ()), (o0_3, o1_3, ()))) => some (.inl ((t1_2, t9_2, t10_2, (w64 (t11_2 + (1 : Int))), ()), (o0_3, o1_3, ()))) | none => none) | none => none)) else (some (.inr (.inr ((), (o0, o1, ()))))) := rfl
theorem lst_at {n m i : Nat} (h : i < (lst n m).length) : ∃ v : Nat, (lst n m).getD i 0 = (v : Int) ∧ v < n ∧ m.testBit v = true := by
  obtain ⟨k, h1, h2, h3⟩ := lst_mem.1 (List.getElem_mem h)
  exact ⟨k, by rw [getD_at h]; exact h3, h1, h2⟩
theorem lst_nodup (n m : Nat) : (lst n m).Nodup := by
  unfold lst
  refine List.Pairwise.map _ (fun a b h e => h (by omega)) (List.Pairwise.filter _ List.nodup_range)
theorem lst_ne {n m i k : Nat} (hi : i < (lst n m).length) (hk : k < (lst n m).length) (h : i ≠ k) : (lst n m).getD i 0 ≠ (lst n m).getD k 0 := by
  rw [getD_at hi, getD_at hk]
  intro e
  have hp := List.pairwise_iff_getElem.1 (List.nodup_iff_pairwise_ne.1 (lst_nodup n m))
  rcases Nat.lt_or_gt_of_ne h with g | g
  · exact hp i k hi hk g e
  · exact hp k i hk hi g e.symm
theorem covP_irr {S : List (Int × Int)} {n m x : Nat} : ¬ CovP S n m x x := by
  rintro ⟨⟨h, _⟩, _⟩; simp [nbB] at h
open Classical in
theorem fold_inner (g : Int × List (Int × Int)) {n : Nat} (hg : g.1 = n) (hn : n ≤ 8) (hp : pairsB g.2 n = true) (hl : g.2.length ≤ 1048576) {m : Nat} (hm : m < 256) (t4 : Int × Int) (t9 : List Int) (t10 t11 : Int) (out : List (Int × Int)) (ho : out.length ≤ 1048576) {i : Nat} (hi : i < (lst n m).length) {x : Nat} (hx : (lst n m).getD i 0 = (x : Int)) (hxn : x < n) (bx : m.testBit x = true) :
    ∀ d k, k + d = (lst n m).length →
      (∃ y : Nat, y < n ∧ m.testBit y = true ∧
        loopO spec_l10Fold_B0 ((lst n m, g, (i : Int), (k : Int), ()), (t4, ())) = some (.inl ((), (((x : Int), (y : Int)), ()))) ∧
        loopO impl_Graph_folds_1_a0ca1_bsb1_B0 ((g, (x : Int), t9, t10, t11, lst n m, ((lst n m).length : Int), (k : Int), ()), ((m : Int), out, ())) = some (.inl ((true, ()), (((clr m x : Nat) : Int), out ++ [((x : Int), (y : Int))], ())))) ∨
      (loopO spec_l10Fold_B0 ((lst n m, g, (i : Int), (k : Int), ()), (t4, ())) = some (.inr ((lst n m, g, (i : Int), ()), (t4, ()))) ∧
        loopO impl_Graph_folds_1_a0ca1_bsb1_B0 ((g, (x : Int), t9, t10, t11, lst n m, ((lst n m).length : Int), (k : Int), ()), ((m : Int), out, ())) = some (.inr ((g, t9, t10, t11, ()), ((m : Int), out, ())))) := by
  have hll := lst_len n m
  have hcl := (clr_bag m hm x (by omega)).1
  intro d
  induction d with
  | zero =>
    intro k hk
    right
    refine ⟨loop_end ?_, loop_end ?_⟩
    · rw [spec_l10Fold_B0_at]; simp only [bif_decide]; rw [if_neg (by omega)]
    · rw [impl_Graph_folds_1_a0ca1_bsb1_B0_at]; simp only [bif_decide]; rw [if_neg (by omega)]
  | succ d ih =>
    intro k hk
    have hkl : k < (lst n m).length := by omega
    obtain ⟨y, hy, hyn, by_⟩ := lst_at hkl
    have ci := covers_impl g hg hn hp hl hm hxn hyn
    have si : impl_Graph_folds_1_a0ca1_bsb1_B0 ((g, (x : Int), t9, t10, t11, lst n m, ((lst n m).length : Int), (k : Int), ()), ((m : Int), out, ())) = some (if CovP g.2 n m x y then .inr (.inl ((true, ()), (((clr m x : Nat) : Int), out ++ [((x : Int), (y : Int))], ()))) else .inl ((g, (x : Int), t9, t10, t11, lst n m, ((lst n m).length : Int), ((k + 1 : Nat) : Int), ()), ((m : Int), out, ()))) := by
      rw [impl_Graph_folds_1_a0ca1_bsb1_B0_at]
      simp only [bif_decide, Int.toNat_natCast, hy, ci, hcl]
      rw [if_pos (by omega), guardB_true (by simp [inb] <;> omega), w64_succ (by omega)]
      by_cases h : CovP g.2 n m x y
      · rw [if_pos h, if_pos h, guardB_true (by simp only [List.length_singleton, decide_eq_true_eq]; omega), guardB_true (by simp)]
      · rw [if_neg h, if_neg h]
    by_cases hik : i = k
    · have hxy : x = y := by
        have : (x : Int) = (y : Int) := by rw [← hx, ← hy, hik]
        omega
      have hno : ¬ CovP g.2 n m x y := by rw [hxy]; exact covP_irr
      rw [if_neg hno] at si
      have ss : spec_l10Fold_B0 ((lst n m, g, (i : Int), (k : Int), ()), (t4, ())) = some (.inl ((lst n m, g, (i : Int), ((k + 1 : Nat) : Int), ()), (t4, ()))) := by
        rw [spec_l10Fold_B0_at]
        simp only [bif_decide]
        rw [if_pos (by omega), bne_eq (by omega), w64_succ (by omega)]
        rfl
      rcases ih (k + 1) (by omega) with ⟨y', q1, q2, q3, q4⟩ | ⟨q1, q2⟩
      · exact .inl ⟨y', q1, q2, loop_step ss q3, loop_step si q4⟩
      · exact .inr ⟨loop_step ss q1, loop_step si q2⟩
    · have hxy : x ≠ y := fun e => lst_ne hi hkl hik (by rw [hx, hy, e])
      have cs := covers_spec g hn hl hxn hyn bx by_ hxy
      have ss : spec_l10Fold_B0 ((lst n m, g, (i : Int), (k : Int), ()), (t4, ())) = some (if CovP g.2 n m x y then .inr (.inl ((), (((x : Int), (y : Int)), ()))) else .inl ((lst n m, g, (i : Int), ((k + 1 : Nat) : Int), ()), (t4, ()))) := by
        rw [spec_l10Fold_B0_at]
        simp only [bif_decide, Int.toNat_natCast, hx, hy, cs]
        rw [if_pos (by omega), bne_ne (by omega), w64_succ (by omega)]
        simp only [cond_true, guardB, inb_true (show (0 : Int) ≤ (i : Int) by omega) (show (i : Int) < ((lst n m).length : Int) by omega), inb_true (show (0 : Int) ≤ (k : Int) by omega) (show (k : Int) < ((lst n m).length : Int) by omega)]
        by_cases h : CovP g.2 n m x y
        · rw [if_pos h, if_pos h]
        · rw [if_neg h, if_neg h]
      by_cases h : CovP g.2 n m x y
      · rw [if_pos h] at ss si
        exact .inl ⟨y, hyn, by_, loop_end ss, loop_end si⟩
      · rw [if_neg h] at ss si
        rcases ih (k + 1) (by omega) with ⟨y', q1, q2, q3, q4⟩ | ⟨q1, q2⟩
        · exact .inl ⟨y', q1, q2, loop_step ss q3, loop_step si q4⟩
        · exact .inr ⟨loop_step ss q1, loop_step si q2⟩
open Classical in
theorem fold_both (g : Int × List (Int × Int)) {n : Nat} (hg : g.1 = n) (hn : n ≤ 8) (hp : pairsB g.2 n = true) (hl : g.2.length ≤ 1048576) {m : Nat} (hm : m < 2 ^ n) (out : List (Int × Int)) (ho : out.length ≤ 1048576) :
    (∃ x y : Nat, x < n ∧ m.testBit x = true ∧ y < n ∧ spec_l10Fold (g, lst n m, ()) () = some ((((x : Int), (y : Int)), ()), ()) ∧
      impl_Graph_folds_1_a0ca1_bsb1 (g, ()) ((m : Int), out, ()) = some ((true, ()), (((clr m x : Nat) : Int), out ++ [((x : Int), (y : Int))], ()))) ∨
    (spec_l10Fold (g, lst n m, ()) () = some (((-1, -1), ()), ()) ∧ impl_Graph_folds_1_a0ca1_bsb1 (g, ()) ((m : Int), out, ()) = some ((false, ()), ((m : Int), out, ()))) := by
  have hm8 : m < 256 := Nat.lt_of_lt_of_le hm (Nat.pow_le_pow_right (by decide) (show n ≤ 8 from hn))
  have hll := lst_len n m
  have e8 : lst 8 m = lst n m := by have := lst_more hm (8 - n); rwa [show n + (8 - n) = 8 by omega] at this
  have hbl := bag_list_eq m hm8
  rw [e8] at hbl
  have key : ∀ d i, i + d = (lst n m).length →
      (∃ x y : Nat, x < n ∧ m.testBit x = true ∧ y < n ∧
        loopO spec_l10Fold_B1 ((lst n m, g, (i : Int), ()), (((0 : Int), (0 : Int)), ())) = some (.inl ((), (((x : Int), (y : Int)), ()))) ∧
        loopO impl_Graph_folds_1_a0ca1_bsb1_B1 ((g, lst n m, ((lst n m).length : Int), (i : Int), ()), ((m : Int), out, ())) = some (.inl ((true, ()), (((clr m x : Nat) : Int), out ++ [((x : Int), (y : Int))], ())))) ∨
      (loopO spec_l10Fold_B1 ((lst n m, g, (i : Int), ()), (((0 : Int), (0 : Int)), ())) = some (.inr ((), (((0 : Int), (0 : Int)), ()))) ∧
        loopO impl_Graph_folds_1_a0ca1_bsb1_B1 ((g, lst n m, ((lst n m).length : Int), (i : Int), ()), ((m : Int), out, ())) = some (.inr ((), ((m : Int), out, ())))) := by
    intro d
    induction d with
    | zero =>
      intro i hi
      right
      refine ⟨loop_end ?_, loop_end ?_⟩
      · rw [spec_l10Fold_B1_at]; simp only [bif_decide]; rw [if_neg (by omega)]
      · rw [impl_Graph_folds_1_a0ca1_bsb1_B1_at]; simp only [bif_decide]; rw [if_neg (by omega)]
    | succ d ih =>
      intro i hi
      have hil : i < (lst n m).length := by omega
      obtain ⟨x, hx, hxn, bx⟩ := lst_at hil
      rcases fold_inner g hg hn hp hl hm8 ((0 : Int), (0 : Int)) (lst n m) ((lst n m).length : Int) (i : Int) out ho hil hx hxn bx (lst n m).length 0 (by omega) with ⟨y, y1, y2, q1, q2⟩ | ⟨q1, q2⟩
      · left
        refine ⟨x, y, hxn, bx, y1, loop_end ?_, loop_end ?_⟩
        · rw [spec_l10Fold_B1_at]
          simp only [bif_decide]
          rw [if_pos (by omega)]
          erw [q1]
        · rw [impl_Graph_folds_1_a0ca1_bsb1_B1_at]
          simp only [bif_decide, Int.toNat_natCast, hx, hbl]
          rw [if_pos (by omega), guardB_true (by simp [inb] <;> omega)]
          erw [q2]
      · have s1 : spec_l10Fold_B1 ((lst n m, g, (i : Int), ()), (((0 : Int), (0 : Int)), ())) = some (.inl ((lst n m, g, ((i + 1 : Nat) : Int), ()), (((0 : Int), (0 : Int)), ()))) := by
          rw [spec_l10Fold_B1_at]
          simp only [bif_decide]
          rw [if_pos (by omega)]
          erw [q1]
          simp only [w64_succ (show i < 4611686018427387904 by omega)]
        have s2 : impl_Graph_folds_1_a0ca1_bsb1_B1 ((g, lst n m, ((lst n m).length : Int), (i : Int), ()), ((m : Int), out, ())) = some (.inl ((g, lst n m, ((lst n m).length : Int), ((i + 1 : Nat) : Int), ()), ((m : Int), out, ()))) := by
          rw [impl_Graph_folds_1_a0ca1_bsb1_B1_at]
          simp only [bif_decide, Int.toNat_natCast, hx, hbl]
          rw [if_pos (by omega), guardB_true (by simp [inb] <;> omega)]
          erw [q2]
          simp only [w64_succ (show i < 4611686018427387904 by omega)]
        rcases ih (i + 1) (by omega) with ⟨x', y', r1, r2, r3, r4, r5⟩ | ⟨r1, r2⟩
        · exact .inl ⟨x', y', r1, r2, r3, loop_step s1 r4, loop_step s2 r5⟩
        · exact .inr ⟨loop_step s1 r1, loop_step s2 r2⟩
  rcases key (lst n m).length 0 (by omega) with ⟨x, y, r1, r2, r3, r4, r5⟩ | ⟨r1, r2⟩
  · left
    refine ⟨x, y, r1, r2, r3, ?_, ?_⟩
    · simp only [spec_l10Fold]
      erw [r4]
    · simp only [impl_Graph_folds_1_a0ca1_bsb1, hbl]
      erw [r5]
  · right
    refine ⟨?_, ?_⟩
    · simp only [spec_l10Fold]
      erw [r1]
    · simp only [impl_Graph_folds_1_a0ca1_bsb1, hbl]
      erw [r2]
theorem spec_l10Folds_B0_at (h : (Int) × (List ((Int) × (Int)))) (out : List ((Int) × (Int))) (left : List (Int)) (p : (Int) × (Int)) : spec_l10Folds_B0 ((h, out, left, ()), (p, ())) = bif (decide ((0 : Int) ≤ p.1)) then (guardB (decide ((List.length out + List.length [p]) * 16 ≤ 70368744177664)) (match spec_l4Without (left, p.1, ()) () with | some ((r, ()), ()) => (match spec_l10Fold (h, r, ()) () with | some ((r2, ()), ()) => some (.inl ((h, (out ++ [p]), r, ()), (r2, ()))) | none => none) | none => none)) else (some (.inr ((out, ()), ()))) := rfl
theorem impl_Graph_folds_B0_at (out : List ((Int) × (Int))) (set : Int) (g : (Int) × (List ((Int) × (Int)))) : impl_Graph_folds_B0 ((), (out, set, g, ())) = match impl_Graph_folds_1_a0ca1_bsb1 (g, ()) (set, out, ()) with | some ((r, ()), (o, o2, ())) => (bif r then (some (.inl ((), (o2, o, g, ())))) else (some (.inr ((), (o2, ()))))) | none => none := rfl
theorem spec_l10Folds_D0_at (h : (Int) × (List ((Int) × (Int)))) (t8 : Int) (t12 : Int) : spec_l10Folds_D0 ((h, t8, t12, ()), ()) = match spec_l2Bits (t8, t12, ()) () with | some ((r, ()), ()) => some ((h, ([] : (List (Int × Int))), r, ()), ()) | none => none := rfl
theorem folds_loop (g : Int × List (Int × Int)) {n : Nat} (hg : g.1 = n) (hn : n ≤ 8) (hp : pairsB g.2 n = true) (hl : g.2.length ≤ 1048576) : ∀ (c m : Nat) (out : List (Int × Int)) (p : Int × Int), m < 2 ^ n → (lst n m).length ≤ c → out.length + c ≤ 1048576 → spec_l10Fold (g, lst n m, ()) () = some ((p, ()), ()) →
    ∃ R : List (Int × Int), loopO spec_l10Folds_B0 ((g, out, lst n m, ()), (p, ())) = some ((R, ()), ()) ∧ loopO impl_Graph_folds_B0 ((), (out, (m : Int), g, ())) = some ((), (R, ())) ∧ R.length ≤ out.length + c := by
  intro c
  induction c with
  | zero =>
    intro m out p hm hc ho hf
    rcases fold_both g hg hn hp hl hm out (by omega) with ⟨x, y, x1, x2, _⟩ | ⟨q1, q2⟩
    · have : (x : Int) ∈ lst n m := lst_mem.2 ⟨x, x1, x2, rfl⟩
      have := List.length_pos_of_mem this
      omega
    · rw [q1] at hf
      injection hf with hf; injection hf with hf; injection hf with hf
      subst hf
      refine ⟨out, loop_end ?_, loop_end ?_, by omega⟩
      · rw [spec_l10Folds_B0_at]; rfl
      · rw [impl_Graph_folds_B0_at, q2]; rfl
  | succ c ih =>
    intro m out p hm hc ho hf
    have hm8 : m < 256 := Nat.lt_of_lt_of_le hm (Nat.pow_le_pow_right (by decide) (show n ≤ 8 from hn))
    rcases fold_both g hg hn hp hl hm out (by omega) with ⟨x, y, x1, x2, y1, q1, q2⟩ | ⟨q1, q2⟩
    · rw [q1] at hf
      injection hf with hf; injection hf with hf; injection hf with hf
      subst hf
      have hclr := lst_clr (m := m) hn hm8 (show x < 8 by omega)
      have hlt : (lst n (clr m x)).length < (lst n m).length := by
        rw [← hclr, List.length_filter_lt_length_iff_exists]
        exact ⟨(x : Int), lst_mem.2 ⟨x, x1, x2, rfl⟩, by simp⟩
      have hm' : clr m x < 2 ^ n := Nat.lt_of_le_of_lt (and_le' m _) hm
      have hll := lst_len n m
      have next : ∃ p', spec_l10Fold (g, lst n (clr m x), ()) () = some ((p', ()), ()) := by
        rcases fold_both g hg hn hp hl hm' [] (by simp) with ⟨a, b, _, _, _, r1, _⟩ | ⟨r1, _⟩
        · exact ⟨_, r1⟩
        · exact ⟨_, r1⟩
      obtain ⟨p', hp'⟩ := next
      obtain ⟨R, r1, r2, r3⟩ := ih (clr m x) (out ++ [((x : Int), (y : Int))]) p' hm' (by omega) (by simp; omega) hp'
      refine ⟨R, loop_step ?_ r1, loop_step ?_ r2, by simp at r3; omega⟩
      · rw [spec_l10Folds_B0_at]
        simp only [bif_decide, Without_eq _ _ (show (lst n m).length ≤ 1048576 by omega), hclr, hp']
        rw [if_pos (by omega), guardB_true (by simp only [List.length_singleton, decide_eq_true_eq]; omega)]
      · rw [impl_Graph_folds_B0_at, q2]; rfl
    · rw [q1] at hf
      injection hf with hf; injection hf with hf; injection hf with hf
      subst hf
      refine ⟨out, loop_end ?_, loop_end ?_, by omega⟩
      · rw [spec_l10Folds_B0_at]; rfl
      · rw [impl_Graph_folds_B0_at, q2]; rfl
def goodG (g : Int × List (Int × Int)) : Bool := inR g.1 0 8 && pairsB g.2 g.1
theorem l2Good_eq (g : Int × List (Int × Int)) (hl : g.2.length ≤ 1048576) : spec_l2Good (g, ()) () = some ((goodG g, ()), ()) := by
  simp only [spec_l2Good, l1In_eq _ _ _, goodG]
  cases h : inR g.1 0 8
  · rfl
  · have h' := h
    simp only [inR, Bool.and_eq_true, decide_eq_true_eq] at h'
    simp only [cond_true, l2Pairs_eq g.2 g.1 hl (by omega) (by omega), Bool.true_and]
theorem IsGraph_eq (g : Int × List (Int × Int)) (hl : g.2.length ≤ 1048576) : impl_IsGraph (g, ()) () = some ((goodG g, ()), ()) := by
  simp only [impl_IsGraph, between_eq _ _ _, goodG]
  cases h : inR g.1 0 8
  · rfl
  · simp only [cond_true, isPairs_eq g.2 g.1 hl, Bool.true_and]
theorem folds_core (g : Int × List (Int × Int)) (hl : g.2.length ≤ 1048576) : ((goodG g = false ∨ g.1 = 0) ∧ impl_FoldOrder (g, ()) () = some (([], false, ()), ())) ∨
    (goodG g = true ∧ ¬ g.1 = 0 ∧ ∃ R : List (Int × Int), spec_l10Folds (g, ()) () = some ((R, ()), ()) ∧ impl_FoldOrder (g, ()) () = some ((R, true, ()), ()) ∧ R.length ≤ 8) := by
  simp only [impl_FoldOrder, IsGraph_eq g hl]
  cases hg : goodG g
  · exact .inl ⟨.inl rfl, rfl⟩
  · by_cases h0 : g.1 = 0
    · rw [beq_eq h0]; exact .inl ⟨.inr h0, rfl⟩
    · rw [beq_ne h0]
      right
      refine ⟨rfl, h0, ?_⟩
      simp only [goodG, Bool.and_eq_true, inR, decide_eq_true_eq] at hg
      obtain ⟨n, hn⟩ : ∃ n : Nat, g.1 = n := ⟨g.1.toNat, by omega⟩
      have hn8 : n ≤ 8 := by omega
      have hp : pairsB g.2 n = true := by rw [← hn]; exact hg.2
      have hall := all_bag n (by omega)
      have hm : 2 ^ n - 1 < 2 ^ n := by have : 0 < 2 ^ n := Nat.pow_pos (by decide)
                                        omega
      have hll := lst_len n (2 ^ n - 1)
      obtain ⟨p, hpf⟩ : ∃ p, spec_l10Fold (g, lst n (2 ^ n - 1), ()) () = some ((p, ()), ()) := by
        rcases fold_both g hn hn8 hp hl hm [] (by simp) with ⟨a, b, _, _, _, r1, _⟩ | ⟨r1, _⟩
        · exact ⟨_, r1⟩
        · exact ⟨_, r1⟩
      obtain ⟨R, r1, r2, r3⟩ := folds_loop g hn hn8 hp hl 8 (2 ^ n - 1) [] p hm (by omega) (by simp) hpf
      have e1 : spec_l10Folds (g, ()) () = some ((R, ()), ()) := by
        simp only [spec_l10Folds, hn, Int.toNat_natCast, hall.2.1]
        rw [guardB_true (by simp), spec_l10Folds_D0_at, Bits_eq n _ hn8 hall.2.2]
        simp only [hpf]
        erw [r1]
      have e2 : impl_Graph_folds (g, ()) () = some ((R, ()), ()) := by
        simp only [impl_Graph_folds, impl_Graph_all, hn, Int.toNat_natCast, hall.1]
        rw [guardB_true (by simp)]
        simp only
        erw [r2]
      refine ⟨R, e1, ?_, by simpa using r3⟩
      simp only [Bool.not_true, cond_false, e2]
theorem szGraph_eq (g : Int × List (Int × Int)) (hl : g.2.length ≤ 140737488351232) : ∃ r : Int, laws_szGraph (g, 1048576, ()) () = some ((r, ()), ()) ∧ (0 ≤ r → g.2.length ≤ 1048576) := by
  simp only [laws_szGraph, szIntA2S_eq g.2 1048576 (by omega) (by omega) hl, bif_decide]
  by_cases h : (g.2.length : Int) ≤ 1048576
  · rw [if_pos h]; rw [if_neg (show ¬ ((1048576 : Int) - (g.2.length : Int)) < 0 by omega)]; exact ⟨_, rfl, fun _ => by omega⟩
  · rw [if_neg h]; rw [if_pos (show (-1 : Int) < 0 by omega)]; exact ⟨-1, rfl, fun h => by omega⟩
theorem toGraph_eq (g : Int × List (Int × Int)) (hl : g.2.length ≤ 1048576) : laws_toGraph (g, ()) () = some ((g, ()), ()) := by
  simp only [laws_toGraph, toIntA2S_eq g.2 hl]
theorem eqGraph_eq (g : Int × List (Int × Int)) (hl : g.2.length ≤ 1048576) : laws_eqGraph (g, g, ()) () = some ((true, ()), ()) := by
  simp only [laws_eqGraph, bne_self_eq_false, cond_false, eqIntA2S_eq g.2 hl, Bool.not_true]
theorem laws_heldIntA2S_B0_at (a : List ((Int) × (Int))) (k : Int) (i : Int) (j : Int) : laws_heldIntA2S_B0 ((a, k, i, j, ()), ()) = bif (decide (j < (2 : Int))) then (guardB (inb i (List.length a)) (guardB (decide (0 ≤ j) && decide (j < 2)) (bif ((bif Nat.beq (Int.toNat j) 0 then (List.getD a (Int.toNat i) ((0 : Int), (0 : Int))).1 else (List.getD a (Int.toNat i) ((0 : Int), (0 : Int))).2) != k) then (some (.inr (.inl (((-1 : Int), ()), ())))) else (some (.inl ((a, (w64 (k + (1 : Int))), i, (w64 (j + (1 : Int))), ()), ())))))) else (some (.inr (.inr ((a, k, i, ()), ())))) := rfl
theorem laws_heldIntA2S_B1_at (a : List ((Int) × (Int))) (k : Int) (i : Int) : laws_heldIntA2S_B1 ((a, k, i, ()), ()) = bif (decide (i < (List.length a : Int))) then (match loopO laws_heldIntA2S_B0 ((a, k, i, (0 : Int), ()), ()) with | some (.inl ((t4, ()), ())) => some (.inr (.inl ((t4, ()), ()))) | some (.inr ((a2, k2, i2, ()), ())) => some (.inl ((a2, k2, (w64 (i2 + (1 : Int))), ()), ())) | none => none) else (some (.inr (.inr ((k, ()), ())))) := rfl
theorem laws_markIntA2S_e0v_ls_B0_at (k : Int) (i : Int) (j : Int) (o0 : List ((Int) × (Int))) : laws_markIntA2S_e0v_ls_B0 ((k, i, j, ()), (o0, ())) = bif (decide (j < (2 : Int))) then (guardB (inb i (List.length o0)) (guardB (decide (0 ≤ j) && decide (j < 2)) (some (.inl (((w64 (k + (1 : Int))), i, (w64 (j + (1 : Int))), ()), ((List.set o0 (Int.toNat i) (bif Nat.beq (Int.toNat j) 0 then (k, (List.getD o0 (Int.toNat i) ((0 : Int), (0 : Int))).2) else ((List.getD o0 (Int.toNat i) ((0 : Int), (0 : Int))).1, k))), ())))))) else (some (.inr ((k, i, ()), (o0, ())))) := rfl
theorem laws_markIntA2S_e0v_ls_B1_at (k : Int) (i : Int) (o0 : List ((Int) × (Int))) : laws_markIntA2S_e0v_ls_B1 ((k, i, ()), (o0, ())) = bif (decide (i < (List.length o0 : Int))) then (match loopO laws_markIntA2S_e0v_ls_B0 ((k, i, (0 : Int), ()), (o0, ())) with | some ((k2, i2, ()), (o0_2, ())) => some (.inl ((k2, (w64 (i2 + (1 : Int))), ()), (o0_2, ()))) | none => none) else (some (.inr ((k, ()), (o0, ())))) := rfl
def pm (k : Int) (n : Nat) : List (Int × Int) := (List.range n).map fun (i : Nat) => (k + 2 * (i : Int), k + 2 * (i : Int) + 1)
theorem pm_len (k : Int) (n : Nat) : (pm k n).length = n := by simp [pm]
theorem pm_snoc (k : Int) (n : Nat) : pm k (n + 1) = pm k n ++ [(k + 2 * (n : Int), k + 2 * (n : Int) + 1)] := by simp [pm, List.range_succ]
theorem pm_get {k : Int} {n i : Nat} (h : i < n) : (pm k n).getD i (0, 0) = (k + 2 * (i : Int), k + 2 * (i : Int) + 1) := by simp [pm, List.getD, h]
theorem markA2S_to (l : List (Int × Int)) (k : Int) (h0 : 0 ≤ k) (hk : k ≤ 4611686018000000000) (hl : l.length ≤ 1048576) : laws_markIntA2S_e0v_ls (k, ()) (l, ()) = some ((k + 2 * (l.length : Int), ()), (pm k l.length, ())) := by
  have key := loop_count (B := laws_markIntA2S_e0v_ls_B1) (fun i => ((k + 2 * (i : Int), (i : Int), ()), (pm k i ++ l.drop i, ()))) l.length ((k + 2 * (l.length : Int), ()), (pm k l.length, ())) ?_ ?_ 0 (Nat.zero_le _)
  · simp only [laws_markIntA2S_e0v_ls]
    have e : pm k 0 ++ l.drop 0 = l := by simp [pm]
    simp only [e] at key
    rw [show k + 2 * ((0 : Nat) : Int) = k by omega] at key
    erw [key]
  · intro i hi
    have hlen : (pm k i ++ l.drop i).length = l.length := by simp [pm_len]; omega
    have hset : ∀ z : Int × Int, (pm k i ++ l.drop i).set i z = pm k i ++ z :: l.drop (i + 1) := fun z => by
      rw [List.drop_eq_getElem_cons hi, List.set_append_right _ _ (by rw [pm_len]; exact Nat.le_refl _), pm_len, Nat.sub_self, List.set_cons_zero]
    have hget : ∀ z : Int × Int, (pm k i ++ z :: l.drop (i + 1)).getD i (0, 0) = z := fun z => by
      simp [List.getD, List.getElem?_append_right, pm_len]
    have hlen2 : ∀ z : Int × Int, (pm k i ++ z :: l.drop (i + 1)).length = l.length := fun z => by simp [pm_len]; omega
    have hset2 : ∀ z z' : Int × Int, (pm k i ++ z :: l.drop (i + 1)).set i z' = pm k i ++ z' :: l.drop (i + 1) := fun z z' => by
      rw [List.set_append_right _ _ (by rw [pm_len]; exact Nat.le_refl _), pm_len, Nat.sub_self, List.set_cons_zero]
    have e0 : laws_markIntA2S_e0v_ls_B0 ((k + 2 * (i : Int), (i : Int), 0, ()), (pm k i ++ l.drop i, ())) = some (.inl ((k + 2 * (i : Int) + 1, (i : Int), 1, ()), (pm k i ++ (k + 2 * (i : Int), ((pm k i ++ l.drop i).getD i (0, 0)).2) :: l.drop (i + 1), ()))) := by
      rw [laws_markIntA2S_e0v_ls_B0_at, guardB_true (by rw [hlen]; exact inb_true (by omega) (by omega)), Int.toNat_natCast, ← hset, w64_of (by omega) (by omega)]
      rfl
    have e1 : ∀ z, laws_markIntA2S_e0v_ls_B0 ((k + 2 * (i : Int) + 1, (i : Int), 1, ()), (pm k i ++ (k + 2 * (i : Int), z) :: l.drop (i + 1), ())) = some (.inl ((k + 2 * ((i + 1 : Nat) : Int), (i : Int), 2, ()), (pm k (i + 1) ++ l.drop (i + 1), ()))) := by
      intro z
      rw [laws_markIntA2S_e0v_ls_B0_at, guardB_true (by rw [hlen2]; exact inb_true (by omega) (by omega)), Int.toNat_natCast, w64_of (by omega) (by omega)]
      simp only [hget]
      have : pm k (i + 1) ++ l.drop (i + 1) = (pm k i ++ (k + 2 * (i : Int), z) :: l.drop (i + 1)).set i (k + 2 * (i : Int), k + 2 * (i : Int) + 1) := by
        rw [hset2, pm_snoc, List.append_assoc]; rfl
      rw [this, show k + 2 * ((i + 1 : Nat) : Int) = k + 2 * (i : Int) + 1 + 1 by omega]
      rfl
    have e2 : laws_markIntA2S_e0v_ls_B0 ((k + 2 * ((i + 1 : Nat) : Int), (i : Int), 2, ()), (pm k (i + 1) ++ l.drop (i + 1), ())) = some (.inr ((k + 2 * ((i + 1 : Nat) : Int), (i : Int), ()), (pm k (i + 1) ++ l.drop (i + 1), ()))) := by
      rw [laws_markIntA2S_e0v_ls_B0_at]; rfl
    rw [laws_markIntA2S_e0v_ls_B1_at]
    simp only [bif_decide, hlen]
    rw [if_pos (by omega)]
    erw [loop_step e0 (loop_step (e1 _) (loop_end e2))]
    simp only [w64_succ (show i < 4611686018427387904 by omega)]
  · rw [laws_markIntA2S_e0v_ls_B1_at]
    simp only [bif_decide, List.drop_length, List.append_nil, pm_len]
    rw [if_neg (by omega)]
theorem heldA2S_to (n : Nat) (k : Int) (h0 : 0 ≤ k) (hk : k ≤ 4611686018000000000) (hn : n ≤ 1048576) : laws_heldIntA2S (pm k n, k, ()) () = some ((k + 2 * (n : Int), ()), ()) := by
  have key := loop_count (B := laws_heldIntA2S_B1) (fun i => ((pm k n, k + 2 * (i : Int), (i : Int), ()), ())) n (.inr ((k + 2 * (n : Int), ()), ())) ?_ ?_ 0 (Nat.zero_le _)
  · rw [show k + 2 * ((0 : Nat) : Int) = k by omega] at key
    simp only [laws_heldIntA2S]
    erw [key]
  · intro i hi
    have hb : inb (i : Int) (pm k n).length = true := by rw [pm_len]; exact inb_true (by omega) (by omega)
    have e0 : laws_heldIntA2S_B0 ((pm k n, k + 2 * (i : Int), (i : Int), 0, ()), ()) = some (.inl ((pm k n, k + 2 * (i : Int) + 1, (i : Int), 1, ()), ())) := by
      rw [laws_heldIntA2S_B0_at, guardB_true hb, Int.toNat_natCast, pm_get hi, w64_of (by omega) (by omega)]
      show (bif (k + 2 * (i : Int)) != (k + 2 * (i : Int)) then _ else _) = _
      rw [bne_eq rfl]; rfl
    have e1 : laws_heldIntA2S_B0 ((pm k n, k + 2 * (i : Int) + 1, (i : Int), 1, ()), ()) = some (.inl ((pm k n, k + 2 * ((i + 1 : Nat) : Int), (i : Int), 2, ()), ())) := by
      rw [laws_heldIntA2S_B0_at, guardB_true hb, Int.toNat_natCast, pm_get hi, w64_of (by omega) (by omega), show k + 2 * ((i + 1 : Nat) : Int) = k + 2 * (i : Int) + 1 + 1 by omega]
      show (bif (k + 2 * (i : Int) + 1) != (k + 2 * (i : Int) + 1) then _ else _) = _
      rw [bne_eq rfl]; rfl
    have e2 : laws_heldIntA2S_B0 ((pm k n, k + 2 * ((i + 1 : Nat) : Int), (i : Int), 2, ()), ()) = some (.inr (.inr ((pm k n, k + 2 * ((i + 1 : Nat) : Int), (i : Int), ()), ()))) := by
      rw [laws_heldIntA2S_B0_at]; rfl
    rw [laws_heldIntA2S_B1_at]
    simp only [bif_decide, pm_len]
    rw [if_pos (by omega)]
    erw [loop_step e0 (loop_step e1 (loop_end e2))]
    simp only [w64_succ (show i < 4611686018427387904 by omega)]
  · rw [laws_heldIntA2S_B1_at]
    simp only [bif_decide, pm_len]
    rw [if_neg (by omega)]
theorem FnExactFoldOrder_true (g : Int × List (Int × Int)) (hg : Sm (.prod I (.list (.prod I I))) g) : laws_FnExactFoldOrder (g, ()) () = some ((true, ()), ()) := by
  obtain ⟨_, hl, _⟩ := hg
  simp only [laws_FnExactFoldOrder, bif_decide]
  obtain ⟨r, e1, e2⟩ := szGraph_eq g hl
  rw [e1]
  by_cases h2 : r < 0
  · simp only [if_pos h2]
  have hl' := e2 (by omega)
  obtain ⟨R, b, s1, s2, s3⟩ : ∃ (R : List (Int × Int)) (b : Bool), spec_FoldOrder (g, ()) () = some ((R, b, ()), ()) ∧ impl_FoldOrder (g, ()) () = some ((R, b, ()), ()) ∧ R.length ≤ 8 := by
    rcases folds_core g hl' with ⟨h, e⟩ | ⟨h, h0, R, e, e', hR⟩
    · refine ⟨[], false, ?_, e, by simp⟩
      simp only [spec_FoldOrder, l2Good_eq g hl']
      rcases h with h | h
      · rw [h]; rfl
      · rw [beq_eq h]; cases goodG g <;> rfl
    · refine ⟨R, true, ?_, e', hR⟩
      simp only [spec_FoldOrder, l2Good_eq g hl', h, beq_ne h0, e, Bool.not_true, cond_false]
  have m1 := markA2S_to g.2 1 (by omega) (by omega) hl'
  have m2 := markA2S_to R 1 (by omega) (by omega) (by omega)
  have m3 := heldA2S_to R.length 1 (by omega) (by omega) (by omega)
  have mg : laws_markGraph_ops1v (g, 1, ()) () = some ((1 + 2 * (g.2.length : Int), ()), ()) := by
    simp only [laws_markGraph_ops1v, m1]
  have q := eqIntA2S_eq R (by omega)
  simp only [if_neg h2, toGraph_eq g hl', s1, s2, eqGraph_eq g hl', q, laws_FnExactFoldOrder_D0, mg, Bool.not_true, cond_false, beq_self_eq_true]
  rw [if_neg (show ¬ (1 + 2 * (g.2.length : Int)) < 0 by omega)]
  simp only [m2, m3, if_neg (show ¬ (1 + 2 * (R.length : Int)) < 0 by omega), bne_self_eq_false, cond_false]

end Go.Proofs.Ytiiaadgibkpaaaa.V
