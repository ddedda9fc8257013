/-
  What the reference and the program compute agrees: plain lemmas over numbers and lists.
-/
import Derived.Test.YtcabghamgilafaaTFnExactWindingLabels
import Derived.Test.YtcabghamgilafaaE4
namespace Go.Proofs.Ytcabghamgilafaa.V
open Go Go.Ve Go.Proofs
set_option linter.unusedVariables false
set_option linter.unusedSimpArgs false
theorem fold_len {n : Nat} (h : n ≤ 1048576) : (decide (0 ≤ (n : Int)) && decide ((n : Int) ≤ (n : Int)) && decide ((n : Int) * 8 ≤ 140737488355328)) = true ∧ (decide (0 ≤ (n : Int)) && decide ((n : Int) ≤ (n : Int)) && decide ((n : Int) * 24 ≤ 140737488355328)) = true ∧ (decide (0 ≤ (n : Int)) && decide ((n : Int) ≤ (n : Int)) && decide ((n : Int) * 16 ≤ 140737488355328)) = true := by
  refine ⟨?_, ?_, ?_⟩ <;> simp <;> omega

theorem allUpto_true {n : Nat} : allUpto (fun _ => true) n = true := allUpto_iff.2 fun _ _ => rfl
theorem eqIntS_gen (l : List Int) (hl : l.length ≤ 2000000000000) : laws_eqIntS (l, l, ()) () = some ((true, ()), ()) := by
  have key := loop_all (B := laws_eqIntS_B0) (fun i => ((l, l, (i : Int), ()), ())) (fun _ => true) l.length (.inl ((false, ()), ())) (.inr ((), ())) (fun i hi _ => by
    simp [laws_eqIntS_B0, inb_nat, hi, guardB, w64_succ (show i < 4611686018427387904 by omega)]) (by simp [laws_eqIntS_B0])
  rw [allUpto_true] at key
  simp only [laws_eqIntS, bne_self_eq_false, cond_false]
  rw [show (0 : Int) = ((0 : Nat) : Int) from rfl, key]
  rfl
/-- what is asked of a Space that is looked at: not too great -/
structure Few (x : List (List Int) × List (Int × Int)) : Prop where
  states : x.1.length ≤ 1048576
  state : ∀ s ∈ x.1, s.length ≤ 1048576
  steps : x.2.length ≤ 1048576
def inR (x a b : Int) : Bool := decide (a ≤ x) && decide (x ≤ b)
theorem l1In_eq (x a b : Int) : spec_l1In (x, a, b, ()) () = some ((inR x a b, ()), ()) := by
  simp only [spec_l1In, inR]
  by_cases h : a ≤ x <;> simp [h]
theorem between_eq (x a b : Int) : impl_between (x, a, b, ()) () = some ((inR x a b, ()), ()) := by
  simp only [impl_between, inR]
  by_cases h : a ≤ x <;> simp [h]
theorem cmp_eq (x y : Int) : cmp_Compare_int (x, y, ()) () = some (((if x < y then -1 else if y < x then 1 else 0), ()), ()) := by
  simp only [cmp_Compare_int, cmp_isNaN_int, bne_self_eq_false, cond_false, bif_decide]
  split
  · rfl
  · split <;> rfl

def edgeB (a b : Int × Int) : Bool := decide (a.1 < b.1) || (decide (a.1 = b.1) && decide (a.2 < b.2))
theorem cmpOr_eq (x y : Int) : cmp_Or_int ([x, y], ()) () = some (((if x = 0 then y else x), ()), ()) := by
  simp only [cmp_Or_int]
  have e0 : cmp_Or_int_B0 ((0, [x, y], ([x, y].length : Int), 0, ()), ()) = some (if x = 0 then .inl ((0, [x, y], ([x, y].length : Int), 1, ()), ()) else .inr (.inl ((x, ()), ()))) := by
    by_cases h : x = 0
    · simp [cmp_Or_int_B0, inb, guardB, h]; rfl
    · simp [cmp_Or_int_B0, inb, guardB, h, bne_ne h]
  have e1 : cmp_Or_int_B0 ((0, [x, y], ([x, y].length : Int), 1, ()), ()) = some (if y = 0 then .inl ((0, [x, y], ([x, y].length : Int), 2, ()), ()) else .inr (.inl ((y, ()), ()))) := by
    by_cases h : y = 0
    · simp [cmp_Or_int_B0, inb, guardB, h]; rfl
    · simp [cmp_Or_int_B0, inb, guardB, h, bne_ne h]
  have e2 : cmp_Or_int_B0 ((0, [x, y], ([x, y].length : Int), 2, ()), ()) = some (.inr (.inr ((0, ()), ()))) := by
    simp [cmp_Or_int_B0]
  by_cases h : x = 0
  · rw [if_pos h] at e0 ⊢
    by_cases g : y = 0
    · rw [if_pos g] at e1
      rw [loop_step e0 (loop_step e1 (loop_end e2)), g]
    · rw [if_neg g] at e1
      rw [loop_step e0 (loop_end e1)]
  · rw [if_neg h] at e0 ⊢
    rw [loop_end e0]
theorem comparePairs_eq (a b : Int × Int) : ∃ r : Int, impl_comparePairs (a, b, ()) () = some ((r, ()), ()) ∧ (decide ((0 : Int) ≤ r) = !edgeB a b) ∧ (r = 0 ↔ a = b) := by
  obtain ⟨a1, a2⟩ := a
  obtain ⟨b1, b2⟩ := b
  simp only [impl_comparePairs, cmp_eq _ _, cmpOr_eq _ _]
  refine ⟨_, rfl, ?_, ?_⟩
  · simp only [edgeB]
    by_cases h : a1 < b1
    · simp [h]
    · by_cases h2 : b1 < a1
      · have : ¬ a1 = b1 := by omega
        simp [h, h2, this]
      · have : a1 = b1 := by omega
        subst this
        by_cases h3 : a2 < b2
        · simp [h3]
        · by_cases h4 : b2 < a2 <;> simp [h3, h4]
  · simp only [Prod.mk.injEq]
    by_cases h : a1 < b1
    · simp [h]; omega
    · by_cases h2 : b1 < a1
      · simp [h, h2]; omega
      · have : a1 = b1 := by omega
        subst this
        by_cases h3 : a2 < b2
        · simp [h3]; omega
        · by_cases h4 : b2 < a2
          · simp [h3, h4]; omega
          · simp [h3, h4]; omega
def pairB (l : List (Int × Int)) (n : Int) (i : Nat) : Bool :=
  decide (0 ≤ (l.getD i (0, 0)).1) && (decide ((l.getD i (0, 0)).1 < (l.getD i (0, 0)).2) && (decide ((l.getD i (0, 0)).2 < n) && (decide (i = 0) || edgeB (l.getD (i - 1) (0, 0)) (l.getD i (0, 0)))))
def pairsB (l : List (Int × Int)) (n : Int) : Bool := allUpto (pairB l n) l.length
theorem isPairs_eq (l : List (Int × Int)) (n : Int) (hl : l.length ≤ 1048576) : impl_isPairs (l, n, ()) () = some ((pairsB l n, ()), ()) := by
  have key := loop_all (B := impl_isPairs_B0) (fun i => ((l, n, l, (l.length : Int), (i : Int), ()), ())) (pairB l n) l.length (.inl ((false, ()), ())) (.inr ((), ())) (fun i hi _ => by
    obtain ⟨e, he⟩ : ∃ e : Int × Int, l.getD i (0, 0) = e := ⟨_, rfl⟩
    simp only [impl_isPairs_B0, bif_decide, if_pos (show (i : Int) < (l.length : Int) by omega), guardB_true (inb_true (Int.natCast_nonneg i) (show (i : Int) < (l.length : Int) by omega)), Int.toNat_natCast, w64_succ (show i < 4611686018427387904 by omega), pairB, he]
    by_cases h1 : e.1 < 0
    · simp [h1, show ¬ 0 ≤ e.1 by omega]
    · by_cases h2 : e.2 ≤ e.1
      · simp [h1, h2, show ¬ e.1 < e.2 by omega]
      · by_cases h3 : n ≤ e.2
        · simp [h1, h2, h3, show ¬ e.2 < n by omega]
        · by_cases h6 : i = 0
          · subst h6
            simp [h1, h2, h3, show 0 ≤ e.1 by omega, show e.1 < e.2 by omega, show e.2 < n by omega]
          · obtain ⟨r, r1, r2, _⟩ := comparePairs_eq (l.getD (i - 1) (0, 0)) e
            rw [w64_pred (by omega) (by omega), guardB_true (inb_true (Int.natCast_nonneg _) (show ((i - 1 : Nat) : Int) < (l.length : Int) by omega)), Int.toNat_natCast, r1]
            simp only [if_neg h1, if_neg h2, if_neg h3, if_pos (show (0 : Int) < (i : Int) by omega), ← bif_decide, r2]
            cases edgeB (l.getD (i - 1) (0, 0)) e <;> simp [h6, show 0 ≤ e.1 by omega, show e.1 < e.2 by omega, show e.2 < n by omega]) (by simp [impl_isPairs_B0])
  simp only [impl_isPairs]
  erw [key]
  simp only [pairsB]
  cases allUpto (pairB l n) l.length <;> rfl

def rows {α : Type} (n : Nat) (F : Nat → α) : List α := (List.range n).map F
theorem rows_len {α : Type} {n : Nat} {F : Nat → α} : (rows n F).length = n := by simp [rows]
theorem rows_get {α : Type} {n i : Nat} {F : Nat → α} (h : i < n) (d : α) : (rows n F).getD i d = F i := by simp [rows, List.getD, h]
theorem rows_set {α : Type} {n i : Nat} {F : Nat → α} (v : α) : (rows n F).set i v = rows n (fun j => if j = i then v else F j) := by
  apply List.ext_getElem
  · simp [rows]
  · intro j h1 h2
    simp only [rows, List.getElem_set, List.getElem_map, List.getElem_range]
    by_cases h : i = j
    · subst h; simp
    · rw [if_neg h, if_neg (fun e => h e.symm)]
theorem rows_congr {α : Type} {n : Nat} {F G : Nat → α} (h : ∀ j, j < n → F j = G j) : rows n F = rows n G := by
  apply List.map_congr_left
  intro j hj
  exact h j (by simpa using hj)
/-- steps: pairs of places -/
def StepsOk (S : List (Int × Int)) (n : Nat) : Prop := ∀ i, i < S.length → ∃ a b : Nat, S.getD i (0, 0) = ((a : Int), (b : Int)) ∧ a < b ∧ b < n
theorem pairsB_at {S : List (Int × Int)} {n : Nat} (h : pairsB S n = true) (i : Nat) (hi : i < S.length) : pairB S n i = true := allUpto_iff.1 h i hi
theorem pairsB_ok {S : List (Int × Int)} {n : Nat} (h : pairsB S n = true) : StepsOk S n := by
  intro i hi
  have := pairsB_at h i hi
  simp only [pairB, Bool.and_eq_true, decide_eq_true_eq] at this
  obtain ⟨h1, h2, h3, _⟩ := this
  generalize S.getD i (0, 0) = e at h1 h2 h3
  obtain ⟨a, b⟩ := e
  simp only at h1 h2 h3
  exact ⟨a.toNat, b.toNat, by rw [Int.toNat_of_nonneg h1, Int.toNat_of_nonneg (by omega)], by omega, by omega⟩
theorem steps_mem {S : List (Int × Int)} {n : Nat} (h : StepsOk S n) {e : Int × Int} (he : e ∈ S) : 0 ≤ e.1 ∧ e.1 < e.2 ∧ e.2 < n := by
  obtain ⟨i, hi, rfl⟩ := List.getElem_of_mem he
  obtain ⟨a, b, h1, h2, h3⟩ := h i hi
  rw [getD_at hi] at h1
  rw [h1]
  simp only
  omega
def iota (k : Int) (n : Nat) : List Int := rows n fun i => k + (i : Int)
theorem w64_nat {x : Int} (h0 : 0 ≤ x) (h : x ≤ 4611686018427387904) : w64 (x + 1) = x + 1 := w64_of (by omega) (by omega)
theorem markIntS_eq (l : List Int) (k : Int) (h0 : 0 ≤ k) (hk : k + (l.length : Int) ≤ 4611686018427387000) : laws_markIntS_e0v_ls (k, ()) (l, ()) = some ((k + (l.length : Int), ()), (iota k l.length, ())) := by
  have key := loop_count (B := laws_markIntS_e0v_ls_B0) (fun i => ((k + (i : Int), (i : Int), ()), (rows l.length (fun j => if j < i then k + (j : Int) else l.getD j 0), ()))) l.length ((k + (l.length : Int), ()), (rows l.length (fun j => if j < l.length then k + (j : Int) else l.getD j 0), ())) (fun i hi => by
    simp only [laws_markIntS_e0v_ls_B0, rows_len, bif_decide, if_pos (show (i : Int) < (l.length : Int) by omega), guardB_true (inb_true (Int.natCast_nonneg i) (show (i : Int) < (l.length : Int) by omega)), Int.toNat_natCast, w64_succ (show i < 4611686018427387904 by omega), w64_nat (x := k + (i : Int)) (by omega) (by omega), rows_set]
    have : rows l.length (fun j => if j = i then k + (i : Int) else if j < i then k + (j : Int) else l.getD j 0) = rows l.length (fun j => if j < i + 1 then k + (j : Int) else l.getD j 0) := rows_congr fun j _ => by
      by_cases h : j = i
      · subst h; rw [if_pos rfl, if_pos (by omega)]
      · by_cases h2 : j < i
        · rw [if_neg h, if_pos h2, if_pos (by omega)]
        · rw [if_neg h, if_neg h2, if_neg (by omega)]
    rw [this, show k + (i : Int) + 1 = k + ((i + 1 : Nat) : Int) by omega]) (by simp only [laws_markIntS_e0v_ls_B0, rows_len, bif_decide, if_neg (show ¬ (l.length : Int) < (l.length : Int) by omega)]) 0 (Nat.zero_le _)
  have z0 : rows l.length (fun j => if j < 0 then k + (j : Int) else l.getD j 0) = l := by
    rw [show rows l.length (fun j => if j < 0 then k + (j : Int) else l.getD j 0) = rows l.length (fun j => l.getD j 0) from rows_congr fun j _ => by simp]
    exact range_getD l 0
  have z1 : rows l.length (fun j => if j < l.length then k + (j : Int) else l.getD j 0) = iota k l.length := rows_congr fun j hj => by simp [hj]
  rw [z0, z1] at key
  simp only [laws_markIntS_e0v_ls]
  rw [show k + ((0 : Nat) : Int) = k by omega] at key
  erw [key]
theorem heldIntS_eq (n : Nat) (k : Int) (h0 : 0 ≤ k) (hk : k + (n : Int) ≤ 4611686018427387000) : laws_heldIntS (iota k n, k, ()) () = some ((k + (n : Int), ()), ()) := by
  have key := loop_count (B := laws_heldIntS_B0) (fun i => ((iota k n, k + (i : Int), (i : Int), ()), ())) n (.inr ((k + (n : Int), ()), ())) (fun i hi => by
    simp only [laws_heldIntS_B0, iota, rows_len, bif_decide, if_pos (show (i : Int) < (n : Int) by omega), guardB_true (inb_true (Int.natCast_nonneg i) (show (i : Int) < (n : Int) by omega)), Int.toNat_natCast, w64_succ (show i < 4611686018427387904 by omega), w64_nat (x := k + (i : Int)) (by omega) (by omega), rows_get hi]
    rw [bne_eq rfl, show k + (i : Int) + 1 = k + ((i + 1 : Nat) : Int) by omega]
    rfl) (by simp only [laws_heldIntS_B0, iota, rows_len, bif_decide, if_neg (show ¬ (n : Int) < (n : Int) by omega)]) 0 (Nat.zero_le _)
  simp only [laws_heldIntS]
  rw [show k + ((0 : Nat) : Int) = k by omega] at key
  erw [key]
theorem spec_l2Near_B0_at (a : Int) (b : Int) (g : (Int) × (List ((Int) × (Int)))) (i : Int) : spec_l2Near_B0 ((a, b, g, i, ()), ()) = bif (decide (i < (List.length g.2 : Int))) then (guardB (inb i (List.length g.2)) (bif (((List.getD g.2 (Int.toNat i) ((0 : Int), (0 : Int))).1) == a) then (bif (((List.getD g.2 (Int.toNat i) ((0 : Int), (0 : Int))).2) == b) then (some (.inr (.inl ((true, ()), ())))) else (bif (((List.getD g.2 (Int.toNat i) ((0 : Int), (0 : Int))).1) == b) then (bif (((List.getD g.2 (Int.toNat i) ((0 : Int), (0 : Int))).2) == a) then (some (.inr (.inl ((true, ()), ())))) else (some (.inl ((a, b, g, (w64 (i + (1 : Int))), ()), ())))) else (some (.inl ((a, b, g, (w64 (i + (1 : Int))), ()), ()))))) else (bif (((List.getD g.2 (Int.toNat i) ((0 : Int), (0 : Int))).1) == b) then (bif (((List.getD g.2 (Int.toNat i) ((0 : Int), (0 : Int))).2) == a) then (some (.inr (.inl ((true, ()), ())))) else (some (.inl ((a, b, g, (w64 (i + (1 : Int))), ()), ())))) else (some (.inl ((a, b, g, (w64 (i + (1 : Int))), ()), ())))))) else (some (.inr (.inr ((), ())))) := rfl
theorem slices_Index_2_int_2_int_B0_at (s : List ((Int) × (Int))) (v : (Int) × (Int)) (t7 : Int) (t8 : Int) : slices_Index_2_int_2_int_B0 ((s, v, t7, t8, ()), ()) = bif (decide (t8 < t7)) then (guardB (inb t8 (List.length s)) (bif ((v.1 == ((List.getD s (Int.toNat t8) ((0 : Int), (0 : Int))).1)) && (v.2 == ((List.getD s (Int.toNat t8) ((0 : Int), (0 : Int))).2))) then (some (.inr (.inl ((t8, ()), ())))) else (some (.inl ((s, v, t7, (w64 (t8 + (1 : Int))), ()), ()))))) else (some (.inr (.inr ((), ())))) := rfl
def hitB (e : Int × Int) (a b : Int) : Bool := (decide (e.1 = a) && decide (e.2 = b)) || (decide (e.1 = b) && decide (e.2 = a))
def nearB (S : List (Int × Int)) (a b : Int) : Bool := !allUpto (fun i => !hitB (S.getD i (0, 0)) a b) S.length
theorem nearB_iff {S : List (Int × Int)} {a b : Int} : nearB S a b = true ↔ (a, b) ∈ S ∨ (b, a) ∈ S := by
  have e : nearB S a b = true ↔ ∃ i, i < S.length ∧ hitB (S.getD i (0, 0)) a b = true := by
    simp only [nearB, Bool.not_eq_true', ← Bool.not_eq_true, allUpto_iff]
    constructor
    · intro h
      refine Classical.byContradiction fun g => h fun i hi => ?_
      cases hh : hitB (S.getD i (0, 0)) a b
      · simp
      · exact absurd ⟨i, hi, hh⟩ g
    · rintro ⟨i, hi, hh⟩ g
      have := g i hi
      rw [hh] at this; simp at this
  rw [e]
  simp only [hitB, Bool.or_eq_true, Bool.and_eq_true, decide_eq_true_eq]
  constructor
  · rintro ⟨i, hi, h⟩
    have hm := List.getElem_mem hi
    rw [getD_at hi] at h
    rcases h with ⟨h1, h2⟩ | ⟨h1, h2⟩
    · left; rw [← h1, ← h2]; exact hm
    · right; rw [← h1, ← h2]; exact hm
  · rintro (h | h)
    · obtain ⟨i, hi, he⟩ := List.getElem_of_mem h
      exact ⟨i, hi, .inl (by rw [getD_at hi, he]; exact ⟨rfl, rfl⟩)⟩
    · obtain ⟨i, hi, he⟩ := List.getElem_of_mem h
      exact ⟨i, hi, .inr (by rw [getD_at hi, he]; exact ⟨rfl, rfl⟩)⟩
theorem Near_eq (g : Int × List (Int × Int)) (a b : Int) (hl : g.2.length ≤ 1048576) : spec_l2Near (g, a, b, ()) () = some ((nearB g.2 a b, ()), ()) := by
  have key := loop_all (B := spec_l2Near_B0) (fun i => ((a, b, g, (i : Int), ()), ())) (fun i => !hitB (g.2.getD i (0, 0)) a b) g.2.length (.inl ((true, ()), ())) (.inr ((), ())) (fun i hi _ => by
    rw [spec_l2Near_B0_at]
    simp only [bif_decide, Int.toNat_natCast, hitB]
    rw [if_pos (by omega), guardB_true (by simp [inb] <;> omega), w64_succ (by omega)]
    generalize g.2.getD i (0, 0) = e
    have bd : ∀ x y : Int, (x == y) = decide (x = y) := fun x y => by
      by_cases h : x = y
      · rw [beq_eq h, decide_eq_true h]
      · rw [beq_ne h, decide_eq_false h]
    simp only [bd]
    generalize decide (e.1 = a) = p1
    generalize decide (e.2 = b) = p2
    generalize decide (e.1 = b) = p3
    generalize decide (e.2 = a) = p4
    cases p1 <;> cases p2 <;> cases p3 <;> cases p4 <;> rfl) (by rw [spec_l2Near_B0_at]; simp)
  simp only [spec_l2Near]
  erw [key]
  simp only [nearB]
  cases allUpto (fun i => !hitB (g.2.getD i (0, 0)) a b) g.2.length <;> rfl
theorem Contains_eq (S : List (Int × Int)) (v : Int × Int) (hl : S.length ≤ 1048576) : slices_Contains_2_int_2_int (S, v, ()) () = some ((decide (v ∈ S), ()), ()) := by
  have one : ∀ e : Int × Int, ((v.1 == e.1) && (v.2 == e.2)) = decide (e = v) := fun e => by
    obtain ⟨a, b⟩ := e
    obtain ⟨c, d⟩ := v
    have bd : ∀ x y : Int, (x == y) = decide (y = x) := fun x y => by
      by_cases h : x = y
      · rw [beq_eq h, decide_eq_true h.symm]
      · rw [beq_ne h, decide_eq_false (fun e => h e.symm)]
    simp only [bd, Prod.mk.injEq, Bool.decide_and]
  have key : ∀ d k, k + d = S.length → ∃ q : Int, (loopO slices_Index_2_int_2_int_B0 ((S, v, (S.length : Int), (k : Int), ()), ()) = some (.inl ((q, ()), ())) ∧ 0 ≤ q ∧ v ∈ S) ∨ (loopO slices_Index_2_int_2_int_B0 ((S, v, (S.length : Int), (k : Int), ()), ()) = some (.inr ((), ())) ∧ v ∉ S.drop k) := by
    intro d
    induction d with
    | zero =>
      intro k hk
      refine ⟨0, .inr ⟨loop_end ?_, ?_⟩⟩
      · rw [slices_Index_2_int_2_int_B0_at]
        simp only [bif_decide]
        rw [if_neg (by omega)]
      · rw [List.drop_of_length_le (by omega)]; simp
    | succ d ih =>
      intro k hk
      have hkl : k < S.length := by omega
      have st : slices_Index_2_int_2_int_B0 ((S, v, (S.length : Int), (k : Int), ()), ()) = some (if S.getD k (0, 0) = v then .inr (.inl (((k : Int), ()), ())) else .inl ((S, v, (S.length : Int), ((k + 1 : Nat) : Int), ()), ())) := by
        rw [slices_Index_2_int_2_int_B0_at]
        simp only [bif_decide, Int.toNat_natCast, one]
        rw [if_pos (by omega), guardB_true (by simp [inb] <;> omega), w64_succ (by omega)]
        by_cases h : S.getD k (0, 0) = v
        · rw [if_pos h, if_pos h]
        · rw [if_neg h, if_neg h]
      by_cases h : S.getD k (0, 0) = v
      · rw [if_pos h] at st
        refine ⟨(k : Int), .inl ⟨loop_end st, by omega, ?_⟩⟩
        rw [← h, getD_at hkl]; exact List.getElem_mem hkl
      · rw [if_neg h] at st
        obtain ⟨q, ⟨q1, q2⟩ | ⟨q1, q2⟩⟩ := ih (k + 1) (by omega)
        · exact ⟨q, .inl ⟨loop_step st q1, q2⟩⟩
        · refine ⟨q, .inr ⟨loop_step st q1, ?_⟩⟩
          rw [List.drop_eq_getElem_cons hkl, List.mem_cons]
          rintro (e | e)
          · exact h (by rw [getD_at hkl]; exact e.symm)
          · exact q2 e
  obtain ⟨q, ⟨q1, q2, q3⟩ | ⟨q1, q2⟩⟩ := key S.length 0 (by omega)
  · simp only [slices_Contains_2_int_2_int, slices_Index_2_int_2_int]
    erw [q1]
    simp only
    rw [decide_eq_true q2, decide_eq_true q3]
  · rw [List.drop_zero] at q2
    simp only [slices_Contains_2_int_2_int, slices_Index_2_int_2_int]
    erw [q1]
    simp only
    rw [decide_eq_false (show ¬ (0 : Int) ≤ -1 by omega), decide_eq_false q2]

theorem impl_Graph_neighbors_B0_at (x : Int) (g : (Int) × (List ((Int) × (Int)))) (out : List (Int)) (t9 : Int) (t10 : Int) : impl_Graph_neighbors_B0 ((x, g, out, t9, t10, ()), ()) = bif (decide (t10 < t9)) then (bif (t10 != x) then (match impl_Graph_has (g, x, t10, ()) () with | some ((r, ()), ()) => (bif r then (guardB (decide ((List.length out + List.length [t10]) * 8 ≤ 70368744177664)) (some (.inl ((x, g, (out ++ [t10]), t9, (w64 (t10 + (1 : Int))), ()), ())))) else (some (.inl ((x, g, out, t9, (w64 (t10 + (1 : Int))), ()), ())))) | none => none) else (some (.inl ((x, g, out, t9, (w64 (t10 + (1 : Int))), ()), ())))) else (some (.inr ((out, ()), ()))) := rfl
theorem has_eq (g : Int × List (Int × Int)) {n : Nat} (hp : pairsB g.2 n = true) (a b : Int) (hl : g.2.length ≤ 1048576) : impl_Graph_has (g, a, b, ()) () = some ((nearB g.2 a b, ()), ()) := by
  have hS := pairsB_ok hp
  have e : decide (((if b < a then b else a), (if a < b then b else a)) ∈ g.2) = nearB g.2 a b := by
    rw [Bool.eq_iff_iff, decide_eq_true_iff, nearB_iff]
    by_cases h1 : a < b
    · rw [if_neg (by omega), if_pos h1]
      exact ⟨.inl, fun h => h.elim id fun h => by have := steps_mem hS h; simp only at this; omega⟩
    · by_cases h2 : b < a
      · rw [if_pos h2, if_neg h1]
        exact ⟨.inr, fun h => h.elim (fun h => by have := steps_mem hS h; simp only at this; omega) id⟩
      · rw [if_neg h2, if_neg h1]
        have : a = b := by omega
        subst this
        exact ⟨.inl, fun h => h.elim id id⟩
  simp only [impl_Graph_has, impl_pair, bif_decide, Contains_eq g.2 _ hl]
  simp only [e]
def nbB (S : List (Int × Int)) (x : Nat) (y : Nat) : Bool := !decide (y = x) && nearB S (x : Int) (y : Int)
def nbs (S : List (Int × Int)) (n x : Nat) : List Int := ((List.range n).filter fun y => nbB S x y).map fun (i : Nat) => (i : Int)
theorem nbs_snoc (S : List (Int × Int)) (n x : Nat) : nbs S (n + 1) x = nbs S n x ++ (if nbB S x n then [(n : Int)] else []) := by
  unfold nbs
  rw [List.range_succ, List.filter_append, List.map_append]
  cases h : nbB S x n
  · simp only [List.filter_cons, h, Bool.false_eq_true, if_false, List.filter_nil, List.map_nil]
  · simp only [List.filter_cons, h, if_true, List.filter_nil, List.map_cons, List.map_nil]
theorem nbs_len (S : List (Int × Int)) (n x : Nat) : (nbs S n x).length ≤ n := by
  unfold nbs; rw [List.length_map]; exact Nat.le_trans (List.length_filter_le _ _) (by simp)
theorem nbs_mem {S : List (Int × Int)} {n x : Nat} {y : Nat} : (y : Int) ∈ nbs S n x ↔ y < n ∧ nbB S x y = true := by
  simp only [nbs, List.mem_map, List.mem_filter, List.mem_range]
  constructor
  · rintro ⟨k, ⟨h1, h2⟩, h3⟩
    have : k = y := by omega
    subst this; exact ⟨h1, h2⟩
  · rintro ⟨h1, h2⟩; exact ⟨y, ⟨h1, h2⟩, rfl⟩
theorem neighbors_eq (g : Int × List (Int × Int)) {n : Nat} (hg : g.1 = n) (hn : n ≤ 8) (hp : pairsB g.2 n = true) (x : Nat) (hl : g.2.length ≤ 1048576) : impl_Graph_neighbors (g, (x : Int), ()) () = some ((nbs g.2 n x, ()), ()) := by
  have key := loop_count (B := impl_Graph_neighbors_B0) (fun i => (((x : Int), g, nbs g.2 i x, (n : Int), (i : Int), ()), ())) n ((nbs g.2 n x, ()), ()) (fun i hi => by
    have hle := nbs_len g.2 i x
    rw [impl_Graph_neighbors_B0_at]
    simp only [bif_decide, has_eq g hp _ _ hl, nbs_snoc]
    rw [if_pos (by omega), w64_succ (by omega)]
    by_cases h : i = x
    · have hb : nbB g.2 x i = false := by simp [nbB, h]
      rw [bne_eq (show (i : Int) = (x : Int) by omega)]
      simp only [hb, cond_false, Bool.false_eq_true, if_false, List.append_nil]
    · rw [bne_ne (show ¬ (i : Int) = (x : Int) by omega)]
      cases h2 : nearB g.2 (x : Int) (i : Int)
      · have hb : nbB g.2 x i = false := by simp [nbB, h2]
        simp only [hb, cond_true, cond_false, Bool.false_eq_true, if_false, List.append_nil]
      · have hb : nbB g.2 x i = true := by simp [nbB, h, h2]
        simp only [hb, cond_true, if_true]
        rw [guardB_true (by simp only [List.length_singleton, decide_eq_true_eq]; omega)]) (by rw [impl_Graph_neighbors_B0_at]; simp) 0 (Nat.zero_le _)
  simp only [impl_Graph_neighbors, hg]
  erw [key]
open Classical in
theorem nearB_symm (S : List (Int × Int)) (a b : Int) : nearB S a b = nearB S b a := by
  rw [Bool.eq_iff_iff, nearB_iff, nearB_iff]
  exact ⟨fun h => h.elim .inr .inl, fun h => h.elim .inr .inl⟩
open Classical in
open Classical in
open Classical in
def goodG (g : Int × List (Int × Int)) : Bool := inR g.1 0 8 && pairsB g.2 g.1
theorem IsGraph_eq (g : Int × List (Int × Int)) (hl : g.2.length ≤ 1048576) : impl_IsGraph (g, ()) () = some ((goodG g, ()), ()) := by
  simp only [impl_IsGraph, between_eq _ _ _, goodG]
  cases h : inR g.1 0 8
  · rfl
  · simp only [cond_true, isPairs_eq g.2 g.1 hl, Bool.true_and]
def fitB (T : List (Int × Int)) (lazy : Bool) (a b : Int) : Bool := nearB T a b || (lazy && decide (a = b))
theorem fitB_symm (T : List (Int × Int)) (lazy : Bool) (a b : Int) : fitB T lazy a b = fitB T lazy b a := by
  simp only [fitB, nearB_symm T a b]
  by_cases h : a = b
  · subst h; rfl
  · rw [decide_eq_false h, decide_eq_false (fun e => h e.symm)]
theorem Fits_eq (h : Int × List (Int × Int)) (a b : Int) (lazy : Bool) (hl : h.2.length ≤ 1048576) : spec_l10Fits (h, a, b, lazy, ()) () = some ((fitB h.2 lazy a b, ()), ()) := by
  simp only [spec_l10Fits, Near_eq h a b hl, fitB]
  cases nearB h.2 a b
  · cases lazy
    · rfl
    · by_cases e : a = b
      · simp only [cond_false, cond_true, Bool.false_or, Bool.true_and, beq_eq e, decide_eq_true e]
      · simp only [cond_false, cond_true, Bool.false_or, Bool.true_and, beq_ne e, decide_eq_false e]
  · rfl
def okOne (S T : List (Int × Int)) (lazy : Bool) (l : List Int) (x : Nat) (v : Int) (k : Nat) : Bool := !nearB S (k : Int) (x : Int) || fitB T lazy (l.getD k 0) v
def allFrom (good : Nat → Bool) : Nat → Nat → Bool
  | _, 0 => true
  | k, d + 1 => good k && allFrom good (k + 1) d
theorem allFrom_iff {good : Nat → Bool} : ∀ {d k : Nat}, allFrom good k d = true ↔ ∀ j, k ≤ j → j < k + d → good j = true
  | 0, k => by simp [allFrom]; omega
  | d + 1, k => by
    simp only [allFrom, Bool.and_eq_true, allFrom_iff]
    constructor
    · rintro ⟨h1, h2⟩ j hj hj'
      rcases Nat.lt_or_ge k j with h | h
      · exact h2 j (by omega) (by omega)
      · rw [show j = k by omega]; exact h1
    · intro h
      exact ⟨h k (Nat.le_refl _) (by omega), fun j hj hj' => h j (by omega) (by omega)⟩
theorem own_small (l : List Int) (hl : l.length ≤ 1048576) : spec_l1Own (l, ()) () = some ((l, ()), ()) := by
  simp only [spec_l1Own, List.nil_append]
  rw [guardB_true (by simp only [List.length_nil, decide_eq_true_eq]; omega)]
theorem slices_IndexFunc_int_int_vf_impl_maps_1_1_01234__bsbsbsb1bs_B0_at (s : List (Int)) (t7 : Int) (t8 : Int) (o0 : Int) (o1 : (Int) × (List ((Int) × (Int)))) (o2 : Int) (o3 : List (Int)) (o4 : Bool) : slices_IndexFunc_int_int_vf_impl_maps_1_1_01234__bsbsbsb1bs_B0 ((s, t7, t8, ()), (o0, o1, o2, o3, o4, ())) = bif (decide (t8 < t7)) then (guardB (inb t8 (List.length s)) (match impl_maps_1_1_vccccc ((List.getD s (Int.toNat t8) (0 : Int)), o0, o1, o2, o3, o4, ()) () with | some ((r, ()), ()) => (bif r then (some (.inr (.inl ((t8, ()), (o0, o1, o2, o3, o4, ()))))) else (some (.inl ((s, t7, (w64 (t8 + (1 : Int))), ()), (o0, o1, o2, o3, o4, ()))))) | none => none)) else (some (.inr (.inr ((), (o0, o1, o2, o3, o4, ()))))) := rfl
def badZ (T : List (Int × Int)) (lazy : Bool) (L : List Int) (x y z : Int) : Bool := decide (z < x) && !fitB T lazy y (L.getD z.toNat 0)
theorem isFit_eq (h : Int × List (Int × Int)) {m : Nat} (hp : pairsB h.2 m = true) (a b : Int) (lazy : Bool) (hl : h.2.length ≤ 1048576) : impl_Graph_isFit (h, a, b, lazy, ()) () = some ((fitB h.2 lazy a b, ()), ()) := by
  simp only [impl_Graph_isFit, has_eq h hp a b hl, fitB]
  cases nearB h.2 a b
  · cases lazy
    · rfl
    · by_cases e : a = b
      · simp only [cond_false, cond_true, Bool.false_or, Bool.true_and, beq_eq e, decide_eq_true e]
      · simp only [cond_false, cond_true, Bool.false_or, Bool.true_and, beq_ne e, decide_eq_false e]
  · rfl
theorem wrong_one (h : Int × List (Int × Int)) {m : Nat} (hp : pairsB h.2 m = true) (lazy : Bool) (L : List Int) (x y z : Int) (hl : h.2.length ≤ 1048576) (hz : 0 ≤ z) (hL : z < x → z < L.length) : impl_maps_1_1_vccccc (z, x, h, y, L, lazy, ()) () = some ((badZ h.2 lazy L x y z, ()), ()) := by
  simp only [impl_maps_1_1_vccccc, bif_decide, badZ]
  by_cases e : z < x
  · rw [if_pos e, guardB_true (inb_true hz (hL e)), isFit_eq h hp _ _ lazy hl, decide_eq_true e]
    simp only [Bool.true_and]
  · rw [if_neg e, decide_eq_false e]
    rfl
theorem wrong_idx (h : Int × List (Int × Int)) {m : Nat} (hp : pairsB h.2 m = true) (lazy : Bool) (L s : List Int) (x y : Int) (hl : h.2.length ≤ 1048576) (hs : s.length ≤ 1048576) (hz : ∀ z ∈ s, 0 ≤ z ∧ (z < x → z < L.length)) : ∀ d k, k + d = s.length →
    ∃ q : Int, 0 ≤ q ∧ loopO slices_IndexFunc_int_int_vf_impl_maps_1_1_01234__bsbsbsb1bs_B0 ((s, (s.length : Int), (k : Int), ()), (x, h, y, L, lazy, ())) = some (bif (s.drop k).any (badZ h.2 lazy L x y) then .inl ((q, ()), (x, h, y, L, lazy, ())) else .inr ((), (x, h, y, L, lazy, ()))) := by
  intro d
  induction d with
  | zero =>
    intro k hk
    refine ⟨0, by omega, loop_end ?_⟩
    rw [slices_IndexFunc_int_int_vf_impl_maps_1_1_01234__bsbsbsb1bs_B0_at, List.drop_of_length_le (by omega)]
    simp only [bif_decide, List.any_nil, cond_false]
    rw [if_neg (by omega)]
  | succ d ih =>
    intro k hk
    have hkl : k < s.length := by omega
    have hm := hz _ (List.getElem_mem hkl)
    rw [← getD_at hkl 0] at hm
    have st : slices_IndexFunc_int_int_vf_impl_maps_1_1_01234__bsbsbsb1bs_B0 ((s, (s.length : Int), (k : Int), ()), (x, h, y, L, lazy, ())) = some (bif badZ h.2 lazy L x y (s.getD k 0) then .inr (.inl (((k : Int), ()), (x, h, y, L, lazy, ()))) else .inl ((s, (s.length : Int), ((k + 1 : Nat) : Int), ()), (x, h, y, L, lazy, ()))) := by
      rw [slices_IndexFunc_int_int_vf_impl_maps_1_1_01234__bsbsbsb1bs_B0_at]
      simp only [bif_decide, Int.toNat_natCast]
      rw [if_pos (by omega), guardB_true (by simp [inb] <;> omega), wrong_one h hp lazy L x y _ hl hm.1 hm.2, w64_succ (by omega)]
      cases badZ h.2 lazy L x y (s.getD k 0) <;> rfl
    rw [List.drop_eq_getElem_cons hkl, List.any_cons, ← getD_at hkl 0]
    cases hb : badZ h.2 lazy L x y (s.getD k 0)
    · rw [hb] at st
      rw [Bool.false_or]
      obtain ⟨q, q0, q1⟩ := ih (k + 1) (by omega)
      exact ⟨q, q0, loop_step st q1⟩
    · rw [hb] at st
      exact ⟨(k : Int), by omega, loop_end st⟩
theorem wrong_eq (h : Int × List (Int × Int)) {m : Nat} (hp : pairsB h.2 m = true) (lazy : Bool) (L s : List Int) (x y : Int) (hl : h.2.length ≤ 1048576) (hs : s.length ≤ 1048576) (hz : ∀ z ∈ s, 0 ≤ z ∧ (z < x → z < L.length)) :
    slices_ContainsFunc_int_int_vf_impl_maps_1_1_01234__bsbsbsb1bs (s, ()) (x, h, y, L, lazy, ()) = some ((s.any (badZ h.2 lazy L x y), ()), (x, h, y, L, lazy, ())) := by
  obtain ⟨q, q0, q1⟩ := wrong_idx h hp lazy L s x y hl hs hz s.length 0 (by omega)
  rw [List.drop_zero] at q1
  simp only [slices_ContainsFunc_int_int_vf_impl_maps_1_1_01234__bsbsbsb1bs, slices_IndexFunc_int_int_vf_impl_maps_1_1_01234__bsbsbsb1bs]
  erw [q1]
  cases s.any (badZ h.2 lazy L x y)
  · simp only [cond_false]
    rw [decide_eq_false (by omega)]
  · simp only [cond_true]
    rw [decide_eq_true q0]
theorem wrong_ok (S T : List (Int × Int)) (lazy : Bool) {n x : Nat} (L : List Int) (hL : L.length = n) (hx : x < n) (v : Int) : (nbs S n x).any (badZ T lazy (L.set x v) (x : Int) v) = !allFrom (okOne S T lazy (L.take x) x v) 0 x := by
  rw [Bool.eq_iff_iff, Bool.not_eq_true', ← Bool.not_eq_true, allFrom_iff, List.any_eq_true]
  have gd : ∀ k, k < x → (L.set x v).getD k 0 = (L.take x).getD k 0 := fun k hk => by
    rw [getD_at (by rw [List.length_set]; omega), getD_at (by rw [List.length_take]; omega), List.getElem_set_ne (by omega), List.getElem_take]
  constructor
  · rintro ⟨z, hz, hb⟩ h
    obtain ⟨y, hy, e⟩ : ∃ y : Nat, (y : Int) ∈ nbs S n x ∧ z = y := by
      simp only [nbs, List.mem_map] at hz
      obtain ⟨k, hk, e⟩ := hz
      exact ⟨k, by simp only [nbs, List.mem_map]; exact ⟨k, hk, rfl⟩, e.symm⟩
    subst e
    obtain ⟨h1, h2⟩ := nbs_mem.1 hy
    simp only [badZ, Bool.and_eq_true, decide_eq_true_eq, Bool.not_eq_true', Int.toNat_natCast] at hb
    have hyx : y < x := by omega
    have := h y (by omega) (by omega)
    simp only [nbB, Bool.and_eq_true] at h2
    simp only [okOne, nearB_symm S (y : Int) (x : Int), h2.2, Bool.not_true, Bool.false_or] at this
    rw [gd y hyx, fitB_symm, this] at hb
    cases hb.2
  · intro h
    refine Classical.byContradiction fun g => h fun k _ hk => ?_
    have hk : k < x := by omega
    simp only [okOne]
    cases hn : nearB S (k : Int) (x : Int)
    · rfl
    · simp only [Bool.not_true, Bool.false_or]
      cases hf : fitB T lazy ((L.take x).getD k 0) v
      · refine absurd ⟨(k : Int), nbs_mem.2 ⟨by omega, ?_⟩, ?_⟩ g
        · simp only [nbB, Bool.and_eq_true, Bool.not_eq_true', decide_eq_false_iff_not]
          exact ⟨by omega, by rw [nearB_symm]; exact hn⟩
        · simp only [badZ, Bool.and_eq_true, decide_eq_true_eq, Bool.not_eq_true', Int.toNat_natCast]
          exact ⟨by omega, by rw [gd k hk, fitB_symm]; exact hf⟩
      · rfl

def caseB (g h : Int × List (Int × Int)) : Bool := goodG g && (goodG h && decide (g.1 ≤ 6))
theorem Case_eq (g h : Int × List (Int × Int)) (hg : g.2.length ≤ 1048576) (hh : h.2.length ≤ 1048576) : impl_isMapCase (g, h, ()) () = some ((caseB g h, ()), ()) := by
  simp only [impl_isMapCase, IsGraph_eq g hg, IsGraph_eq h hh, caseB]
  cases goodG g <;> cases goodG h <;> rfl
theorem good_nat {g : Int × List (Int × Int)} (h : goodG g = true) : ∃ n : Nat, g.1 = n ∧ n ≤ 8 ∧ pairsB g.2 n = true := by
  simp only [goodG, Bool.and_eq_true, inR, decide_eq_true_eq] at h
  obtain ⟨n, hn⟩ : ∃ n : Nat, g.1 = n := ⟨g.1.toNat, by omega⟩
  exact ⟨n, hn, by omega, by rw [← hn]; exact h.2⟩
theorem spec_l10All_D0_at (rc : argP spec_l10All_a → obP (extObs 0 spec_l10All_o) → Option spec_l10All_E.P) (t2 : Bool) (t3 : List (Int)) (t4 : Int) (t5 : (Int) × (List ((Int) × (Int)))) (t6 : (Int) × (List ((Int) × (Int)))) (t11 : Int) (t12 : List (List (Int))) (t13 : Int) (t62 : (Int) × (List ((Int) × (Int)))) (t63 : (Int) × (List ((Int) × (Int)))) (t64 : Bool) (t65 : List (Int)) (t67 : Int) (t73 : Int) : spec_l10All_D0 rc ((t2, t3, t4, t5, t6, t11, t12, t13, t62, t63, t64, t65, t67, t73, ()), ()) = match spec_l1Own (t65, ()) () with | some ((r, ()), ()) => guardB (decide ((List.length r + List.length [t67]) * 8 ≤ 70368744177664)) (match rc (t62, t63, t64, (r ++ [t67]), t73, ()) () with | some ((r2, ()), ()) => guardB (decide ((List.length t12 + List.length r2) * 24 ≤ 70368744177664)) (some ((t2, t3, t4, t5, t6, t11, (t12 ++ r2), t13, ()), ())) | none => none) | none => none := rfl
theorem spec_l10All_B0_at (rc : argP spec_l10All_a → obP (extObs 0 spec_l10All_o) → Option spec_l10All_E.P) (t2 : Bool) (t3 : List (Int)) (t4 : Int) (t5 : (Int) × (List ((Int) × (Int)))) (t6 : (Int) × (List ((Int) × (Int)))) (t11 : Int) (t12 : List (List (Int))) (t13 : Int) (t14 : Bool) (t15 : Int) : spec_l10All_B0 rc ((t2, t3, t4, t5, t6, t11, t12, t13, t14, t15, ()), ()) = bif (decide (t15 < t11)) then (bif t14 then (match spec_l2Near (t5, t15, t11, ()) () with | some ((r, ()), ()) => (bif (!r) then (some (.inl ((t2, t3, t4, t5, t6, t11, t12, t13, true, (w64 (t15 + (1 : Int))), ()), ()))) else (guardB (inb t15 (List.length t3)) (match spec_l10Fits (t6, (List.getD t3 (Int.toNat t15) (0 : Int)), t13, t2, ()) () with | some ((r2, ()), ()) => some (.inl ((t2, t3, t4, t5, t6, t11, t12, t13, r2, (w64 (t15 + (1 : Int))), ()), ())) | none => none))) | none => none) else (some (.inr ((t2, t3, t4, t5, t6, t11, t12, t13, t14, ()), ())))) else (some (.inr ((t2, t3, t4, t5, t6, t11, t12, t13, t14, ()), ()))) := rfl
theorem spec_l10All_B1_at (rc : argP spec_l10All_a → obP (extObs 0 spec_l10All_o) → Option spec_l10All_E.P) (t2 : Bool) (t3 : List (Int)) (t4 : Int) (t5 : (Int) × (List ((Int) × (Int)))) (t6 : (Int) × (List ((Int) × (Int)))) (t11 : Int) (t12 : List (List (Int))) (t13 : Int) : spec_l10All_B1 rc ((t2, t3, t4, t5, t6, t11, t12, t13, ()), ()) = bif (decide (t13 < t6.1)) then (bif (decide ((List.length t12 : Int) ≤ t4)) then (match loopO (spec_l10All_B0 rc) ((t2, t3, t4, t5, t6, t11, t12, t13, true, (0 : Int), ()), ()) with | some ((t2_2, t3_2, t4_2, t5_2, t6_2, t11_2, t12_2, t13_2, t14, ()), ()) => (bif t14 then (match (spec_l10All_D0 rc) ((t2_2, t3_2, t4_2, t5_2, t6_2, t11_2, t12_2, t13_2, t5_2, t6_2, t2_2, t3_2, t13_2, (w64 (t4_2 - (List.length t12_2 : Int))), ()), ()) with | some ((t2_3, t3_3, t4_3, t5_3, t6_3, t11_3, t12_3, t13_3, ()), ()) => some (.inl ((t2_3, t3_3, t4_3, t5_3, t6_3, t11_3, t12_3, (w64 (t13_3 + (1 : Int))), ()), ())) | none => none) else (some (.inl ((t2_2, t3_2, t4_2, t5_2, t6_2, t11_2, t12_2, (w64 (t13_2 + (1 : Int))), ()), ())))) | none => none) else (some (.inr ((t12, ()), ())))) else (some (.inr ((t12, ()), ()))) := rfl
def flatFrom (f : Nat → List (List Int)) : Nat → Nat → List (List Int)
  | _, 0 => []
  | k, d + 1 => f k ++ flatFrom f (k + 1) d
def full (S T : List (Int × Int)) (lazy : Bool) (m : Nat) : Nat → List Int → List (List Int)
  | 0, l => [l]
  | d + 1, l => flatFrom (fun v => if allFrom (okOne S T lazy l l.length (v : Int)) 0 l.length then full S T lazy m d (l ++ [(v : Int)]) else []) 0 m
theorem flatFrom_mem {f : Nat → List (List Int)} {a : List Int} : ∀ {d k : Nat}, a ∈ flatFrom f k d → ∃ v, k ≤ v ∧ v < k + d ∧ a ∈ f v
  | 0, k, h => by simp [flatFrom] at h
  | d + 1, k, h => by
    simp only [flatFrom, List.mem_append] at h
    rcases h with h | h
    · exact ⟨k, Nat.le_refl _, by omega, h⟩
    · obtain ⟨v, h1, h2, h3⟩ := flatFrom_mem h
      exact ⟨v, by omega, by omega, h3⟩
theorem full_mem (S T : List (Int × Int)) (lazy : Bool) {m : Nat} : ∀ (d : Nat) (l a : List Int), a ∈ full S T lazy m d l → a.length = l.length + d ∧ a.take l.length = l ∧ ∀ v ∈ a.drop l.length, 0 ≤ v ∧ v < m
  | 0, l, a, h => by
    simp only [full, List.mem_singleton] at h
    subst h
    simp
  | d + 1, l, a, h => by
    simp only [full] at h
    obtain ⟨v, h1, h2, h3⟩ := flatFrom_mem h
    split at h3
    · obtain ⟨q1, q2, q3⟩ := full_mem S T lazy d _ a h3
      simp only [List.length_append, List.length_singleton] at q1 q2 q3
      have ht : a.take l.length = l := by
        have := congrArg (List.take l.length) q2
        rwa [List.take_take, Nat.min_eq_left (by omega), List.take_append_of_le_length (Nat.le_refl _), List.take_length] at this
      refine ⟨by omega, ht, fun u hu => ?_⟩
      have hlt : l.length < a.length := by omega
      have e : a[l.length] = (v : Int) := by
        have := congrArg (fun b : List Int => b[l.length]?) q2
        simp only [List.getElem?_take_of_lt (show l.length < l.length + 1 by omega), List.getElem?_append_right (Nat.le_refl _), Nat.sub_self, List.getElem?_cons_zero, List.getElem?_eq_getElem hlt, Option.some.injEq] at this
        exact this
      rw [List.drop_eq_getElem_cons hlt, List.mem_cons] at hu
      rcases hu with hu | hu
      · rw [hu, e]; omega
      · exact q3 u hu
    · simp at h3
/-- one list after the other, till one says no -/
def runAll {σ : Type} (st : σ → List Int → Bool × σ) : σ → List (List Int) → Bool × σ
  | s, [] => (true, s)
  | s, a :: l => bif (st s a).1 then runAll st (st s a).2 l else (false, (st s a).2)
theorem runAll_append {σ : Type} (st : σ → List Int → Bool × σ) : ∀ (l k : List (List Int)) (s : σ), runAll st s (l ++ k) = bif (runAll st s l).1 then runAll st (runAll st s l).2 k else (false, (runAll st s l).2)
  | [], k, s => rfl
  | a :: l, k, s => by
    simp only [List.cons_append, runAll]
    cases (st s a).1
    · rfl
    · exact runAll_append st l k _
theorem take_app {α : Type} (A B : List α) (n : Nat) (h : A.length ≤ n) : A ++ B.take (n - A.length) = (A ++ B).take n := by
  rw [List.take_append, List.take_of_length_le h]
theorem all_fits (rc) (g h : Int × List (Int × Int)) (lazy : Bool) (l : List Int) (hg : g.2.length ≤ 1048576) (hh : h.2.length ≤ 1048576) (hl : l.length ≤ 8) (most v : Int) (out : List (List Int)) : ∀ d k, k + d = l.length →
    loopO (spec_l10All_B0 rc) ((lazy, l, most, g, h, (l.length : Int), out, v, true, (k : Int), ()), ()) = some ((lazy, l, most, g, h, (l.length : Int), out, v, allFrom (okOne g.2 h.2 lazy l l.length v) k d, ()), ()) := by
  intro d
  induction d with
  | zero =>
    intro k hk
    refine loop_end ?_
    rw [spec_l10All_B0_at]
    simp only [bif_decide, allFrom]
    rw [if_neg (by omega)]
  | succ d ih =>
    intro k hk
    have st : spec_l10All_B0 rc ((lazy, l, most, g, h, (l.length : Int), out, v, true, (k : Int), ()), ()) = some (.inl ((lazy, l, most, g, h, (l.length : Int), out, v, okOne g.2 h.2 lazy l l.length v k, ((k + 1 : Nat) : Int), ()), ())) := by
      rw [spec_l10All_B0_at]
      simp only [bif_decide, Near_eq g _ _ hg, Fits_eq h _ _ lazy hh, okOne, Int.toNat_natCast]
      rw [if_pos (by omega), w64_succ (by omega)]
      cases nearB g.2 (k : Int) (l.length : Int)
      · rfl
      · simp only [cond_true, Bool.not_true, cond_false, Bool.false_or]
        rw [guardB_true (by simp [inb] <;> omega)]
    simp only [allFrom]
    cases ho : okOne g.2 h.2 lazy l l.length v k
    · rw [ho] at st
      refine loop_step st (loop_end ?_)
      rw [spec_l10All_B0_at]
      simp only [bif_decide, cond_false, Bool.false_and]
      split <;> rfl
    · rw [ho] at st
      rw [Bool.true_and]
      exact loop_step st (ih (k + 1) (by omega))
theorem all_run (g h : Int × List (Int × Int)) (lazy : Bool) {n m : Nat} (hg1 : g.1 = n) (hn : n ≤ 6) (hh1 : h.1 = m) (hm : m ≤ 8) (hg : g.2.length ≤ 1048576) (hh : h.2.length ≤ 1048576) : ∀ (d f most : Nat) (l : List Int), l.length + d = n → d < f → most ≤ 1000000 →
    fuelF spec_l10All_F f (g, h, lazy, l, (most : Int), ()) () = some (((full g.2 h.2 lazy m d l).take (most + 1), ()), ())
  | d, 0, most, l, _, hf, _ => by omega
  | 0, f + 1, most, l, hl, _, _ => by
    simp only [fuelF, spec_l10All_F, full]
    rw [beq_eq (by omega), List.take_of_length_le (by simp)]
    rfl
  | d + 1, f + 1, most, l, hl, hf, hmo => by
    simp only [fuelF, spec_l10All_F]
    rw [beq_ne (by omega)]
    simp only [cond_false]
    generalize hF : (fun v : Nat => if allFrom (okOne g.2 h.2 lazy l l.length (v : Int)) 0 l.length then full g.2 h.2 lazy m d (l ++ [(v : Int)]) else []) = F
    have key : ∀ e v : Nat, ∀ A : List (List Int), v + e = m → loopO (spec_l10All_B1 (fuelF spec_l10All_F f)) ((lazy, l, (most : Int), g, h, (l.length : Int), A.take (most + 1), (v : Int), ()), ()) = some (((A ++ flatFrom F v e).take (most + 1), ()), ()) := by
      intro e
      induction e with
      | zero =>
        intro v A hv
        refine loop_end ?_
        rw [spec_l10All_B1_at]
        simp only [bif_decide, hh1, flatFrom, List.append_nil]
        rw [if_neg (by omega)]
      | succ e ih =>
        intro v A hv
        by_cases hA : A.length ≤ most
        · have nx := ih (v + 1) (A ++ F v) (by omega)
          rw [List.append_assoc] at nx
          simp only [flatFrom]
          refine loop_step ?_ nx
          have hAt : A.take (most + 1) = A := List.take_of_length_le (by omega)
          have hfl := all_fits (fuelF spec_l10All_F f) g h lazy l hg hh (by omega) (most : Int) (v : Int) A l.length 0 (by omega)
          rw [hAt, spec_l10All_B1_at]
          simp only [bif_decide, hh1]
          rw [if_pos (by omega), if_pos (by omega)]
          erw [hfl]
          rw [← hF]
          simp only
          cases ha : allFrom (okOne g.2 h.2 lazy l l.length (v : Int)) 0 l.length
          · simp only [cond_false, Bool.false_eq_true, if_false, List.append_nil, hAt, w64_succ (show v < 4611686018427387904 by omega)]
          · have hr := all_run g h lazy hg1 hn hh1 hm hg hh d f (most - A.length) (l ++ [(v : Int)]) (by simp; omega) (by omega) (by omega)
            rw [show ((most - A.length : Nat) : Int) = (most : Int) - (A.length : Int) by omega, show most - A.length + 1 = most + 1 - A.length by omega] at hr
            have hle : ((full g.2 h.2 lazy m d (l ++ [(v : Int)])).take (most + 1 - A.length)).length ≤ 1000001 := by rw [List.length_take]; omega
            simp only [cond_true, if_true]
            rw [spec_l10All_D0_at, own_small l (by omega)]
            simp only
            rw [w64_of (by omega) (by omega), guardB_true (by simp only [List.length_singleton, decide_eq_true_eq]; omega), hr]
            simp only
            rw [guardB_true (by simp only [decide_eq_true_eq]; omega)]
            simp only [w64_succ (show v < 4611686018427387904 by omega), take_app A _ (most + 1) (by omega)]
        · refine loop_end ?_
          have hlen : (A.take (most + 1)).length = most + 1 := by rw [List.length_take]; omega
          rw [spec_l10All_B1_at]
          simp only [bif_decide, hh1, hlen]
          rw [if_pos (by omega), if_neg (by omega), List.take_append_of_le_length (by omega)]
    have k0 := key m 0 [] (by omega)
    simp only [List.take_nil, List.nil_append] at k0
    erw [k0]
    simp only [full]
    rw [hF]

theorem Few.nil : Few (([] : List (List Int)), ([] : List (Int × Int))) := ⟨by simp, by simp, by simp⟩
def ham : List Int → List Int → Nat
  | x :: xs, y :: ys => (if x = y then 0 else 1) + ham xs ys
  | _, _ => 0
theorem ham_zero : ∀ {a b : List Int}, a.length = b.length → (ham a b = 0 ↔ a = b)
  | [], [], _ => ⟨fun _ => rfl, fun _ => rfl⟩
  | x :: xs, y :: ys, h => by
    have ih := ham_zero (a := xs) (b := ys) (by simpa using h)
    simp only [ham, List.cons.injEq]
    by_cases c : x = y
    · rw [if_pos c]
      constructor
      · intro h; exact ⟨c, ih.1 (by omega)⟩
      · rintro ⟨_, h⟩; have := ih.2 h; omega
    · rw [if_neg c]
      constructor
      · intro h; omega
      · rintro ⟨h, _⟩; exact (c h).elim
def cnt1 (a : List Int) (L : List (List Int)) : Nat := L.countP fun q => decide (ham a q = 1)
def edges : List (List Int) → Nat
  | [] => 0
  | a :: L => cnt1 a L + edges L
def sub (v : Int) : List (List Int) → List (List Int)
  | [] => []
  | (x :: t) :: L => if x = v then t :: sub v L else sub v L
  | [] :: L => sub v L
def both : List (List Int) → List (List Int) → Nat
  | [], _ => 0
  | a :: A, B => B.count a + both A B
theorem both_nil : ∀ A, both A [] = 0
  | [] => rfl
  | a :: A => by simp only [both, both_nil A, List.count_nil]
theorem both_cons (t : List Int) : ∀ (A B : List (List Int)), both A (t :: B) = A.count t + both A B
  | [], B => by simp [both]
  | a :: A, B => by
    simp only [both, both_cons t A B, List.count_cons]
    by_cases c : a = t
    · subst c; simp; omega
    · have h1 : (t == a) = false := by simp; exact fun e => c e.symm
      have h2 : (a == t) = false := by simp; exact c
      simp only [h1, h2]
      simp; omega
theorem both_le : ∀ (A B : List (List Int)), B.Nodup → both A B ≤ A.length
  | [], _, _ => Nat.le_refl _
  | a :: A, B, h => by
    have := both_le A B h
    have := h.count (a := a)
    simp only [both, List.length_cons]
    split at this <;> omega
theorem both_comm : ∀ (A B : List (List Int)), both A B = both B A
  | [], B => by rw [both_nil]; rfl
  | a :: A, B => by rw [both_cons, both, both_comm A B]
structure Vec (d : Nat) (L : List (List Int)) : Prop where
  nodup : L.Nodup
  len : ∀ r ∈ L, r.length = d
  dom : ∀ r ∈ L, ∀ v ∈ r, 0 ≤ v ∧ v < 8
theorem sub_mem {v : Int} {t : List Int} : ∀ {L : List (List Int)}, t ∈ sub v L ↔ (v :: t) ∈ L
  | [] => by simp [sub]
  | [] :: L => by simp only [sub, sub_mem (L := L), List.mem_cons]; simp
  | (x :: s) :: L => by
    simp only [sub]
    by_cases c : x = v
    · rw [if_pos c, List.mem_cons, sub_mem (L := L), List.mem_cons]
      subst c; simp
    · rw [if_neg c, sub_mem (L := L), List.mem_cons]
      constructor
      · exact .inr
      · rintro (h | h)
        · injection h with h1; exact (c h1.symm).elim
        · exact h
theorem sub_nodup {v : Int} : ∀ {L : List (List Int)}, L.Nodup → (sub v L).Nodup
  | [], _ => List.nodup_nil
  | [] :: L, h => by simp only [sub]; exact sub_nodup (List.nodup_cons.1 h).2
  | (x :: s) :: L, h => by
    have h := List.nodup_cons.1 h
    simp only [sub]
    split
    · rename_i c
      subst c
      exact List.nodup_cons.2 ⟨fun hm => h.1 (sub_mem.1 hm), sub_nodup h.2⟩
    · exact sub_nodup h.2
theorem Vec.sub {d : Nat} {L : List (List Int)} (h : Vec (d + 1) L) (v : Int) : Vec d (sub v L) :=
  ⟨sub_nodup h.nodup, fun r hr => by have := h.len _ (sub_mem.1 hr); simpa using this, fun r hr x hx => h.dom _ (sub_mem.1 hr) x (List.mem_cons_of_mem _ hx)⟩
theorem Vec.tail {d : Nat} {r : List Int} {L : List (List Int)} (h : Vec d (r :: L)) : Vec d L :=
  ⟨(List.nodup_cons.1 h.nodup).2, fun s hs => h.len s (List.mem_cons_of_mem _ hs), fun s hs => h.dom s (List.mem_cons_of_mem _ hs)⟩
theorem eight {v : Int} (h : 0 ≤ v ∧ v < 8) : v = 0 ∨ v = 1 ∨ v = 2 ∨ v = 3 ∨ v = 4 ∨ v = 5 ∨ v = 6 ∨ v = 7 := by omega
def S8 (f : Int → Nat) : Nat := f 0 + f 1 + f 2 + f 3 + f 4 + f 5 + f 6 + f 7
def P8 (g : Int → Int → Nat) : Nat := g 0 1 + g 0 2 + g 0 3 + g 0 4 + g 0 5 + g 0 6 + g 0 7 + g 1 2 + g 1 3 + g 1 4 + g 1 5 + g 1 6 + g 1 7 + g 2 3 + g 2 4 + g 2 5 + g 2 6 + g 2 7 + g 3 4 + g 3 5 + g 3 6 + g 3 7 + g 4 5 + g 4 6 + g 4 7 + g 5 6 + g 5 7 + g 6 7
theorem len_split {d : Nat} : ∀ {L : List (List Int)}, Vec (d + 1) L → L.length = S8 fun v => (sub v L).length
  | [], _ => rfl
  | [] :: L, h => by have := h.len [] List.mem_cons_self; simp at this
  | (x :: t) :: L, h => by
    have ih := len_split h.tail
    have hx := h.dom _ List.mem_cons_self x List.mem_cons_self
    simp only [S8, List.length_cons] at ih ⊢
    rcases eight hx with rfl | rfl | rfl | rfl | rfl | rfl | rfl | rfl <;> simp [_root_.Go.Proofs.Ytcabghamgilafaa.V.sub] <;> omega
theorem cnt_split {d : Nat} (u : Int) (hu : 0 ≤ u ∧ u < 8) (t : List Int) (ht : t.length = d) : ∀ {L : List (List Int)}, Vec (d + 1) L → cnt1 (u :: t) L + (sub u L).count t = cnt1 t (sub u L) + S8 fun w => (sub w L).count t
  | [], _ => by simp [cnt1, _root_.Go.Proofs.Ytcabghamgilafaa.V.sub, S8]
  | [] :: L, h => by have := h.len [] List.mem_cons_self; simp at this
  | (x :: z) :: L, h => by
    have ih := cnt_split u hu t ht h.tail
    have hx := h.dom _ List.mem_cons_self x List.mem_cons_self
    have hz : t.length = z.length := by have := h.len _ List.mem_cons_self; simp at this; omega
    have h0 := ham_zero hz
    simp only [S8, cnt1] at ih ⊢
    by_cases c : u = x
    · subst c
      simp only [List.countP_cons, ham, if_true, _root_.Go.Proofs.Ytcabghamgilafaa.V.sub, Nat.zero_add, List.count_cons]
      rcases eight hx with rfl | rfl | rfl | rfl | rfl | rfl | rfl | rfl <;> simp [List.countP_cons, List.count_cons] <;> omega
    · simp only [List.countP_cons, ham, if_neg c, _root_.Go.Proofs.Ytcabghamgilafaa.V.sub, if_neg (fun e => c e.symm : ¬ x = u)]
      have e : decide (1 + ham t z = 1) = (z == t) := by
        by_cases g : t = z
        · have := h0.2 g
          subst g; simp; omega
        · have : ham t z ≠ 0 := fun k => g (h0.1 k)
          rw [decide_eq_false (by omega)]
          simp; exact fun e => g e.symm
      rw [e]
      rcases eight hx with rfl | rfl | rfl | rfl | rfl | rfl | rfl | rfl <;> simp [List.count_cons] <;> omega
theorem edges_split {d : Nat} : ∀ {L : List (List Int)}, Vec (d + 1) L → edges L = (S8 fun v => edges (sub v L)) + P8 fun v w => both (sub v L) (sub w L)
  | [], _ => rfl
  | [] :: L, h => by have := h.len [] List.mem_cons_self; simp at this
  | (u :: t) :: L, h => by
    have ih := edges_split h.tail
    have hu := h.dom _ List.mem_cons_self u List.mem_cons_self
    have ht : t.length = d := by have := h.len _ List.mem_cons_self; simpa using this
    have hc := cnt_split u hu t ht h.tail
    simp only [S8, P8] at ih hc ⊢
    simp only [edges]
    rcases eight hu with rfl | rfl | rfl | rfl | rfl | rfl | rfl | rfl <;> simp [_root_.Go.Proofs.Ytcabghamgilafaa.V.sub, edges, both, both_cons] <;> omega
theorem size_le : ∀ (d : Nat) (L : List (List Int)), Vec d L → L.length ≤ 8 ^ d
  | 0, L, h => by
    match L, h with
    | [], _ => simp
    | [_], _ => simp
    | a :: b :: L, h =>
      have h1 := h.len a List.mem_cons_self
      have h2 := h.len b (List.mem_cons_of_mem _ List.mem_cons_self)
      have := (List.nodup_cons.1 h.nodup).1
      rw [List.eq_nil_of_length_eq_zero h1, List.eq_nil_of_length_eq_zero h2] at this
      simp at this
  | d + 1, L, h => by
    rw [len_split h, Nat.pow_succ]
    simp only [S8]
    have f := fun v => size_le d _ (h.sub v)
    have := f 0; have := f 1; have := f 2; have := f 3; have := f 4; have := f 5; have := f 6; have := f 7
    omega
theorem pair_le {N a b c : Nat} (h1 : c ≤ a) (h2 : c ≤ b) (ha : a ≤ N) (hb : b ≤ N) : 2 * (N * c) + (a * a + b * b) ≤ N * a + N * b + 2 * (a * b) := by
  have go : ∀ a b : Nat, c ≤ a → a ≤ b → b ≤ N → 2 * (N * c) + (a * a + b * b) ≤ N * a + N * b + 2 * (a * b) := fun a b h1 h2 hb => by
    obtain ⟨k, rfl⟩ : ∃ k, b = a + k := ⟨b - a, by omega⟩
    have e1 : N * c ≤ N * a := Nat.mul_le_mul_left _ h1
    have e2 : k * k ≤ N * k := Nat.mul_le_mul_right _ (by omega)
    have e3 : k * a = a * k := Nat.mul_comm _ _
    simp only [Nat.mul_add, Nat.add_mul]
    omega
  rcases Nat.le_total a b with h | h
  · exact go a b h1 h hb
  · have := go b a h2 h ha
    have e : b * a = a * b := Nat.mul_comm _ _
    omega
def sumN (A : Nat → Nat) : Nat → Nat
  | 0 => 0
  | k + 1 => sumN A k + A k
def parN (B : Nat → Nat → Nat) : Nat → Nat
  | 0 => 0
  | k + 1 => parN B k + sumN (fun v => B v k) k
theorem num_I (N K : Nat) (A E : Nat → Nat) (ih : ∀ v, 2 * (N * E v) + 8 * (N * A v) ≤ K * A v + 8 * (A v * A v)) : ∀ k, 2 * (N * sumN E k) + 8 * (N * sumN A k) ≤ K * sumN A k + 8 * sumN (fun v => A v * A v) k
  | 0 => by simp [sumN]
  | k + 1 => by
    have h := num_I N K A E ih k
    have g := ih k
    simp only [sumN, Nat.mul_add]
    generalize N * sumN E k = x1 at *
    generalize N * sumN A k = x2 at *
    generalize K * sumN A k = x3 at *
    generalize N * E k = x4 at *
    generalize N * A k = x5 at *
    generalize K * A k = x6 at *
    generalize A k * A k = x7 at *
    omega
theorem num_X (N : Nat) (A : Nat → Nat) (b : Nat → Nat) (a : Nat) (pr : ∀ v, 2 * (N * b v) + (A v * A v + a * a) ≤ N * A v + N * a + 2 * (A v * a)) : ∀ j, 2 * (N * sumN b j) + j * (a * a) + sumN (fun v => A v * A v) j ≤ j * (N * a) + N * sumN A j + 2 * (sumN A j * a)
  | 0 => by simp [sumN]
  | j + 1 => by
    have h := num_X N A b a pr j
    have g := pr j
    simp only [sumN, Nat.mul_add, Nat.add_mul, Nat.one_mul]
    generalize N * sumN b j = x1 at *
    generalize N * sumN A j = x2 at *
    generalize sumN A j * a = x3 at *
    generalize N * b j = x4 at *
    generalize N * A j = x5 at *
    generalize A j * a = x6 at *
    generalize A j * A j = x7 at *
    generalize j * (a * a) = x8 at *
    generalize j * (N * a) = x9 at *
    generalize a * a = x10 at *
    generalize N * a = x11 at *
    omega
theorem num_P (N : Nat) (A : Nat → Nat) (B : Nat → Nat → Nat) (pr : ∀ v w, 2 * (N * B v w) + (A v * A v + A w * A w) ≤ N * A v + N * A w + 2 * (A v * A w)) : ∀ k, 2 * (N * parN B k) + k * sumN (fun v => A v * A v) k + N * sumN A k ≤ k * (N * sumN A k) + sumN A k * sumN A k
  | 0 => by simp [sumN, parN]
  | k + 1 => by
    have h := num_P N A B pr k
    have g := num_X N A (fun v => B v k) (A k) (fun v => pr v k) k
    have cm := Nat.mul_comm (A k) (sumN A k)
    simp only [sumN, parN, Nat.mul_add, Nat.add_mul, Nat.one_mul] at *
    generalize N * parN B k = x1 at *
    generalize N * sumN (fun v => B v k) k = x2 at *
    generalize k * sumN (fun v => A v * A v) k = x3 at *
    generalize k * (A k * A k) = x4 at *
    generalize k * (N * sumN A k) = x5 at *
    generalize k * (N * A k) = x6 at *
    generalize N * sumN A k = x7 at *
    generalize N * A k = x8 at *
    generalize A k * sumN A k = x9 at *
    generalize sumN A k * A k = x10 at *
    generalize sumN A k * sumN A k = x11 at *
    generalize A k * A k = x12 at *
    generalize sumN (fun v => A v * A v) k = x13 at *
    omega
theorem edges_bound : ∀ (d : Nat) (L : List (List Int)), Vec d L → 2 * (8 ^ d * edges L) + 8 * (8 ^ d * L.length) ≤ 7 * d * 8 ^ d * L.length + 8 * (L.length * L.length)
  | 0, L, h => by
    have hs := size_le 0 L h
    match L, hs with
    | [], _ => simp [edges]
    | [a], _ => simp [edges, cnt1]
    | a :: b :: L, hs => simp at hs
  | d + 1, L, h => by
    obtain ⟨N, hN⟩ : ∃ N, 8 ^ d = N := ⟨_, rfl⟩
    obtain ⟨K, hK⟩ : ∃ K, 7 * d * N = K := ⟨_, rfl⟩
    have hpow : 8 ^ (d + 1) = 8 * N := by rw [Nat.pow_succ, hN, Nat.mul_comm]
    have hK2 : 7 * (d + 1) * (8 * N) = 8 * K + 56 * N := by
      rw [← hK, show 7 * (d + 1) = 7 * d + 7 by omega, Nat.add_mul]
      have : 7 * d * (8 * N) = 8 * (7 * d * N) := by rw [Nat.mul_left_comm]
      omega
    have ih : ∀ v, 2 * (N * edges (sub v L)) + 8 * (N * (sub v L).length) ≤ K * (sub v L).length + 8 * ((sub v L).length * (sub v L).length) := fun v => by
      have := edges_bound d _ (h.sub v)
      rwa [hN, hK] at this
    have sz : ∀ v, (sub v L).length ≤ N := fun v => by rw [← hN]; exact size_le d _ (h.sub v)
    have pr : ∀ v w, 2 * (N * both (sub v L) (sub w L)) + ((sub v L).length * (sub v L).length + (sub w L).length * (sub w L).length) ≤ N * (sub v L).length + N * (sub w L).length + 2 * ((sub v L).length * (sub w L).length) := fun v w =>
      pair_le (both_le _ _ (h.sub w).nodup) (by rw [both_comm]; exact both_le _ _ (h.sub v).nodup) (sz v) (sz w)
    have tI := num_I N K (fun v => (sub (v : Int) L).length) (fun v => edges (sub (v : Int) L)) (fun v => ih v) 8
    have tP := num_P N (fun v => (sub (v : Int) L).length) (fun v w => both (sub (v : Int) L) (sub (w : Int) L)) (fun v w => pr v w) 8
    have e1 : edges L = sumN (fun v => edges (sub (v : Int) L)) 8 + parN (fun v w => both (sub (v : Int) L) (sub (w : Int) L)) 8 := by
      rw [edges_split h]
      simp only [S8, P8, sumN, parN, Nat.zero_add, Nat.add_zero]
      simp only [Int.ofNat_zero, Int.ofNat_one, show ((2 : Nat) : Int) = 2 from rfl, show ((3 : Nat) : Int) = 3 from rfl, show ((4 : Nat) : Int) = 4 from rfl, show ((5 : Nat) : Int) = 5 from rfl, show ((6 : Nat) : Int) = 6 from rfl, show ((7 : Nat) : Int) = 7 from rfl, show ((1 : Nat) : Int) = 1 from rfl, show ((0 : Nat) : Int) = 0 from rfl]
      omega
    have e2 : L.length = sumN (fun v => (sub (v : Int) L).length) 8 := by
      rw [len_split h]
      simp only [S8, sumN, Nat.zero_add]
      rfl
    rw [hpow, hK2, e1, e2]
    generalize sumN (fun v => (sub (v : Int) L).length) 8 = SA at *
    generalize sumN (fun v => edges (sub (v : Int) L)) 8 = SE at *
    generalize parN (fun v w => both (sub (v : Int) L) (sub (w : Int) L)) 8 = SB at *
    generalize sumN (fun v => (sub (v : Int) L).length * (sub (v : Int) L).length) 8 = Q at *
    rw [Nat.mul_add (8 * N), Nat.add_mul (8 * K)]
    simp only [Nat.mul_assoc]
    generalize N * SA = y1 at *
    generalize N * SE = y2 at *
    generalize N * SB = y3 at *
    generalize K * SA = y4 at *
    generalize SA * SA = y5 at *
    omega
theorem edges_6000 {d : Nat} {L : List (List Int)} (h : Vec d L) (hd : d ≤ 6) (hs : L.length ≤ 300) : edges L ≤ 6000 := by
  have b := edges_bound d L h
  have z := size_le d L h
  have q1 : L.length * L.length ≤ 300 * L.length := Nat.mul_le_mul_right _ hs
  have q2 : L.length * L.length ≤ 8 ^ d * L.length := Nat.mul_le_mul_right _ z
  generalize L.length * L.length = q at *
  have cases7 : d = 0 ∨ d = 1 ∨ d = 2 ∨ d = 3 ∨ d = 4 ∨ d = 5 ∨ d = 6 := by omega
  rcases cases7 with rfl | rfl | rfl | rfl | rfl | rfl | rfl <;> simp only [Nat.reducePow, Nat.reduceMul] at b z q2 <;> omega

theorem spec_l6Apart_B0_at (a : List (Int)) (b : List (Int)) (count : Int) (i : Int) : spec_l6Apart_B0 ((a, b, count, i, ()), ()) = bif (decide (i < (List.length a : Int))) then (guardB (inb i (List.length a)) (guardB (inb i (List.length b)) (bif ((List.getD a (Int.toNat i) (0 : Int)) != (List.getD b (Int.toNat i) (0 : Int))) then (some (.inl ((a, b, (w64 (count + (1 : Int))), (w64 (i + (1 : Int))), ()), ()))) else (some (.inl ((a, b, count, (w64 (i + (1 : Int))), ()), ())))))) else (some (.inr ((count, ()), ()))) := rfl
theorem spec_l6Space_B0_at (states : List (List (Int))) (i : Int) (j : Int) (t2 : (List (List (Int))) × (List ((Int) × (Int)))) (out : (List (List (Int))) × (List ((Int) × (Int)))) : spec_l6Space_B0 ((states, i, j, ()), (t2, out, ())) = bif (decide (j < (List.length states : Int))) then (guardB (inb i (List.length states)) (guardB (inb j (List.length states)) (match spec_l6Apart ((List.getD states (Int.toNat i) ([] : (List Int))), (List.getD states (Int.toNat j) ([] : (List Int))), ()) () with | some ((r, ()), ()) => (bif (r == (1 : Int)) then (guardB (decide ((List.length out.2 + List.length [(i, j)]) * 16 ≤ 70368744177664)) (some (.inl ((states, i, (w64 (j + (1 : Int))), ()), (t2, (out.1, (out.2 ++ [(i, j)])), ()))))) else (some (.inl ((states, i, (w64 (j + (1 : Int))), ()), (t2, out, ()))))) | none => none))) else (some (.inr ((states, i, ()), (t2, out, ())))) := rfl
theorem spec_l6Space_B1_at (states : List (List (Int))) (i : Int) (t2 : (List (List (Int))) × (List ((Int) × (Int)))) (out : (List (List (Int))) × (List ((Int) × (Int)))) : spec_l6Space_B1 ((states, i, ()), (t2, out, ())) = bif (decide (i < (List.length states : Int))) then (match loopO spec_l6Space_B0 ((states, i, (w64 (i + (1 : Int))), ()), (t2, out, ())) with | some ((states2, i2, ()), (t2_2, out2, ())) => some (.inl ((states2, (w64 (i2 + (1 : Int))), ()), (t2_2, out2, ()))) | none => none) else (some (.inr ((), (t2, out, ())))) := rfl
theorem impl_places_B0_at (b : List (Int)) (out : List (Int)) (t9 : List (Int)) (t10 : Int) (t11 : Int) : impl_places_B0 ((b, out, t9, t10, t11, ()), ()) = bif (decide (t11 < t10)) then (guardB (inb t11 (List.length t9)) (guardB (inb t11 (List.length b)) (bif ((List.getD b (Int.toNat t11) (0 : Int)) != (List.getD t9 (Int.toNat t11) (0 : Int))) then (guardB (decide ((List.length out + List.length [t11]) * 8 ≤ 70368744177664)) (some (.inl ((b, (out ++ [t11]), t9, t10, (w64 (t11 + (1 : Int))), ()), ())))) else (some (.inl ((b, out, t9, t10, (w64 (t11 + (1 : Int))), ()), ())))))) else (some (.inr ((out, ()), ()))) := rfl
theorem impl_spaceOf_o2f_impl_isChange_B0_at (i : Int) (i2 : Nat) (t17 : Int) (t18 : Int) (lo : Nat) (hi : Nat) (t28 : Int) (t29 : Int) (t4 : (List (List (Int))) × (List ((Int) × (Int)))) (out : (List (List (Int))) × (List ((Int) × (Int)))) : impl_spaceOf_o2f_impl_isChange_B0 ((i, i2, t17, t18, (lo, hi), t28, t29, ()), (t4, out, ())) = bif (decide (t29 < t28)) then (guardB (decide (0 ≤ t29) && decide (t29 < (((hi : Nat) : Int) - ((lo : Nat) : Int)))) (match impl_isChange ((List.getD out.1 i2 ([] : (List Int))), (List.getD out.1 (lo + (Int.toNat t29)) ([] : (List Int))), ()) () with | some ((r, ()), ()) => (bif r then (guardB (decide ((List.length out.2 + List.length [(i, (w64 ((w64 (i + (1 : Int))) + t29)))]) * 16 ≤ 70368744177664)) (some (.inl ((i, i2, t17, t18, (lo, hi), t28, (w64 (t29 + (1 : Int))), ()), (t4, (out.1, (out.2 ++ [(i, (w64 ((w64 (i + (1 : Int))) + t29)))])), ()))))) else (some (.inl ((i, i2, t17, t18, (lo, hi), t28, (w64 (t29 + (1 : Int))), ()), (t4, out, ()))))) | none => none)) else (some (.inr ((t17, t18, ()), (t4, out, ())))) := rfl
theorem impl_spaceOf_o2f_impl_isChange_B1_at (t17 : Int) (t18 : Int) (t4 : (List (List (Int))) × (List ((Int) × (Int)))) (out : (List (List (Int))) × (List ((Int) × (Int)))) : impl_spaceOf_o2f_impl_isChange_B1 ((t17, t18, ()), (t4, out, ())) = bif (decide (t18 < t17)) then (guardB (inb t18 (List.length out.1)) (guardB (decide (0 ≤ (w64 (t18 + (1 : Int)))) && decide ((w64 (t18 + (1 : Int))) ≤ (List.length out.1 : Int)) && decide ((List.length out.1 : Int) ≤ (List.length out.1 : Int))) (match loopO impl_spaceOf_o2f_impl_isChange_B0 ((t18, (Int.toNat t18), t17, t18, ((Int.toNat (w64 (t18 + (1 : Int)))), (Int.toNat (List.length out.1 : Int))), ((((Int.toNat (List.length out.1 : Int)) - (Int.toNat (w64 (t18 + (1 : Int))))) : Nat) : Int), (0 : Int), ()), (t4, out, ())) with | some ((t17_2, t18_2, ()), (t4_2, out2, ())) => some (.inl ((t17_2, (w64 (t18_2 + (1 : Int))), ()), (t4_2, out2, ()))) | none => none))) else (some (.inr ((), (t4, out, ())))) := rfl
theorem ham_drop {a b : List Int} {k : Nat} (h1 : k < a.length) (h2 : k < b.length) : ham (a.drop k) (b.drop k) = (if a.getD k 0 = b.getD k 0 then 0 else 1) + ham (a.drop (k + 1)) (b.drop (k + 1)) := by
  rw [List.drop_eq_getElem_cons h1, List.drop_eq_getElem_cons h2, getD_at h1, getD_at h2]
  rfl
theorem ham_end {a b : List Int} : ham (a.drop a.length) b = 0 := by rw [List.drop_length]; cases b <;> rfl
theorem Apart_eq (a b : List Int) (hl : a.length = b.length) (hs : a.length ≤ 1048576) : spec_l6Apart (a, b, ()) () = some (((ham a b : Int), ()), ()) := by
  have key : ∀ d k c : Nat, k + d = a.length → c ≤ k → loopO spec_l6Apart_B0 ((a, b, (c : Int), (k : Int), ()), ()) = some (((((c + ham (a.drop k) (b.drop k) : Nat)) : Int), ()), ()) := by
    intro d
    induction d with
    | zero =>
      intro k c hk _
      refine loop_end ?_
      rw [spec_l6Apart_B0_at]
      simp only [bif_decide]
      rw [if_neg (by omega), show k = a.length by omega, ham_end]
      simp
    | succ d ih =>
      intro k c hk hc
      have h1 : k < a.length := by omega
      have h2 : k < b.length := by omega
      have e := ham_drop h1 h2
      by_cases hq : a.getD k 0 = b.getD k 0
      · rw [if_pos hq] at e
        rw [e]
        refine loop_step ?_ (by rw [Nat.zero_add]; exact ih (k + 1) c (by omega) (by omega))
        rw [spec_l6Apart_B0_at]
        simp only [bif_decide, Int.toNat_natCast]
        rw [if_pos (by omega), guardB_true (inb_true (by omega) (by omega)), guardB_true (inb_true (by omega) (by omega)), bne_eq hq]
        simp only [cond_false, w64_succ (show k < 4611686018427387904 by omega)]
      · rw [if_neg hq] at e
        rw [e]
        have := ih (k + 1) (c + 1) (by omega) (by omega)
        rw [show c + 1 + ham (a.drop (k + 1)) (b.drop (k + 1)) = c + (1 + ham (a.drop (k + 1)) (b.drop (k + 1))) by omega] at this
        refine loop_step ?_ this
        rw [spec_l6Apart_B0_at]
        simp only [bif_decide, Int.toNat_natCast]
        rw [if_pos (by omega), guardB_true (inb_true (by omega) (by omega)), guardB_true (inb_true (by omega) (by omega)), bne_ne hq]
        simp only [cond_true, w64_succ (show k < 4611686018427387904 by omega), w64_succ (show c < 4611686018427387904 by omega)]
  simp only [spec_l6Apart]
  have := key a.length 0 0 (by omega) (by omega)
  simp only [List.drop_zero, Nat.zero_add] at this
  erw [this]
theorem places_eq (a b : List Int) (hl : a.length = b.length) (hs : a.length ≤ 1048576) : ∃ R : List Int, impl_places (a, b, ()) () = some ((R, ()), ()) ∧ R.length = ham a b := by
  have key : ∀ d k : Nat, ∀ o : List Int, k + d = a.length → o.length ≤ k → ∃ R : List Int, loopO impl_places_B0 ((b, o, a, (a.length : Int), (k : Int), ()), ()) = some ((R, ()), ()) ∧ R.length = o.length + ham (a.drop k) (b.drop k) := by
    intro d
    induction d with
    | zero =>
      intro k o hk _
      refine ⟨o, loop_end ?_, ?_⟩
      · rw [impl_places_B0_at]
        simp only [bif_decide]
        rw [if_neg (by omega)]
      · rw [show k = a.length by omega, ham_end]; rfl
    | succ d ih =>
      intro k o hk hc
      have h1 : k < a.length := by omega
      have h2 : k < b.length := by omega
      have e := ham_drop h1 h2
      by_cases hq : a.getD k 0 = b.getD k 0
      · rw [if_pos hq] at e
        obtain ⟨R, q1, q2⟩ := ih (k + 1) o (by omega) (by omega)
        refine ⟨R, loop_step ?_ q1, by rw [q2, e]; omega⟩
        rw [impl_places_B0_at]
        simp only [bif_decide, Int.toNat_natCast]
        rw [if_pos (by omega), guardB_true (inb_true (by omega) (by omega)), guardB_true (inb_true (by omega) (by omega)), bne_eq hq.symm]
        simp only [cond_false, w64_succ (show k < 4611686018427387904 by omega)]
      · rw [if_neg hq] at e
        obtain ⟨R, q1, q2⟩ := ih (k + 1) (o ++ [(k : Int)]) (by omega) (by simp; omega)
        refine ⟨R, loop_step ?_ q1, by rw [q2, e]; simp; omega⟩
        rw [impl_places_B0_at]
        simp only [bif_decide, Int.toNat_natCast]
        rw [if_pos (by omega), guardB_true (inb_true (by omega) (by omega)), guardB_true (inb_true (by omega) (by omega)), bne_ne (fun h => hq h.symm)]
        simp only [cond_true, w64_succ (show k < 4611686018427387904 by omega)]
        rw [guardB_true (by simp only [List.length_singleton, decide_eq_true_eq]; omega)]
  obtain ⟨R, q1, q2⟩ := key a.length 0 [] (by omega) (by simp)
  refine ⟨R, ?_, by simpa using q2⟩
  simp only [impl_places]
  erw [q1]
theorem isChange_eq (a b : List Int) (hl : a.length = b.length) (hs : a.length ≤ 1048576) : impl_isChange (a, b, ()) () = some ((decide (ham a b = 1), ()), ()) := by
  obtain ⟨R, q1, q2⟩ := places_eq a b hl hs
  simp only [impl_isChange, q1]
  rw [q2]
  by_cases h : ham a b = 1
  · rw [decide_eq_true h, beq_eq (by omega)]
  · rw [decide_eq_false h, beq_ne (by omega)]
def rowSteps (i : Nat) (a : List Int) : Nat → List (List Int) → List (Int × Int)
  | _, [] => []
  | k, b :: L => if ham a b = 1 then ((i : Int), (k : Int)) :: rowSteps i a (k + 1) L else rowSteps i a (k + 1) L
def allSteps : Nat → List (List Int) → List (Int × Int)
  | _, [] => []
  | i, a :: L => rowSteps i a (i + 1) L ++ allSteps (i + 1) L
theorem rowSteps_len (i : Nat) (a : List Int) : ∀ (L : List (List Int)) (k : Nat), (rowSteps i a k L).length = cnt1 a L
  | [], _ => rfl
  | b :: L, k => by
    have ih := rowSteps_len i a L (k + 1)
    simp only [rowSteps, cnt1, List.countP_cons] at ih ⊢
    by_cases h : ham a b = 1
    · simp [h, ih]
    · simp [h, ih]
theorem allSteps_len : ∀ (L : List (List Int)) (i : Nat), (allSteps i L).length = edges L
  | [], _ => rfl
  | a :: L, i => by simp only [allSteps, edges, List.length_append, rowSteps_len, allSteps_len L]
theorem drop_cons {A : List (List Int)} {j : Nat} (h : j < A.length) : A.drop j = A.getD j [] :: A.drop (j + 1) := by
  rw [List.drop_eq_getElem_cons h, getD_at h]
theorem specRow (A : List (List Int)) {n : Nat} (hA : ∀ a ∈ A, a.length = n) (hn : n ≤ 1048576) (hs : A.length ≤ 1048576) {i : Nat} (hi : i < A.length) (t2 : List (List Int) × List (Int × Int)) (o1 : List (List Int)) : ∀ (d j : Nat) (o : List (Int × Int)), j + d = A.length → o.length + (rowSteps i (A.getD i []) j (A.drop j)).length ≤ 1048576 →
    loopO spec_l6Space_B0 ((A, (i : Int), (j : Int), ()), (t2, (o1, o), ())) = some ((A, (i : Int), ()), (t2, (o1, o ++ rowSteps i (A.getD i []) j (A.drop j)), ())) := by
  have hlen : ∀ k, k < A.length → (A.getD k []).length = n := fun k hk => by rw [getD_at hk]; exact hA _ (List.getElem_mem hk)
  intro d
  induction d with
  | zero =>
    intro j o hj _
    refine loop_end ?_
    rw [spec_l6Space_B0_at]
    simp only [bif_decide]
    rw [if_neg (by omega), List.drop_eq_nil_of_le (by omega)]
    simp only [rowSteps, List.append_nil]
  | succ d ih =>
    intro j o hj hb
    have hj' : j < A.length := by omega
    rw [drop_cons hj'] at hb ⊢
    have st := spec_l6Space_B0_at A (i : Int) (j : Int) t2 (o1, o)
    simp only [bif_decide, Int.toNat_natCast] at st
    rw [if_pos (by omega), guardB_true (inb_true (by omega) (by omega)), guardB_true (inb_true (by omega) (by omega)), Apart_eq _ _ (by rw [hlen i hi, hlen j hj']) (by rw [hlen i hi]; exact hn)] at st
    simp only [w64_succ (show j < 4611686018427387904 by omega)] at st
    by_cases hq : ham (A.getD i []) (A.getD j []) = 1
    · simp only [rowSteps, if_pos hq, List.length_cons] at hb ⊢
      rw [beq_eq (by omega)] at st
      simp only [cond_true] at st
      rw [guardB_true (by simp only [List.length_singleton, decide_eq_true_eq]; omega)] at st
      have := ih (j + 1) (o ++ [((i : Int), (j : Int))]) (by omega) (by simp only [List.length_append, List.length_singleton]; omega)
      rw [List.append_assoc, List.singleton_append] at this
      exact loop_step st this
    · simp only [rowSteps, if_neg hq] at hb ⊢
      rw [beq_ne (by omega)] at st
      simp only [cond_false] at st
      exact loop_step st (ih (j + 1) o (by omega) hb)
theorem l6Space_eq (A : List (List Int)) {n : Nat} (hA : ∀ a ∈ A, a.length = n) (hn : n ≤ 1048576) (hs : A.length ≤ 1048576) (he : edges A ≤ 1048576) : spec_l6Space (A, ()) () = some (((A, allSteps 0 A), ()), ()) := by
  have key : ∀ (d i : Nat) (o : List (Int × Int)), i + d = A.length → o.length + (allSteps i (A.drop i)).length ≤ 1048576 →
      loopO spec_l6Space_B1 ((A, (i : Int), ()), ((([] : List (List Int)), ([] : List (Int × Int))), (A, o), ())) = some ((), ((([] : List (List Int)), ([] : List (Int × Int))), (A, o ++ allSteps i (A.drop i)), ())) := by
    intro d
    induction d with
    | zero =>
      intro i o hi _
      refine loop_end ?_
      rw [spec_l6Space_B1_at]
      simp only [bif_decide]
      rw [if_neg (by omega), List.drop_eq_nil_of_le (by omega)]
      simp only [allSteps, List.append_nil]
    | succ d ih =>
      intro i o hi hb
      have hi' : i < A.length := by omega
      rw [drop_cons hi'] at hb ⊢
      simp only [allSteps, List.length_append] at hb ⊢
      have st := spec_l6Space_B1_at A (i : Int) (([] : List (List Int)), ([] : List (Int × Int))) (A, o)
      simp only [bif_decide] at st
      rw [if_pos (by omega), w64_succ (show i < 4611686018427387904 by omega)] at st
      have hr := specRow A hA hn hs hi' (([] : List (List Int)), ([] : List (Int × Int))) A (A.length - (i + 1)) (i + 1) o (by omega) (by omega)
      erw [hr] at st
      simp only [w64_succ (show i < 4611686018427387904 by omega)] at st
      have := ih (i + 1) (o ++ rowSteps i (A.getD i []) (i + 1) (A.drop (i + 1))) (by omega) (by simp only [List.length_append]; omega)
      rw [List.append_assoc] at this
      exact loop_step st this
  simp only [spec_l6Space]
  have := key A.length 0 [] (by omega) (by simp only [List.drop_zero, allSteps_len, List.length_nil]; omega)
  simp only [List.drop_zero, List.nil_append] at this
  erw [this]
theorem implRow (A : List (List Int)) {n : Nat} (hA : ∀ a ∈ A, a.length = n) (hn : n ≤ 1048576) (hs : A.length ≤ 1048576) {i : Nat} (hi : i < A.length) (t17 t18 : Int) (t4 : List (List Int) × List (Int × Int)) : ∀ (d j : Nat) (o : List (Int × Int)), i + 1 + j + d = A.length → o.length + (rowSteps i (A.getD i []) (i + 1 + j) (A.drop (i + 1 + j))).length ≤ 1048576 →
    loopO impl_spaceOf_o2f_impl_isChange_B0 (((i : Int), i, t17, t18, (i + 1, A.length), ((A.length - (i + 1) : Nat) : Int), (j : Int), ()), (t4, (A, o), ())) = some ((t17, t18, ()), (t4, (A, o ++ rowSteps i (A.getD i []) (i + 1 + j) (A.drop (i + 1 + j))), ())) := by
  have hlen : ∀ k, k < A.length → (A.getD k []).length = n := fun k hk => by rw [getD_at hk]; exact hA _ (List.getElem_mem hk)
  intro d
  induction d with
  | zero =>
    intro j o hj _
    refine loop_end ?_
    rw [impl_spaceOf_o2f_impl_isChange_B0_at]
    simp only [bif_decide]
    rw [if_neg (by omega), List.drop_eq_nil_of_le (by omega)]
    simp only [rowSteps, List.append_nil]
  | succ d ih =>
    intro j o hj hb
    have hj' : i + 1 + j < A.length := by omega
    have ih := ih (j + 1)
    rw [show i + 1 + (j + 1) = i + 1 + j + 1 by omega] at ih
    rw [drop_cons hj'] at hb ⊢
    have st := impl_spaceOf_o2f_impl_isChange_B0_at (i : Int) i t17 t18 (i + 1) A.length ((A.length - (i + 1) : Nat) : Int) (j : Int) t4 (A, o)
    simp only [bif_decide, Int.toNat_natCast] at st
    rw [if_pos (by omega), guardB_true (by simp only [Bool.and_eq_true, decide_eq_true_eq]; omega), isChange_eq _ _ (by rw [hlen i hi, hlen _ hj']) (by rw [hlen i hi]; exact hn)] at st
    simp only [w64_succ (show j < 4611686018427387904 by omega), w64_succ (show i < 4611686018427387904 by omega)] at st
    by_cases hq : ham (A.getD i []) (A.getD (i + 1 + j) []) = 1
    · simp only [rowSteps, if_pos hq, List.length_cons] at hb ⊢
      rw [decide_eq_true hq] at st
      simp only [cond_true] at st
      rw [guardB_true (by simp only [List.length_singleton, decide_eq_true_eq]; omega), w64_of (by omega) (by omega), show ((i + 1 : Nat) : Int) + (j : Int) = ((i + 1 + j : Nat) : Int) by omega] at st
      have := ih (o ++ [((i : Int), ((i + 1 + j : Nat) : Int))]) (by omega) (by simp only [List.length_append, List.length_singleton]; omega)
      rw [List.append_assoc, List.singleton_append] at this
      exact loop_step st this
    · simp only [rowSteps, if_neg hq] at hb ⊢
      rw [decide_eq_false hq] at st
      simp only [cond_false] at st
      exact loop_step st (ih o (by omega) hb)
theorem spaceOf_eq (A : List (List Int)) {n : Nat} (hsort : sortRows A = A) (hA : ∀ a ∈ A, a.length = n) (hn : n ≤ 1048576) (hs : A.length ≤ 1048576) (he : edges A ≤ 1048576) : impl_spaceOf_o2f_impl_isChange (A, ()) () = some (((A, allSteps 0 A), ()), ()) := by
  have key : ∀ (d i : Nat) (o : List (Int × Int)), i + d = A.length → o.length + (allSteps i (A.drop i)).length ≤ 1048576 →
      loopO impl_spaceOf_o2f_impl_isChange_B1 (((A.length : Int), (i : Int), ()), ((([] : List (List Int)), ([] : List (Int × Int))), (A, o), ())) = some ((), ((([] : List (List Int)), ([] : List (Int × Int))), (A, o ++ allSteps i (A.drop i)), ())) := by
    intro d
    induction d with
    | zero =>
      intro i o hi _
      refine loop_end ?_
      rw [impl_spaceOf_o2f_impl_isChange_B1_at]
      simp only [bif_decide]
      rw [if_neg (by omega), List.drop_eq_nil_of_le (by omega)]
      simp only [allSteps, List.append_nil]
    | succ d ih =>
      intro i o hi hb
      have hi' : i < A.length := by omega
      rw [drop_cons hi'] at hb ⊢
      simp only [allSteps, List.length_append] at hb ⊢
      have st := impl_spaceOf_o2f_impl_isChange_B1_at (A.length : Int) (i : Int) (([] : List (List Int)), ([] : List (Int × Int))) (A, o)
      simp only [bif_decide, Int.toNat_natCast] at st
      rw [if_pos (by omega), guardB_true (inb_true (by omega) (by omega)), w64_succ (show i < 4611686018427387904 by omega), guardB_true (by simp only [Bool.and_eq_true, decide_eq_true_eq]; omega)] at st
      simp only [Int.toNat_natCast] at st
      have hr := implRow A hA hn hs hi' (A.length : Int) (i : Int) (([] : List (List Int)), ([] : List (Int × Int))) (A.length - (i + 1)) 0 o (by omega) (by simp only [Nat.add_zero]; omega)
      simp only [Nat.add_zero] at hr
      erw [hr] at st
      simp only [w64_succ (show i < 4611686018427387904 by omega)] at st
      have := ih (i + 1) (o ++ rowSteps i (A.getD i []) (i + 1) (A.drop (i + 1))) (by omega) (by simp only [List.length_append]; omega)
      rw [List.append_assoc] at this
      exact loop_step st this
  have hS : slices_SortFunc_int_int_own () (A, ()) = some ((), (A, ())) := by
    simp only [slices_SortFunc_int_int_own, sortRowsFn]
    rw [guardB_true (by simp only [Bool.and_eq_true, decide_eq_true_eq, List.all_eq_true]; exact ⟨by omega, fun a ha => by rw [hA a ha]; omega⟩), hsort]
  simp only [impl_spaceOf_o2f_impl_isChange]
  erw [hS]
  have := key A.length 0 [] (by omega) (by simp only [List.drop_zero, allSteps_len, List.length_nil]; omega)
  simp only [List.drop_zero, List.nil_append] at this
  simp only
  erw [this]

theorem impl_maps_1_va0a1a2a3a4a5_bsfimpl_MapSpace_1_6b1bsbsfimpl_maps_1_012345b2_B0_at (rc : argP impl_maps_1_va0a1a2a3a4a5_bsfimpl_MapSpace_1_6b1bsbsfimpl_maps_1_012345b2_a → obP (extObs 0 impl_maps_1_va0a1a2a3a4a5_bsfimpl_MapSpace_1_6b1bsbsfimpl_maps_1_012345b2_o) → Option impl_maps_1_va0a1a2a3a4a5_bsfimpl_MapSpace_1_6b1bsbsfimpl_maps_1_012345b2_E.P) (t19 : Int) (t20 : Int) (o0 : (Int) × (List ((Int) × (Int)))) (o2 : List (Int)) (o3 : (Int) × (List ((Int) × (Int)))) (o4 : Bool) (x : Int) (o6 : List (List (Int))) : impl_maps_1_va0a1a2a3a4a5_bsfimpl_MapSpace_1_6b1bsbsfimpl_maps_1_012345b2_B0 rc ((t19, t20, ()), (o0, o2, o3, o4, x, o6, ())) = bif (decide (t20 < t19)) then (guardB (inb x (List.length o2)) (match impl_Graph_neighbors (o0, x, ()) () with | some ((r, ()), ()) => (match slices_ContainsFunc_int_int_vf_impl_maps_1_1_01234__bsbsbsb1bs (r, ()) (x, o3, t20, (List.set o2 (Int.toNat x) t20), o4, ()) with | some ((r2, ()), (o, o5, o7, o8, o9, ())) => (bif (!r2) then (match rc ((w64 (o + (1 : Int))), ()) (o0, o8, o5, o9, o6, ()) with | some ((r3, ()), (o10, o11, o12, o13, o14, ())) => (bif (!r3) then (some (.inr (.inl ((false, ()), (o10, o11, o12, o13, o14, ()))))) else (some (.inl ((t19, (w64 (t20 + (1 : Int))), ()), (o10, o11, o12, o13, o, o14, ()))))) | none => none) else (some (.inl ((t19, (w64 (t20 + (1 : Int))), ()), (o0, o8, o5, o9, o, o6, ()))))) | none => none) | none => none)) else (some (.inr (.inr ((), (o0, o2, o3, o4, o6, ()))))) := rfl
theorem space_run (g h : Int × List (Int × Int)) (lazy : Bool) {n m : Nat} (hg1 : g.1 = n) (hn : n ≤ 6) (hh1 : h.1 = m) (hm : m ≤ 8) (hgp : pairsB g.2 n = true) (hhp : pairsB h.2 m = true) (hg : g.2.length ≤ 1048576) (hh : h.2.length ≤ 1048576)
    (st : List (List Int) → List Int → Bool × (List (List Int))) (Inv : List (List Int) → Prop) (hst : ∀ s a, Inv s → a.length = n → impl_MapSpace_1_va0_b2 (a, ()) (s, ()) = some (((st s a).1, ()), ((st s a).2, ())) ∧ ((st s a).1 = true → Inv (st s a).2)) : ∀ (d f x : Nat) (L : List Int) (s : List (List Int)), x + d = n → d < f → L.length = n → Inv s →
    ∃ L' : List Int, L'.length = n ∧ L'.take x = L.take x ∧ fuelF impl_maps_1_va0a1a2a3a4a5_bsfimpl_MapSpace_1_6b1bsbsfimpl_maps_1_012345b2_F f ((x : Int), ()) (g, L, h, lazy, s, ()) = some (((runAll st s (full g.2 h.2 lazy m d (L.take x))).1, ()), (g, L', h, lazy, (runAll st s (full g.2 h.2 lazy m d (L.take x))).2, ())) ∧ ((runAll st s (full g.2 h.2 lazy m d (L.take x))).1 = true → Inv (runAll st s (full g.2 h.2 lazy m d (L.take x))).2)
  | d, 0, x, L, s, _, hf, _, _ => by omega
  | 0, f + 1, x, L, s, hx, _, hL, hs => by
    obtain ⟨c1, c2⟩ := hst s L hs hL
    have ht : L.take x = L := List.take_of_length_le (by omega)
    have hr : runAll st s [L] = st s L := by
      simp only [runAll]
      cases h : (st s L).1
      · simp only [cond_false]; rw [← h]
      · simp only [cond_true]; rw [← h]
    refine ⟨L, hL, rfl, ?_, ?_⟩
    · simp only [fuelF, impl_maps_1_va0a1a2a3a4a5_bsfimpl_MapSpace_1_6b1bsbsfimpl_maps_1_012345b2_F, full, ht]
      rw [beq_eq (by omega), c1, hr]
      rfl
    · simp only [full, ht, hr]
      exact c2
  | d + 1, f + 1, x, L, s, hx, hf, hL, hs => by
    have hxn : x < n := by omega
    generalize hF : (fun v : Nat => if allFrom (okOne g.2 h.2 lazy (L.take x) (L.take x).length (v : Int)) 0 (L.take x).length then full g.2 h.2 lazy m d (L.take x ++ [(v : Int)]) else []) = F
    have hlen : (L.take x).length = x := by rw [List.length_take]; omega
    have key : ∀ e v : Nat, ∀ (s : List (List Int)) (K : List Int), v + e = m → K.length = n → K.take x = L.take x → Inv s → ∃ L' : List Int, L'.length = n ∧ L'.take x = L.take x ∧
        loopO (impl_maps_1_va0a1a2a3a4a5_bsfimpl_MapSpace_1_6b1bsbsfimpl_maps_1_012345b2_B0 (fuelF impl_maps_1_va0a1a2a3a4a5_bsfimpl_MapSpace_1_6b1bsbsfimpl_maps_1_012345b2_F f)) (((m : Int), (v : Int), ()), (g, K, h, lazy, (x : Int), s, ())) = some (bif (runAll st s (flatFrom F v e)).1 then .inr ((), (g, L', h, lazy, (runAll st s (flatFrom F v e)).2, ())) else .inl ((false, ()), (g, L', h, lazy, (runAll st s (flatFrom F v e)).2, ()))) ∧
        ((runAll st s (flatFrom F v e)).1 = true → Inv (runAll st s (flatFrom F v e)).2) := by
      intro e
      induction e with
      | zero =>
        intro v s K hv hK ht hs
        refine ⟨K, hK, ht, loop_end ?_, fun _ => by simpa [flatFrom, runAll] using hs⟩
        rw [impl_maps_1_va0a1a2a3a4a5_bsfimpl_MapSpace_1_6b1bsbsfimpl_maps_1_012345b2_B0_at]
        simp only [bif_decide, flatFrom, runAll, cond_true]
        rw [if_neg (by omega)]
      | succ e ih =>
        intro v s K hv hK ht hs
        have hok := wrong_ok g.2 h.2 lazy (n := n) (x := x) K hK hxn (v : Int)
        have hnl := nbs_len g.2 n x
        have hcon := wrong_eq h hhp lazy (K.set x (v : Int)) (nbs g.2 n x) (x : Int) (v : Int) hh (by omega) (fun z hz => by
          simp only [nbs, List.mem_map] at hz
          obtain ⟨k, _, e⟩ := hz
          rw [List.length_set]
          omega)
        rw [hok, ht] at hcon
        cases ha : allFrom (okOne g.2 h.2 lazy (L.take x) x (v : Int)) 0 x
        · have hF0 : F v = [] := by
            rw [← hF]
            simp only [hlen, ha, Bool.false_eq_true, if_false]
          obtain ⟨L', l1, l2, l3, l4⟩ := ih (v + 1) s (K.set x (v : Int)) (by omega) (by rw [List.length_set]; exact hK) (by rw [List.take_set_of_le (Nat.le_refl _)]; exact ht) hs
          refine ⟨L', l1, l2, ?_, by simp only [flatFrom, hF0, List.nil_append]; exact l4⟩
          simp only [flatFrom, hF0, List.nil_append]
          refine loop_step ?_ l3
          rw [impl_maps_1_va0a1a2a3a4a5_bsfimpl_MapSpace_1_6b1bsbsfimpl_maps_1_012345b2_B0_at]
          simp only [bif_decide, neighbors_eq g hg1 (by omega) hgp x hg, Int.toNat_natCast]
          rw [if_pos (by omega), guardB_true (by simp [inb] <;> omega), hcon, ha]
          simp only [Bool.not_false, Bool.not_true, cond_false, w64_succ (show v < 4611686018427387904 by omega)]
        · have hF1 : F v = full g.2 h.2 lazy m d (L.take x ++ [(v : Int)]) := by
            rw [← hF]
            simp only [hlen, ha, if_true]
          obtain ⟨L1, a1, a2, a3, a4⟩ := space_run g h lazy hg1 hn hh1 hm hgp hhp hg hh st Inv hst d f (x + 1) (K.set x (v : Int)) s (by omega) (by omega) (by rw [List.length_set]; exact hK) hs
          have htk : (K.set x (v : Int)).take (x + 1) = L.take x ++ [(v : Int)] := by
            rw [List.take_succ_eq_append_getElem (by rw [List.length_set]; omega), List.getElem_set_self, List.take_set_of_le (Nat.le_refl _), ht]
          rw [htk] at a2 a3 a4
          have ht1 : L1.take x = L.take x := by
            have := congrArg (List.take x) a2
            rw [List.take_take, Nat.min_eq_left (by omega), List.take_append_of_le_length (by omega), List.take_take, Nat.min_self] at this
            exact this
          rw [← hF1] at a3 a4
          have one : impl_maps_1_va0a1a2a3a4a5_bsfimpl_MapSpace_1_6b1bsbsfimpl_maps_1_012345b2_B0 (fuelF impl_maps_1_va0a1a2a3a4a5_bsfimpl_MapSpace_1_6b1bsbsfimpl_maps_1_012345b2_F f) (((m : Int), (v : Int), ()), (g, K, h, lazy, (x : Int), s, ())) = some (bif (runAll st s (F v)).1 then .inl (((m : Int), ((v + 1 : Nat) : Int), ()), (g, L1, h, lazy, (x : Int), (runAll st s (F v)).2, ())) else .inr (.inl ((false, ()), (g, L1, h, lazy, (runAll st s (F v)).2, ())))) := by
            rw [impl_maps_1_va0a1a2a3a4a5_bsfimpl_MapSpace_1_6b1bsbsfimpl_maps_1_012345b2_B0_at]
            simp only [bif_decide, neighbors_eq g hg1 (by omega) hgp x hg, Int.toNat_natCast]
            rw [if_pos (by omega), guardB_true (by simp [inb] <;> omega), hcon, ha]
            simp only [Bool.not_false, Bool.not_true, cond_false, cond_true]
            rw [w64_succ (show x < 4611686018427387904 by omega), a3]
            simp only [w64_succ (show v < 4611686018427387904 by omega)]
            cases (runAll st s (F v)).1 <;> rfl
          have happ := runAll_append st (F v) (flatFrom F (v + 1) e) s
          cases hr : (runAll st s (F v)).1
          · rw [hr] at one happ
            refine ⟨L1, a1, ht1, ?_, ?_⟩
            · simp only [flatFrom, happ, cond_false]
              exact loop_end one
            · simp only [flatFrom, happ, cond_false]
              intro h; cases h
          · rw [hr] at one happ
            obtain ⟨L', l1, l2, l3, l4⟩ := ih (v + 1) (runAll st s (F v)).2 L1 (by omega) a1 ht1 (a4 hr)
            refine ⟨L', l1, l2, ?_, ?_⟩
            · simp only [flatFrom, happ, cond_true]
              exact loop_step one l3
            · simp only [flatFrom, happ, cond_true]
              exact l4
    obtain ⟨L', l1, l2, l3, l4⟩ := key m 0 s L (by omega) hL rfl hs
    refine ⟨L', l1, l2, ?_, ?_⟩
    · simp only [fuelF, impl_maps_1_va0a1a2a3a4a5_bsfimpl_MapSpace_1_6b1bsbsfimpl_maps_1_012345b2_F, full]
      rw [beq_ne (by omega)]
      simp only [cond_false, hh1]
      erw [l3]
      rw [← hF]
      cases (runAll st s (flatFrom _ 0 m)).1 <;> rfl
    · simp only [full]
      rw [hF]
      exact l4

theorem cmp_prefix {x y : Int} (h : x < y) (a b : List Int) : ∀ l : List Int, cmpRows (l ++ x :: a) (l ++ y :: b) < 0
  | [] => by simp only [List.nil_append, cmpRows, if_pos h]; omega
  | z :: l => by
    simp only [List.cons_append, cmpRows, Int.lt_irrefl, if_false]
    exact cmp_prefix h a b l
theorem flatFrom_pw {f : Nat → List (List Int)} {R : List Int → List Int → Prop} (h1 : ∀ k, (f k).Pairwise R) (h2 : ∀ i j, i < j → ∀ a ∈ f i, ∀ b ∈ f j, R a b) : ∀ d k, (flatFrom f k d).Pairwise R
  | 0, k => by simp only [flatFrom]; exact List.Pairwise.nil
  | d + 1, k => by
    simp only [flatFrom]
    refine List.pairwise_append.2 ⟨h1 k, flatFrom_pw h1 h2 d (k + 1), fun a ha b hb => ?_⟩
    obtain ⟨v, q1, _, q2⟩ := flatFrom_mem hb
    exact h2 k v (by omega) a ha b q2
theorem full_split (S T : List (Int × Int)) (lazy : Bool) {m d : Nat} {l a : List Int} {v : Nat} (h : a ∈ (if allFrom (okOne S T lazy l l.length (v : Int)) 0 l.length then full S T lazy m d (l ++ [(v : Int)]) else [])) : ∃ t, a = l ++ (v : Int) :: t := by
  split at h
  · have := (full_mem S T lazy d _ a h).2.1
    refine ⟨a.drop (l ++ [(v : Int)]).length, ?_⟩
    have e := List.take_append_drop (l ++ [(v : Int)]).length a
    rw [this, List.append_assoc] at e
    exact e.symm
  · simp at h
theorem full_pw (S T : List (Int × Int)) (lazy : Bool) {m : Nat} : ∀ (d : Nat) (l : List Int), (full S T lazy m d l).Pairwise (fun a b => cmpRows a b < 0)
  | 0, l => by simp only [full]; exact List.pairwise_singleton _ _
  | d + 1, l => by
    simp only [full]
    refine flatFrom_pw (fun k => ?_) (fun i j hij a ha b hb => ?_) m 0
    · split
      · exact full_pw S T lazy d _
      · exact List.Pairwise.nil
    · obtain ⟨t, rfl⟩ := full_split S T lazy ha
      obtain ⟨u, rfl⟩ := full_split S T lazy hb
      exact cmp_prefix (by omega) t u l
theorem full_vec (S T : List (Int × Int)) (lazy : Bool) {m : Nat} (hm : m ≤ 8) (n : Nat) : Vec n (full S T lazy m n []) := by
  refine ⟨?_, fun r hr => ?_, fun r hr v hv => ?_⟩
  · exact (full_pw S T lazy n []).imp (fun {a b} h e => by rw [e, cmpRows_self] at h; omega)
  · have := (full_mem S T lazy n [] r hr).1
    simpa using this
  · have := (full_mem S T lazy n [] r hr).2.2 v (by simpa using hv)
    omega
theorem full_sorted (S T : List (Int × Int)) (lazy : Bool) {m : Nat} (n : Nat) : sortRows (full S T lazy m n []) = full S T lazy m n [] :=
  List.mergeSort_of_pairwise ((full_pw S T lazy n []).imp (fun {a b} h => by simp only [leRows, decide_eq_true_eq]; omega))
def spaceSt : List (List Int) → List Int → Bool × List (List Int) := fun s a => (decide ((s ++ [a]).length ≤ 300), s ++ [a])
theorem space_one (s : List (List Int)) (a : List Int) (hs : s.length ≤ 300) (ha : a.length ≤ 1048576) : impl_MapSpace_1_va0_b2 (a, ()) (s, ()) = some (((spaceSt s a).1, ()), ((spaceSt s a).2, ())) := by
  simp only [impl_MapSpace_1_va0_b2, impl_MapSpace_1_va0_b2_D0, slices_Clone_int_int, cloneFn]
  rw [guardB_true (by simp only [decide_eq_true_eq]; omega)]
  simp only
  rw [guardB_true (by simp only [List.length_singleton, decide_eq_true_eq]; omega)]
  simp only [spaceSt]
  by_cases h : (s ++ [a]).length ≤ 300
  · rw [decide_eq_true h, decide_eq_true (by omega)]
  · rw [decide_eq_false h, decide_eq_false (by omega)]
theorem runAll_space : ∀ (l : List (List Int)) (s : List (List Int)), s.length ≤ 300 → (runAll spaceSt s l).2 = s ++ l.take (301 - s.length)
  | [], s, _ => by simp [runAll]
  | a :: l, s, hs => by
    simp only [runAll]
    obtain ⟨k, hk⟩ : ∃ k, 301 - s.length = k + 1 := ⟨300 - s.length, by omega⟩
    by_cases h : (s ++ [a]).length ≤ 300
    · have h1 : (spaceSt s a).1 = true := by simp only [spaceSt]; exact decide_eq_true h
      rw [h1, cond_true]
      have := runAll_space l (s ++ [a]) h
      rw [show (spaceSt s a).2 = s ++ [a] from rfl, this, hk]
      simp only [List.length_append, List.length_singleton] at h
      rw [show 301 - (s ++ [a]).length = k by simp only [List.length_append, List.length_singleton]; omega, List.take_succ_cons, List.append_assoc]
      rfl
    · have h1 : (spaceSt s a).1 = false := by simp only [spaceSt]; exact decide_eq_false h
      rw [h1, cond_false]
      simp only [List.length_append, List.length_singleton] at h
      rw [hk, show k = 0 by omega]
      simp [spaceSt]
theorem space_core (g h : Int × List (Int × Int)) (lazy : Bool) (hg : g.2.length ≤ 1048576) (hh : h.2.length ≤ 1048576) (hcc : caseB g h = true) : ∃ (R : List (List Int) × List (Int × Int)) (b : Bool), Few R ∧ spec_l10Space (g, h, lazy, ()) () = some ((R, b, ()), ()) ∧ impl_MapSpace (g, h, lazy, ()) () = some ((R, b, ()), ()) ∧
    (b = true → R = (full g.2 h.2 lazy h.1.toNat g.1.toNat [], allSteps 0 (full g.2 h.2 lazy h.1.toNat g.1.toNat [])) ∧ R.1.length ≤ 300) ∧ (b = true ↔ (full g.2 h.2 lazy h.1.toNat g.1.toNat []).length ≤ 300) := by
  have hc := hcc
  simp only [caseB, Bool.and_eq_true, decide_eq_true_eq] at hc
  simp only [impl_MapSpace, Case_eq g h hg hh, hcc]
  obtain ⟨n, hn, hn8, hgp⟩ := good_nat hc.1
  obtain ⟨m, hm, hm8, hhp⟩ := good_nat hc.2.1
  have h6 : n ≤ 6 := by omega
  have s1 := all_run g h lazy hn h6 hm hm8 hg hh n 1000 300 [] (by simp) (by omega) (by omega)
  obtain ⟨L', _, _, s2, _⟩ := space_run g h lazy hn h6 hm hm8 hgp hhp hg hh spaceSt (fun s => s.length ≤ 300) (fun s a hs ha => ⟨space_one s a hs (by omega), fun ht => by simpa [spaceSt] using ht⟩) n 1000 0 (List.replicate n 0) [] (by omega) (by omega) (by simp) (by simp)
  have hv := full_vec g.2 h.2 lazy hm8 n
  have hso := full_sorted g.2 h.2 lazy (m := m) n
  simp only [Nat.reduceAdd] at s1
  simp only [List.take_zero, runAll_space _ [] (by simp), List.nil_append, List.length_nil, Nat.sub_zero] at s2
  rw [hm, hn, Int.toNat_natCast, Int.toNat_natCast]
  generalize full g.2 h.2 lazy m n [] = A at s1 s2 hv hso
  simp only [Bool.not_true, cond_false, show spec_l10All = fuelF spec_l10All_F 1000 from rfl, spec_l10Space, impl_maps_vvvf_impl_MapSpace_1_0__b2, show impl_maps_1_va0a1a2a3a4a5_bsfimpl_MapSpace_1_6b1bsbsfimpl_maps_1_012345b2 = fuelF impl_maps_1_va0a1a2a3a4a5_bsfimpl_MapSpace_1_6b1bsbsfimpl_maps_1_012345b2_F 1000 from rfl, hn, Int.toNat_natCast]
  rw [guardB_true (fold_len (n := n) (by omega)).1]
  erw [s1, s2]
  simp only [bif_decide]
  by_cases hA : A.length ≤ 300
  · have ht : A.take 301 = A := List.take_of_length_le (by omega)
    rw [ht, if_neg (by omega), if_neg (by omega)]
    have he := edges_6000 hv h6 hA
    rw [l6Space_eq A hv.len (by omega) (by omega) (by omega), spaceOf_eq A hso hv.len (by omega) (by omega) (by omega)]
    have hl := allSteps_len A 0
    refine ⟨(A, allSteps 0 A), true, ⟨by show A.length ≤ _; omega, fun s hs => by rw [hv.len s hs]; omega, by show (allSteps 0 A).length ≤ _; omega⟩, rfl, ?_, fun _ => ⟨rfl, hA⟩, ⟨fun _ => hA, fun _ => rfl⟩⟩
    simp only [impl_orNone_op21, bif_decide]
    rw [if_neg (by omega), if_neg (by omega)]
  · have ht : (A.take 301).length = 301 := by rw [List.length_take]; omega
    rw [if_pos (by omega), if_pos (by omega)]
    exact ⟨([], []), false, Few.nil, rfl, rfl, fun h => (by cases h), ⟨fun h => (by cases h), fun h => absurd h hA⟩⟩
theorem impl_rises_B0_at (t0 : Int) (t1 : List (Int)) (t2 : Bool) (t8 : List (Int)) (t14 : List (Int)) (t15 : Int) (t16 : Int) : impl_rises_B0 ((t0, t1, t2, t8, t14, t15, t16, ()), ()) = bif (decide (t16 < t15)) then (guardB (inb t16 (List.length t14)) (guardB (!((List.length t1 : Int) == 0)) (guardB (inb (Int.tmod (w64 (t16 + (1 : Int))) (List.length t1 : Int)) (List.length t1)) (match impl_between ((List.getD t14 (Int.toNat t16) (0 : Int)), (0 : Int), (w64 (t0 - (1 : Int))), ()) () with | some ((r, ()), ()) => (bif (!r) then (some (.inr (.inl ((([] : (List Int)), false, ()), ())))) else (match impl_between ((List.getD t1 (Int.toNat (Int.tmod (w64 (t16 + (1 : Int))) (List.length t1 : Int))) (0 : Int)), (0 : Int), (w64 (t0 - (1 : Int))), ()) () with | some ((r2, ()), ()) => (bif (!r2) then (some (.inr (.inl ((([] : (List Int)), false, ()), ())))) else (guardB (!(t0 == 0)) (bif ((Int.tmod (w64 ((w64 ((List.getD t1 (Int.toNat (Int.tmod (w64 (t16 + (1 : Int))) (List.length t1 : Int))) (0 : Int)) - (List.getD t14 (Int.toNat t16) (0 : Int)))) + t0)) t0) == (0 : Int)) then (bif t2 then (guardB (decide ((List.length t8 + List.length [(0 : Int)]) * 8 ≤ 70368744177664)) (some (.inl ((t0, t1, t2, (t8 ++ [(0 : Int)]), t14, t15, (w64 (t16 + (1 : Int))), ()), ())))) else (bif ((Int.tmod (w64 ((w64 ((List.getD t1 (Int.toNat (Int.tmod (w64 (t16 + (1 : Int))) (List.length t1 : Int))) (0 : Int)) - (List.getD t14 (Int.toNat t16) (0 : Int)))) + t0)) t0) == (1 : Int)) then (guardB (decide ((List.length t8 + List.length [(1 : Int)]) * 8 ≤ 70368744177664)) (some (.inl ((t0, t1, t2, (t8 ++ [(1 : Int)]), t14, t15, (w64 (t16 + (1 : Int))), ()), ())))) else (bif ((Int.tmod (w64 ((w64 ((List.getD t1 (Int.toNat (Int.tmod (w64 (t16 + (1 : Int))) (List.length t1 : Int))) (0 : Int)) - (List.getD t14 (Int.toNat t16) (0 : Int)))) + t0)) t0) == (w64 (t0 - (1 : Int)))) then (guardB (decide ((List.length t8 + List.length [(-1 : Int)]) * 8 ≤ 70368744177664)) (some (.inl ((t0, t1, t2, (t8 ++ [(-1 : Int)]), t14, t15, (w64 (t16 + (1 : Int))), ()), ())))) else (some (.inr (.inl ((([] : (List Int)), false, ()), ()))))))) else (bif ((Int.tmod (w64 ((w64 ((List.getD t1 (Int.toNat (Int.tmod (w64 (t16 + (1 : Int))) (List.length t1 : Int))) (0 : Int)) - (List.getD t14 (Int.toNat t16) (0 : Int)))) + t0)) t0) == (1 : Int)) then (guardB (decide ((List.length t8 + List.length [(1 : Int)]) * 8 ≤ 70368744177664)) (some (.inl ((t0, t1, t2, (t8 ++ [(1 : Int)]), t14, t15, (w64 (t16 + (1 : Int))), ()), ())))) else (bif ((Int.tmod (w64 ((w64 ((List.getD t1 (Int.toNat (Int.tmod (w64 (t16 + (1 : Int))) (List.length t1 : Int))) (0 : Int)) - (List.getD t14 (Int.toNat t16) (0 : Int)))) + t0)) t0) == (w64 (t0 - (1 : Int)))) then (guardB (decide ((List.length t8 + List.length [(-1 : Int)]) * 8 ≤ 70368744177664)) (some (.inl ((t0, t1, t2, (t8 ++ [(-1 : Int)]), t14, t15, (w64 (t16 + (1 : Int))), ()), ())))) else (some (.inr (.inl ((([] : (List Int)), false, ()), ()))))))))) | none => none)) | none => none)))) else (some (.inr (.inr ((t0, t1, t8, ()), ())))) := rfl
theorem spec_l10Heights_D0_at (n : Int) (walk : List (Int)) (i : Int) (t20 : Nat) (t22 : Int) (t26 : Int) (t34 : Int) (out : List (Int)) : spec_l10Heights_D0 ((n, walk, i, t20, t22, t26, t34, ()), (out, ())) = match spec_l10Up (t22, t26, t34, ()) () with | some ((r, ()), ()) => guardB (decide ((List.length out + List.length [(w64 ((List.getD out t20 (0 : Int)) + r))]) * 8 ≤ 70368744177664)) (some ((n, walk, (out ++ [(w64 ((List.getD out t20 (0 : Int)) + r))]), i, ()), ())) | none => none := rfl
theorem spec_l10Heights_B0_at (n : Int) (walk : List (Int)) (out : List (Int)) (i : Int) : spec_l10Heights_B0 ((n, walk, out, i, ()), ()) = bif (decide (i < (List.length walk : Int))) then (guardB (inb i (List.length out)) (guardB (inb i (List.length walk)) (guardB (!((List.length walk : Int) == 0)) (guardB (inb (Int.tmod (w64 (i + (1 : Int))) (List.length walk : Int)) (List.length walk)) (match spec_l10Heights_D0 ((n, walk, i, (Int.toNat i), n, (List.getD walk (Int.toNat i) (0 : Int)), (List.getD walk (Int.toNat (Int.tmod (w64 (i + (1 : Int))) (List.length walk : Int))) (0 : Int)), ()), (out, ())) with | some ((n2, walk2, out2, i2, ()), ()) => some (.inl ((n2, walk2, out2, (w64 (i2 + (1 : Int))), ()), ())) | none => none))))) else (some (.inr ((out, ()), ()))) := rfl
theorem impl_winding_B0_at (n : Int) (sum : Int) (t16 : List (Int)) (t17 : Int) (t18 : Int) : impl_winding_B0 ((n, sum, t16, t17, t18, ()), ()) = bif (decide (t18 < t17)) then (guardB (inb t18 (List.length t16)) (some (.inl ((n, (w64 (sum + (List.getD t16 (Int.toNat t18) (0 : Int)))), t16, t17, (w64 (t18 + (1 : Int))), ()), ())))) else (some (.inr ((n, sum, ()), ()))) := rfl
theorem spec_WindingLabels_B0_at (n : Int) (out : List (Int)) (x : (List (List (Int))) × (List ((Int) × (Int)))) (i : Int) : spec_WindingLabels_B0 ((n, out, x, i, ()), ()) = bif (decide (i < (List.length x.1 : Int))) then (guardB (inb i (List.length x.1)) (match spec_l10Winding (n, (List.getD x.1 (Int.toNat i) ([] : (List Int))), ()) () with | some ((r, ()), ()) => guardB (decide ((List.length out + List.length [r]) * 8 ≤ 70368744177664)) (some (.inl ((n, (out ++ [r]), x, (w64 (i + (1 : Int))), ()), ()))) | none => none)) else (some (.inr ((out, ()), ()))) := rfl
theorem impl_WindingLabels_B0_at (n : Int) (out : List (Int)) (t35 : List (List (Int))) (t36 : Int) (t37 : Int) : impl_WindingLabels_B0 ((n, out, t35, t36, t37, ()), ()) = bif (decide (t37 < t36)) then (guardB (inb t37 (List.length t35)) (match impl_winding (n, (List.getD t35 (Int.toNat t37) ([] : (List Int))), ()) () with | some ((r, ()), ()) => guardB (decide ((List.length out + List.length [r]) * 8 ≤ 70368744177664)) (some (.inl ((n, (out ++ [r]), t35, t36, (w64 (t37 + (1 : Int))), ()), ()))) | none => none)) else (some (.inr ((out, ()), ()))) := rfl
def gap (n a b : Int) : Int := if a ≤ b then b - a else b - a + n
theorem gap_eq {n a b : Int} (hn : 3 ≤ n ∧ n ≤ 8) (ha : 0 ≤ a ∧ a < n) (hb : 0 ≤ b ∧ b < n) : Int.tmod (w64 (w64 (b - a) + n)) n = gap n a b := by
  rw [w64_of (x := b - a) (by omega) (by omega), w64_of (by omega) (by omega), Int.tmod_eq_emod_of_nonneg (by omega)]
  unfold gap
  split
  · rw [Int.add_emod_right, Int.emod_eq_of_lt (by omega) (by omega)]
  · rw [Int.emod_eq_of_lt (by omega) (by omega)]
theorem gap_range {n a b : Int} (ha : 0 ≤ a ∧ a < n) (hb : 0 ≤ b ∧ b < n) : 0 ≤ gap n a b ∧ gap n a b < n := by
  unfold gap
  by_cases h : a ≤ b
  · simp only [if_pos h]; omega
  · simp only [if_neg h]; omega
def upv (n a b : Int) : Int := if gap n a b = n - 1 then -1 else gap n a b
theorem Up_eq {n a b : Int} (hn : 3 ≤ n ∧ n ≤ 8) (ha : 0 ≤ a ∧ a < n) (hb : 0 ≤ b ∧ b < n) : spec_l10Up (n, a, b, ()) () = some ((upv n a b, ()), ()) := by
  simp only [spec_l10Up, gap_eq hn ha hb, upv]
  rw [guardB_true (by rw [beq_ne (show ¬ n = 0 by omega)]; rfl), w64_of (x := n - 1) (by omega) (by omega)]
  by_cases h : gap n a b = n - 1
  · rw [beq_eq h, if_pos h]; rfl
  · rw [beq_ne h, if_neg h]; rfl
def upAt (n : Int) (w : List Int) (k : Nat) : Int := upv n (w.getD k 0) (w.getD ((k + 1) % w.length) 0)
def hsum (n : Int) (w : List Int) : Nat → Int
  | 0 => w.getD 0 0
  | k + 1 => hsum n w k + upAt n w k
def InR (n : Int) (w : List Int) : Prop := ∀ i, i < w.length → 0 ≤ w.getD i 0 ∧ w.getD i 0 < n
theorem upv_range {n a b : Int} (hn : 3 ≤ n) (ha : 0 ≤ a ∧ a < n) (hb : 0 ≤ b ∧ b < n) : -1 ≤ upv n a b ∧ upv n a b < n := by
  have := gap_range ha hb
  unfold upv
  by_cases h : gap n a b = n - 1
  · simp only [if_pos h]; omega
  · simp only [if_neg h]; omega
theorem upAt_range {n : Int} {w : List Int} (hn : 3 ≤ n) (hw : InR n w) {k : Nat} (hk : k < w.length) : -1 ≤ upAt n w k ∧ upAt n w k < n :=
  upv_range hn (hw k hk) (hw _ (Nat.mod_lt _ (by omega)))
theorem hsum_range {n : Int} {w : List Int} (hn : 3 ≤ n ∧ n ≤ 8) (hw : InR n w) : ∀ k : Nat, k ≤ w.length → -(k : Int) ≤ hsum n w k ∧ hsum n w k ≤ 8 + 8 * (k : Int)
  | 0, h => by
    simp only [hsum]
    by_cases h0 : 0 < w.length
    · have := hw 0 h0; omega
    · have : w = [] := List.eq_nil_of_length_eq_zero (by omega)
      subst this
      simp
  | k + 1, h => by
    have h1 := hsum_range hn hw k (by omega)
    have h2 := upAt_range hn.1 hw (k := k) (by omega)
    simp only [hsum]
    omega
theorem tmod_nat {a b : Nat} : Int.tmod (a : Int) (b : Int) = ((a % b : Nat) : Int) := by
  rw [Int.tmod_eq_emod_of_nonneg (by omega)]
  exact (Int.natCast_emod a b).symm
theorem map_range_succ {α : Type} (f : Nat → α) (k : Nat) : (List.range (k + 1)).map f = (List.range k).map f ++ [f k] := by
  rw [List.range_succ, List.map_append]; rfl
theorem Heights_eq (n : Int) (w : List Int) (hn : 3 ≤ n ∧ n ≤ 8) (h0 : 0 < w.length) (hl : w.length ≤ 1048576) (hw : InR n w) : spec_l10Heights (n, w, ()) () = some (((List.range (w.length + 1)).map (hsum n w), ()), ()) := by
  have key : ∀ d k : Nat, k + d = w.length → loopO spec_l10Heights_B0 ((n, w, (List.range (k + 1)).map (hsum n w), (k : Int), ()), ()) = some (((List.range (w.length + 1)).map (hsum n w), ()), ()) := by
    intro d
    induction d with
    | zero =>
      intro k hk
      refine loop_end ?_
      rw [spec_l10Heights_B0_at]
      simp only [bif_decide]
      rw [if_neg (by omega), show k = w.length by omega]
    | succ d ih =>
      intro k hk
      refine loop_step ?_ (ih (k + 1) (by omega))
      have hm : (k + 1) % w.length < w.length := Nat.mod_lt _ h0
      have hr := hsum_range hn hw k (by omega)
      have hu := upAt_range hn.1 hw (k := k) (by omega)
      rw [spec_l10Heights_B0_at]
      simp only [bif_decide]
      rw [if_pos (by omega), guardB_true (inb_true (by omega) (by simp only [List.length_map, List.length_range]; omega)), guardB_true (inb_true (by omega) (by omega)), guardB_true (by rw [beq_ne (show ¬ (w.length : Int) = 0 by omega)]; rfl), w64_succ (show k < 4611686018427387904 by omega), tmod_nat,
        guardB_true (inb_true (by omega) (by omega))]
      simp only [Int.toNat_natCast]
      erw [spec_l10Heights_D0_at]
      rw [Up_eq hn (hw k (by omega)) (hw _ hm)]
      have hg : ((List.range (k + 1)).map (hsum n w)).getD k 0 = hsum n w k := by simp [List.getD_eq_getElem?_getD]
      simp only [hg]
      rw [w64_of (x := hsum n w k + upv n (w.getD k 0) (w.getD ((k + 1) % w.length) 0)) (by unfold upAt at hu; omega) (by unfold upAt at hu; omega), guardB_true (by simp only [List.length_map, List.length_range, List.length_singleton, decide_eq_true_eq]; omega)]
      rw [map_range_succ (hsum n w) (k + 1)]
      simp only [w64_succ (show k < 4611686018427387904 by omega)]
      rfl
  simp only [spec_l10Heights]
  rw [guardB_true (inb_true (by omega) (by omega))]
  have := key w.length 0 (by omega)
  simp only [show (List.range (0 + 1)).map (hsum n w) = [w.getD 0 0] from rfl] at this
  erw [this]
def stepB (n : Int) (w : List Int) (lazy : Bool) (i : Nat) : Bool := (inR (w.getD i 0) 0 (n - 1) && inR (w.getD ((i + 1) % w.length) 0) 0 (n - 1)) && ((lazy && decide (gap n (w.getD i 0) (w.getD ((i + 1) % w.length) 0) = 0)) || (decide (gap n (w.getD i 0) (w.getD ((i + 1) % w.length) 0) = 1) || decide (gap n (w.getD i 0) (w.getD ((i + 1) % w.length) 0) = n - 1)))
def ups (n : Int) (w : List Int) (k : Nat) : List Int := (List.range k).map (upAt n w)
theorem ups_len {n : Int} {w : List Int} {k : Nat} : (ups n w k).length = k := by simp [ups]
def risesR (n : Int) (w : List Int) (lazy : Bool) : List Int × Bool := bif allFrom (stepB n w lazy) 0 w.length then (ups n w w.length, inR (w.length : Int) 3 24) else ([], false)
theorem rises_eq (n : Int) (w : List Int) (lazy : Bool) (hn : 3 ≤ n ∧ n ≤ 8) (hl : w.length ≤ 1048576) : impl_rises (n, w, lazy, ()) () = some (((risesR n w lazy).1, (risesR n w lazy).2, ()), ()) := by
  have key : ∀ d k : Nat, k + d = w.length → loopO impl_rises_B0 ((n, w, lazy, ups n w k, w, (w.length : Int), (k : Int), ()), ()) = some (bif allFrom (stepB n w lazy) k d then .inr ((n, w, ups n w w.length, ()), ()) else .inl ((([] : List Int), false, ()), ())) := by
    intro d
    induction d with
    | zero =>
      intro k hk
      refine loop_end ?_
      rw [impl_rises_B0_at]
      simp only [bif_decide, allFrom, cond_true]
      rw [if_neg (by omega), show k = w.length by omega]
    | succ d ih =>
      intro k hk
      have h0 : 0 < w.length := by omega
      have hm : (k + 1) % w.length < w.length := Nat.mod_lt _ h0
      have st := impl_rises_B0_at n w lazy (ups n w k) w (w.length : Int) (k : Int)
      simp only [bif_decide] at st
      rw [if_pos (by omega), guardB_true (inb_true (by omega) (by omega)), guardB_true (by rw [beq_ne (show ¬ (w.length : Int) = 0 by omega)]; rfl), w64_succ (show k < 4611686018427387904 by omega), tmod_nat,
        guardB_true (inb_true (by omega) (by omega))] at st
      simp only [Int.toNat_natCast, between_eq _ _ _, w64_of (x := n - 1) (by omega) (by omega)] at st
      simp only [allFrom, stepB]
      have hup : ups n w (k + 1) = ups n w k ++ [upAt n w k] := map_range_succ _ _
      unfold upAt at hup
      obtain ⟨x, ex⟩ : ∃ x : Int, w.getD k 0 = x := ⟨_, rfl⟩
      obtain ⟨y, ey⟩ : ∃ y : Int, w.getD ((k + 1) % w.length) 0 = y := ⟨_, rfl⟩
      rw [ex, ey] at hup
      rw [ex, ey]
      simp only [ex, ey] at st
      cases hx : inR x 0 (n - 1)
      · simp only [hx, Bool.not_false, cond_true] at st
        simp only [Bool.false_and, cond_false]
        exact loop_end st
      · cases hy : inR y 0 (n - 1)
        · simp only [hx, hy, Bool.not_true, cond_false, Bool.not_false, cond_true] at st
          simp only [Bool.and_false, Bool.false_and, cond_false]
          exact loop_end st
        · have hx' : 0 ≤ x ∧ x < n := by simp only [inR, Bool.and_eq_true, decide_eq_true_eq] at hx; omega
          have hy' : 0 ≤ y ∧ y < n := by simp only [inR, Bool.and_eq_true, decide_eq_true_eq] at hy; omega
          simp only [hx, hy, Bool.not_true, cond_false, gap_eq hn hx' hy'] at st
          rw [guardB_true (by rw [beq_ne (show ¬ n = 0 by omega)]; rfl)] at st
          simp only [Bool.true_and]
          have go : ∀ v : Int, v = upv n x y → impl_rises_B0 ((n, w, lazy, ups n w k, w, (w.length : Int), (k : Int), ()), ()) = guardB (decide (((ups n w k).length + List.length [v]) * 8 ≤ 70368744177664)) (some (.inl ((n, w, lazy, ups n w k ++ [v], w, (w.length : Int), ((k + 1 : Nat) : Int), ()), ()))) →
              loopO impl_rises_B0 ((n, w, lazy, ups n w k, w, (w.length : Int), (k : Int), ()), ()) = some (bif allFrom (stepB n w lazy) (k + 1) d then .inr ((n, w, ups n w w.length, ()), ()) else .inl ((([] : List Int), false, ()), ())) := by
            intro v hv hst
            rw [guardB_true (by simp only [ups_len, List.length_singleton, decide_eq_true_eq]; omega), hv, ← hup] at hst
            exact loop_step hst (ih (k + 1) (by omega))
          unfold upv at go
          by_cases g0 : gap n x y = 0
          · rw [decide_eq_true g0, decide_eq_false (show ¬ gap n x y = 1 by omega), decide_eq_false (show ¬ gap n x y = n - 1 by omega)]
            cases lazy
            · simp only [cond_true, cond_false, beq_eq g0, beq_ne (show ¬ gap n x y = 1 by omega), beq_ne (show ¬ gap n x y = n - 1 by omega)] at st
              simp only [Bool.false_and, Bool.or_self, cond_false]
              exact loop_end st
            · simp only [cond_true, beq_eq g0] at st
              simp only [Bool.true_and, Bool.or_false]
              exact go 0 (by rw [if_neg (by omega), g0]) st
          · rw [decide_eq_false g0]
            by_cases g1 : gap n x y = 1
            · rw [decide_eq_true g1]
              simp only [cond_false, cond_true, beq_ne g0, beq_eq g1] at st
              simp only [Bool.and_false, Bool.false_or, Bool.true_or, Bool.true_and]
              exact go 1 (by rw [if_neg (by omega), g1]) st
            · rw [decide_eq_false g1]
              by_cases g2 : gap n x y = n - 1
              · rw [decide_eq_true g2]
                simp only [cond_false, cond_true, beq_ne g0, beq_ne g1, beq_eq g2] at st
                simp only [Bool.and_false, Bool.false_or, Bool.true_and]
                exact go (-1) (by rw [if_pos g2]) st
              · rw [decide_eq_false g2]
                simp only [cond_false, beq_ne g0, beq_ne g1, beq_ne g2] at st
                simp only [Bool.and_false, Bool.or_self, Bool.false_and, cond_false]
                exact loop_end st
  have k0 := key w.length 0 (by omega)
  simp only [impl_rises]
  erw [k0]
  simp only [risesR]
  have hc : impl_isCycle (n, ()) () = some ((true, ()), ()) := by
    simp only [impl_isCycle, between_eq _ _ _, show inR n 3 8 = true by simp only [inR, Bool.and_eq_true, decide_eq_true_eq]; omega]
  cases hall : allFrom (stepB n w lazy) 0 w.length
  · rfl
  · simp only [hc, cond_true, between_eq _ _ _]
def sumI : List Int → Int
  | [] => 0
  | x :: l => x + sumI l
theorem sumI_append : ∀ l k : List Int, sumI (l ++ k) = sumI l + sumI k
  | [], k => by simp [sumI]
  | x :: l, k => by simp only [List.cons_append, sumI, sumI_append l k]; omega
theorem hsum_ups (n : Int) (w : List Int) : ∀ k : Nat, hsum n w k = w.getD 0 0 + sumI (ups n w k)
  | 0 => by simp [hsum, ups, sumI]
  | k + 1 => by
    have : ups n w (k + 1) = ups n w k ++ [upAt n w k] := map_range_succ _ _
    rw [this, sumI_append]
    simp only [hsum, sumI, hsum_ups n w k]
    omega
theorem winding_loop (n : Int) (L : List Int) (B : Int) (hB : ∀ x ∈ L, -B ≤ x ∧ x ≤ B) (hb : 0 ≤ B ∧ B ≤ 1000) (hl : L.length ≤ 1048576) : loopO impl_winding_B0 ((n, (0 : Int), L, (L.length : Int), (0 : Int), ()), ()) = some ((n, sumI L, ()), ()) := by
  have bound : ∀ l : List Int, (∀ x ∈ l, -B ≤ x ∧ x ≤ B) → l.length ≤ 1048576 → -1048576000 ≤ sumI l ∧ sumI l ≤ 1048576000 := by
    have : ∀ l : List Int, (∀ x ∈ l, -B ≤ x ∧ x ≤ B) → -(1000 * (l.length : Int)) ≤ sumI l ∧ sumI l ≤ 1000 * (l.length : Int) := by
      intro l
      induction l with
      | nil => intro _; simp [sumI]
      | cons x l ih =>
        intro h
        have h1 := h x (by simp)
        have h2 := ih fun y hy => h y (by simp [hy])
        simp only [sumI, List.length_cons]
        omega
    intro l h1 h2
    have := this l h1
    omega
  have key : ∀ d k : Nat, k + d = L.length → loopO impl_winding_B0 ((n, sumI (L.take k), L, (L.length : Int), (k : Int), ()), ()) = some ((n, sumI L, ()), ()) := by
    intro d
    induction d with
    | zero =>
      intro k hk
      refine loop_end ?_
      rw [impl_winding_B0_at]
      simp only [bif_decide]
      rw [if_neg (by omega), List.take_of_length_le (by omega)]
    | succ d ih =>
      intro k hk
      refine loop_step ?_ (ih (k + 1) (by omega))
      have b1 := bound (L.take k) (fun x hx => hB x (List.mem_of_mem_take hx)) (by rw [List.length_take]; omega)
      have b2 := hB L[k] (List.getElem_mem _)
      have hk' : k < L.length := by omega
      rw [impl_winding_B0_at]
      simp only [bif_decide, Int.toNat_natCast]
      rw [if_pos (by omega), guardB_true (inb_true (by omega) (by omega)), getD_at hk', w64_of (by omega) (by omega), w64_succ (show k < 4611686018427387904 by omega), List.take_succ_eq_append_getElem hk', sumI_append]
      simp [sumI]
  have := key L.length 0 (by omega)
  simpa [sumI] using this
theorem winding_eq (n : Int) (w : List Int) (hn : 3 ≤ n ∧ n ≤ 8) (hl : w.length ≤ 1048576) (hg : allFrom (stepB n w true) 0 w.length = true) : impl_winding (n, w, ()) () = some ((Int.tdiv (sumI (ups n w w.length)) n, ()), ()) := by
  have hw : InR n w := fun i hi => by
    have := allFrom_iff.1 hg i (Nat.zero_le _) (by omega)
    simp only [stepB, inR, Bool.and_eq_true, decide_eq_true_eq] at this
    omega
  have hB : ∀ x ∈ ups n w w.length, -8 ≤ x ∧ x ≤ 8 := fun x hx => by
    simp only [ups, List.mem_map, List.mem_range] at hx
    obtain ⟨k, hk, rfl⟩ := hx
    have := upAt_range hn.1 hw hk
    omega
  have hs := hsum_range hn hw w.length (Nat.le_refl _)
  rw [hsum_ups] at hs
  have h00 : -8 ≤ w.getD 0 0 ∧ w.getD 0 0 ≤ 8 := by
    by_cases h0 : 0 < w.length
    · have := hw 0 h0; omega
    · have : w = [] := List.eq_nil_of_length_eq_zero (by omega)
      subst this
      simp
  simp only [impl_winding, rises_eq n w true hn hl, risesR, hg, cond_true]
  have := winding_loop n (ups n w w.length) 8 hB (by omega) (by rw [ups_len]; exact hl)
  erw [this]
  simp only
  rw [guardB_true (by rw [beq_ne (show ¬ n = 0 by omega)]; rfl)]
  have hd : -1048576000 ≤ Int.tdiv (sumI (ups n w w.length)) n ∧ Int.tdiv (sumI (ups n w w.length)) n ≤ 1048576000 := by
    have h1 := Int.natAbs_tdiv_le_natAbs (sumI (ups n w w.length)) n
    omega
  rw [w64_of (by omega) (by omega)]
theorem Winding_eq (n : Int) (w : List Int) (hn : 3 ≤ n ∧ n ≤ 8) (h0 : 0 < w.length) (hl : w.length ≤ 1048576) (hw : InR n w) : spec_l10Winding (n, w, ()) () = some ((Int.tdiv (sumI (ups n w w.length)) n, ()), ()) := by
  have hs := hsum_range hn hw w.length (Nat.le_refl _)
  have h00 := hw 0 h0
  have hu := hsum_ups n w w.length
  have hg : ((List.range (w.length + 1)).map (hsum n w)).getD w.length 0 = hsum n w w.length := by simp [List.getD_eq_getElem?_getD]
  simp only [spec_l10Winding, Heights_eq n w hn h0 hl hw, Int.toNat_natCast, hg]
  rw [guardB_true (inb_true (by omega) (by omega)), guardB_true (inb_true (by omega) (by simp only [List.length_map, List.length_range]; omega)), guardB_true (by rw [beq_ne (show ¬ n = 0 by omega)]; rfl), w64_of (x := hsum n w w.length - w.getD 0 0) (by omega) (by omega), show hsum n w w.length - w.getD 0 0 = sumI (ups n w w.length) by omega]
  have hd : -1048576000 ≤ Int.tdiv (sumI (ups n w w.length)) n ∧ Int.tdiv (sumI (ups n w w.length)) n ≤ 1048576000 := by
    have h1 := Int.natAbs_tdiv_le_natAbs (sumI (ups n w w.length)) n
    omega
  rw [w64_of (by omega) (by omega)]

def cyc : Nat → List (Int × Int)
  | 3 => [(0, 1), (0, 2), (1, 2)]
  | 4 => [(0, 1), (0, 3), (1, 2), (2, 3)]
  | 5 => [(0, 1), (0, 4), (1, 2), (2, 3), (3, 4)]
  | 6 => [(0, 1), (0, 5), (1, 2), (2, 3), (3, 4), (4, 5)]
  | 7 => [(0, 1), (0, 6), (1, 2), (2, 3), (3, 4), (4, 5), (5, 6)]
  | 8 => [(0, 1), (0, 7), (1, 2), (2, 3), (3, 4), (4, 5), (5, 6), (6, 7)]
  | _ => []
theorem sortPairs_of {L K : List (Int × Int)} (hp : K.Perm L) (hs : K.Pairwise fun x y => lePairs x y = true) : sortPairs L = K := by
  have hp2 : (sortPairs L).Perm K := (List.mergeSort_perm L lePairs).trans hp.symm
  refine List.Perm.eq_of_pairwise (le := fun x y => lePairs x y = true) (fun x y _ _ h1 h2 => ?_) ?_ hs hp2
  · have := cmpPair_flip x y
    simp only [lePairs, decide_eq_true_eq] at h1 h2
    have a1 : ¬ cmpPair x y < 0 := by omega
    have a2 : ¬ cmpPair y x < 0 := by omega
    rw [cmpPair_lt] at a1 a2
    exact Prod.ext (by omega) (by omega)
  · refine List.pairwise_mergeSort (fun x y z h1 h2 => ?_) (fun x y => ?_) L
    · simp only [lePairs, decide_eq_true_eq] at *
      have f1 := cmpPair_flip x y
      have f2 := cmpPair_flip y z
      have f3 := cmpPair_flip x z
      have a1 : ¬ cmpPair y x < 0 := by omega
      have a2 : ¬ cmpPair z y < 0 := by omega
      have a3 : ¬ cmpPair z x < 0 := by
        rw [cmpPair_lt] at *
        omega
      omega
    · have f1 := cmpPair_flip x y
      simp only [lePairs, Bool.or_eq_true, decide_eq_true_eq]
      omega
theorem specCycle_eq {n : Nat} (h : n = 3 ∨ n = 4 ∨ n = 5 ∨ n = 6 ∨ n = 7 ∨ n = 8) : spec_l10Cycle ((n : Int), ()) () = some ((((n : Int), cyc n), ()), ()) := by
  rcases h with rfl | rfl | rfl | rfl | rfl | rfl
  · have k : loopO spec_l10Cycle_B0 (((3 : Int), (1 : Int), ()), (((0 : Int), ([] : List (Int × Int))), ((3 : Int), [((0 : Int), (1 : Int)), ((0 : Int), (2 : Int))]), ())) = some ((), (((0 : Int), ([] : List (Int × Int))), ((3 : Int), cyc 3), ())) := loop_step rfl (loop_end rfl)
    simp only [spec_l10Cycle]
    erw [k]; rfl
  · have k : loopO spec_l10Cycle_B0 (((4 : Int), (1 : Int), ()), (((0 : Int), ([] : List (Int × Int))), ((4 : Int), [((0 : Int), (1 : Int)), ((0 : Int), (3 : Int))]), ())) = some ((), (((0 : Int), ([] : List (Int × Int))), ((4 : Int), cyc 4), ())) := loop_step rfl (loop_step rfl (loop_end rfl))
    simp only [spec_l10Cycle]
    erw [k]; rfl
  · have k : loopO spec_l10Cycle_B0 (((5 : Int), (1 : Int), ()), (((0 : Int), ([] : List (Int × Int))), ((5 : Int), [((0 : Int), (1 : Int)), ((0 : Int), (4 : Int))]), ())) = some ((), (((0 : Int), ([] : List (Int × Int))), ((5 : Int), cyc 5), ())) := loop_step rfl (loop_step rfl (loop_step rfl (loop_end rfl)))
    simp only [spec_l10Cycle]
    erw [k]; rfl
  · have k : loopO spec_l10Cycle_B0 (((6 : Int), (1 : Int), ()), (((0 : Int), ([] : List (Int × Int))), ((6 : Int), [((0 : Int), (1 : Int)), ((0 : Int), (5 : Int))]), ())) = some ((), (((0 : Int), ([] : List (Int × Int))), ((6 : Int), cyc 6), ())) := loop_step rfl (loop_step rfl (loop_step rfl (loop_step rfl (loop_end rfl))))
    simp only [spec_l10Cycle]
    erw [k]; rfl
  · have k : loopO spec_l10Cycle_B0 (((7 : Int), (1 : Int), ()), (((0 : Int), ([] : List (Int × Int))), ((7 : Int), [((0 : Int), (1 : Int)), ((0 : Int), (6 : Int))]), ())) = some ((), (((0 : Int), ([] : List (Int × Int))), ((7 : Int), cyc 7), ())) := loop_step rfl (loop_step rfl (loop_step rfl (loop_step rfl (loop_step rfl (loop_end rfl)))))
    simp only [spec_l10Cycle]
    erw [k]; rfl
  · have k : loopO spec_l10Cycle_B0 (((8 : Int), (1 : Int), ()), (((0 : Int), ([] : List (Int × Int))), ((8 : Int), [((0 : Int), (1 : Int)), ((0 : Int), (7 : Int))]), ())) = some ((), (((0 : Int), ([] : List (Int × Int))), ((8 : Int), cyc 8), ())) := loop_step rfl (loop_step rfl (loop_step rfl (loop_step rfl (loop_step rfl (loop_step rfl (loop_end rfl))))))
    simp only [spec_l10Cycle]
    erw [k]; rfl
def ring : Nat → List (Int × Int)
  | 3 => [(0, 1), (1, 2), (0, 2)]
  | 4 => [(0, 1), (1, 2), (2, 3), (0, 3)]
  | 5 => [(0, 1), (1, 2), (2, 3), (3, 4), (0, 4)]
  | 6 => [(0, 1), (1, 2), (2, 3), (3, 4), (4, 5), (0, 5)]
  | 7 => [(0, 1), (1, 2), (2, 3), (3, 4), (4, 5), (5, 6), (0, 6)]
  | 8 => [(0, 1), (1, 2), (2, 3), (3, 4), (4, 5), (5, 6), (6, 7), (0, 7)]
  | _ => []
theorem ring_sort {n : Nat} (h : n = 3 ∨ n = 4 ∨ n = 5 ∨ n = 6 ∨ n = 7 ∨ n = 8) : sortPairs (ring n) = cyc n := by
  rcases h with rfl | rfl | rfl | rfl | rfl | rfl <;> exact sortPairs_of (by decide) (by decide)
theorem cycleOf_eq {n : Nat} (h : n = 3 ∨ n = 4 ∨ n = 5 ∨ n = 6 ∨ n = 7 ∨ n = 8) : impl_cycleOf ((n : Int), ()) () = some ((((n : Int), cyc n), ()), ()) := by
  have hs := ring_sort h
  have hk : loopO impl_cycleOf_B0 (((n : Int), (n : Int), (0 : Int), ()), (((0 : Int), ([] : List (Int × Int))), ((n : Int), ([] : List (Int × Int))), ())) = some ((), (((0 : Int), ([] : List (Int × Int))), ((n : Int), ring n), ())) := by
    rcases h with rfl | rfl | rfl | rfl | rfl | rfl
    · exact loop_step rfl (loop_step rfl (loop_step rfl (loop_end rfl)))
    · exact loop_step rfl (loop_step rfl (loop_step rfl (loop_step rfl (loop_end rfl))))
    · exact loop_step rfl (loop_step rfl (loop_step rfl (loop_step rfl (loop_step rfl (loop_end rfl)))))
    · exact loop_step rfl (loop_step rfl (loop_step rfl (loop_step rfl (loop_step rfl (loop_step rfl (loop_end rfl))))))
    · exact loop_step rfl (loop_step rfl (loop_step rfl (loop_step rfl (loop_step rfl (loop_step rfl (loop_step rfl (loop_end rfl)))))))
    · exact loop_step rfl (loop_step rfl (loop_step rfl (loop_step rfl (loop_step rfl (loop_step rfl (loop_step rfl (loop_step rfl (loop_end rfl))))))))
  have hr : (ring n).length ≤ 8 := by rcases h with rfl | rfl | rfl | rfl | rfl | rfl <;> decide
  simp only [impl_cycleOf]
  erw [hk]
  simp only [slices_SortFunc_2_int_2_int, sortPairsFn]
  rw [guardB_true (by simp only [decide_eq_true_eq]; omega), hs]
theorem cyc_good {n : Nat} (h : n = 3 ∨ n = 4 ∨ n = 5 ∨ n = 6 ∨ n = 7 ∨ n = 8) : goodG ((n : Int), cyc n) = true ∧ (cyc n).length ≤ 8 := by
  rcases h with rfl | rfl | rfl | rfl | rfl | rfl <;> exact ⟨by decide +kernel, by decide⟩
theorem cyc_step {m : Nat} (h : m = 3 ∨ m = 4 ∨ m = 5 ∨ m = 6 ∨ m = 7 ∨ m = 8) : ∀ i : Fin m, nearB (cyc m) ((i.val : Nat) : Int) (((i.val + 1) % m : Nat) : Int) = true := by
  rcases h with rfl | rfl | rfl | rfl | rfl | rfl <;> decide +kernel
theorem cyc_gap {n : Nat} (h : n = 3 ∨ n = 4 ∨ n = 5 ∨ n = 6 ∨ n = 7 ∨ n = 8) : ∀ x y : Fin n, nearB (cyc n) ((x.val : Nat) : Int) ((y.val : Nat) : Int) = true → gap n ((x.val : Nat) : Int) ((y.val : Nat) : Int) = 1 ∨ gap n ((x.val : Nat) : Int) ((y.val : Nat) : Int) = n - 1 := by
  rcases h with rfl | rfl | rfl | rfl | rfl | rfl <;> decide +kernel
/-- what a map is -/
theorem full_ok (S T : List (Int × Int)) (lazy : Bool) {m : Nat} : ∀ (d : Nat) (l a : List Int), a ∈ full S T lazy m d l → ∀ x, l.length ≤ x → x < a.length → ∀ k, k < x → okOne S T lazy (a.take x) x (a.getD x 0) k = true
  | 0, l, a, h, x, h1, h2, k, hk => by
    simp only [full, List.mem_singleton] at h
    subst h
    omega
  | d + 1, l, a, h, x, h1, h2, k, hk => by
    simp only [full] at h
    obtain ⟨v, _, _, h3⟩ := flatFrom_mem h
    split at h3
    · rename_i hall
      by_cases hx : x = l.length
      · have q := (full_mem S T lazy d _ a h3).2.1
        have ht : a.take l.length = l := by
          have := congrArg (List.take l.length) q
          simp only [List.length_append, List.length_singleton] at this
          rwa [List.take_take, Nat.min_eq_left (by omega), List.take_append_of_le_length (Nat.le_refl _), List.take_length] at this
        have e : a.getD l.length 0 = (v : Int) := by
          simp only [List.length_append, List.length_singleton] at q
          have hlt : l.length < a.length := by omega
          rw [getD_at hlt]
          have := congrArg (fun b : List Int => b[l.length]?) q
          simp only [List.getElem?_take_of_lt (show l.length < l.length + 1 by omega), List.getElem?_append_right (Nat.le_refl _), Nat.sub_self, List.getElem?_cons_zero, List.getElem?_eq_getElem hlt, Option.some.injEq] at this
          exact this
        subst hx
        rw [ht, e]
        exact allFrom_iff.1 hall k (Nat.zero_le _) (by omega)
      · exact full_ok S T lazy d _ a h3 x (by simp only [List.length_append, List.length_singleton]; omega) h2 k hk
    · simp at h3
theorem full_fit (S T : List (Int × Int)) (lazy : Bool) {m n : Nat} {a : List Int} (h : a ∈ full S T lazy m n []) {x k : Nat} (hx : x < n) (hk : k < x) (hs : nearB S (k : Int) (x : Int) = true) : fitB T lazy (a.getD k 0) (a.getD x 0) = true := by
  have hl : a.length = n := by have := (full_mem S T lazy n [] a h).1; simpa using this
  have := full_ok S T lazy n [] a h x (by simp) (by omega) k hk
  simp only [okOne, hs, Bool.not_true, Bool.false_or] at this
  rwa [show (a.take x).getD k 0 = a.getD k 0 by simp only [List.getD_eq_getElem?_getD, List.getElem?_take_of_lt hk]] at this
theorem walk_good {m n : Nat} (hm : m = 3 ∨ m = 4 ∨ m = 5 ∨ m = 6 ∨ m = 7 ∨ m = 8) (hn : n = 3 ∨ n = 4 ∨ n = 5 ∨ n = 6 ∨ n = 7 ∨ n = 8) {a : List Int} (h : a ∈ full (cyc m) (cyc n) false n m []) : a.length = m ∧ InR n a ∧ allFrom (stepB n a false) 0 a.length = true ∧ allFrom (stepB n a true) 0 a.length = true := by
  obtain ⟨q1, _, q3⟩ := full_mem (cyc m) (cyc n) false m [] a h
  have hl : a.length = m := by simpa using q1
  have hv : InR n a := fun i hi => by
    rw [getD_at hi]
    exact q3 _ (by simp)
  have hg : ∀ i, i < m → gap n (a.getD i 0) (a.getD ((i + 1) % a.length) 0) = 1 ∨ gap n (a.getD i 0) (a.getD ((i + 1) % a.length) 0) = n - 1 := by
    intro i hi
    have hm0 : 0 < m := by omega
    have hj : (i + 1) % m < m := Nat.mod_lt _ hm0
    have hs := cyc_step hm ⟨i, hi⟩
    simp only at hs
    have hf : nearB (cyc n) (a.getD i 0) (a.getD ((i + 1) % m) 0) = true := by
      rcases Nat.lt_trichotomy i ((i + 1) % m) with hlt | heq | hgt
      · have := full_fit (cyc m) (cyc n) false h hj hlt hs
        simpa [fitB] using this
      · rcases Nat.lt_or_ge (i + 1) m with h1 | h1
        · rw [Nat.mod_eq_of_lt h1] at heq; omega
        · rw [show i + 1 = m by omega, Nat.mod_self] at heq; omega
      · have := full_fit (cyc m) (cyc n) false h hi hgt (by rw [nearB_symm]; exact hs)
        rw [nearB_symm]
        simpa [fitB] using this
    have h1 := hv i (by omega)
    have h2 := hv ((i + 1) % m) (by omega)
    rw [hl]
    obtain ⟨x, hx⟩ : ∃ x : Nat, a.getD i 0 = (x : Int) := ⟨(a.getD i 0).toNat, by omega⟩
    obtain ⟨y, hy⟩ : ∃ y : Nat, a.getD ((i + 1) % m) 0 = (y : Int) := ⟨(a.getD ((i + 1) % m) 0).toNat, by omega⟩
    rw [hx, hy] at hf ⊢
    rw [hx] at h1
    rw [hy] at h2
    exact cyc_gap hn ⟨x, by omega⟩ ⟨y, by omega⟩ hf
  have hst : ∀ lazy, ∀ i, i < m → stepB n a lazy i = true := fun lazy i hi => by
    have h1 := hv i (by omega)
    have h2 := hv ((i + 1) % a.length) (by rw [hl]; exact Nat.mod_lt _ (by omega))
    have h3 := hg i hi
    simp only [stepB, inR, Bool.and_eq_true, Bool.or_eq_true, decide_eq_true_eq]
    exact ⟨⟨by omega, by omega⟩, .inr h3⟩
  exact ⟨hl, hv, allFrom_iff.2 fun j _ hj => hst _ j (by omega), allFrom_iff.2 fun j _ hj => hst _ j (by omega)⟩
theorem inR_cases {n : Int} (h : inR n 3 8 = true) : ∃ k : Nat, n = (k : Int) ∧ (k = 3 ∨ k = 4 ∨ k = 5 ∨ k = 6 ∨ k = 7 ∨ k = 8) := by
  simp only [inR, Bool.and_eq_true, decide_eq_true_eq] at h
  exact ⟨n.toNat, by omega, by omega⟩

def wnd (n : Int) (w : List Int) : Int := Int.tdiv (sumI (ups n w w.length)) n
theorem spec_labels (n : Int) (x : List (List Int) × List (Int × Int)) (hl : x.1.length ≤ 1048576) (h : ∀ a ∈ x.1, spec_l10Winding (n, a, ()) () = some ((wnd n a, ()), ())) : loopO spec_WindingLabels_B0 ((n, ([] : List Int), x, (0 : Int), ()), ()) = some ((x.1.map (wnd n), ()), ()) := by
  have key : ∀ d k : Nat, k + d = x.1.length → loopO spec_WindingLabels_B0 ((n, (x.1.take k).map (wnd n), x, (k : Int), ()), ()) = some ((x.1.map (wnd n), ()), ()) := by
    intro d
    induction d with
    | zero =>
      intro k hk
      refine loop_end ?_
      rw [spec_WindingLabels_B0_at]
      simp only [bif_decide]
      rw [if_neg (by omega), List.take_of_length_le (by omega)]
    | succ d ih =>
      intro k hk
      refine loop_step ?_ (ih (k + 1) (by omega))
      have hk' : k < x.1.length := by omega
      rw [spec_WindingLabels_B0_at]
      simp only [bif_decide, Int.toNat_natCast]
      rw [if_pos (by omega), guardB_true (inb_true (by omega) (by omega)), getD_at hk', h _ (List.getElem_mem hk')]
      simp only
      rw [guardB_true (by simp only [List.length_map, List.length_take, List.length_singleton, decide_eq_true_eq]; omega), w64_succ (show k < 4611686018427387904 by omega), List.take_succ_eq_append_getElem hk', List.map_append]
      rfl
  have := key x.1.length 0 (by omega)
  simpa using this
theorem impl_labels (n : Int) (l : List (List Int)) (hl : l.length ≤ 1048576) (h : ∀ a ∈ l, impl_winding (n, a, ()) () = some ((wnd n a, ()), ())) : loopO impl_WindingLabels_B0 ((n, ([] : List Int), l, (l.length : Int), (0 : Int), ()), ()) = some ((l.map (wnd n), ()), ()) := by
  have key : ∀ d k : Nat, k + d = l.length → loopO impl_WindingLabels_B0 ((n, (l.take k).map (wnd n), l, (l.length : Int), (k : Int), ()), ()) = some ((l.map (wnd n), ()), ()) := by
    intro d
    induction d with
    | zero =>
      intro k hk
      refine loop_end ?_
      rw [impl_WindingLabels_B0_at]
      simp only [bif_decide]
      rw [if_neg (by omega), List.take_of_length_le (by omega)]
    | succ d ih =>
      intro k hk
      refine loop_step ?_ (ih (k + 1) (by omega))
      have hk' : k < l.length := by omega
      rw [impl_WindingLabels_B0_at]
      simp only [bif_decide, Int.toNat_natCast]
      rw [if_pos (by omega), guardB_true (inb_true (by omega) (by omega)), getD_at hk', h _ (List.getElem_mem hk')]
      simp only
      rw [guardB_true (by simp only [List.length_map, List.length_take, List.length_singleton, decide_eq_true_eq]; omega), w64_succ (show k < 4611686018427387904 by omega), List.take_succ_eq_append_getElem hk', List.map_append]
      rfl
  have := key l.length 0 (by omega)
  simpa using this
theorem l10N_eq (n : Int) : spec_l10N (n, ()) () = some ((inR n 3 8, ()), ()) := by
  simp only [spec_l10N, l1In_eq _ _ _]
theorem isCycle_eq (n : Int) : impl_isCycle (n, ()) () = some ((inR n 3 8, ()), ()) := by
  simp only [impl_isCycle, between_eq _ _ _]
theorem labels_both (m n : Int) : ∃ (R : List Int) (b : Bool), R.length ≤ 300 ∧ spec_WindingLabels (m, n, ()) () = some ((R, b, ()), ()) ∧ impl_WindingLabels (m, n, ()) () = some ((R, b, ()), ()) := by
  simp only [spec_WindingLabels, impl_WindingLabels, l10N_eq m, l10N_eq n, isCycle_eq m, isCycle_eq n, bif_decide]
  cases hm : inR m 3 8
  · exact ⟨[], false, by simp, rfl, rfl⟩
  · cases hn : inR n 3 8
    · refine ⟨[], false, by simp, rfl, ?_⟩
      by_cases h6 : 6 < m
      · simp only [Bool.not_true, cond_false, if_pos h6]
      · simp only [Bool.not_true, Bool.not_false, cond_false, cond_true, if_neg h6]
    · by_cases h6 : 6 < m
      · refine ⟨[], false, by simp, ?_, ?_⟩ <;> simp only [Bool.not_true, cond_false, if_pos h6]
      · simp only [Bool.not_true, cond_false, if_neg h6]
        obtain ⟨m', rfl, cm⟩ := inR_cases hm
        obtain ⟨n', rfl, cn⟩ := inR_cases hn
        simp only [specCycle_eq cm, specCycle_eq cn, cycleOf_eq cm, cycleOf_eq cn]
        obtain ⟨g1, g2⟩ := cyc_good cm
        obtain ⟨k1, k2⟩ := cyc_good cn
        have hcase : caseB ((m' : Int), cyc m') ((n' : Int), cyc n') = true := by
          simp only [caseB, g1, k1, Bool.true_and, decide_eq_true_eq]; omega
        obtain ⟨R, b, hR, s1', s2, hb, _⟩ := space_core ((m' : Int), cyc m') ((n' : Int), cyc n') false (by show (cyc m').length ≤ _; omega) (by show (cyc n').length ≤ _; omega) hcase
        simp only [s1', s2]
        cases b
        · exact ⟨[], false, by simp, rfl, rfl⟩
        · obtain ⟨e, h300⟩ := hb rfl
          simp only [Bool.not_true, cond_false]
          have hw : ∀ a ∈ R.1, a.length = m' ∧ InR n' a ∧ allFrom (stepB n' a false) 0 a.length = true ∧ allFrom (stepB n' a true) 0 a.length = true := fun a ha => by
            rw [e] at ha
            exact walk_good cm cn ha
          have q1 := spec_labels (n' : Int) R (by omega) (fun a ha => by
            obtain ⟨w1, w2, _, _⟩ := hw a ha
            exact Winding_eq _ a (by omega) (by omega) (by omega) w2)
          have q2 := impl_labels (n' : Int) R.1 (by omega) (fun a ha => by
            obtain ⟨w1, _, _, w3⟩ := hw a ha
            exact winding_eq _ a (by omega) (by omega) w3)
          refine ⟨R.1.map (wnd n'), true, by rw [List.length_map]; exact h300, ?_, ?_⟩
          · erw [q1]
          · erw [q2]
theorem FnExactWindingLabels_true (m n : Int) (_ : Sm I m) (_ : Sm I n) : laws_FnExactWindingLabels (m, n, ()) () = some ((true, ()), ()) := by
  obtain ⟨R, b, hR, s1, s2⟩ := labels_both m n
  have q := eqIntS_gen R (by omega)
  have k1 := markIntS_eq R 1 (by omega) (by omega)
  have k2 := heldIntS_eq R.length 1 (by omega) (by omega)
  simp only [laws_FnExactWindingLabels, bif_decide, s1, s2, q, beq_self_eq_true, Bool.not_true, cond_false]
  simp only [k1, k2, if_neg (show ¬ (1 + (R.length : Int)) < 0 by omega), bne_self_eq_false, cond_false]

end Go.Proofs.Ytcabghamgilafaa.V
