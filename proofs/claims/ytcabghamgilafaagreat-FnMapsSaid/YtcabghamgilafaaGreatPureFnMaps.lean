/-
 What the reference and the program compute agrees: plain lemmas over numbers and lists.
-/
import Derived.Test.YtcabghamgilafaaGreatTFnMaps
import Derived.Test.YtcabghamgilafaaGreatE4
namespace Go.Proofs.YtcabghamgilafaaGreat.V
open Go Go.Ve Go.Proofs
set_option linter.unusedVariables false
set_option linter.unusedSimpArgs false
theorem fold_len {n : Nat} (h : n ≤ 1048576) : (decide (0 ≤ (n : Int)) && decide ((n : Int) ≤ (n : Int)) && decide ((n : Int) * 8 ≤ 140737488355328)) = true ∧ (decide (0 ≤ (n : Int)) && decide ((n : Int) ≤ (n : Int)) && decide ((n : Int) * 24 ≤ 140737488355328)) = true ∧ (decide (0 ≤ (n : Int)) && decide ((n : Int) ≤ (n : Int)) && decide ((n : Int) * 16 ≤ 140737488355328)) = true := by
 refine ⟨?_, ?_, ?_⟩ <;> simp <;> omega
theorem allUpto_true {n : Nat} : allUpto (fun _ => true) n = true := allUpto_iff.2 fun _ _ => rfl
structure Few (x : List (List Int) × List (Int × Int)) : Prop where
 states : x.1.length ≤ 1048576
 state : ∀ s ∈ x.1, s.length ≤ 1048576
 steps : x.2.length ≤ 1048576
def inR (x a b : Int) : Bool := decide (a ≤ x) && decide (x ≤ b)
theorem l1In_eq (x a b : Int) : fn100 (x, a, b, ()) () = some ((inR x a b, ()), ()) := by
 simp only [fn100, inR]
 by_cases h : a ≤ x <;> simp [h]
theorem between_eq (x a b : Int) : fn64 (x, a, b, ()) () = some ((inR x a b, ()), ()) := by
 simp only [fn64, inR]
 by_cases h : a ≤ x <;> simp [h]
theorem cmp_eq (x y : Int) : fn44 (x, y, ()) () = some (((if x < y then -1 else if y < x then 1 else 0), ()), ()) := by
 simp only [fn44, fn51, bne_self_eq_false, cond_false, bif_decide]
 split
 · rfl
 · split <;> rfl
def firstIdx (p : Nat → Bool) : Nat → Nat → Int
 | _, 0 => -1
 | k, d + 1 => if p k then k else firstIdx p (k + 1) d
theorem firstIdx_neg {p : Nat → Bool} : ∀ {d k : Nat}, (decide ((0 : Int) ≤ firstIdx p k d) = !(allUpto (fun i => !p (k + i)) d))
 | 0, k => by simp [firstIdx, allUpto]
 | d + 1, k => by
  by_cases h : p k
  · rw [show firstIdx p k (d + 1) = k by simp [firstIdx, h]]
    have : allUpto (fun i => !p (k + i)) (d + 1) = false := by
     cases e : allUpto (fun i => !p (k + i)) (d + 1)
     · rfl
     · have := allUpto_iff.1 e 0 (by omega); simp [h] at this
    rw [this]; simp
  · rw [show firstIdx p k (d + 1) = firstIdx p (k + 1) d by simp [firstIdx, h], firstIdx_neg]
    congr 1
    rw [Bool.eq_iff_iff, allUpto_iff, allUpto_iff]
    constructor
    · intro g i hi
      cases i with
      | zero => simpa using h
      | succ i => have := g i (by omega); rw [show k + 1 + i = k + (i + 1) by omega] at this; exact this
    · intro g i hi
      have := g (i + 1) (by omega)
      rw [show k + (i + 1) = k + 1 + i by omega] at this; exact this
theorem loop_idx {P Q : Type} {B : P → Option (P ⊕ Q)} (st : Nat → P) (p : Nat → Bool) (n : Nat) (found : Int → Q) (fin : Q) (step : ∀ i, i < n → B (st i) = some (bif p i then .inr (found i) else .inl (st (i + 1)))) (stop : B (st n) = some (.inr fin)) :
  loopO B (st 0) = some (if firstIdx p 0 n < 0 then fin else found (firstIdx p 0 n)) := by
 suffices h : ∀ d k, k + d = n → loopO B (st k) = some (if firstIdx p k d < 0 then fin else found (firstIdx p k d)) from h n 0 (by omega)
 intro d
 induction d with
 | zero => intro k hk; have : k = n := by omega
           subst this; simpa [firstIdx] using loop_end stop
 | succ d ih =>
  intro k hk
  have h := step k (by omega)
  cases e : p k
  · rw [e] at h; rw [show firstIdx p k (d + 1) = firstIdx p (k + 1) d by simp [firstIdx, e]]; exact loop_step h (ih (k + 1) (by omega))
  · rw [e] at h; rw [show firstIdx p k (d + 1) = k by simp [firstIdx, e], if_neg (by omega)]; exact loop_end h
def lexCmp : List Int → List Int → Int
 | a :: l, b :: k => if a < b then -1 else if b < a then 1 else lexCmp l k
 | [], [] => 0
 | [], _ :: _ => -1
 | _ :: _, [] => 1
theorem Compare_eq (a b : List Int) (ha : a.length ≤ 1048576) : fn23 (a, b, ()) () = some ((lexCmp a b, ()), ()) := by
 have key : ∀ d i, i + d = a.length → ∃ q, loopO fn23_B0 ((a, b, a, (a.length : Int), (i : Int), ()), ()) = some q ∧ ((q = .inl ((lexCmp (a.drop i) (b.drop i), ()), ())) ∨ (q = .inr ((a, b, ()), ()) ∧ (i ≤ b.length → lexCmp (a.drop i) (b.drop i) = if a.length < b.length then -1 else 0))) := by
  intro d
  induction d with
  | zero =>
   intro i hi
   have : i = a.length := by omega
   subst this
   refine ⟨_, loop_end (q := .inr ((a, b, ()), ())) (by simp [fn23_B0]), .inr ⟨rfl, fun hb => ?_⟩⟩
   rw [List.drop_length]
   by_cases h : a.length < b.length
   · rw [List.drop_eq_getElem_cons h, if_pos h]; rfl
   · rw [List.drop_eq_nil_of_le (by omega), if_neg h]; rfl
  | succ d ih =>
   intro i hi
   have h1 : i < a.length := by omega
   by_cases h2 : i < b.length
   · rw [List.drop_eq_getElem_cons h1, List.drop_eq_getElem_cons h2]
     simp only [lexCmp]
     have e : fn23_B0 ((a, b, a, (a.length : Int), (i : Int), ()), ()) = some (if (if a[i] < b[i] then (-1 : Int) else if b[i] < a[i] then 1 else 0) = 0 then .inl ((a, b, a, (a.length : Int), ((i + 1 : Nat) : Int), ()), ()) else .inr (.inl (((if a[i] < b[i] then (-1 : Int) else if b[i] < a[i] then 1 else 0), ()), ()))) := by
      simp only [fn23_B0, bif_decide, if_pos (show (i : Int) < (a.length : Int) by omega), if_neg (show ¬ (b.length : Int) ≤ (i : Int) by omega), guardB_true (inb_true (Int.natCast_nonneg i) (show (i : Int) < (a.length : Int) by omega)), guardB_true (inb_true (Int.natCast_nonneg i) (show (i : Int) < (b.length : Int) by omega)), Int.toNat_natCast, getD_at h1, getD_at h2, cmp_eq _ _, w64_succ (show i < 4611686018427387904 by omega)]
      by_cases h3 : a[i] < b[i]
      · simp [h3]
      · by_cases h4 : b[i] < a[i]
        · simp [h3, h4]
        · simp [h3, h4]
     by_cases h3 : a[i] < b[i]
     · simp only [if_pos h3] at e ⊢
       exact ⟨_, loop_end e, .inl rfl⟩
     · by_cases h4 : b[i] < a[i]
       · simp only [if_neg h3, if_pos h4] at e ⊢
         exact ⟨_, loop_end e, .inl rfl⟩
       · simp only [if_neg h3, if_neg h4, if_pos] at e ⊢
         obtain ⟨q, q1, q2⟩ := ih (i + 1) (by omega)
         refine ⟨q, loop_step e q1, q2.imp id fun ⟨r1, r2⟩ => ⟨r1, fun _ => r2 (by omega)⟩⟩
   · refine ⟨_, loop_end (q := .inl ((1, ()), ())) (by simp [fn23_B0, inb_nat, guardB, h1, show b.length ≤ i by omega]), .inl ?_⟩
     rw [List.drop_eq_nil_of_le (show b.length ≤ i by omega), List.drop_eq_getElem_cons h1]
     rfl
 obtain ⟨q, q1, q2⟩ := key a.length 0 (by omega)
 simp only [fn23]
 erw [q1]
 simp only [List.drop_zero] at q2
 rcases q2 with rfl | ⟨rfl, q2⟩
 · rfl
 · rw [q2 (Nat.zero_le _)]
   simp only [bif_decide, Int.ofNat_lt]
   split <;> rfl
def edgeB (a b : Int × Int) : Bool := decide (a.1 < b.1) || (decide (a.1 = b.1) && decide (a.2 < b.2))
theorem l2Edge_eq (a b : Int × Int) : fn87 (a, b, ()) () = some ((edgeB a b, ()), ()) := by
 simp only [fn87, edgeB]
 by_cases h : a.1 < b.1
 · simp [h]
 · by_cases h2 : a.1 = b.1
   · simp [h, h2]
   · simp [h, h2, beq_ne h2]
theorem cmpOr_eq (x y : Int) : fn92 ([x, y], ()) () = some (((if x = 0 then y else x), ()), ()) := by
 simp only [fn92]
 have e0 : fn92_B0 ((0, [x, y], ([x, y].length : Int), 0, ()), ()) = some (if x = 0 then .inl ((0, [x, y], ([x, y].length : Int), 1, ()), ()) else .inr (.inl ((x, ()), ()))) := by
  by_cases h : x = 0
  · simp [fn92_B0, inb, guardB, h]; rfl
  · simp [fn92_B0, inb, guardB, h, bne_ne h]
 have e1 : fn92_B0 ((0, [x, y], ([x, y].length : Int), 1, ()), ()) = some (if y = 0 then .inl ((0, [x, y], ([x, y].length : Int), 2, ()), ()) else .inr (.inl ((y, ()), ()))) := by
  by_cases h : y = 0
  · simp [fn92_B0, inb, guardB, h]; rfl
  · simp [fn92_B0, inb, guardB, h, bne_ne h]
 have e2 : fn92_B0 ((0, [x, y], ([x, y].length : Int), 2, ()), ()) = some (.inr (.inr ((0, ()), ()))) := by
  simp [fn92_B0]
 by_cases h : x = 0
 · rw [if_pos h] at e0 ⊢
   by_cases g : y = 0
   · rw [if_pos g] at e1
     rw [loop_step e0 (loop_step e1 (loop_end e2)), g]
   · rw [if_neg g] at e1
     rw [loop_step e0 (loop_end e1)]
 · rw [if_neg h] at e0 ⊢
   rw [loop_end e0]
theorem comparePairs_eq (a b : Int × Int) : ∃ r : Int, fn37 (a, b, ()) () = some ((r, ()), ()) ∧ (decide ((0 : Int) ≤ r) = !edgeB a b) ∧ (r = 0 ↔ a = b) := by
 obtain ⟨a1, a2⟩ := a
 obtain ⟨b1, b2⟩ := b
 simp only [fn37, cmp_eq _ _, cmpOr_eq _ _]
 refine ⟨_, rfl, ?_, ?_⟩
 · simp only [edgeB]
   by_cases h : a1 < b1
   · simp [h]
   · by_cases h2 : b1 < a1
     · have : ¬ a1 = b1 := by omega
       simp [h, h2, this]
     · have : a1 = b1 := by omega
       subst this
       by_cases h3 : a2 < b2
       · simp [h3]
       · by_cases h4 : b2 < a2 <;> simp [h3, h4]
 · simp only [Prod.mk.injEq]
   by_cases h : a1 < b1
   · simp [h]; omega
   · by_cases h2 : b1 < a1
     · simp [h, h2]; omega
     · have : a1 = b1 := by omega
       subst this
       by_cases h3 : a2 < b2
       · simp [h3]; omega
       · by_cases h4 : b2 < a2
         · simp [h3, h4]; omega
         · simp [h3, h4]; omega
def pairB (l : List (Int × Int)) (n : Int) (i : Nat) : Bool :=
 decide (0 ≤ (l.getD i (0, 0)).1) && (decide ((l.getD i (0, 0)).1 < (l.getD i (0, 0)).2) && (decide ((l.getD i (0, 0)).2 < n) && (decide (i = 0) || edgeB (l.getD (i - 1) (0, 0)) (l.getD i (0, 0)))))
def pairsB (l : List (Int × Int)) (n : Int) : Bool := allUpto (pairB l n) l.length
theorem l2Pairs_eq (l : List (Int × Int)) (n : Int) (hl : l.length ≤ 1048576) (h0 : -1048576 ≤ n) (hn : n ≤ 1048576) : fn71 (l, n, ()) () = some ((pairsB l n, ()), ()) := by
 have key := loop_all (B := fn71_B0) (fun i => ((l, n, (i : Int), ()), ())) (pairB l n) l.length (.inl ((false, ()), ())) (.inr ((), ())) (fun i hi _ => by
  obtain ⟨e, he⟩ : ∃ e : Int × Int, l.getD i (0, 0) = e := ⟨_, rfl⟩
  simp only [fn71_B0, bif_decide, if_pos (show (i : Int) < (l.length : Int) by omega), guardB_true (inb_true (Int.natCast_nonneg i) (show (i : Int) < (l.length : Int) by omega)), Int.toNat_natCast, l1In_eq _ _ _, w64_succ (show i < 4611686018427387904 by omega), w64_of (x := n - 1) (by omega) (by omega), pairB, inR, he]
  by_cases h1 : 0 ≤ e.1
  · by_cases h2 : e.1 ≤ n - 1
    · by_cases h3 : 0 ≤ e.2
      · by_cases h4 : e.2 ≤ n - 1
        · by_cases h5 : e.2 ≤ e.1
          · simp [h1, h2, h3, h4, h5, show ¬ e.1 < e.2 by omega]
          · by_cases h6 : i = 0
            · subst h6
              simp [h1, h2, h3, h4, h5, show e.1 < e.2 by omega, show e.2 < n by omega]
            · rw [w64_pred (by omega) (by omega), guardB_true (inb_true (Int.natCast_nonneg _) (show ((i - 1 : Nat) : Int) < (l.length : Int) by omega)), Int.toNat_natCast, l2Edge_eq]
              cases edgeB (l.getD (i - 1) (0, 0)) e <;> simp [h1, h2, h3, h4, h5, h6, show e.1 < e.2 by omega, show e.2 < n by omega, show 0 < i by omega]
        · simp [h1, h2, h3, h4, show ¬ e.2 < n by omega]
      · simp [h1, h2, h3, show ¬ e.1 < e.2 by omega]
    · simp only [h1, h2, decide_true, decide_false, Bool.and_false, Bool.not_false, cond_true, Bool.true_and]
      by_cases h3 : e.1 < e.2
      · simp [h3, show ¬ e.2 < n by omega]
      · simp [h3]
  · simp [h1]) (by simp [fn71_B0])
 simp only [fn71]
 erw [key]
 simp only [pairsB]
 cases allUpto (pairB l n) l.length <;> rfl
theorem isPairs_eq (l : List (Int × Int)) (n : Int) (hl : l.length ≤ 1048576) : fn65 (l, n, ()) () = some ((pairsB l n, ()), ()) := by
 have key := loop_all (B := fn65_B0) (fun i => ((l, n, l, (l.length : Int), (i : Int), ()), ())) (pairB l n) l.length (.inl ((false, ()), ())) (.inr ((), ())) (fun i hi _ => by
  obtain ⟨e, he⟩ : ∃ e : Int × Int, l.getD i (0, 0) = e := ⟨_, rfl⟩
  simp only [fn65_B0, bif_decide, if_pos (show (i : Int) < (l.length : Int) by omega), guardB_true (inb_true (Int.natCast_nonneg i) (show (i : Int) < (l.length : Int) by omega)), Int.toNat_natCast, w64_succ (show i < 4611686018427387904 by omega), pairB, he]
  by_cases h1 : e.1 < 0
  · simp [h1, show ¬ 0 ≤ e.1 by omega]
  · by_cases h2 : e.2 ≤ e.1
    · simp [h1, h2, show ¬ e.1 < e.2 by omega]
    · by_cases h3 : n ≤ e.2
      · simp [h1, h2, h3, show ¬ e.2 < n by omega]
      · by_cases h6 : i = 0
        · subst h6
          simp [h1, h2, h3, show 0 ≤ e.1 by omega, show e.1 < e.2 by omega, show e.2 < n by omega]
        · obtain ⟨r, r1, r2, _⟩ := comparePairs_eq (l.getD (i - 1) (0, 0)) e
          rw [w64_pred (by omega) (by omega), guardB_true (inb_true (Int.natCast_nonneg _) (show ((i - 1 : Nat) : Int) < (l.length : Int) by omega)), Int.toNat_natCast, r1]
          simp only [if_neg h1, if_neg h2, if_neg h3, if_pos (show (0 : Int) < (i : Int) by omega), ← bif_decide, r2]
          cases edgeB (l.getD (i - 1) (0, 0)) e <;> simp [h6, show 0 ≤ e.1 by omega, show e.1 < e.2 by omega, show e.2 < n by omega]) (by simp [fn65_B0])
 simp only [fn65]
 erw [key]
 simp only [pairsB]
 cases allUpto (pairB l n) l.length <;> rfl
theorem sort_sorted (l : List Int) : (l.mergeSort fun a b => decide (a ≤ b)).Pairwise (· ≤ ·) := by
 have := List.pairwise_mergeSort (le := fun a b : Int => decide (a ≤ b)) (fun a b c h1 h2 => by simp at *; omega) (fun a b => by simp; omega) l
 exact this.imp fun h => by simpa using h
theorem firstIdx_range {p : Nat → Bool} : ∀ (d k : Nat), firstIdx p k d < 0 → firstIdx p k d = -1
 | 0, k, _ => rfl
 | d + 1, k, h => by
  simp only [firstIdx] at h ⊢
  split
  · rename_i g; rw [if_pos g] at h; omega
  · rename_i g; rw [if_neg g] at h; exact firstIdx_range d (k + 1) h
def rows {α : Type} (n : Nat) (F : Nat → α) : List α := (List.range n).map F
theorem rows_len {α : Type} {n : Nat} {F : Nat → α} : (rows n F).length = n := by simp [rows]
theorem rows_get {α : Type} {n i : Nat} {F : Nat → α} (h : i < n) (d : α) : (rows n F).getD i d = F i := by simp [rows, List.getD, h]
theorem rows_set {α : Type} {n i : Nat} {F : Nat → α} (v : α) : (rows n F).set i v = rows n (fun j => if j = i then v else F j) := by
 apply List.ext_getElem
 · simp [rows]
 · intro j h1 h2
   simp only [rows, List.getElem_set, List.getElem_map, List.getElem_range]
   by_cases h : i = j
   · subst h; simp
   · rw [if_neg h, if_neg (fun e => h e.symm)]
theorem rows_congr {α : Type} {n : Nat} {F G : Nat → α} (h : ∀ j, j < n → F j = G j) : rows n F = rows n G := by
 apply List.map_congr_left
 intro j hj
 exact h j (by simpa using hj)
theorem rows_rep {α : Type} {n : Nat} (d : α) : List.replicate n d = rows n (fun _ => d) := by
 apply List.ext_getElem
 · simp [rows]
 · intro j h1 h2; simp [rows]
theorem take_one {α : Type} {l : List α} {i : Nat} (h : i < l.length) (d : α) : l.take (i + 1) = l.take i ++ [l.getD i d] := by
 rw [getD_at h, List.take_succ_eq_append_getElem h]
def inc (S : List (Int × Int)) (j : Nat) : List Int := (S.filter fun e => decide (e.2 = (j : Int))).map (·.1)
def outg (S : List (Int × Int)) (j : Nat) : List Int := (S.filter fun e => decide (e.1 = (j : Int))).map (·.2)
def nbr (S : List (Int × Int)) (j : Nat) : List Int := inc S j ++ outg S j
def listsP (S : List (Int × Int)) (n : Nat) : List (List Int) := rows n (nbr S)
theorem inc_snoc (T : List (Int × Int)) (a b j : Nat) : inc (T ++ [((a : Int), (b : Int))]) j = if j = b then inc T j ++ [(a : Int)] else inc T j := by
 simp only [inc, List.filter_append, List.map_append]
 by_cases h : j = b
 · subst h; simp
 · rw [if_neg h]; simp [show ¬ (b : Int) = (j : Int) by omega]
theorem outg_snoc (T : List (Int × Int)) (a b j : Nat) : outg (T ++ [((a : Int), (b : Int))]) j = if j = a then outg T j ++ [(b : Int)] else outg T j := by
 simp only [outg, List.filter_append, List.map_append]
 by_cases h : j = a
 · subst h; simp
 · rw [if_neg h]; simp [show ¬ (a : Int) = (j : Int) by omega]
theorem inc_len (T : List (Int × Int)) (j : Nat) : (inc T j).length ≤ T.length := by simp only [inc, List.length_map]; exact List.length_filter_le _ _
theorem outg_len (T : List (Int × Int)) (j : Nat) : (outg T j).length ≤ T.length := by simp only [outg, List.length_map]; exact List.length_filter_le _ _
def StepsOk (S : List (Int × Int)) (n : Nat) : Prop := ∀ i, i < S.length → ∃ a b : Nat, S.getD i (0, 0) = ((a : Int), (b : Int)) ∧ a < b ∧ b < n
theorem pairsB_at {S : List (Int × Int)} {n : Nat} (h : pairsB S n = true) (i : Nat) (hi : i < S.length) : pairB S n i = true := allUpto_iff.1 h i hi
theorem pairsB_ok {S : List (Int × Int)} {n : Nat} (h : pairsB S n = true) : StepsOk S n := by
 intro i hi
 have := pairsB_at h i hi
 simp only [pairB, Bool.and_eq_true, decide_eq_true_eq] at this
 obtain ⟨h1, h2, h3, _⟩ := this
 generalize S.getD i (0, 0) = e at h1 h2 h3
 obtain ⟨a, b⟩ := e
 simp only at h1 h2 h3
 exact ⟨a.toNat, b.toNat, by rw [Int.toNat_of_nonneg h1, Int.toNat_of_nonneg (by omega)], by omega, by omega⟩
theorem edge_lt {S : List (Int × Int)} {n : Nat} (h : pairsB S n = true) : ∀ d i, i + 1 + d < S.length → edgeB (S.getD i (0, 0)) (S.getD (i + 1 + d) (0, 0)) = true := by
 have one : ∀ i, i + 1 < S.length → edgeB (S.getD i (0, 0)) (S.getD (i + 1) (0, 0)) = true := by
  intro i hi
  have := pairsB_at h (i + 1) hi
  simp only [pairB, Bool.and_eq_true, Bool.or_eq_true, decide_eq_true_eq] at this
  rcases this.2.2.2 with h0 | h0
  · omega
  · simpa using h0
 have tr : ∀ a b c : Int × Int, edgeB a b = true → edgeB b c = true → edgeB a c = true := by
  intro a b c h1 h2
  simp only [edgeB, Bool.or_eq_true, Bool.and_eq_true, decide_eq_true_eq] at *
  omega
 intro d
 induction d with
 | zero => intro i hi; exact one i hi
 | succ d ih => intro i hi; exact tr _ _ _ (ih i (by omega)) (one (i + 1 + d) hi)
theorem steps_pairwise {S : List (Int × Int)} {n : Nat} (h : pairsB S n = true) : S.Pairwise fun a b => edgeB a b = true := by
 rw [List.pairwise_iff_getElem]
 intro i j hi hj hij
 have := edge_lt h (j - i - 1) i (by omega)
 rw [show i + 1 + (j - i - 1) = j by omega, getD_at hi, getD_at hj] at this
 exact this
theorem steps_mem {S : List (Int × Int)} {n : Nat} (h : StepsOk S n) {e : Int × Int} (he : e ∈ S) : 0 ≤ e.1 ∧ e.1 < e.2 ∧ e.2 < n := by
 obtain ⟨i, hi, rfl⟩ := List.getElem_of_mem he
 obtain ⟨a, b, h1, h2, h3⟩ := h i hi
 rw [getD_at hi] at h1
 rw [h1]
 simp only
 omega
theorem nbr_sorted {S : List (Int × Int)} {n : Nat} (h : pairsB S n = true) (j : Nat) : (nbr S j).Pairwise (· < ·) := by
 have hp := steps_pairwise h
 have hok := pairsB_ok h
 rw [nbr, List.pairwise_append]
 refine ⟨?_, ?_, ?_⟩
 · rw [inc, List.pairwise_map]
   refine ((hp.sublist List.filter_sublist).imp_of_mem fun {a b} ha hb hab => ?_)
   simp only [List.mem_filter, decide_eq_true_eq] at ha hb
   simp only [edgeB, Bool.or_eq_true, Bool.and_eq_true, decide_eq_true_eq] at hab
   omega
 · rw [outg, List.pairwise_map]
   refine ((hp.sublist List.filter_sublist).imp_of_mem fun {a b} ha hb hab => ?_)
   simp only [List.mem_filter, decide_eq_true_eq] at ha hb
   simp only [edgeB, Bool.or_eq_true, Bool.and_eq_true, decide_eq_true_eq] at hab
   omega
 · intro a ha b hb
   simp only [inc, outg, List.mem_map, List.mem_filter, decide_eq_true_eq] at ha hb
   obtain ⟨e, ⟨he, e1⟩, rfl⟩ := ha
   obtain ⟨f, ⟨hf, f1⟩, rfl⟩ := hb
   have := steps_mem hok he
   have := steps_mem hok hf
   omega
theorem l2Lists_eq (x : List (List Int) × List (Int × Int)) (hS : StepsOk x.2 x.1.length) (hn : x.1.length ≤ 1048576) (hs : x.2.length ≤ 1048576) : fn70 (x, ()) () = some ((listsP x.2 x.1.length, ()), ()) := by
 obtain ⟨L, S⟩ := x
 simp only at hS hn hs
 simp only [fn70, guardB_true (fold_len hn).2.1, Int.toNat_natCast]
 have k0 : loopO fn70_B0 (((L, S), rows L.length (inc (S.take 0)), ((0 : Nat) : Int), ()), ()) = some (((L, S), rows L.length (inc (S.take S.length)), ()), ()) := by
  refine loop_count (fun i => (((L, S), rows L.length (inc (S.take i)), (i : Int), ()), ())) S.length _ (fun i hi => ?_) ?_ 0 (Nat.zero_le _)
  · obtain ⟨a, b, he, hab, hb⟩ := hS i hi
    have hg : guardB (decide ((List.length (inc (S.take i) b) + List.length [(a : Int)]) * 8 ≤ 70368744177664)) = (id : Option (fn70_J0.P ⊕ fn70_O0.P) → _) := by
     funext z
     refine guardB_true ?_
     have := inc_len (S.take i) b
     simp only [List.length_take] at this
     simp only [List.length_singleton, decide_eq_true_eq]
     omega
    simp only [fn70_B0, bif_decide, if_pos (show (i : Int) < (S.length : Int) by omega), guardB_true (inb_true (Int.natCast_nonneg i) (show (i : Int) < (S.length : Int) by omega)), Int.toNat_natCast, he, rows_len, guardB_true (inb_true (Int.natCast_nonneg b) (show (b : Int) < (L.length : Int) by omega)), rows_get (show b < L.length by omega), Nat.beq_refl, Bool.and_self, guardB_true rfl, w64_succ (show i < 4611686018427387904 by omega), rows_set]
    rw [hg]
    simp only [id]
    rw [take_one hi (0, 0), he]
    have : rows L.length (fun j => if j = b then inc (S.take i) b ++ [(a : Int)] else inc (S.take i) j) = rows L.length (inc (S.take i ++ [((a : Int), (b : Int))])) := rows_congr fun j _ => by
     rw [inc_snoc]
     by_cases h : j = b
     · subst h; rfl
     · simp only [if_neg h]
    rw [this]
  · simp only [fn70_B0, bif_decide, if_neg (show ¬ (S.length : Int) < (S.length : Int) by omega)]
 have k1 : loopO fn70_B1 (((L, S), rows L.length (fun j => inc S j ++ outg (S.take 0) j), ((0 : Nat) : Int), ()), ()) = some ((rows L.length (fun j => inc S j ++ outg (S.take S.length) j), ()), ()) := by
  refine loop_count (fun i => (((L, S), rows L.length (fun j => inc S j ++ outg (S.take i) j), (i : Int), ()), ())) S.length _ (fun i hi => ?_) ?_ 0 (Nat.zero_le _)
  · obtain ⟨a, b, he, hab, hb⟩ := hS i hi
    have hg : guardB (decide ((List.length (inc S a ++ outg (S.take i) a) + List.length [(b : Int)]) * 8 ≤ 70368744177664)) = (id : Option (fn70_J2.P ⊕ fn70_O1.P) → _) := by
     funext z
     refine guardB_true ?_
     have := inc_len S a
     have := outg_len (S.take i) a
     simp only [List.length_take] at this
     simp only [List.length_singleton, List.length_append, decide_eq_true_eq]
     omega
    simp only [fn70_B1, bif_decide, if_pos (show (i : Int) < (S.length : Int) by omega), guardB_true (inb_true (Int.natCast_nonneg i) (show (i : Int) < (S.length : Int) by omega)), Int.toNat_natCast, he, rows_len, guardB_true (inb_true (Int.natCast_nonneg a) (show (a : Int) < (L.length : Int) by omega)), rows_get (show a < L.length by omega), Nat.beq_refl, Bool.and_self, guardB_true rfl, w64_succ (show i < 4611686018427387904 by omega), rows_set]
    rw [hg]
    simp only [id]
    rw [take_one hi (0, 0), he]
    have : rows L.length (fun j => if j = a then (inc S a ++ outg (S.take i) a) ++ [(b : Int)] else inc S j ++ outg (S.take i) j) = rows L.length (fun j => inc S j ++ outg (S.take i ++ [((a : Int), (b : Int))]) j) := rows_congr fun j _ => by
     rw [outg_snoc]
     by_cases h : j = a
     · subst h; simp
     · simp only [if_neg h]
    rw [this]
  · simp only [fn70_B1, bif_decide, if_neg (show ¬ (S.length : Int) < (S.length : Int) by omega)]
 rw [List.take_length] at k0 k1
 have z0 : rows L.length (inc (S.take 0)) = List.replicate L.length [] := by rw [rows_rep]; exact rows_congr fun j _ => rfl
 have z1 : rows L.length (fun j => inc S j ++ outg (S.take 0) j) = rows L.length (inc S) := rows_congr fun j _ => by simp [outg]
 rw [z0] at k0
 rw [z1] at k1
 erw [k0]
 simp only
 erw [k1]
 rfl
def raw (S : List (Int × Int)) (j : Nat) : List Int := S.flatMap fun e => (if e.1 = (j : Int) then [e.2] else []) ++ (if e.2 = (j : Int) then [e.1] else [])
theorem raw_perm : ∀ (S : List (Int × Int)) (j : Nat), (raw S j).Perm (nbr S j)
 | [], j => by simp [raw, nbr, inc, outg]
 | e :: S, j => by
  have ih := raw_perm S j
  simp only [raw, List.flatMap_cons] at ih ⊢
  simp only [nbr, inc, outg, List.filter_cons] at ih ⊢
  by_cases h1 : e.1 = (j : Int)
  · by_cases h2 : e.2 = (j : Int)
    · simp only [h1, h2, if_true, decide_true, List.map_cons, List.cons_append, List.nil_append]
      exact ((ih.cons (j : Int)).cons (j : Int)).trans (List.perm_middle.symm.cons _)
    · simp only [h1, h2, if_true, if_false, decide_true, decide_false, List.map_cons, List.cons_append, List.nil_append, List.append_nil, Bool.false_eq_true]
      exact (ih.cons _).trans List.perm_middle.symm
  · by_cases h2 : e.2 = (j : Int)
    · simp only [h1, h2, if_true, if_false, decide_true, decide_false, List.map_cons, List.cons_append, List.nil_append, List.append_nil, Bool.false_eq_true]
      exact ih.cons _
    · simp only [h1, h2, if_false, decide_false, List.nil_append, Bool.false_eq_true]
      exact ih
theorem sort_of_perm {l k : List Int} (h : l.Perm k) (hk : k.Pairwise (· < ·)) : l.mergeSort (fun a b => decide (a ≤ b)) = k := by
 refine List.Perm.eq_of_pairwise (le := (· ≤ ·)) ?_ (sort_sorted l) (hk.imp fun h => Int.le_of_lt h) ((List.mergeSort_perm l _).trans h)
 intro a b _ _ h1 h2
 omega
theorem raw_snoc (T : List (Int × Int)) (a b j : Nat) (hab : a < b) : raw (T ++ [((a : Int), (b : Int))]) j = if j = b then raw T j ++ [(a : Int)] else if j = a then raw T j ++ [(b : Int)] else raw T j := by
 simp only [raw, List.flatMap_append, List.flatMap_cons, List.flatMap_nil, List.append_nil]
 by_cases h : j = b
 · subst h; simp [show ¬ (a : Int) = (j : Int) by omega]
 · by_cases h2 : j = a
   · subst h2; simp [show ¬ (b : Int) = (j : Int) by omega, h]
   · simp [h, h2, show ¬ (b : Int) = (j : Int) by omega, show ¬ (a : Int) = (j : Int) by omega]
theorem raw_len (T : List (Int × Int)) (j : Nat) : (raw T j).length ≤ 2 * T.length := by
 rw [(raw_perm T j).length_eq, nbr, List.length_append]
 have := inc_len T j
 have := outg_len T j
 omega
theorem roads_eq (x : List (List Int) × List (Int × Int)) (hp : pairsB x.2 x.1.length = true) (hn : x.1.length ≤ 1048576) (hs : x.2.length ≤ 1048576) : fn42 (x, ()) () = some ((listsP x.2 x.1.length, ()), ()) := by
 obtain ⟨L, S⟩ := x
 simp only at hp hn hs
 have hS := pairsB_ok hp
 simp only [fn42, guardB_true (fold_len hn).2.1, Int.toNat_natCast]
 have k0 : loopO fn42_B0 ((rows L.length (raw (S.take 0)), S, (S.length : Int), ((0 : Nat) : Int), ()), ()) = some ((rows L.length (raw (S.take S.length)), ()), ()) := by
  refine loop_count (fun i => ((rows L.length (raw (S.take i)), S, (S.length : Int), (i : Int), ()), ())) S.length _ (fun i hi => ?_) ?_ 0 (Nat.zero_le _)
  · obtain ⟨a, b, he, hab, hb⟩ := hS i hi
    have hl := fun j => raw_len (S.take i) j
    simp only [List.length_take] at hl
    have g1 : decide ((List.length (raw (S.take i) a) + List.length [(b : Int)]) * 8 ≤ 70368744177664) = true := by
     have := hl a
     simp only [List.length_singleton, decide_eq_true_eq]
     omega
    have g2 : decide ((List.length (raw (S.take i) b) + List.length [(a : Int)]) * 8 ≤ 70368744177664) = true := by
     have := hl b
     simp only [List.length_singleton, decide_eq_true_eq]
     omega
    simp only [fn42_B0, bif_decide, if_pos (show (i : Int) < (S.length : Int) by omega), guardB_true (inb_true (Int.natCast_nonneg i) (show (i : Int) < (S.length : Int) by omega)), Int.toNat_natCast, he, rows_len, guardB_true (inb_true (Int.natCast_nonneg a) (show (a : Int) < (L.length : Int) by omega)), guardB_true (inb_true (Int.natCast_nonneg b) (show (b : Int) < (L.length : Int) by omega)), rows_get (show a < L.length by omega), rows_get (show b < L.length by omega), Nat.beq_refl, Bool.and_self, guardB_true rfl, w64_succ (show i < 4611686018427387904 by omega), rows_set, if_neg (show ¬ b = a by omega), guardB_true g1, guardB_true g2]
    rw [take_one hi (0, 0), he]
    have : rows L.length (fun j => if j = b then raw (S.take i) b ++ [(a : Int)] else if j = a then raw (S.take i) a ++ [(b : Int)] else raw (S.take i) j) = rows L.length (raw (S.take i ++ [((a : Int), (b : Int))])) := rows_congr fun j _ => by
     rw [raw_snoc _ _ _ _ hab]
     by_cases h : j = b
     · subst h; rw [if_pos rfl, if_pos rfl]
     · by_cases h2 : j = a
       · subst h2; simp [h]
       · simp only [if_neg h, if_neg h2]
    rw [this]
  · simp only [fn42_B0, bif_decide, if_neg (show ¬ (S.length : Int) < (S.length : Int) by omega)]
 have k1 : loopO fn42_B1 ((rows L.length (fun j => if j < 0 then nbr S j else raw S j), (L.length : Int), ((0 : Nat) : Int), ()), ()) = some ((rows L.length (fun j => if j < L.length then nbr S j else raw S j), ()), ()) := by
  refine loop_count (fun i => ((rows L.length (fun j => if j < i then nbr S j else raw S j), (L.length : Int), (i : Int), ()), ())) L.length _ (fun i hi => ?_) ?_ 0 (Nat.zero_le _)
  · have hl := raw_len S i
    simp only [fn42_B1, bif_decide, if_pos (show (i : Int) < (L.length : Int) by omega), rows_len, guardB_true (inb_true (Int.natCast_nonneg i) (show (i : Int) < (L.length : Int) by omega)), Int.toNat_natCast, rows_get hi, if_neg (show ¬ i < i by omega), slices_Sort_int_int, sortFn]
    rw [guardB_true (by simp only [decide_eq_true_eq]; omega)]
    simp only [sort_of_perm (raw_perm S i) (nbr_sorted hp i), rows_set, w64_succ (show i < 4611686018427387904 by omega)]
    have : rows L.length (fun j => if j = i then nbr S i else if j < i then nbr S j else raw S j) = rows L.length (fun j => if j < i + 1 then nbr S j else raw S j) := rows_congr fun j _ => by
     by_cases h : j = i
     · subst h; rw [if_pos rfl, if_pos (by omega)]
     · by_cases h2 : j < i
       · rw [if_neg h, if_pos h2, if_pos (by omega)]
       · rw [if_neg h, if_neg h2, if_neg (by omega)]
    rw [this]
  · simp only [fn42_B1, bif_decide, if_neg (show ¬ (L.length : Int) < (L.length : Int) by omega)]
 rw [List.take_length] at k0
 have z0 : rows L.length (raw (S.take 0)) = List.replicate L.length [] := by rw [rows_rep]; exact rows_congr fun j _ => rfl
 have z1 : rows L.length (fun j => if j < 0 then nbr S j else raw S j) = rows L.length (raw S) := rows_congr fun j _ => by simp
 have z2 : rows L.length (fun j => if j < L.length then nbr S j else raw S j) = rows L.length (nbr S) := rows_congr fun j hj => by simp [hj]
 rw [z0] at k0
 rw [z1, z2] at k1
 erw [k0]
 simp only [rows_len]
 erw [k1]
 rfl
theorem nbr_len {S : List (Int × Int)} (hs : S.length ≤ 6000) (j : Nat) : (nbr S j).length ≤ 12000 := by
 rw [nbr, List.length_append]
 have := inc_len S j
 have := outg_len S j
 omega
theorem and_low {x : Int} (h0 : 0 ≤ x) (h : x < 4294967296) : (BitVec.ofInt 64 x &&& BitVec.ofInt 64 (4294967295 : Int)).toNat = x.toNat := by
 obtain ⟨m, rfl⟩ : ∃ m : Nat, x = m := ⟨x.toNat, by omega⟩
 have hm : m < 2 ^ 32 := by omega
 have e : (BitVec.ofInt 64 (m : Int)) = BitVec.ofNat 64 m := by simp
 rw [e, show BitVec.ofInt 64 (4294967295 : Int) = BitVec.ofNat 64 (2 ^ 32 - 1) by decide, BitVec.toNat_and, BitVec.toNat_ofNat, BitVec.toNat_ofNat]
 rw [Nat.mod_eq_of_lt (show m < 2 ^ 64 by omega), Nat.mod_eq_of_lt (show 2 ^ 32 - 1 < 2 ^ 64 by decide), Nat.and_two_pow_sub_one_eq_mod, Nat.mod_eq_of_lt hm]
 simp
theorem wrapU {x : Int} (h0 : 0 ≤ x) (h : x < 18446744073709551616) : IntKind.wrap .u64 x = x := by
 simp only [IntKind.wrap, IntKind.bits, IntKind.signed]
 simp
 omega
theorem Mul_small (x y : Int) (hx : 0 ≤ x) (hx' : x < 2097152) (hy : 0 ≤ y) (hy' : y < 2097152) : fn101 (x, y, ()) () = some ((0, x * y, ()), ()) := by
 have e1 : Int.fdiv x (2 ^ (min 32 64)) = 0 := by
  rw [show (2 : Int) ^ (min 32 64) = 4294967296 by decide, Int.fdiv_eq_ediv_of_nonneg _ (by decide)]; omega
 have e2 : Int.fdiv y (2 ^ (min 32 64)) = 0 := by
  rw [show (2 : Int) ^ (min 32 64) = 4294967296 by decide, Int.fdiv_eq_ediv_of_nonneg _ (by decide)]; omega
 have hxy0 : 0 ≤ x * y := Int.mul_nonneg hx hy
 have hxy : x * y ≤ 2097152 * 2097152 := Int.mul_le_mul (by omega) (by omega) hy (by decide)
 have a1 := and_low hx (by omega)
 have a2 := and_low hy (by omega)
 have z : IntKind.wrap .u64 0 = 0 := wrapU (by decide) (by decide)
 have q1 : IntKind.wrap .u64 (x.toNat : Int) = x := by rw [wrapU (by omega) (by omega)]; omega
 have q2 : IntKind.wrap .u64 (y.toNat : Int) = y := by rw [wrapU (by omega) (by omega)]; omega
 have q3 : IntKind.wrap .u64 (x * y) = x * y := wrapU hxy0 (by omega)
 have hd0 : 0 ≤ Int.fdiv (x * y) (2 ^ (min 32 64)) ∧ Int.fdiv (x * y) (2 ^ (min 32 64)) < 4294967296 := by
  rw [show (2 : Int) ^ (min 32 64) = 4294967296 by decide, Int.fdiv_eq_ediv_of_nonneg _ (by decide)]; omega
 obtain ⟨D, hD⟩ : ∃ D : Int, Int.fdiv (x * y) (2 ^ (min 32 64)) = D := ⟨_, rfl⟩
 rw [hD] at hd0
 have q4 : IntKind.wrap .u64 D = D := wrapU hd0.1 (by omega)
 have a3 := and_low hd0.1 hd0.2
 have q5 : IntKind.wrap .u64 (D.toNat : Int) = D := by rw [wrapU (by omega) (by omega)]; omega
 have e3 : Int.fdiv D (2 ^ (min 32 64)) = 0 := by
  rw [show (2 : Int) ^ (min 32 64) = 4294967296 by decide, Int.fdiv_eq_ediv_of_nonneg _ (by decide)]; omega
 simp only [fn101, fn91, e1, e2, a1, a2, q1, q2, q3, hD, Int.zero_mul, Int.mul_zero, z, Int.zero_add, Int.add_zero, q4, a3, q5, e3]
theorem rep_take {α : Type} (n m : Nat) (v z : α) (h : m ≤ n) : (List.replicate m v ++ List.replicate (n - m) z).length = n := by simp; omega
theorem rep_step (n m : Nat) (v z : Int) (h0 : 0 < m) (h : m < n) :
  (List.take m (List.replicate m v ++ List.replicate (n - m) z) ++ List.take (min (List.length (List.drop 0 (List.take m (List.replicate m v ++ List.replicate (n - m) z)))) (n - m)) (List.drop 0 (List.take m (List.replicate m v ++ List.replicate (n - m) z))) ++ List.drop (m + (min (List.length (List.drop 0 (List.take m (List.replicate m v ++ List.replicate (n - m) z)))) (n - m))) (List.replicate m v ++ List.replicate (n - m) z))
   = List.replicate (m + min m (n - m)) v ++ List.replicate (n - (m + min m (n - m))) z := by
 have ht : List.take m (List.replicate m v ++ List.replicate (n - m) z) = List.replicate m v := by
  rw [List.take_append_of_le_length (by simp)]; simp
 rw [ht, List.drop_zero, List.length_replicate, List.take_replicate, show min (min m (n - m)) m = min m (n - m) by omega, List.drop_append, List.drop_replicate, List.drop_replicate, List.length_replicate, show m - (m + min m (n - m)) = 0 by omega, show m + min m (n - m) - m = min m (n - m) by omega, show n - m - min m (n - m) = n - (m + min m (n - m)) by omega, List.replicate_append_replicate]
 simp
theorem Rep_B0 (newslice : List Int) (n : Int) : fn25_B0 ((newslice, n, ()), ()) = bif (decide (n < (List.length newslice : Int))) then (guardB (decide (0 ≤ n) && decide (n ≤ (List.length newslice : Int)) && decide ((List.length newslice : Int) ≤ (List.length newslice : Int))) (guardB (decide (0 ≤ (0 : Int)) && decide ((0 : Int) ≤ n) && decide (n ≤ (List.length newslice : Int))) (guardB (decide ((Int.toNat n) ≤ (Int.toNat (List.length newslice : Int))) && decide ((Int.toNat (List.length newslice : Int)) ≤ List.length newslice)) (some (.inl (((List.take (Int.toNat n) newslice ++ List.take (min (List.length (List.drop 0 (List.take (Int.toNat n) newslice))) ((Int.toNat (List.length newslice : Int)) - (Int.toNat n))) (List.drop 0 (List.take (Int.toNat n) newslice)) ++ List.drop ((Int.toNat n) + (min (List.length (List.drop 0 (List.take (Int.toNat n) newslice))) ((Int.toNat (List.length newslice : Int)) - (Int.toNat n)))) newslice), (w64 (n + (((min (List.length (List.drop 0 (List.take (Int.toNat n) newslice))) ((Int.toNat (List.length newslice : Int)) - (Int.toNat n))) : Nat) : Int))), ()), ())))))) else (some (.inr ((newslice, ()), ()))) := rfl
theorem Repeat_eq (v : Int) (n : Nat) (hn : n ≤ 1048576) : fn25 ([v], (n : Int), ()) () = some ((List.replicate n v, ()), ()) := by
 have hw : w64 (n : Int) = n := w64_of (by omega) (by omega)
 have hm : fn101 ((1 : Int), (n : Int), ()) () = some ((0, 1 * (n : Int), ()), ()) := Mul_small 1 n (by decide) (by decide) (by omega) (by omega)
 have u1 : IntKind.wrap .u64 ((List.length [v] : Nat) : Int) = 1 := wrapU (by simp) (by simp)
 have u2 : IntKind.wrap .u64 (n : Int) = n := wrapU (by omega) (by omega)
 simp only [fn25, u1, u2, hm, Int.one_mul, hw, bif_decide, Int.toNat_natCast, List.length_replicate]
 rw [if_neg (show ¬ ((n : Int) < 0) by omega), if_neg (show ¬ ((0 : Int) < 0) by omega), if_neg (show ¬ ((9223372036854775807 : Int) < n) by omega), guardB_true (by simp <;> omega), guardB_true (by simp)]
 have key : ∀ (d m : Nat), n - m ≤ d → m ≤ n → 0 < m → loopO fn25_B0 ((List.replicate m v ++ List.replicate (n - m) 0, (m : Int), ()), ()) = some ((List.replicate n v, ()), ()) := by
  intro d
  induction d with
  | zero =>
   intro m hd hm h0
   refine loop_end ?_
   have : m = n := by omega
   subst this
   rw [Rep_B0]; simp
  | succ d ih =>
   intro m hd hm h0
   by_cases hmn : m = n
   · subst hmn
     refine loop_end ?_
     rw [Rep_B0]; simp
   · have hl := rep_take n m v (0 : Int) hm
     refine loop_step (p' := ((List.replicate (m + min m (n - m)) v ++ List.replicate (n - (m + min m (n - m))) 0, ((m + min m (n - m) : Nat) : Int), ()), ())) ?_ (ih (m + min m (n - m)) (by omega) (by omega) (by omega))
     rw [Rep_B0]
     simp only [hl, bif_decide, Int.toNat_natCast]
     rw [if_pos (by omega), guardB_true (by simp <;> omega), guardB_true (by simp <;> omega), guardB_true (by simp <;> omega), rep_step n m v 0 h0 (by omega)]
     have hmin : min (List.length (List.drop 0 (List.take m (List.replicate m v ++ List.replicate (n - m) (0 : Int))))) (n - m) = min m (n - m) := by simp <;> omega
     rw [hmin, w64_of (by omega) (by omega)]
     simp
 by_cases hz : n = 0
 · subst hz
   have : loopO fn25_B0 (([], 0, ()), ()) = some (([], ()), ()) := loop_end (by rw [Rep_B0]; simp)
   simp [this]
 · have hs : (List.take 0 (List.replicate n (0 : Int)) ++ List.take (min (List.length [v]) (n - 0)) [v] ++ List.drop (0 + min (List.length [v]) (n - 0)) (List.replicate n 0)) = List.replicate 1 v ++ List.replicate (n - 1) 0 := by
    have : min (List.length [v]) (n - 0) = 1 := by simp; omega
    rw [this]
    simp
   have hc : ((min (List.length [v]) (n - 0) : Nat) : Int) = ((1 : Nat) : Int) := by
    have : min (List.length [v]) (n - 0) = 1 := by simp; omega
    rw [this]
   rw [hs, hc, key n 1 (by omega) (by omega) (by omega)]
theorem fn62_B0_at (t0 : List (List (Int))) (t1 : Int) (t5 : List (Int)) (t6 : Int) : fn62_B0 ((t0, t1, t5, t6, ()), ()) = bif (decide (t6 < (List.length t5 : Int))) then (guardB (inb t6 (List.length t5)) (some (.inl ((t0, t1, (List.set t5 (Int.toNat t6) (-1 : Int)), (w64 (t6 + (1 : Int))), ()), ())))) else (some (.inr ((t0, t1, t5, ()), ()))) := rfl
theorem fn62_B1_at (t0 : List (List (Int))) (t5 : List (Int)) (t7 : List (Int)) (t8 : Int) (t9 : List (Int)) (t10 : Int) : fn62_B1 ((t0, t5, t7, t8, t9, t10, ()), ()) = bif (decide (t10 < (List.length t9 : Int))) then (guardB (inb t10 (List.length t9)) (guardB (inb (List.getD t9 (Int.toNat t10) (0 : Int)) (List.length t5)) (bif (decide ((List.getD t5 (Int.toNat (List.getD t9 (Int.toNat t10) (0 : Int))) (0 : Int)) < (0 : Int))) then (guardB (inb t10 (List.length t9)) (guardB (inb t8 (List.length t7)) (guardB (inb (List.getD t7 (Int.toNat t8) (0 : Int)) (List.length t5)) (guardB (inb (List.getD t9 (Int.toNat t10) (0 : Int)) (List.length t5)) (guardB (inb t10 (List.length t9)) (guardB (decide ((List.length t7 + List.length [(List.getD t9 (Int.toNat t10) (0 : Int))]) * 8 ≤ 70368744177664)) (some (.inl ((t0, (List.set t5 (Int.toNat (List.getD t9 (Int.toNat t10) (0 : Int))) (w64 ((List.getD t5 (Int.toNat (List.getD t7 (Int.toNat t8) (0 : Int))) (0 : Int)) + (1 : Int)))), (t7 ++ [(List.getD t9 (Int.toNat t10) (0 : Int))]), t8, t9, (w64 (t10 + (1 : Int))), ()), ()))))))))) else (some (.inl ((t0, t5, t7, t8, t9, (w64 (t10 + (1 : Int))), ()), ())))))) else (some (.inr ((t0, t5, t7, t8, ()), ()))) := rfl
theorem fn62_B2_at (t0 : List (List (Int))) (t5 : List (Int)) (t7 : List (Int)) (t8 : Int) : fn62_B2 ((t0, t5, t7, t8, ()), ()) = bif (decide (t8 < (List.length t7 : Int))) then (guardB (inb t8 (List.length t7)) (guardB (inb (List.getD t7 (Int.toNat t8) (0 : Int)) (List.length t0)) (match loopO fn62_B1 ((t0, t5, t7, t8, (List.getD t0 (Int.toNat (List.getD t7 (Int.toNat t8) (0 : Int))) ([] : (List Int))), (0 : Int), ()), ()) with | some ((t0_2, t5_2, t7_2, t8_2, ()), ()) => some (.inl ((t0_2, t5_2, t7_2, (w64 (t8_2 + (1 : Int))), ()), ())) | none => none))) else (some (.inr ((t5, ()), ()))) := rfl
theorem fn77_B0_at (roads : List (List (Int))) (out : List (Int)) (queue : List (Int)) (i : Int) (t30 : List (Int)) (t31 : Int) (t32 : Int) : fn77_B0 ((roads, out, queue, i, t30, t31, t32, ()), ()) = bif (decide (t32 < t31)) then (guardB (inb t32 (List.length t30)) (guardB (inb (List.getD t30 (Int.toNat t32) (0 : Int)) (List.length out)) (bif (decide ((List.getD out (Int.toNat (List.getD t30 (Int.toNat t32) (0 : Int))) (0 : Int)) < (0 : Int))) then (guardB (inb i (List.length out)) (guardB (inb (List.getD t30 (Int.toNat t32) (0 : Int)) (List.length out)) (guardB (decide ((List.length queue + List.length [(List.getD t30 (Int.toNat t32) (0 : Int))]) * 8 ≤ 70368744177664)) (some (.inl ((roads, (List.set out (Int.toNat (List.getD t30 (Int.toNat t32) (0 : Int))) (w64 ((List.getD out (Int.toNat i) (0 : Int)) + (1 : Int)))), (queue ++ [(List.getD t30 (Int.toNat t32) (0 : Int))]), i, t30, t31, (w64 (t32 + (1 : Int))), ()), ())))))) else (some (.inl ((roads, out, queue, i, t30, t31, (w64 (t32 + (1 : Int))), ()), ())))))) else (some (.inr ((roads, out, queue, ()), ()))) := rfl
theorem fn77_B1_at (roads : List (List (Int))) (out : List (Int)) (queue : List (Int)) : fn77_B1 ((roads, out, queue, ()), ()) = bif (decide ((0 : Int) < (List.length queue : Int))) then (guardB (inb (0 : Int) (List.length queue)) (guardB (decide (0 ≤ (1 : Int)) && decide ((1 : Int) ≤ (List.length queue : Int)) && decide ((List.length queue : Int) ≤ (List.length queue : Int))) (guardB (inb (List.getD queue 0 (0 : Int)) (List.length roads)) (match loopO fn77_B0 ((roads, out, (List.drop 1 (List.take (Int.toNat (List.length queue : Int)) queue)), (List.getD queue 0 (0 : Int)), (List.getD roads (Int.toNat (List.getD queue 0 (0 : Int))) ([] : (List Int))), (List.length (List.getD roads (Int.toNat (List.getD queue 0 (0 : Int))) ([] : (List Int))) : Int), (0 : Int), ()), ()) with | some ((roads2, out2, queue2, ()), ()) => some (.inl ((roads2, out2, queue2, ()), ())) | none => none)))) else (some (.inr ((out, ()), ()))) := rfl
theorem getD_set {l : List Int} {i j : Nat} {a d : Int} (h : i < l.length) : (l.set i a).getD j d = if i = j then a else l.getD j d := by
 simp only [List.getD, List.getElem?_set, h, if_true]
 split <;> simp
def vis1 (v : Int) (s : List Int × List Int) (w : Int) : List Int × List Int := if s.1.getD w.toNat 0 < 0 then (s.1.set w.toNat (s.1.getD v.toNat 0 + 1), s.2 ++ [w]) else s
def vis (v : Int) (row : List Int) (s : List Int × List Int) : List Int × List Int := row.foldl (vis1 v) s
def Bf (n : Nat) (s : List Int × List Int) : Prop := s.1.length = n ∧ (∀ w ∈ s.2, 0 ≤ w ∧ w < n ∧ 0 ≤ s.1.getD w.toNat 0) ∧ s.2.length + s.1.countP (fun d => decide (d < 0)) = n ∧ (∀ j, -1 ≤ s.1.getD j 0 ∧ s.1.getD j 0 < s.2.length)
theorem vis1_bf {n : Nat} {v w : Int} {s : List Int × List Int} (h : Bf n s) (hv : v ∈ s.2) (hw : 0 ≤ w ∧ w < n) : Bf n (vis1 v s w) ∧ ∃ t, (vis1 v s w).2 = s.2 ++ t := by
 unfold vis1
 by_cases hd : s.1.getD w.toNat 0 < 0
 · rw [if_pos hd]
   refine ⟨?_, _, rfl⟩
   obtain ⟨h1, h2, h3, h4⟩ := h
   have hl : w.toNat < s.1.length := by omega
   have hv2 := h2 v hv
   refine ⟨by simp [h1], ?_, ?_, ?_⟩
   · intro u hu
     simp only
     rw [getD_set hl]
     rcases List.mem_append.1 hu with hu | hu
     · have := h2 u hu
       refine ⟨this.1, this.2.1, ?_⟩
       split
       · omega
       · exact this.2.2
     · have : u = w := by simpa using hu
       subst this
       refine ⟨hw.1, hw.2, ?_⟩
       rw [if_pos rfl]; omega
   · simp only [List.length_append, List.length_singleton]
     rw [List.countP_set hl]
     have e1 : decide (s.1[w.toNat] < 0) = true := by rw [← getD_at hl 0]; simpa using hd
     have e2 : decide (s.1.getD v.toNat 0 + 1 < 0) = false := by simp only [decide_eq_false_iff_not]; omega
     have e3 : 0 < s.1.countP (fun d => decide (d < 0)) := List.countP_pos_iff.2 ⟨_, List.getElem_mem hl, e1⟩
     simp only [e1, e2, if_true, Bool.false_eq_true, if_false]
     omega
   · intro j
     simp only [List.length_append, List.length_singleton]
     rw [getD_set hl]
     have a1 := h4 j
     have a2 := h4 v.toNat
     split
     · omega
     · omega
 · rw [if_neg hd]
   exact ⟨h, [], by simp⟩
theorem vis_bf {n : Nat} {v : Int} : ∀ (row : List Int) {s : List Int × List Int}, Bf n s → v ∈ s.2 → (∀ w ∈ row, 0 ≤ w ∧ w < n) → Bf n (vis v row s) ∧ ∃ t, (vis v row s).2 = s.2 ++ t
 | [], s, h, hv, hr => ⟨h, [], by simp [vis]⟩
 | w :: row, s, h, hv, hr => by
  obtain ⟨h1, t1, e1⟩ := vis1_bf h hv (hr w (by simp))
  obtain ⟨h2, t2, e2⟩ := vis_bf row h1 (by rw [e1]; exact List.mem_append_left _ hv) (fun u hu => hr u (by simp [hu]))
  exact ⟨h2, t1 ++ t2, by show (vis v row (vis1 v s w)).2 = _; rw [e2, e1, List.append_assoc]⟩
theorem vis_snoc {v : Int} {row : List Int} {i : Nat} (h : i < row.length) (s : List Int × List Int) : vis v (row.take (i + 1)) s = vis1 v (vis v (row.take i) s) (row.getD i 0) := by
 rw [take_one h 0]; simp [vis, List.foldl_append]
theorem Bf.few {n : Nat} {s : List Int × List Int} (h : Bf n s) : s.2.length ≤ n := by have := h.2.2.1; omega
theorem getD_app {l t : List Int} {k : Nat} (h : k < l.length) : (l ++ t).getD k 0 = l.getD k 0 := by
 rw [getD_at h, getD_at (by simp <;> omega), List.getElem_append_left h]
theorem getD_in {l : List Int} {k : Nat} (h : k < l.length) : l.getD k 0 ∈ l := by rw [getD_at h]; exact List.getElem_mem h
theorem spread_row (L : List (List Int)) {n k : Nat} {s : List Int × List Int} {row : List Int} (hB : Bf n s) (hk : k < s.2.length) (hr : ∀ w ∈ row, 0 ≤ w ∧ w < n) (hn : n ≤ 1048576) (hl : row.length ≤ 1048576) :
  loopO fn62_B1 ((L, s.1, s.2, (k : Int), row, 0, ()), ()) = some ((L, (vis (s.2.getD k 0) row s).1, (vis (s.2.getD k 0) row s).2, (k : Int), ()), ()) := by
 have key := loop_count (B := fn62_B1) (fun i => ((L, (vis (s.2.getD k 0) (row.take i) s).1, (vis (s.2.getD k 0) (row.take i) s).2, (k : Int), row, (i : Int), ()), ())) row.length ((L, (vis (s.2.getD k 0) row s).1, (vis (s.2.getD k 0) row s).2, (k : Int), ()), ()) ?_ ?_ 0 (Nat.zero_le _)
 · simpa [vis] using key
 · intro i hi
   obtain ⟨hB', t, ht⟩ := vis_bf (row.take i) hB (getD_in hk) (fun w hw => hr w (List.mem_of_mem_take hw))
   have hv : (vis (s.2.getD k 0) (row.take i) s).2.getD k 0 = s.2.getD k 0 := by rw [ht]; exact getD_app hk
   have hk' : k < (vis (s.2.getD k 0) (row.take i) s).2.length := by rw [ht, List.length_append]; omega
   have hvn := hB.2.1 _ (getD_in hk)
   have hw := hr _ (getD_in hi)
   obtain ⟨s', hs'⟩ : ∃ s', vis (s.2.getD k 0) (row.take i) s = s' := ⟨_, rfl⟩
   simp only [vis_snoc hi, hs'] at *
   obtain ⟨v, hve⟩ : ∃ v, s.2.getD k 0 = v := ⟨_, rfl⟩
   obtain ⟨w, hwe⟩ : ∃ w, row.getD i 0 = w := ⟨_, rfl⟩
   have few := hB'.few
   have hlen := hB'.1
   have hb := hB'.2.2.2 v.toNat
   rw [fn62_B1_at]
   simp only [bif_decide, Int.toNat_natCast, vis1, hve, hwe] at *
   rw [if_pos (by omega), guardB_true (by simp [inb] <;> omega), guardB_true (inb_true hw.1 (by omega)), hv]
   by_cases hd : s'.1.getD w.toNat 0 < 0
   · rw [if_pos hd, if_pos hd, guardB_true (by simp [inb] <;> omega), guardB_true (by simp [inb] <;> omega), guardB_true (inb_true hvn.1 (by omega)), guardB_true (inb_true hw.1 (by omega)), guardB_true (by simp [inb] <;> omega), guardB_true (by simp only [List.length_singleton, decide_eq_true_eq]; omega), w64_succ (by omega), w64_of (by omega) (by omega)]
   · rw [if_neg hd, if_neg hd, w64_succ (by omega)]
 · rw [fn62_B1_at]; simp
theorem spread_row' (L : List (List Int)) {n k : Nat} {s : List Int × List Int} {row : List Int} (hB : Bf n s) (hk : k < s.2.length) (hr : ∀ w ∈ row, 0 ≤ w ∧ w < n) (hn : n ≤ 1048576) (hl : row.length ≤ 1048576) :
  loopO fn77_B0 ((L, s.1, s.2.drop (k + 1), s.2.getD k 0, row, (row.length : Int), 0, ()), ()) = some ((L, (vis (s.2.getD k 0) row s).1, (vis (s.2.getD k 0) row s).2.drop (k + 1), ()), ()) := by
 have key := loop_count (B := fn77_B0) (fun i => ((L, (vis (s.2.getD k 0) (row.take i) s).1, (vis (s.2.getD k 0) (row.take i) s).2.drop (k + 1), s.2.getD k 0, row, (row.length : Int), (i : Int), ()), ())) row.length ((L, (vis (s.2.getD k 0) row s).1, (vis (s.2.getD k 0) row s).2.drop (k + 1), ()), ()) ?_ ?_ 0 (Nat.zero_le _)
 · simpa [vis] using key
 · intro i hi
   obtain ⟨hB', t, ht⟩ := vis_bf (row.take i) hB (getD_in hk) (fun w hw => hr w (List.mem_of_mem_take hw))
   have hk' : k < (vis (s.2.getD k 0) (row.take i) s).2.length := by rw [ht, List.length_append]; omega
   have hvn := hB.2.1 _ (getD_in hk)
   have hw := hr _ (getD_in hi)
   obtain ⟨s', hs'⟩ : ∃ s', vis (s.2.getD k 0) (row.take i) s = s' := ⟨_, rfl⟩
   simp only [vis_snoc hi, hs'] at *
   obtain ⟨v, hve⟩ : ∃ v, s.2.getD k 0 = v := ⟨_, rfl⟩
   obtain ⟨w, hwe⟩ : ∃ w, row.getD i 0 = w := ⟨_, rfl⟩
   have few := hB'.few
   have hlen := hB'.1
   have hb := hB'.2.2.2 v.toNat
   rw [fn77_B0_at]
   simp only [bif_decide, Int.toNat_natCast, vis1, hve, hwe] at *
   rw [if_pos (by omega), guardB_true (by simp [inb] <;> omega), guardB_true (inb_true hw.1 (by omega))]
   by_cases hd : s'.1.getD w.toNat 0 < 0
   · have hdr : (s'.2 ++ [w]).drop (k + 1) = s'.2.drop (k + 1) ++ [w] := by rw [List.drop_append_of_le_length (by omega)]
     rw [if_pos hd, if_pos hd, guardB_true (inb_true hvn.1 (by omega)), guardB_true (by simp [inb] <;> omega), guardB_true (by simp only [List.length_singleton, List.length_drop, decide_eq_true_eq]; omega), w64_succ (by omega), w64_of (by omega) (by omega), hdr]
   · rw [if_neg hd, if_neg hd, w64_succ (by omega)]
 · rw [fn77_B0_at]; simp
def Rds (n : Nat) (L : List (List Int)) : Prop := L.length = n ∧ ∀ i, i < n → (L.getD i []).length ≤ 1048576 ∧ ∀ w ∈ L.getD i [], 0 ≤ w ∧ w < n
def bfs (L : List (List Int)) : Nat → Nat → List Int × List Int → List Int × List Int
 | 0, _, s => s
 | f + 1, k, s => if k < s.2.length then bfs L f (k + 1) (vis (s.2.getD k 0) (L.getD (s.2.getD k 0).toNat []) s) else s
theorem bfs_step {L : List (List Int)} {n k : Nat} {s : List Int × List Int} (hL : Rds n L) (hB : Bf n s) (hk : k < s.2.length) : Bf n (vis (s.2.getD k 0) (L.getD (s.2.getD k 0).toNat []) s) ∧ k + 1 ≤ (vis (s.2.getD k 0) (L.getD (s.2.getD k 0).toNat []) s).2.length := by
 have hvn := hB.2.1 _ (getD_in hk)
 obtain ⟨h1, t, ht⟩ := vis_bf (L.getD (s.2.getD k 0).toNat []) hB (getD_in hk) (hL.2 _ (by omega)).2
 exact ⟨h1, by rw [ht, List.length_append]; omega⟩
theorem bfs_bf {L : List (List Int)} {n : Nat} (hL : Rds n L) : ∀ (f k : Nat) (s : List Int × List Int), Bf n s → Bf n (bfs L f k s)
 | 0, _, s, h => h
 | f + 1, k, s, h => by
  unfold bfs
  split
  · rename_i hk
    exact bfs_bf hL f (k + 1) _ (bfs_step hL h hk).1
  · exact h
theorem spread_out {L : List (List Int)} {n : Nat} (hL : Rds n L) (hn : n ≤ 1048576) : ∀ (f k : Nat) (s : List Int × List Int), Bf n s → k ≤ s.2.length → n - k ≤ f → loopO fn62_B2 ((L, s.1, s.2, (k : Int), ()), ()) = some (((bfs L f k s).1, ()), ()) := by
 intro f
 induction f with
 | zero =>
  intro k s hB hk hf
  have := hB.few
  refine loop_end ?_
  rw [fn62_B2_at]
  simp only [bif_decide, bfs]
  rw [if_neg (by omega)]
 | succ f ih =>
  intro k s hB hk hf
  have few := hB.few
  unfold bfs
  split
  · rename_i hk'
    obtain ⟨h1, h2⟩ := bfs_step hL hB hk'
    have hvn := hB.2.1 _ (getD_in hk')
    have hrow := hL.2 (s.2.getD k 0).toNat (by omega)
    have key := spread_row L hB hk' hrow.2 hn hrow.1
    refine loop_step ?_ (ih (k + 1) _ h1 h2 (by omega))
    have hL1 := hL.1
    rw [fn62_B2_at]
    simp only [bif_decide, Int.toNat_natCast]
    rw [if_pos (by omega), guardB_true (by simp [inb] <;> omega), guardB_true (inb_true hvn.1 (by omega))]
    erw [key]
    simp only [w64_succ (show k < 4611686018427387904 by omega)]
  · rename_i hk'
    refine loop_end ?_
    rw [fn62_B2_at]
    simp only [bif_decide]
    rw [if_neg (by omega)]
theorem spread_out' {L : List (List Int)} {n : Nat} (hL : Rds n L) (hn : n ≤ 1048576) : ∀ (f k : Nat) (s : List Int × List Int), Bf n s → k ≤ s.2.length → n - k ≤ f → loopO fn77_B1 ((L, s.1, s.2.drop k, ()), ()) = some (((bfs L f k s).1, ()), ()) := by
 intro f
 induction f with
 | zero =>
  intro k s hB hk hf
  have := hB.few
  refine loop_end ?_
  rw [fn77_B1_at]
  simp only [bif_decide, bfs, List.length_drop]
  rw [if_neg (by omega)]
 | succ f ih =>
  intro k s hB hk hf
  have few := hB.few
  unfold bfs
  split
  · rename_i hk'
    obtain ⟨h1, h2⟩ := bfs_step hL hB hk'
    have hvn := hB.2.1 _ (getD_in hk')
    have hrow := hL.2 (s.2.getD k 0).toNat (by omega)
    have key := spread_row' L hB hk' hrow.2 hn hrow.1
    refine loop_step ?_ (ih (k + 1) _ h1 h2 (by omega))
    have hL1 := hL.1
    have hd0 : (s.2.drop k).getD 0 0 = s.2.getD k 0 := by rw [getD_at (by simp <;> omega), getD_at hk']; simp
    have hd1 : List.drop 1 (List.take (s.2.drop k).length (s.2.drop k)) = s.2.drop (k + 1) := by rw [List.take_length, List.drop_drop]
    rw [fn77_B1_at]
    simp only [bif_decide, Int.toNat_natCast, hd0, hd1]
    rw [if_pos (by simp <;> omega), guardB_true (by simp [inb] <;> omega), guardB_true (by simp <;> omega), guardB_true (inb_true hvn.1 (by omega))]
    erw [key]
  · rename_i hk'
    refine loop_end ?_
    rw [fn77_B1_at]
    simp only [bif_decide, List.length_drop]
    rw [if_neg (by omega)]
def far0 (n : Nat) (a : Int) : List Int × List Int := ((List.replicate n (-1 : Int)).set a.toNat 0, [a])
def far (L : List (List Int)) (a : Int) : List Int := (bfs L L.length 0 (far0 L.length a)).1
theorem far0_bf {n : Nat} {a : Int} (h0 : 0 ≤ a) (h : a < n) : Bf n (far0 n a) := by
 have hl : a.toNat < (List.replicate n (-1 : Int)).length := by simp; omega
 refine ⟨by simp [far0], ?_, ?_, ?_⟩
 · intro w hw
   have : w = a := by simpa [far0] using hw
   subst this
   refine ⟨h0, h, ?_⟩
   simp only [far0]
   rw [getD_set hl, if_pos rfl]
   exact Int.le_refl 0
 · simp only [far0]
   rw [List.countP_set hl]
   have e : (List.replicate n (-1 : Int)).countP (fun d => decide (d < 0)) = n := by rw [List.countP_replicate]; simp
   simp only [e, List.getElem_replicate, List.length_singleton]
   simp
   omega
 · intro j
   simp only [far0]
   rw [getD_set hl, List.length_singleton]
   split
   · omega
   · by_cases hj : j < n
     · rw [getD_at (by simpa using hj)]; simp
     · simp [List.getD, hj]
theorem far_bf {L : List (List Int)} {n : Nat} (hL : Rds n L) {a : Int} (h0 : 0 ≤ a) (h : a < n) : (far L a).length = n ∧ ∀ j, -1 ≤ (far L a).getD j 0 ∧ (far L a).getD j 0 < n := by
 have hB := bfs_bf hL L.length 0 _ (far0_bf (n := n) h0 h)
 have few := hB.few
 unfold far
 rw [hL.1] at hB ⊢
 refine ⟨hB.1, fun j => ?_⟩
 have := hB.2.2.2 j
 rw [hL.1] at few
 omega
theorem spread_spec {L : List (List Int)} {n : Nat} (hL : Rds n L) (hn : n ≤ 1048576) {a : Int} (h0 : 0 ≤ a) (h : a < n) : fn62 (L, a, ()) () = some ((far L a, ()), ()) := by
 have hl := hL.1
 have key1 : loopO fn62_B0 ((L, a, List.replicate n 0, 0, ()), ()) = some ((L, a, List.replicate n (-1), ()), ()) := by
  have := loop_count (B := fn62_B0) (fun i => ((L, a, fill (fun _ => (-1 : Int)) 0 n i, (i : Int), ()), ())) n ((L, a, fill (fun _ => (-1 : Int)) 0 n n, ()), ()) ?_ ?_ 0 (Nat.zero_le _)
  · rw [fill_all] at this
    rw [rows_rep (-1 : Int)]
    simpa [fill_zero, rows] using this
  · intro i hi
    rw [fn62_B0_at]
    simp only [bif_decide, fill_len, Int.toNat_natCast]
    rw [if_pos (by omega), guardB_true (by simp [inb] <;> omega), fill_set hi, w64_succ (by omega)]
  · rw [fn62_B0_at]; simp [fill_len]
 have key2 := spread_out hL hn n 0 (far0 n a) (far0_bf h0 h) (Nat.zero_le _) (by omega)
 simp only [fn62, hl, Int.toNat_natCast]
 rw [guardB_true (by simp <;> omega)]
 erw [key1]
 simp only
 rw [guardB_true (inb_true h0 (by simp <;> omega))]
 have : far L a = (bfs L n 0 (far0 n a)).1 := by simp only [far, hl]
 rw [this]
 erw [key2]
theorem spread_impl {L : List (List Int)} {n : Nat} (hL : Rds n L) (hn : n ≤ 1048576) {a : Int} (h0 : 0 ≤ a) (h : a < n) : fn77 (L, a, ()) () = some ((far L a, ()), ()) := by
 have hl := hL.1
 have key2 := spread_out' hL hn n 0 (far0 n a) (far0_bf h0 h) (Nat.zero_le _) (by omega)
 simp only [fn77, hl, Repeat_eq (-1) n hn]
 rw [guardB_true (inb_true h0 (by simp <;> omega))]
 have : far L a = (bfs L n 0 (far0 n a)).1 := by simp only [far, hl]
 rw [this]
 erw [key2]
theorem rds_lists {S : List (Int × Int)} {n : Nat} (h : StepsOk S n) (hs : S.length ≤ 6000) : Rds n (listsP S n) := by
 refine ⟨rows_len, fun i hi => ?_⟩
 rw [show (listsP S n).getD i [] = nbr S i from rows_get hi _]
 refine ⟨by have := nbr_len hs i; omega, fun w hw => ?_⟩
 simp only [nbr, inc, outg, List.mem_append, List.mem_map, List.mem_filter] at hw
 rcases hw with ⟨e, ⟨he, _⟩, rfl⟩ | ⟨e, ⟨he, _⟩, rfl⟩
 · have := steps_mem h he; omega
 · have := steps_mem h he; omega
theorem half_eq {i j : Nat} (h : i + j < 4611686018427387904) : w64 (Int.fdiv (IntKind.wrap .u64 (w64 ((i : Int) + (j : Int)))) (2 ^ (min 1 64))) = (((i + j) / 2 : Nat) : Int) := by
 rw [w64_of (x := (i : Int) + (j : Int)) (by omega) (by omega), wrapU (by omega) (by omega), show (2 : Int) ^ (min 1 64) = 2 by decide, Int.fdiv_eq_ediv_of_nonneg _ (by decide), w64_of (by omega) (by omega)]
 omega
inductive Rch (L : List (List Int)) (a : Int) : Int → Prop
 | refl : Rch L a a
 | step (v w : Int) : Rch L a v → w ∈ L.getD v.toNat [] → Rch L a w
def Good (L : List (List Int)) (n : Nat) (a : Int) (s : List Int × List Int) : Prop :=
 (∀ w : Int, 0 ≤ w → w < n → (0 ≤ s.1.getD w.toNat 0 ↔ w ∈ s.2)) ∧ (∀ w ∈ s.2, Rch L a w) ∧
 (∀ w : Int, 0 ≤ w → w < n → 0 < s.1.getD w.toNat 0 → ∃ v ∈ s.2, w ∈ L.getD v.toNat [] ∧ s.1.getD w.toNat 0 = s.1.getD v.toNat 0 + 1) ∧
 (∀ w : Int, 0 ≤ w → w < n → s.1.getD w.toNat 0 = 0 → w = a)
theorem vis1_good {L : List (List Int)} {n : Nat} {a v w : Int} {s : List Int × List Int} (hB : Bf n s) (hG : Good L n a s) (hv : v ∈ s.2) (hw : 0 ≤ w ∧ w < n) (hin : w ∈ L.getD v.toNat []) :
  Good L n a (vis1 v s w) ∧ (∀ u : Int, 0 ≤ u → 0 ≤ s.1.getD u.toNat 0 → (vis1 v s w).1.getD u.toNat 0 = s.1.getD u.toNat 0) ∧ 0 ≤ (vis1 v s w).1.getD w.toNat 0 := by
 have hv2 := hB.2.1 v hv
 unfold vis1
 by_cases hd : s.1.getD w.toNat 0 < 0
 · rw [if_pos hd]
   have hl : w.toNat < s.1.length := by have := hB.1; omega
   have hst : ∀ u : Int, 0 ≤ u → 0 ≤ s.1.getD u.toNat 0 → (s.1.set w.toNat (s.1.getD v.toNat 0 + 1)).getD u.toNat 0 = s.1.getD u.toNat 0 := by
    intro u hu h0
    rw [getD_set hl]
    split
    · rename_i e; rw [e] at hd; omega
    · rfl
   obtain ⟨g1, g2, g3, g4⟩ := hG
   refine ⟨⟨?_, ?_, ?_, ?_⟩, hst, ?_⟩
   · intro u h0 h1
     simp only [List.mem_append, List.mem_singleton]
     rw [getD_set hl]
     by_cases e : w.toNat = u.toNat
     · rw [if_pos e]
       have : u = w := by omega
       constructor
       · intro _; exact .inr this
       · intro _; omega
     · rw [if_neg e, g1 u h0 h1]
       constructor
       · exact .inl
       · rintro (h | h)
         · exact h
         · exact absurd (by rw [h]) e
   · intro u hu
     rcases List.mem_append.1 hu with hu | hu
     · exact g2 u hu
     · have : u = w := by simpa using hu
       subst this
       exact .step v u (g2 v hv) hin
   · intro u h0 h1 hp
     simp only at hp ⊢
     rw [getD_set hl] at hp ⊢
     by_cases e : w.toNat = u.toNat
     · have e' : u = w := by omega
       subst e'
       rw [if_pos rfl]
       exact ⟨v, List.mem_append_left _ hv, hin, by rw [hst v hv2.1 hv2.2.2]⟩
     · rw [if_neg e] at hp ⊢
       obtain ⟨p, p1, p2, p3⟩ := g3 u h0 h1 hp
       have hp2 := hB.2.1 p p1
       exact ⟨p, List.mem_append_left _ p1, p2, by rw [hst p hp2.1 hp2.2.2]; exact p3⟩
   · intro u h0 h1 hz
     simp only at hz
     rw [getD_set hl] at hz
     by_cases e : w.toNat = u.toNat
     · rw [if_pos e] at hz; omega
     · rw [if_neg e] at hz; exact g4 u h0 h1 hz
   · simp only
     rw [getD_set hl, if_pos rfl]; omega
 · rw [if_neg hd]
   exact ⟨hG, fun _ _ _ => rfl, by omega⟩
theorem vis_good {L : List (List Int)} {n : Nat} {a v : Int} : ∀ (row : List Int) {s : List Int × List Int}, Bf n s → Good L n a s → v ∈ s.2 → (∀ w ∈ row, 0 ≤ w ∧ w < n) → (∀ w ∈ row, w ∈ L.getD v.toNat []) →
  Good L n a (vis v row s) ∧ (∀ u : Int, 0 ≤ u → 0 ≤ s.1.getD u.toNat 0 → (vis v row s).1.getD u.toNat 0 = s.1.getD u.toNat 0) ∧ ∀ w ∈ row, 0 ≤ (vis v row s).1.getD w.toNat 0
 | [], s, hB, hG, hv, hr, hin => ⟨hG, fun _ _ _ => rfl, fun w hw => by simp at hw⟩
 | w :: row, s, hB, hG, hv, hr, hin => by
  obtain ⟨b1, t, e⟩ := vis1_bf hB hv (hr w (by simp))
  obtain ⟨g1, g2, g3⟩ := vis1_good hB hG hv (hr w (by simp)) (hin w (by simp))
  obtain ⟨k1, k2, k3⟩ := vis_good row b1 g1 (by rw [e]; exact List.mem_append_left _ hv) (fun u hu => hr u (by simp [hu])) (fun u hu => hin u (by simp [hu]))
  have hw := hr w (by simp)
  refine ⟨k1, fun u h0 h1 => ?_, fun u hu => ?_⟩
  · have := k2 u h0 (by rw [g2 u h0 h1]; exact h1)
    exact this.trans (g2 u h0 h1)
  · rcases List.mem_cons.1 hu with hu | hu
    · subst hu
      have := k2 u hw.1 g3
      show 0 ≤ (vis v row (vis1 v s u)).1.getD u.toNat 0
      rw [this]; exact g3
    · exact k3 u hu
def Done (L : List (List Int)) (k : Nat) (s : List Int × List Int) : Prop := ∀ i, i < k → ∀ w ∈ L.getD (s.2.getD i 0).toNat [], 0 ≤ s.1.getD w.toNat 0
theorem bfs_good {L : List (List Int)} {n : Nat} {a : Int} (hL : Rds n L) : ∀ (f k : Nat) (s : List Int × List Int), Bf n s → Good L n a s → k ≤ s.2.length → n - k ≤ f → Done L k s →
  Good L n a (bfs L f k s) ∧ Done L (bfs L f k s).2.length (bfs L f k s) ∧ (∀ u : Int, 0 ≤ u → 0 ≤ s.1.getD u.toNat 0 → (bfs L f k s).1.getD u.toNat 0 = s.1.getD u.toNat 0)
 | 0, k, s, hB, hG, hk, hf, hD => by
  have := hB.few
  have e : s.2.length = k := by omega
  unfold bfs
  exact ⟨hG, by rw [e]; exact hD, fun _ _ _ => rfl⟩
 | f + 1, k, s, hB, hG, hk, hf, hD => by
  have few := hB.few
  unfold bfs
  split
  · rename_i hk'
    obtain ⟨h1, h2⟩ := bfs_step hL hB hk'
    have hvn := hB.2.1 _ (getD_in hk')
    have hrow := hL.2 (s.2.getD k 0).toNat (by omega)
    obtain ⟨g1, g2, g3⟩ := vis_good (L := L) (a := a) (L.getD (s.2.getD k 0).toNat []) hB hG (getD_in hk') hrow.2 (fun w hw => hw)
    obtain ⟨_, t, ht⟩ := vis_bf (L.getD (s.2.getD k 0).toNat []) hB (getD_in hk') hrow.2
    obtain ⟨r1, r2, r3⟩ := bfs_good hL f (k + 1) _ h1 g1 h2 (by omega) (by
     intro i hi w hw
     by_cases e : i = k
     · subst e
       rw [ht, getD_app hk'] at hw
       exact g3 w hw
     · have hi' : i < k := by omega
       rw [ht, getD_app (by omega)] at hw
       have h0 := hD i hi' w hw
       have hvi := hB.2.1 _ (getD_in (show i < s.2.length by omega))
       have hw2 := (hL.2 (s.2.getD i 0).toNat (by omega)).2 w hw
       rw [g2 w hw2.1 h0]
       exact h0)
    exact ⟨r1, r2, fun u h0 h3 => by rw [r3 u h0 (by rw [g2 u h0 h3]; exact h3)]; exact g2 u h0 h3⟩
  · rename_i hk'
    have e : s.2.length = k := by omega
    exact ⟨hG, by rw [e]; exact hD, fun _ _ _ => rfl⟩
theorem far0_good {L : List (List Int)} {n : Nat} {a : Int} (h0 : 0 ≤ a) (h : a < n) : Good L n a (far0 n a) := by
 have hl : a.toNat < (List.replicate n (-1 : Int)).length := by simp; omega
 have hg : ∀ w : Int, 0 ≤ w → w < n → (far0 n a).1.getD w.toNat 0 = if w = a then 0 else -1 := by
  intro w h1 h2
  simp only [far0]
  rw [getD_set hl]
  by_cases e : w = a
  · subst e; rw [if_pos rfl, if_pos rfl]
  · rw [if_neg (by omega), if_neg e, getD_at (by simp; omega)]; simp
 refine ⟨fun w h1 h2 => ?_, fun w hw => ?_, fun w h1 h2 h3 => ?_, fun w h1 h2 h3 => ?_⟩
 · rw [hg w h1 h2]
   by_cases e : w = a
   · rw [if_pos e]; simp [far0, e]
   · rw [if_neg e]; simp [far0, e]
 · have : w = a := by simpa [far0] using hw
   rw [this]; exact .refl
 · rw [hg w h1 h2] at h3; split at h3 <;> omega
 · rw [hg w h1 h2] at h3
   by_cases e : w = a
   · exact e
   · rw [if_neg e] at h3; omega
theorem far_facts {L : List (List Int)} {n : Nat} (hL : Rds n L) {a : Int} (h0 : 0 ≤ a) (h : a < n) :
  (∀ v w : Int, 0 ≤ v → v < n → 0 ≤ (far L a).getD v.toNat 0 → w ∈ L.getD v.toNat [] → 0 ≤ (far L a).getD w.toNat 0) ∧
  (∀ w : Int, 0 ≤ w → w < n → (0 ≤ (far L a).getD w.toNat 0 ↔ Rch L a w)) ∧
  (∀ w : Int, 0 ≤ w → w < n → 0 < (far L a).getD w.toNat 0 → ∃ v : Int, 0 ≤ v ∧ v < n ∧ 0 ≤ (far L a).getD v.toNat 0 ∧ w ∈ L.getD v.toNat [] ∧ (far L a).getD w.toNat 0 = (far L a).getD v.toNat 0 + 1) ∧
  (∀ w : Int, 0 ≤ w → w < n → (far L a).getD w.toNat 0 = 0 → w = a) ∧ (far L a).getD a.toNat 0 = 0 := by
 have hl := hL.1
 have hB0 := far0_bf (n := n) h0 h
 have hB := bfs_bf hL n 0 _ hB0
 obtain ⟨⟨g1, g2, g3, g4⟩, gD, gs⟩ := bfs_good (a := a) hL n 0 (far0 n a) hB0 (far0_good h0 h) (Nat.zero_le _) (by omega) (fun i hi => by omega)
 have e : far L a = (bfs L n 0 (far0 n a)).1 := by simp only [far, hl]
 rw [e]
 have cl : ∀ v w : Int, 0 ≤ v → v < n → 0 ≤ (bfs L n 0 (far0 n a)).1.getD v.toNat 0 → w ∈ L.getD v.toNat [] → 0 ≤ (bfs L n 0 (far0 n a)).1.getD w.toNat 0 := by
  intro v w hv hv' hp hw
  obtain ⟨i, hi, ei⟩ := List.getElem_of_mem ((g1 v hv hv').1 hp)
  exact gD i hi w (by rw [getD_at hi, ei]; exact hw)
 have hz : (bfs L n 0 (far0 n a)).1.getD a.toNat 0 = 0 := by
  have hl : a.toNat < (List.replicate n (-1 : Int)).length := by simp; omega
  have e0 : (far0 n a).1.getD a.toNat 0 = 0 := by simp only [far0]; rw [getD_set hl, if_pos rfl]
  rw [gs a h0 (by omega), e0]
 refine ⟨cl, fun w h1 h2 => ⟨fun hp => g2 w ((g1 w h1 h2).1 hp), fun hr => ?_⟩, fun w h1 h2 hp => ?_, g4, hz⟩
 · suffices hh : ∀ w, Rch L a w → 0 ≤ w ∧ w < n ∧ 0 ≤ (bfs L n 0 (far0 n a)).1.getD w.toNat 0 from (hh w hr).2.2
   intro w hr
   induction hr with
   | refl => exact ⟨h0, h, by omega⟩
   | step v w _ hin ih =>
    have hw := (hL.2 v.toNat (by omega)).2 w hin
    exact ⟨hw.1, hw.2, cl v w ih.1 ih.2.1 ih.2.2 hin⟩
 · obtain ⟨v, v1, v2, v3⟩ := g3 w h1 h2 hp
   have := hB.2.1 v v1
   exact ⟨v, this.1, this.2.1, this.2.2, v2, v3⟩
theorem nbr_symm {S : List (Int × Int)} {n : Nat} (h : StepsOk S n) {i j : Nat} : (i : Int) ∈ nbr S j ↔ (j : Int) ∈ nbr S i := by
 simp only [nbr, inc, outg, List.mem_append, List.mem_map, List.mem_filter, decide_eq_true_eq]
 constructor
 · rintro (⟨e, ⟨h1, h2⟩, h3⟩ | ⟨e, ⟨h1, h2⟩, h3⟩)
   · exact .inr ⟨e, ⟨h1, h3⟩, h2⟩
   · exact .inl ⟨e, ⟨h1, h3⟩, h2⟩
 · rintro (⟨e, ⟨h1, h2⟩, h3⟩ | ⟨e, ⟨h1, h2⟩, h3⟩)
   · exact .inr ⟨e, ⟨h1, h3⟩, h2⟩
   · exact .inl ⟨e, ⟨h1, h3⟩, h2⟩
def Symm (L : List (List Int)) : Prop := ∀ v w : Int, 0 ≤ v → 0 ≤ w → v < L.length → w < L.length → v ∈ L.getD w.toNat [] → w ∈ L.getD v.toNat []
theorem lists_symm {S : List (Int × Int)} {n : Nat} (h : StepsOk S n) : Symm (listsP S n) := by
 intro v w h1 h2 h3 h4 hm
 have hl : (listsP S n).length = n := rows_len
 rw [hl] at h3 h4
 rw [show (listsP S n).getD w.toNat [] = nbr S w.toNat from rows_get (by omega) _] at hm
 rw [show (listsP S n).getD v.toNat [] = nbr S v.toNat from rows_get (by omega) _]
 have := (nbr_symm h (i := v.toNat) (j := w.toNat)).1 (by rw [Int.toNat_of_nonneg h1]; exact hm)
 rwa [Int.toNat_of_nonneg h2] at this
theorem Rch.trans {L : List (List Int)} {a b c : Int} (h1 : Rch L a b) (h2 : Rch L b c) : Rch L a c := by
 induction h2 with
 | refl => exact h1
 | step v w _ hin ih => exact .step v w ih hin
theorem Rch.range {L : List (List Int)} {n : Nat} (hL : Rds n L) {a b : Int} (h0 : 0 ≤ a ∧ a < n) (h : Rch L a b) : 0 ≤ b ∧ b < n := by
 induction h with
 | refl => exact h0
 | step v w _ hin ih => exact (hL.2 v.toNat (by omega)).2 w hin
theorem Rch.symm {L : List (List Int)} {n : Nat} (hL : Rds n L) (hs : Symm L) {a b : Int} (h0 : 0 ≤ a ∧ a < n) (h : Rch L a b) : Rch L b a := by
 have hl := hL.1
 induction h with
 | refl => exact .refl
 | step v w hr hin ih =>
  have hv := hr.range hL h0
  have hw := (hL.2 v.toNat (by omega)).2 w hin
  exact Rch.trans (.step w v .refl (hs w v hw.1 hv.1 (by omega) (by omega) hin)) ih
theorem wrapN {a : Nat} (h : a < 9223372036854775808) : IntKind.wrap .u64 (a : Int) = a ∧ IntKind.wrap .i64 (a : Int) = a := by
 constructor
 · simp only [IntKind.wrap, IntKind.bits, IntKind.signed]; simp; omega
 · simp only [IntKind.wrap, IntKind.bits, IntKind.signed]; simp; omega
theorem fn89_B0_at (a : Int) (b : Int) (g : (Int) × (List ((Int) × (Int)))) (i : Int) : fn89_B0 ((a, b, g, i, ()), ()) = bif (decide (i < (List.length g.2 : Int))) then (guardB (inb i (List.length g.2)) (bif (((List.getD g.2 (Int.toNat i) ((0 : Int), (0 : Int))).1) == a) then (bif (((List.getD g.2 (Int.toNat i) ((0 : Int), (0 : Int))).2) == b) then (some (.inr (.inl ((true, ()), ())))) else (bif (((List.getD g.2 (Int.toNat i) ((0 : Int), (0 : Int))).1) == b) then (bif (((List.getD g.2 (Int.toNat i) ((0 : Int), (0 : Int))).2) == a) then (some (.inr (.inl ((true, ()), ())))) else (some (.inl ((a, b, g, (w64 (i + (1 : Int))), ()), ())))) else (some (.inl ((a, b, g, (w64 (i + (1 : Int))), ()), ()))))) else (bif (((List.getD g.2 (Int.toNat i) ((0 : Int), (0 : Int))).1) == b) then (bif (((List.getD g.2 (Int.toNat i) ((0 : Int), (0 : Int))).2) == a) then (some (.inr (.inl ((true, ()), ())))) else (some (.inl ((a, b, g, (w64 (i + (1 : Int))), ()), ())))) else (some (.inl ((a, b, g, (w64 (i + (1 : Int))), ()), ())))))) else (some (.inr (.inr ((), ())))) := rfl
theorem fn19_B0_at (s : List ((Int) × (Int))) (v : (Int) × (Int)) (t7 : Int) (t8 : Int) : fn19_B0 ((s, v, t7, t8, ()), ()) = bif (decide (t8 < t7)) then (guardB (inb t8 (List.length s)) (bif ((v.1 == ((List.getD s (Int.toNat t8) ((0 : Int), (0 : Int))).1)) && (v.2 == ((List.getD s (Int.toNat t8) ((0 : Int), (0 : Int))).2))) then (some (.inr (.inl ((t8, ()), ())))) else (some (.inl ((s, v, t7, (w64 (t8 + (1 : Int))), ()), ()))))) else (some (.inr (.inr ((), ())))) := rfl
def hitB (e : Int × Int) (a b : Int) : Bool := (decide (e.1 = a) && decide (e.2 = b)) || (decide (e.1 = b) && decide (e.2 = a))
def nearB (S : List (Int × Int)) (a b : Int) : Bool := !allUpto (fun i => !hitB (S.getD i (0, 0)) a b) S.length
theorem nearB_iff {S : List (Int × Int)} {a b : Int} : nearB S a b = true ↔ (a, b) ∈ S ∨ (b, a) ∈ S := by
 have e : nearB S a b = true ↔ ∃ i, i < S.length ∧ hitB (S.getD i (0, 0)) a b = true := by
  simp only [nearB, Bool.not_eq_true', ← Bool.not_eq_true, allUpto_iff]
  constructor
  · intro h
    refine Classical.byContradiction fun g => h fun i hi => ?_
    cases hh : hitB (S.getD i (0, 0)) a b
    · simp
    · exact absurd ⟨i, hi, hh⟩ g
  · rintro ⟨i, hi, hh⟩ g
    have := g i hi
    rw [hh] at this; simp at this
 rw [e]
 simp only [hitB, Bool.or_eq_true, Bool.and_eq_true, decide_eq_true_eq]
 constructor
 · rintro ⟨i, hi, h⟩
   have hm := List.getElem_mem hi
   rw [getD_at hi] at h
   rcases h with ⟨h1, h2⟩ | ⟨h1, h2⟩
   · left; rw [← h1, ← h2]; exact hm
   · right; rw [← h1, ← h2]; exact hm
 · rintro (h | h)
   · obtain ⟨i, hi, he⟩ := List.getElem_of_mem h
     exact ⟨i, hi, .inl (by rw [getD_at hi, he]; exact ⟨rfl, rfl⟩)⟩
   · obtain ⟨i, hi, he⟩ := List.getElem_of_mem h
     exact ⟨i, hi, .inr (by rw [getD_at hi, he]; exact ⟨rfl, rfl⟩)⟩
theorem Near_eq (g : Int × List (Int × Int)) (a b : Int) (hl : g.2.length ≤ 1048576) : fn89 (g, a, b, ()) () = some ((nearB g.2 a b, ()), ()) := by
 have key := loop_all (B := fn89_B0) (fun i => ((a, b, g, (i : Int), ()), ())) (fun i => !hitB (g.2.getD i (0, 0)) a b) g.2.length (.inl ((true, ()), ())) (.inr ((), ())) (fun i hi _ => by
  rw [fn89_B0_at]
  simp only [bif_decide, Int.toNat_natCast, hitB]
  rw [if_pos (by omega), guardB_true (by simp [inb] <;> omega), w64_succ (by omega)]
  generalize g.2.getD i (0, 0) = e
  have bd : ∀ x y : Int, (x == y) = decide (x = y) := fun x y => by
   by_cases h : x = y
   · rw [beq_eq h, decide_eq_true h]
   · rw [beq_ne h, decide_eq_false h]
  simp only [bd]
  generalize decide (e.1 = a) = p1
  generalize decide (e.2 = b) = p2
  generalize decide (e.1 = b) = p3
  generalize decide (e.2 = a) = p4
  cases p1 <;> cases p2 <;> cases p3 <;> cases p4 <;> rfl) (by rw [fn89_B0_at]; simp)
 simp only [fn89]
 erw [key]
 simp only [nearB]
 cases allUpto (fun i => !hitB (g.2.getD i (0, 0)) a b) g.2.length <;> rfl
theorem Contains_eq (S : List (Int × Int)) (v : Int × Int) (hl : S.length ≤ 1048576) : fn14 (S, v, ()) () = some ((decide (v ∈ S), ()), ()) := by
 have one : ∀ e : Int × Int, ((v.1 == e.1) && (v.2 == e.2)) = decide (e = v) := fun e => by
  obtain ⟨a, b⟩ := e
  obtain ⟨c, d⟩ := v
  have bd : ∀ x y : Int, (x == y) = decide (y = x) := fun x y => by
   by_cases h : x = y
   · rw [beq_eq h, decide_eq_true h.symm]
   · rw [beq_ne h, decide_eq_false (fun e => h e.symm)]
  simp only [bd, Prod.mk.injEq, Bool.decide_and]
 have key : ∀ d k, k + d = S.length → ∃ q : Int, (loopO fn19_B0 ((S, v, (S.length : Int), (k : Int), ()), ()) = some (.inl ((q, ()), ())) ∧ 0 ≤ q ∧ v ∈ S) ∨ (loopO fn19_B0 ((S, v, (S.length : Int), (k : Int), ()), ()) = some (.inr ((), ())) ∧ v ∉ S.drop k) := by
  intro d
  induction d with
  | zero =>
   intro k hk
   refine ⟨0, .inr ⟨loop_end ?_, ?_⟩⟩
   · rw [fn19_B0_at]
     simp only [bif_decide]
     rw [if_neg (by omega)]
   · rw [List.drop_of_length_le (by omega)]; simp
  | succ d ih =>
   intro k hk
   have hkl : k < S.length := by omega
   have st : fn19_B0 ((S, v, (S.length : Int), (k : Int), ()), ()) = some (if S.getD k (0, 0) = v then .inr (.inl (((k : Int), ()), ())) else .inl ((S, v, (S.length : Int), ((k + 1 : Nat) : Int), ()), ())) := by
    rw [fn19_B0_at]
    simp only [bif_decide, Int.toNat_natCast, one]
    rw [if_pos (by omega), guardB_true (by simp [inb] <;> omega), w64_succ (by omega)]
    by_cases h : S.getD k (0, 0) = v
    · rw [if_pos h, if_pos h]
    · rw [if_neg h, if_neg h]
   by_cases h : S.getD k (0, 0) = v
   · rw [if_pos h] at st
     refine ⟨(k : Int), .inl ⟨loop_end st, by omega, ?_⟩⟩
     rw [← h, getD_at hkl]; exact List.getElem_mem hkl
   · rw [if_neg h] at st
     obtain ⟨q, ⟨q1, q2⟩ | ⟨q1, q2⟩⟩ := ih (k + 1) (by omega)
     · exact ⟨q, .inl ⟨loop_step st q1, q2⟩⟩
     · refine ⟨q, .inr ⟨loop_step st q1, ?_⟩⟩
       rw [List.drop_eq_getElem_cons hkl, List.mem_cons]
       rintro (e | e)
       · exact h (by rw [getD_at hkl]; exact e.symm)
       · exact q2 e
 obtain ⟨q, ⟨q1, q2, q3⟩ | ⟨q1, q2⟩⟩ := key S.length 0 (by omega)
 · simp only [fn14, fn19]
   erw [q1]
   simp only
   rw [decide_eq_true q2, decide_eq_true q3]
 · rw [List.drop_zero] at q2
   simp only [fn14, fn19]
   erw [q1]
   simp only
   rw [decide_eq_false (show ¬ (0 : Int) ≤ -1 by omega), decide_eq_false q2]
theorem fn30_B0_at (x : Int) (g : (Int) × (List ((Int) × (Int)))) (out : List (Int)) (t9 : Int) (t10 : Int) : fn30_B0 ((x, g, out, t9, t10, ()), ()) = bif (decide (t10 < t9)) then (bif (t10 != x) then (match fn48 (g, x, t10, ()) () with | some ((r, ()), ()) => (bif r then (guardB (decide ((List.length out + List.length [t10]) * 8 ≤ 70368744177664)) (some (.inl ((x, g, (out ++ [t10]), t9, (w64 (t10 + (1 : Int))), ()), ())))) else (some (.inl ((x, g, out, t9, (w64 (t10 + (1 : Int))), ()), ())))) | none => none) else (some (.inl ((x, g, out, t9, (w64 (t10 + (1 : Int))), ()), ())))) else (some (.inr ((out, ()), ()))) := rfl
theorem has_eq (g : Int × List (Int × Int)) {n : Nat} (hp : pairsB g.2 n = true) (a b : Int) (hl : g.2.length ≤ 1048576) : fn48 (g, a, b, ()) () = some ((nearB g.2 a b, ()), ()) := by
 have hS := pairsB_ok hp
 have e : decide (((if b < a then b else a), (if a < b then b else a)) ∈ g.2) = nearB g.2 a b := by
  rw [Bool.eq_iff_iff, decide_eq_true_iff, nearB_iff]
  by_cases h1 : a < b
  · rw [if_neg (by omega), if_pos h1]
    exact ⟨.inl, fun h => h.elim id fun h => by have := steps_mem hS h; simp only at this; omega⟩
  · by_cases h2 : b < a
    · rw [if_pos h2, if_neg h1]
      exact ⟨.inr, fun h => h.elim (fun h => by have := steps_mem hS h; simp only at this; omega) id⟩
    · rw [if_neg h2, if_neg h1]
      have : a = b := by omega
      subst this
      exact ⟨.inl, fun h => h.elim id id⟩
 simp only [fn48, fn98, bif_decide, Contains_eq g.2 _ hl]
 simp only [e]
def nbB (S : List (Int × Int)) (x : Nat) (y : Nat) : Bool := !decide (y = x) && nearB S (x : Int) (y : Int)
def nbs (S : List (Int × Int)) (n x : Nat) : List Int := ((List.range n).filter fun y => nbB S x y).map fun (i : Nat) => (i : Int)
theorem nbs_snoc (S : List (Int × Int)) (n x : Nat) : nbs S (n + 1) x = nbs S n x ++ (if nbB S x n then [(n : Int)] else []) := by
 unfold nbs
 rw [List.range_succ, List.filter_append, List.map_append]
 cases h : nbB S x n
 · simp only [List.filter_cons, h, Bool.false_eq_true, if_false, List.filter_nil, List.map_nil]
 · simp only [List.filter_cons, h, if_true, List.filter_nil, List.map_cons, List.map_nil]
theorem nbs_len (S : List (Int × Int)) (n x : Nat) : (nbs S n x).length ≤ n := by
 unfold nbs; rw [List.length_map]; exact Nat.le_trans (List.length_filter_le _ _) (by simp)
theorem nbs_mem {S : List (Int × Int)} {n x : Nat} {y : Nat} : (y : Int) ∈ nbs S n x ↔ y < n ∧ nbB S x y = true := by
 simp only [nbs, List.mem_map, List.mem_filter, List.mem_range]
 constructor
 · rintro ⟨k, ⟨h1, h2⟩, h3⟩
   have : k = y := by omega
   subst this; exact ⟨h1, h2⟩
 · rintro ⟨h1, h2⟩; exact ⟨y, ⟨h1, h2⟩, rfl⟩
theorem neighbors_eq (g : Int × List (Int × Int)) {n : Nat} (hg : g.1 = n) (hn : n ≤ 8) (hp : pairsB g.2 n = true) (x : Nat) (hl : g.2.length ≤ 1048576) : fn30 (g, (x : Int), ()) () = some ((nbs g.2 n x, ()), ()) := by
 have key := loop_count (B := fn30_B0) (fun i => (((x : Int), g, nbs g.2 i x, (n : Int), (i : Int), ()), ())) n ((nbs g.2 n x, ()), ()) (fun i hi => by
  have hle := nbs_len g.2 i x
  rw [fn30_B0_at]
  simp only [bif_decide, has_eq g hp _ _ hl, nbs_snoc]
  rw [if_pos (by omega), w64_succ (by omega)]
  by_cases h : i = x
  · have hb : nbB g.2 x i = false := by simp [nbB, h]
    rw [bne_eq (show (i : Int) = (x : Int) by omega)]
    simp only [hb, cond_false, Bool.false_eq_true, if_false, List.append_nil]
  · rw [bne_ne (show ¬ (i : Int) = (x : Int) by omega)]
    cases h2 : nearB g.2 (x : Int) (i : Int)
    · have hb : nbB g.2 x i = false := by simp [nbB, h2]
      simp only [hb, cond_true, cond_false, Bool.false_eq_true, if_false, List.append_nil]
    · have hb : nbB g.2 x i = true := by simp [nbB, h, h2]
      simp only [hb, cond_true, if_true]
      rw [guardB_true (by simp only [List.length_singleton, decide_eq_true_eq]; omega)]) (by rw [fn30_B0_at]; simp) 0 (Nat.zero_le _)
 simp only [fn30, hg]
 erw [key]
open Classical in
theorem nearB_symm (S : List (Int × Int)) (a b : Int) : nearB S a b = nearB S b a := by
 rw [Bool.eq_iff_iff, nearB_iff, nearB_iff]
 exact ⟨fun h => h.elim .inr .inl, fun h => h.elim .inr .inl⟩
open Classical in
open Classical in
open Classical in
def goodG (g : Int × List (Int × Int)) : Bool := inR g.1 0 8 && pairsB g.2 g.1
theorem l2Good_eq (g : Int × List (Int × Int)) (hl : g.2.length ≤ 1048576) : fn88 (g, ()) () = some ((goodG g, ()), ()) := by
 simp only [fn88, l1In_eq _ _ _, goodG]
 cases h : inR g.1 0 8
 · rfl
 · have h' := h
   simp only [inR, Bool.and_eq_true, decide_eq_true_eq] at h'
   simp only [cond_true, l2Pairs_eq g.2 g.1 hl (by omega) (by omega), Bool.true_and]
theorem IsGraph_eq (g : Int × List (Int × Int)) (hl : g.2.length ≤ 1048576) : fn63 (g, ()) () = some ((goodG g, ()), ()) := by
 simp only [fn63, between_eq _ _ _, goodG]
 cases h : inR g.1 0 8
 · rfl
 · simp only [cond_true, isPairs_eq g.2 g.1 hl, Bool.true_and]
theorem fn59_D0_at (rc : argP fn59_a → obP (extObs 0 fn59_o) → Option fn59_E.P) (lazy : Bool) (begun : List (Int)) (g : (Int) × (List ((Int) × (Int)))) (h : (Int) × (List ((Int) × (Int)))) (x : Int) (sum : Int) (v : Int) (t50 : Int) (t51 : (Int) × (List ((Int) × (Int)))) (t52 : (Int) × (List ((Int) × (Int)))) (t53 : Bool) (t54 : List (Int)) (t56 : Int) : fn59_D0 rc ((lazy, begun, g, h, x, sum, v, t50, t51, t52, t53, t54, t56, ()), ()) = match fn97 (t54, ()) () with | some ((r, ()), ()) => guardB (decide ((List.length r + List.length [t56]) * 8 ≤ 70368744177664)) (match rc (t51, t52, t53, (r ++ [t56]), ()) () with | some ((r2, ()), ()) => some ((lazy, begun, g, h, x, (w64 (t50 + r2)), v, ()), ()) | none => none) | none => none := rfl
theorem fn59_B0_at (rc : argP fn59_a → obP (extObs 0 fn59_o) → Option fn59_E.P) (lazy : Bool) (begun : List (Int)) (g : (Int) × (List ((Int) × (Int)))) (h : (Int) × (List ((Int) × (Int)))) (x : Int) (sum : Int) (v : Int) (fits : Bool) (k : Int) : fn59_B0 rc ((lazy, begun, g, h, x, sum, v, fits, k, ()), ()) = bif (decide (k < x)) then (bif fits then (match fn89 (g, k, x, ()) () with | some ((r, ()), ()) => (bif (!r) then (some (.inl ((lazy, begun, g, h, x, sum, v, true, (w64 (k + (1 : Int))), ()), ()))) else (guardB (inb k (List.length begun)) (match fn66 (h, (List.getD begun (Int.toNat k) (0 : Int)), v, lazy, ()) () with | some ((r2, ()), ()) => some (.inl ((lazy, begun, g, h, x, sum, v, r2, (w64 (k + (1 : Int))), ()), ())) | none => none))) | none => none) else (some (.inr ((lazy, begun, g, h, x, sum, v, fits, ()), ())))) else (some (.inr ((lazy, begun, g, h, x, sum, v, fits, ()), ()))) := rfl
theorem fn59_B1_at (rc : argP fn59_a → obP (extObs 0 fn59_o) → Option fn59_E.P) (lazy : Bool) (begun : List (Int)) (g : (Int) × (List ((Int) × (Int)))) (h : (Int) × (List ((Int) × (Int)))) (x : Int) (sum : Int) (v : Int) : fn59_B1 rc ((lazy, begun, g, h, x, sum, v, ()), ()) = bif (decide (v < h.1)) then (match loopO (fn59_B0 rc) ((lazy, begun, g, h, x, sum, v, true, (0 : Int), ()), ()) with | some ((lazy2, begun2, g2, h2, x2, sum2, v2, fits, ()), ()) => (bif fits then (match (fn59_D0 rc) ((lazy2, begun2, g2, h2, x2, sum2, v2, sum2, g2, h2, lazy2, begun2, v2, ()), ()) with | some ((lazy3, begun3, g3, h3, x3, sum3, v3, ()), ()) => some (.inl ((lazy3, begun3, g3, h3, x3, sum3, (w64 (v3 + (1 : Int))), ()), ())) | none => none) else (some (.inl ((lazy2, begun2, g2, h2, x2, sum2, (w64 (v2 + (1 : Int))), ()), ())))) | none => none) else (some (.inr ((sum, ()), ()))) := rfl
def fitB (T : List (Int × Int)) (lazy : Bool) (a b : Int) : Bool := nearB T a b || (lazy && decide (a = b))
theorem fitB_symm (T : List (Int × Int)) (lazy : Bool) (a b : Int) : fitB T lazy a b = fitB T lazy b a := by
 simp only [fitB, nearB_symm T a b]
 by_cases h : a = b
 · subst h; rfl
 · rw [decide_eq_false h, decide_eq_false (fun e => h e.symm)]
theorem Fits_eq (h : Int × List (Int × Int)) (a b : Int) (lazy : Bool) (hl : h.2.length ≤ 1048576) : fn66 (h, a, b, lazy, ()) () = some ((fitB h.2 lazy a b, ()), ()) := by
 simp only [fn66, Near_eq h a b hl, fitB]
 cases nearB h.2 a b
 · cases lazy
   · rfl
   · by_cases e : a = b
     · simp only [cond_false, cond_true, Bool.false_or, Bool.true_and, beq_eq e, decide_eq_true e]
     · simp only [cond_false, cond_true, Bool.false_or, Bool.true_and, beq_ne e, decide_eq_false e]
 · rfl
def okOne (S T : List (Int × Int)) (lazy : Bool) (l : List Int) (x : Nat) (v : Int) (k : Nat) : Bool := !nearB S (k : Int) (x : Int) || fitB T lazy (l.getD k 0) v
def allFrom (good : Nat → Bool) : Nat → Nat → Bool
 | _, 0 => true
 | k, d + 1 => good k && allFrom good (k + 1) d
theorem allFrom_iff {good : Nat → Bool} : ∀ {d k : Nat}, allFrom good k d = true ↔ ∀ j, k ≤ j → j < k + d → good j = true
 | 0, k => by simp [allFrom]; omega
 | d + 1, k => by
  simp only [allFrom, Bool.and_eq_true, allFrom_iff]
  constructor
  · rintro ⟨h1, h2⟩ j hj hj'
    rcases Nat.lt_or_ge k j with h | h
    · exact h2 j (by omega) (by omega)
    · rw [show j = k by omega]; exact h1
  · intro h
    exact ⟨h k (Nat.le_refl _) (by omega), fun j hj hj' => h j (by omega) (by omega)⟩
def sumFrom (f : Nat → Nat) : Nat → Nat → Nat
 | _, 0 => 0
 | k, d + 1 => f k + sumFrom f (k + 1) d
theorem sumFrom_le {f : Nat → Nat} {B : Nat} (h : ∀ k, f k ≤ B) : ∀ d k, sumFrom f k d ≤ d * B
 | 0, k => by simp [sumFrom]
 | d + 1, k => by
  have h1 := h k
  have h2 := sumFrom_le h d (k + 1)
  simp only [sumFrom, Nat.succ_mul]
  omega
def cnt (S T : List (Int × Int)) (lazy : Bool) (m : Nat) : Nat → List Int → Nat
 | 0, _ => 1
 | d + 1, l => sumFrom (fun v => if allFrom (okOne S T lazy l l.length (v : Int)) 0 l.length then cnt S T lazy m d (l ++ [(v : Int)]) else 0) 0 m
theorem cnt_le (S T : List (Int × Int)) (lazy : Bool) {m : Nat} (hm : m ≤ 8) : ∀ (d : Nat) (l : List Int), cnt S T lazy m d l ≤ 8 ^ d
 | 0, l => by simp [cnt]
 | d + 1, l => by
  simp only [cnt]
  refine Nat.le_trans (sumFrom_le (B := 8 ^ d) (fun k => ?_) m 0) ?_
  · split
    · exact cnt_le S T lazy hm d _
    · exact Nat.zero_le _
  · rw [Nat.pow_succ, Nat.mul_comm]; exact Nat.mul_le_mul_left _ hm
theorem own_small (l : List Int) (hl : l.length ≤ 1048576) : fn97 (l, ()) () = some ((l, ()), ()) := by
 simp only [fn97, List.nil_append]
 rw [guardB_true (by simp only [List.length_nil, decide_eq_true_eq]; omega)]
theorem count_fits (rc) (g h : Int × List (Int × Int)) (lazy : Bool) (l : List Int) (hg : g.2.length ≤ 1048576) (hh : h.2.length ≤ 1048576) (hl : l.length ≤ 8) (sum v : Int) : ∀ d k, k + d = l.length →
  loopO (fn59_B0 rc) ((lazy, l, g, h, (l.length : Int), sum, v, true, (k : Int), ()), ()) = some ((lazy, l, g, h, (l.length : Int), sum, v, allFrom (okOne g.2 h.2 lazy l l.length v) k d, ()), ()) := by
 intro d
 induction d with
 | zero =>
  intro k hk
  refine loop_end ?_
  rw [fn59_B0_at]
  simp only [bif_decide, allFrom]
  rw [if_neg (by omega)]
 | succ d ih =>
  intro k hk
  have st : fn59_B0 rc ((lazy, l, g, h, (l.length : Int), sum, v, true, (k : Int), ()), ()) = some (.inl ((lazy, l, g, h, (l.length : Int), sum, v, okOne g.2 h.2 lazy l l.length v k, ((k + 1 : Nat) : Int), ()), ())) := by
   rw [fn59_B0_at]
   simp only [bif_decide, Near_eq g _ _ hg, Fits_eq h _ _ lazy hh, okOne, Int.toNat_natCast]
   rw [if_pos (by omega), w64_succ (by omega)]
   cases nearB g.2 (k : Int) (l.length : Int)
   · rfl
   · simp only [cond_true, Bool.not_true, cond_false, Bool.false_or]
     rw [guardB_true (by simp [inb] <;> omega)]
  simp only [allFrom]
  cases ho : okOne g.2 h.2 lazy l l.length v k
  · rw [ho] at st
    refine loop_step st (loop_end ?_)
    rw [fn59_B0_at]
    simp only [bif_decide, cond_false, Bool.false_and]
    split <;> rfl
  · rw [ho] at st
    rw [Bool.true_and]
    exact loop_step st (ih (k + 1) (by omega))
theorem count_run (g h : Int × List (Int × Int)) (lazy : Bool) {n m : Nat} (hg1 : g.1 = n) (hn : n ≤ 6) (hh1 : h.1 = m) (hm : m ≤ 8) (hg : g.2.length ≤ 1048576) (hh : h.2.length ≤ 1048576) : ∀ (d f : Nat) (l : List Int), l.length + d = n → d < f →
  fuelF fn59_F f (g, h, lazy, l, ()) () = some ((((cnt g.2 h.2 lazy m d l : Nat) : Int), ()), ())
 | d, 0, l, _, hf => by omega
 | 0, f + 1, l, hl, _ => by
  simp only [fuelF, fn59_F, cnt]
  rw [beq_eq (by omega)]
  rfl
 | d + 1, f + 1, l, hl, hf => by
  simp only [fuelF, fn59_F]
  rw [beq_ne (by omega)]
  simp only [cond_false]
  generalize hF : (fun v : Nat => if allFrom (okOne g.2 h.2 lazy l l.length (v : Int)) 0 l.length then cnt g.2 h.2 lazy m d (l ++ [(v : Int)]) else 0) = F
  have hB : ∀ v, F v ≤ 8 ^ d := fun v => by
   rw [← hF]
   simp only
   split
   · exact cnt_le _ _ _ hm _ _
   · exact Nat.zero_le _
  have h8 : 8 ^ d ≤ 262144 := Nat.le_trans (Nat.pow_le_pow_right (by decide) (show d ≤ 6 by omega)) (by decide)
  have key : ∀ e v sum : Nat, v + e = m → sum ≤ v * 262144 → loopO (fn59_B1 (fuelF fn59_F f)) ((lazy, l, g, h, (l.length : Int), (sum : Int), (v : Int), ()), ()) = some ((((sum + sumFrom F v e : Nat) : Int), ()), ()) := by
   intro e
   induction e with
   | zero =>
    intro v sum hv _
    refine loop_end ?_
    rw [fn59_B1_at]
    simp only [bif_decide, hh1, sumFrom, Nat.add_zero]
    rw [if_neg (by omega)]
   | succ e ih =>
    intro v sum hv hs
    have hFv := hB v
    have nx := ih (v + 1) (sum + F v) (by omega) (by omega)
    rw [Nat.add_assoc] at nx
    simp only [sumFrom]
    refine loop_step ?_ nx
    rw [fn59_B1_at]
    have hfl := count_fits (fuelF fn59_F f) g h lazy l hg hh (by omega) (sum : Int) (v : Int) l.length 0 (by omega)
    simp only [bif_decide, hh1]
    rw [if_pos (by omega)]
    erw [hfl]
    rw [← hF]
    simp only
    cases ha : allFrom (okOne g.2 h.2 lazy l l.length (v : Int)) 0 l.length
    · simp only [cond_false, Bool.false_eq_true, if_false, Nat.add_zero, w64_succ (show v < 4611686018427387904 by omega)]
    · have hr := count_run g h lazy hg1 hn hh1 hm hg hh d f (l ++ [(v : Int)]) (by simp; omega) (by omega)
      have hc : cnt g.2 h.2 lazy m d (l ++ [(v : Int)]) ≤ 262144 := Nat.le_trans (cnt_le _ _ _ hm _ _) h8
      simp only [cond_true, if_true]
      rw [fn59_D0_at, own_small l (by omega)]
      simp only
      rw [guardB_true (by simp only [List.length_singleton, decide_eq_true_eq]; omega), hr]
      simp only [w64_succ (show v < 4611686018427387904 by omega)]
      rw [w64_of (by omega) (by omega)]
      simp only [Int.natCast_add]
  have k0 := key m 0 0 (by omega) (by omega)
  simp only [Nat.zero_add] at k0
  erw [k0]
  simp only [cnt]
  rw [hF]
theorem fn5_B0_at (s : List (Int)) (t7 : Int) (t8 : Int) (o0 : Int) (o1 : (Int) × (List ((Int) × (Int)))) (o2 : Int) (o3 : List (Int)) (o4 : Bool) : fn5_B0 ((s, t7, t8, ()), (o0, o1, o2, o3, o4, ())) = bif (decide (t8 < t7)) then (guardB (inb t8 (List.length s)) (match fn31 ((List.getD s (Int.toNat t8) (0 : Int)), o0, o1, o2, o3, o4, ()) () with | some ((r, ()), ()) => (bif r then (some (.inr (.inl ((t8, ()), (o0, o1, o2, o3, o4, ()))))) else (some (.inl ((s, t7, (w64 (t8 + (1 : Int))), ()), (o0, o1, o2, o3, o4, ()))))) | none => none)) else (some (.inr (.inr ((), (o0, o1, o2, o3, o4, ()))))) := rfl
def badZ (T : List (Int × Int)) (lazy : Bool) (L : List Int) (x y z : Int) : Bool := decide (z < x) && !fitB T lazy y (L.getD z.toNat 0)
theorem isFit_eq (h : Int × List (Int × Int)) {m : Nat} (hp : pairsB h.2 m = true) (a b : Int) (lazy : Bool) (hl : h.2.length ≤ 1048576) : fn40 (h, a, b, lazy, ()) () = some ((fitB h.2 lazy a b, ()), ()) := by
 simp only [fn40, has_eq h hp a b hl, fitB]
 cases nearB h.2 a b
 · cases lazy
   · rfl
   · by_cases e : a = b
     · simp only [cond_false, cond_true, Bool.false_or, Bool.true_and, beq_eq e, decide_eq_true e]
     · simp only [cond_false, cond_true, Bool.false_or, Bool.true_and, beq_ne e, decide_eq_false e]
 · rfl
theorem wrong_one (h : Int × List (Int × Int)) {m : Nat} (hp : pairsB h.2 m = true) (lazy : Bool) (L : List Int) (x y z : Int) (hl : h.2.length ≤ 1048576) (hz : 0 ≤ z) (hL : z < x → z < L.length) : fn31 (z, x, h, y, L, lazy, ()) () = some ((badZ h.2 lazy L x y z, ()), ()) := by
 simp only [fn31, bif_decide, badZ]
 by_cases e : z < x
 · rw [if_pos e, guardB_true (inb_true hz (hL e)), isFit_eq h hp _ _ lazy hl, decide_eq_true e]
   simp only [Bool.true_and]
 · rw [if_neg e, decide_eq_false e]
   rfl
theorem wrong_idx (h : Int × List (Int × Int)) {m : Nat} (hp : pairsB h.2 m = true) (lazy : Bool) (L s : List Int) (x y : Int) (hl : h.2.length ≤ 1048576) (hs : s.length ≤ 1048576) (hz : ∀ z ∈ s, 0 ≤ z ∧ (z < x → z < L.length)) : ∀ d k, k + d = s.length →
  ∃ q : Int, 0 ≤ q ∧ loopO fn5_B0 ((s, (s.length : Int), (k : Int), ()), (x, h, y, L, lazy, ())) = some (bif (s.drop k).any (badZ h.2 lazy L x y) then .inl ((q, ()), (x, h, y, L, lazy, ())) else .inr ((), (x, h, y, L, lazy, ()))) := by
 intro d
 induction d with
 | zero =>
  intro k hk
  refine ⟨0, by omega, loop_end ?_⟩
  rw [fn5_B0_at, List.drop_of_length_le (by omega)]
  simp only [bif_decide, List.any_nil, cond_false]
  rw [if_neg (by omega)]
 | succ d ih =>
  intro k hk
  have hkl : k < s.length := by omega
  have hm := hz _ (List.getElem_mem hkl)
  rw [← getD_at hkl 0] at hm
  have st : fn5_B0 ((s, (s.length : Int), (k : Int), ()), (x, h, y, L, lazy, ())) = some (bif badZ h.2 lazy L x y (s.getD k 0) then .inr (.inl (((k : Int), ()), (x, h, y, L, lazy, ()))) else .inl ((s, (s.length : Int), ((k + 1 : Nat) : Int), ()), (x, h, y, L, lazy, ()))) := by
   rw [fn5_B0_at]
   simp only [bif_decide, Int.toNat_natCast]
   rw [if_pos (by omega), guardB_true (by simp [inb] <;> omega), wrong_one h hp lazy L x y _ hl hm.1 hm.2, w64_succ (by omega)]
   cases badZ h.2 lazy L x y (s.getD k 0) <;> rfl
  rw [List.drop_eq_getElem_cons hkl, List.any_cons, ← getD_at hkl 0]
  cases hb : badZ h.2 lazy L x y (s.getD k 0)
  · rw [hb] at st
    rw [Bool.false_or]
    obtain ⟨q, q0, q1⟩ := ih (k + 1) (by omega)
    exact ⟨q, q0, loop_step st q1⟩
  · rw [hb] at st
    exact ⟨(k : Int), by omega, loop_end st⟩
theorem wrong_eq (h : Int × List (Int × Int)) {m : Nat} (hp : pairsB h.2 m = true) (lazy : Bool) (L s : List Int) (x y : Int) (hl : h.2.length ≤ 1048576) (hs : s.length ≤ 1048576) (hz : ∀ z ∈ s, 0 ≤ z ∧ (z < x → z < L.length)) :
  fn3 (s, ()) (x, h, y, L, lazy, ()) = some ((s.any (badZ h.2 lazy L x y), ()), (x, h, y, L, lazy, ())) := by
 obtain ⟨q, q0, q1⟩ := wrong_idx h hp lazy L s x y hl hs hz s.length 0 (by omega)
 rw [List.drop_zero] at q1
 simp only [fn3, fn5]
 erw [q1]
 cases s.any (badZ h.2 lazy L x y)
 · simp only [cond_false]
   rw [decide_eq_false (by omega)]
 · simp only [cond_true]
   rw [decide_eq_true q0]
theorem wrong_ok (S T : List (Int × Int)) (lazy : Bool) {n x : Nat} (L : List Int) (hL : L.length = n) (hx : x < n) (v : Int) : (nbs S n x).any (badZ T lazy (L.set x v) (x : Int) v) = !allFrom (okOne S T lazy (L.take x) x v) 0 x := by
 rw [Bool.eq_iff_iff, Bool.not_eq_true', ← Bool.not_eq_true, allFrom_iff, List.any_eq_true]
 have gd : ∀ k, k < x → (L.set x v).getD k 0 = (L.take x).getD k 0 := fun k hk => by
  rw [getD_at (by rw [List.length_set]; omega), getD_at (by rw [List.length_take]; omega), List.getElem_set_ne (by omega), List.getElem_take]
 constructor
 · rintro ⟨z, hz, hb⟩ h
   obtain ⟨y, hy, e⟩ : ∃ y : Nat, (y : Int) ∈ nbs S n x ∧ z = y := by
    simp only [nbs, List.mem_map] at hz
    obtain ⟨k, hk, e⟩ := hz
    exact ⟨k, by simp only [nbs, List.mem_map]; exact ⟨k, hk, rfl⟩, e.symm⟩
   subst e
   obtain ⟨h1, h2⟩ := nbs_mem.1 hy
   simp only [badZ, Bool.and_eq_true, decide_eq_true_eq, Bool.not_eq_true', Int.toNat_natCast] at hb
   have hyx : y < x := by omega
   have := h y (by omega) (by omega)
   simp only [nbB, Bool.and_eq_true] at h2
   simp only [okOne, nearB_symm S (y : Int) (x : Int), h2.2, Bool.not_true, Bool.false_or] at this
   rw [gd y hyx, fitB_symm, this] at hb
   cases hb.2
 · intro h
   refine Classical.byContradiction fun g => h fun k _ hk => ?_
   have hk : k < x := by omega
   simp only [okOne]
   cases hn : nearB S (k : Int) (x : Int)
   · rfl
   · simp only [Bool.not_true, Bool.false_or]
     cases hf : fitB T lazy ((L.take x).getD k 0) v
     · refine absurd ⟨(k : Int), nbs_mem.2 ⟨by omega, ?_⟩, ?_⟩ g
       · simp only [nbB, Bool.and_eq_true, Bool.not_eq_true', decide_eq_false_iff_not]
         exact ⟨by omega, by rw [nearB_symm]; exact hn⟩
       · simp only [badZ, Bool.and_eq_true, decide_eq_true_eq, Bool.not_eq_true', Int.toNat_natCast]
         exact ⟨by omega, by rw [gd k hk, fitB_symm]; exact hf⟩
     · rfl
theorem fn1_B0_at (rc : argP fn1_a → obP (extObs 0 fn1_o) → Option fn1_E.P) (t19 : Int) (t20 : Int) (o0 : (Int) × (List ((Int) × (Int)))) (o2 : List (Int)) (o3 : (Int) × (List ((Int) × (Int)))) (o4 : Bool) (x : Int) (o6 : Int) : fn1_B0 rc ((t19, t20, ()), (o0, o2, o3, o4, x, o6, ())) = bif (decide (t20 < t19)) then (guardB (inb x (List.length o2)) (match fn30 (o0, x, ()) () with | some ((r, ()), ()) => (match fn3 (r, ()) (x, o3, t20, (List.set o2 (Int.toNat x) t20), o4, ()) with | some ((r2, ()), (o, o2, o3, o4, o5, ())) => (bif (!r2) then (match rc ((w64 (o + (1 : Int))), ()) (o0, o4, o2, o5, o6, ()) with | some ((r3, ()), (o6, o7, o8, o9, o10, ())) => (bif (!r3) then (some (.inr (.inl ((false, ()), (o6, o7, o8, o9, o10, ()))))) else (some (.inl ((t19, (w64 (t20 + (1 : Int))), ()), (o6, o7, o8, o9, o, o10, ()))))) | none => none) else (some (.inl ((t19, (w64 (t20 + (1 : Int))), ()), (o0, o4, o2, o5, o, o6, ()))))) | none => none) | none => none)) else (some (.inr (.inr ((), (o0, o2, o3, o4, o6, ()))))) := rfl
theorem maps_run (g h : Int × List (Int × Int)) (lazy : Bool) {n m : Nat} (hg1 : g.1 = n) (hn : n ≤ 6) (hh1 : h.1 = m) (hm : m ≤ 8) (hgp : pairsB g.2 n = true) (hhp : pairsB h.2 m = true) (hg : g.2.length ≤ 1048576) (hh : h.2.length ≤ 1048576) : ∀ (d f x : Nat) (L : List Int) (c : Nat), x + d = n → d < f → L.length = n → c + 8 ^ d ≤ 1000000000000 →
  ∃ L' : List Int, L'.length = n ∧ L'.take x = L.take x ∧ fuelF fn1_F f ((x : Int), ()) (g, L, h, lazy, (c : Int), ()) = some ((true, ()), (g, L', h, lazy, ((c + cnt g.2 h.2 lazy m d (L.take x) : Nat) : Int), ()))
 | d, 0, x, L, c, _, hf, _, _ => by omega
 | 0, f + 1, x, L, c, hx, _, hL, hc => by
  refine ⟨L, hL, rfl, ?_⟩
  simp only [fuelF, fn1_F, fn20, cnt]
  rw [beq_eq (by omega), w64_succ (by omega)]
  rfl
 | d + 1, f + 1, x, L, c, hx, hf, hL, hc => by
  have hxn : x < n := by omega
  have hps : m * 8 ^ d ≤ 8 ^ (d + 1) := by rw [Nat.pow_succ, Nat.mul_comm (8 ^ d)]; exact Nat.mul_le_mul_right _ hm
  generalize hF : (fun v : Nat => if allFrom (okOne g.2 h.2 lazy (L.take x) (L.take x).length (v : Int)) 0 (L.take x).length then cnt g.2 h.2 lazy m d (L.take x ++ [(v : Int)]) else 0) = F
  have hlen : (L.take x).length = x := by rw [List.length_take]; omega
  have hB : ∀ v, F v ≤ 8 ^ d := fun v => by
   rw [← hF]
   simp only
   split
   · exact cnt_le _ _ _ hm _ _
   · exact Nat.zero_le _
  have key : ∀ e v c : Nat, ∀ K : List Int, v + e = m → K.length = n → K.take x = L.take x → c + e * 8 ^ d ≤ 1000000000000 → ∃ L' : List Int, L'.length = n ∧ L'.take x = L.take x ∧
   loopO (fn1_B0 (fuelF fn1_F f)) (((m : Int), (v : Int), ()), (g, K, h, lazy, (x : Int), (c : Int), ())) = some (.inr ((), (g, L', h, lazy, ((c + sumFrom F v e : Nat) : Int), ()))) := by
   intro e
   induction e with
   | zero =>
    intro v c K hv hK ht _
    refine ⟨K, hK, ht, loop_end ?_⟩
    rw [fn1_B0_at]
    simp only [bif_decide, sumFrom, Nat.add_zero]
    rw [if_neg (by omega)]
   | succ e ih =>
    intro v c K hv hK ht hc
    have hFv := hB v
    rw [Nat.succ_mul] at hc
    have hok := wrong_ok g.2 h.2 lazy (n := n) (x := x) K hK hxn (v : Int)
    have hnl := nbs_len g.2 n x
    have hcon := wrong_eq h hhp lazy (K.set x (v : Int)) (nbs g.2 n x) (x : Int) (v : Int) hh (by omega) (fun z hz => by
     simp only [nbs, List.mem_map] at hz
     obtain ⟨k, _, e⟩ := hz
     rw [List.length_set]
     omega)
    rw [hok, ht] at hcon
    have stp : ∀ R, fn1_B0 (fuelF fn1_F f) (((m : Int), (v : Int), ()), (g, K, h, lazy, (x : Int), (c : Int), ())) = R → fn1_B0 (fuelF fn1_F f) (((m : Int), (v : Int), ()), (g, K, h, lazy, (x : Int), (c : Int), ())) = R := fun _ h => h
    cases ha : allFrom (okOne g.2 h.2 lazy (L.take x) x (v : Int)) 0 x
    · have hF0 : F v = 0 := by
       rw [← hF]
       simp only [hlen, ha, Bool.false_eq_true, if_false]
      obtain ⟨L', l1, l2, l3⟩ := ih (v + 1) c (K.set x (v : Int)) (by omega) (by rw [List.length_set]; exact hK) (by rw [List.take_set_of_le (Nat.le_refl _)]; exact ht) (by omega)
      refine ⟨L', l1, l2, ?_⟩
      simp only [sumFrom, hF0, Nat.zero_add]
      refine loop_step ?_ l3
      rw [fn1_B0_at]
      simp only [bif_decide, neighbors_eq g hg1 (by omega) hgp x hg, Int.toNat_natCast]
      rw [if_pos (by omega), guardB_true (by simp [inb] <;> omega), hcon, ha]
      simp only [Bool.not_false, Bool.not_true, cond_false, w64_succ (show v < 4611686018427387904 by omega)]
    · have hF1 : F v = cnt g.2 h.2 lazy m d (L.take x ++ [(v : Int)]) := by
       rw [← hF]
       simp only [hlen, ha, if_true]
      obtain ⟨L1, a1, a2, a3⟩ := maps_run g h lazy hg1 hn hh1 hm hgp hhp hg hh d f (x + 1) (K.set x (v : Int)) c (by omega) (by omega) (by rw [List.length_set]; exact hK) (by omega)
      have htk : (K.set x (v : Int)).take (x + 1) = L.take x ++ [(v : Int)] := by
       rw [List.take_succ_eq_append_getElem (by rw [List.length_set]; omega), List.getElem_set_self, List.take_set_of_le (Nat.le_refl _), ht]
      rw [htk] at a2 a3
      have ht1 : L1.take x = L.take x := by
       have := congrArg (List.take x) a2
       rw [List.take_take, Nat.min_eq_left (by omega), List.take_append_of_le_length (by omega), List.take_take, Nat.min_self] at this
       exact this
      rw [← hF1] at a3
      obtain ⟨L', l1, l2, l3⟩ := ih (v + 1) (c + F v) L1 (by omega) a1 ht1 (by omega)
      rw [Nat.add_assoc] at l3
      refine ⟨L', l1, l2, ?_⟩
      simp only [sumFrom]
      refine loop_step ?_ l3
      rw [fn1_B0_at]
      simp only [bif_decide, neighbors_eq g hg1 (by omega) hgp x hg, Int.toNat_natCast]
      rw [if_pos (by omega), guardB_true (by simp [inb] <;> omega), hcon, ha]
      simp only [Bool.not_false, Bool.not_true, cond_false, cond_true]
      rw [w64_succ (show x < 4611686018427387904 by omega), a3]
      simp only [Bool.not_true, cond_false, w64_succ (show v < 4611686018427387904 by omega)]
  obtain ⟨L', l1, l2, l3⟩ := key m 0 c L (by omega) hL rfl (by omega)
  refine ⟨L', l1, l2, ?_⟩
  simp only [fuelF, fn1_F, cnt]
  rw [beq_ne (by omega)]
  simp only [cond_false, hh1]
  erw [l3]
  rw [← hF]
def caseB (g h : Int × List (Int × Int)) : Bool := goodG g && (goodG h && decide (g.1 ≤ 6))
theorem Good2_eq (g h : Int × List (Int × Int)) (hg : g.2.length ≤ 1048576) (hh : h.2.length ≤ 1048576) : fn67 (g, h, ()) () = some ((caseB g h, ()), ()) := by
 simp only [fn67, l2Good_eq g hg, l2Good_eq h hh, caseB]
 cases goodG g <;> cases goodG h <;> rfl
theorem Case_eq (g h : Int × List (Int × Int)) (hg : g.2.length ≤ 1048576) (hh : h.2.length ≤ 1048576) : fn49 (g, h, ()) () = some ((caseB g h, ()), ()) := by
 simp only [fn49, IsGraph_eq g hg, IsGraph_eq h hh, caseB]
 cases goodG g <;> cases goodG h <;> rfl
theorem good_nat {g : Int × List (Int × Int)} (h : goodG g = true) : ∃ n : Nat, g.1 = n ∧ n ≤ 8 ∧ pairsB g.2 n = true := by
 simp only [goodG, Bool.and_eq_true, inR, decide_eq_true_eq] at h
 obtain ⟨n, hn⟩ : ∃ n : Nat, g.1 = n := ⟨g.1.toNat, by omega⟩
 exact ⟨n, hn, by omega, by rw [← hn]; exact h.2⟩
theorem fn83_D0_at (rc : argP fn83_a → obP (extObs 0 fn83_o) → Option fn83_E.P) (t2 : Bool) (t3 : List (Int)) (t4 : Int) (t5 : (Int) × (List ((Int) × (Int)))) (t6 : (Int) × (List ((Int) × (Int)))) (t11 : Int) (t12 : List (List (Int))) (t13 : Int) (t62 : (Int) × (List ((Int) × (Int)))) (t63 : (Int) × (List ((Int) × (Int)))) (t64 : Bool) (t65 : List (Int)) (t67 : Int) (t73 : Int) : fn83_D0 rc ((t2, t3, t4, t5, t6, t11, t12, t13, t62, t63, t64, t65, t67, t73, ()), ()) = match fn97 (t65, ()) () with | some ((r, ()), ()) => guardB (decide ((List.length r + List.length [t67]) * 8 ≤ 70368744177664)) (match rc (t62, t63, t64, (r ++ [t67]), t73, ()) () with | some ((r2, ()), ()) => guardB (decide ((List.length t12 + List.length r2) * 24 ≤ 70368744177664)) (some ((t2, t3, t4, t5, t6, t11, (t12 ++ r2), t13, ()), ())) | none => none) | none => none := rfl
theorem fn83_B0_at (rc : argP fn83_a → obP (extObs 0 fn83_o) → Option fn83_E.P) (t2 : Bool) (t3 : List (Int)) (t4 : Int) (t5 : (Int) × (List ((Int) × (Int)))) (t6 : (Int) × (List ((Int) × (Int)))) (t11 : Int) (t12 : List (List (Int))) (t13 : Int) (t14 : Bool) (t15 : Int) : fn83_B0 rc ((t2, t3, t4, t5, t6, t11, t12, t13, t14, t15, ()), ()) = bif (decide (t15 < t11)) then (bif t14 then (match fn89 (t5, t15, t11, ()) () with | some ((r, ()), ()) => (bif (!r) then (some (.inl ((t2, t3, t4, t5, t6, t11, t12, t13, true, (w64 (t15 + (1 : Int))), ()), ()))) else (guardB (inb t15 (List.length t3)) (match fn66 (t6, (List.getD t3 (Int.toNat t15) (0 : Int)), t13, t2, ()) () with | some ((r2, ()), ()) => some (.inl ((t2, t3, t4, t5, t6, t11, t12, t13, r2, (w64 (t15 + (1 : Int))), ()), ())) | none => none))) | none => none) else (some (.inr ((t2, t3, t4, t5, t6, t11, t12, t13, t14, ()), ())))) else (some (.inr ((t2, t3, t4, t5, t6, t11, t12, t13, t14, ()), ()))) := rfl
theorem fn83_B1_at (rc : argP fn83_a → obP (extObs 0 fn83_o) → Option fn83_E.P) (t2 : Bool) (t3 : List (Int)) (t4 : Int) (t5 : (Int) × (List ((Int) × (Int)))) (t6 : (Int) × (List ((Int) × (Int)))) (t11 : Int) (t12 : List (List (Int))) (t13 : Int) : fn83_B1 rc ((t2, t3, t4, t5, t6, t11, t12, t13, ()), ()) = bif (decide (t13 < t6.1)) then (bif (decide ((List.length t12 : Int) ≤ t4)) then (match loopO (fn83_B0 rc) ((t2, t3, t4, t5, t6, t11, t12, t13, true, (0 : Int), ()), ()) with | some ((t2_2, t3_2, t4_2, t5_2, t6_2, t11_2, t12_2, t13_2, t14, ()), ()) => (bif t14 then (match (fn83_D0 rc) ((t2_2, t3_2, t4_2, t5_2, t6_2, t11_2, t12_2, t13_2, t5_2, t6_2, t2_2, t3_2, t13_2, (w64 (t4_2 - (List.length t12_2 : Int))), ()), ()) with | some ((t2_3, t3_3, t4_3, t5_3, t6_3, t11_3, t12_3, t13_3, ()), ()) => some (.inl ((t2_3, t3_3, t4_3, t5_3, t6_3, t11_3, t12_3, (w64 (t13_3 + (1 : Int))), ()), ())) | none => none) else (some (.inl ((t2_2, t3_2, t4_2, t5_2, t6_2, t11_2, t12_2, (w64 (t13_2 + (1 : Int))), ()), ())))) | none => none) else (some (.inr ((t12, ()), ())))) else (some (.inr ((t12, ()), ()))) := rfl
def flatFrom (f : Nat → List (List Int)) : Nat → Nat → List (List Int)
 | _, 0 => []
 | k, d + 1 => f k ++ flatFrom f (k + 1) d
def full (S T : List (Int × Int)) (lazy : Bool) (m : Nat) : Nat → List Int → List (List Int)
 | 0, l => [l]
 | d + 1, l => flatFrom (fun v => if allFrom (okOne S T lazy l l.length (v : Int)) 0 l.length then full S T lazy m d (l ++ [(v : Int)]) else []) 0 m
theorem flatFrom_mem {f : Nat → List (List Int)} {a : List Int} : ∀ {d k : Nat}, a ∈ flatFrom f k d → ∃ v, k ≤ v ∧ v < k + d ∧ a ∈ f v
 | 0, k, h => by simp [flatFrom] at h
 | d + 1, k, h => by
  simp only [flatFrom, List.mem_append] at h
  rcases h with h | h
  · exact ⟨k, Nat.le_refl _, by omega, h⟩
  · obtain ⟨v, h1, h2, h3⟩ := flatFrom_mem h
    exact ⟨v, by omega, by omega, h3⟩
theorem full_mem (S T : List (Int × Int)) (lazy : Bool) {m : Nat} : ∀ (d : Nat) (l a : List Int), a ∈ full S T lazy m d l → a.length = l.length + d ∧ a.take l.length = l ∧ ∀ v ∈ a.drop l.length, 0 ≤ v ∧ v < m
 | 0, l, a, h => by
  simp only [full, List.mem_singleton] at h
  subst h
  simp
 | d + 1, l, a, h => by
  simp only [full] at h
  obtain ⟨v, h1, h2, h3⟩ := flatFrom_mem h
  split at h3
  · obtain ⟨q1, q2, q3⟩ := full_mem S T lazy d _ a h3
    simp only [List.length_append, List.length_singleton] at q1 q2 q3
    have ht : a.take l.length = l := by
     have := congrArg (List.take l.length) q2
     rwa [List.take_take, Nat.min_eq_left (by omega), List.take_append_of_le_length (Nat.le_refl _), List.take_length] at this
    refine ⟨by omega, ht, fun u hu => ?_⟩
    have hlt : l.length < a.length := by omega
    have e : a[l.length] = (v : Int) := by
     have := congrArg (fun b : List Int => b[l.length]?) q2
     simp only [List.getElem?_take_of_lt (show l.length < l.length + 1 by omega), List.getElem?_append_right (Nat.le_refl _), Nat.sub_self, List.getElem?_cons_zero, List.getElem?_eq_getElem hlt, Option.some.injEq] at this
     exact this
    rw [List.drop_eq_getElem_cons hlt, List.mem_cons] at hu
    rcases hu with hu | hu
    · rw [hu, e]; omega
    · exact q3 u hu
  · simp at h3
def runAll {σ : Type} (st : σ → List Int → Bool × σ) : σ → List (List Int) → Bool × σ
 | s, [] => (true, s)
 | s, a :: l => bif (st s a).1 then runAll st (st s a).2 l else (false, (st s a).2)
theorem runAll_append {σ : Type} (st : σ → List Int → Bool × σ) : ∀ (l k : List (List Int)) (s : σ), runAll st s (l ++ k) = bif (runAll st s l).1 then runAll st (runAll st s l).2 k else (false, (runAll st s l).2)
 | [], k, s => rfl
 | a :: l, k, s => by
  simp only [List.cons_append, runAll]
  cases (st s a).1
  · rfl
  · exact runAll_append st l k _
theorem take_app {α : Type} (A B : List α) (n : Nat) (h : A.length ≤ n) : A ++ B.take (n - A.length) = (A ++ B).take n := by
 rw [List.take_append, List.take_of_length_le h]
theorem all_fits (rc) (g h : Int × List (Int × Int)) (lazy : Bool) (l : List Int) (hg : g.2.length ≤ 1048576) (hh : h.2.length ≤ 1048576) (hl : l.length ≤ 8) (most v : Int) (out : List (List Int)) : ∀ d k, k + d = l.length →
  loopO (fn83_B0 rc) ((lazy, l, most, g, h, (l.length : Int), out, v, true, (k : Int), ()), ()) = some ((lazy, l, most, g, h, (l.length : Int), out, v, allFrom (okOne g.2 h.2 lazy l l.length v) k d, ()), ()) := by
 intro d
 induction d with
 | zero =>
  intro k hk
  refine loop_end ?_
  rw [fn83_B0_at]
  simp only [bif_decide, allFrom]
  rw [if_neg (by omega)]
 | succ d ih =>
  intro k hk
  have st : fn83_B0 rc ((lazy, l, most, g, h, (l.length : Int), out, v, true, (k : Int), ()), ()) = some (.inl ((lazy, l, most, g, h, (l.length : Int), out, v, okOne g.2 h.2 lazy l l.length v k, ((k + 1 : Nat) : Int), ()), ())) := by
   rw [fn83_B0_at]
   simp only [bif_decide, Near_eq g _ _ hg, Fits_eq h _ _ lazy hh, okOne, Int.toNat_natCast]
   rw [if_pos (by omega), w64_succ (by omega)]
   cases nearB g.2 (k : Int) (l.length : Int)
   · rfl
   · simp only [cond_true, Bool.not_true, cond_false, Bool.false_or]
     rw [guardB_true (by simp [inb] <;> omega)]
  simp only [allFrom]
  cases ho : okOne g.2 h.2 lazy l l.length v k
  · rw [ho] at st
    refine loop_step st (loop_end ?_)
    rw [fn83_B0_at]
    simp only [bif_decide, cond_false, Bool.false_and]
    split <;> rfl
  · rw [ho] at st
    rw [Bool.true_and]
    exact loop_step st (ih (k + 1) (by omega))
theorem all_run (g h : Int × List (Int × Int)) (lazy : Bool) {n m : Nat} (hg1 : g.1 = n) (hn : n ≤ 6) (hh1 : h.1 = m) (hm : m ≤ 8) (hg : g.2.length ≤ 1048576) (hh : h.2.length ≤ 1048576) : ∀ (d f most : Nat) (l : List Int), l.length + d = n → d < f → most ≤ 1000000 →
  fuelF fn83_F f (g, h, lazy, l, (most : Int), ()) () = some (((full g.2 h.2 lazy m d l).take (most + 1), ()), ())
 | d, 0, most, l, _, hf, _ => by omega
 | 0, f + 1, most, l, hl, _, _ => by
  simp only [fuelF, fn83_F, full]
  rw [beq_eq (by omega), List.take_of_length_le (by simp)]
  rfl
 | d + 1, f + 1, most, l, hl, hf, hmo => by
  simp only [fuelF, fn83_F]
  rw [beq_ne (by omega)]
  simp only [cond_false]
  generalize hF : (fun v : Nat => if allFrom (okOne g.2 h.2 lazy l l.length (v : Int)) 0 l.length then full g.2 h.2 lazy m d (l ++ [(v : Int)]) else []) = F
  have key : ∀ e v : Nat, ∀ A : List (List Int), v + e = m → loopO (fn83_B1 (fuelF fn83_F f)) ((lazy, l, (most : Int), g, h, (l.length : Int), A.take (most + 1), (v : Int), ()), ()) = some (((A ++ flatFrom F v e).take (most + 1), ()), ()) := by
   intro e
   induction e with
   | zero =>
    intro v A hv
    refine loop_end ?_
    rw [fn83_B1_at]
    simp only [bif_decide, hh1, flatFrom, List.append_nil]
    rw [if_neg (by omega)]
   | succ e ih =>
    intro v A hv
    by_cases hA : A.length ≤ most
    · have nx := ih (v + 1) (A ++ F v) (by omega)
      rw [List.append_assoc] at nx
      simp only [flatFrom]
      refine loop_step ?_ nx
      have hAt : A.take (most + 1) = A := List.take_of_length_le (by omega)
      have hfl := all_fits (fuelF fn83_F f) g h lazy l hg hh (by omega) (most : Int) (v : Int) A l.length 0 (by omega)
      rw [hAt, fn83_B1_at]
      simp only [bif_decide, hh1]
      rw [if_pos (by omega), if_pos (by omega)]
      erw [hfl]
      rw [← hF]
      simp only
      cases ha : allFrom (okOne g.2 h.2 lazy l l.length (v : Int)) 0 l.length
      · simp only [cond_false, Bool.false_eq_true, if_false, List.append_nil, hAt, w64_succ (show v < 4611686018427387904 by omega)]
      · have hr := all_run g h lazy hg1 hn hh1 hm hg hh d f (most - A.length) (l ++ [(v : Int)]) (by simp; omega) (by omega) (by omega)
        rw [show ((most - A.length : Nat) : Int) = (most : Int) - (A.length : Int) by omega, show most - A.length + 1 = most + 1 - A.length by omega] at hr
        have hle : ((full g.2 h.2 lazy m d (l ++ [(v : Int)])).take (most + 1 - A.length)).length ≤ 1000001 := by rw [List.length_take]; omega
        simp only [cond_true, if_true]
        rw [fn83_D0_at, own_small l (by omega)]
        simp only
        rw [w64_of (by omega) (by omega), guardB_true (by simp only [List.length_singleton, decide_eq_true_eq]; omega), hr]
        simp only
        rw [guardB_true (by simp only [decide_eq_true_eq]; omega)]
        simp only [w64_succ (show v < 4611686018427387904 by omega), take_app A _ (most + 1) (by omega)]
    · refine loop_end ?_
      have hlen : (A.take (most + 1)).length = most + 1 := by rw [List.length_take]; omega
      rw [fn83_B1_at]
      simp only [bif_decide, hh1, hlen]
      rw [if_pos (by omega), if_neg (by omega), List.take_append_of_le_length (by omega)]
  have k0 := key m 0 [] (by omega)
  simp only [List.take_nil, List.nil_append] at k0
  erw [k0]
  simp only [full]
  rw [hF]
theorem fn0_B0_at (rc : argP fn0_a → obP (extObs 0 fn0_o) → Option fn0_E.P) (t19 : Int) (t20 : Int) (o0 : (Int) × (List ((Int) × (Int)))) (o2 : List (Int)) (o3 : (Int) × (List ((Int) × (Int)))) (o4 : Bool) (x : Int) (o6 : List (Int)) (o7 : Bool) : fn0_B0 rc ((t19, t20, ()), (o0, o2, o3, o4, x, o6, o7, ())) = bif (decide (t20 < t19)) then (guardB (inb x (List.length o2)) (match fn30 (o0, x, ()) () with | some ((r, ()), ()) => (match fn3 (r, ()) (x, o3, t20, (List.set o2 (Int.toNat x) t20), o4, ()) with | some ((r2, ()), (o, o5, o8, o9, o10, ())) => (bif (!r2) then (match rc ((w64 (o + (1 : Int))), ()) (o0, o9, o5, o10, o6, o7, ()) with | some ((r3, ()), (o11, o12, o13, o14, o15, o16, ())) => (bif (!r3) then (some (.inr (.inl ((false, ()), (o11, o12, o13, o14, o15, o16, ()))))) else (some (.inl ((t19, (w64 (t20 + (1 : Int))), ()), (o11, o12, o13, o14, o, o15, o16, ()))))) | none => none) else (some (.inl ((t19, (w64 (t20 + (1 : Int))), ()), (o0, o9, o5, o10, o, o6, o7, ()))))) | none => none) | none => none)) else (some (.inr (.inr ((), (o0, o2, o3, o4, o6, o7, ()))))) := rfl
theorem first_run (g h : Int × List (Int × Int)) (lazy : Bool) {n m : Nat} (hg1 : g.1 = n) (hn : n ≤ 6) (hh1 : h.1 = m) (hm : m ≤ 8) (hgp : pairsB g.2 n = true) (hhp : pairsB h.2 m = true) (hg : g.2.length ≤ 1048576) (hh : h.2.length ≤ 1048576)
  (st : (List Int × Bool) → List Int → Bool × ((List Int × Bool))) (Inv : (List Int × Bool) → Prop) (hst : ∀ s a, Inv s → a.length = n → fn16 (a, ()) (s.1, s.2, ()) = some (((st s a).1, ()), ((st s a).2.1, (st s a).2.2, ())) ∧ ((st s a).1 = true → Inv (st s a).2)) : ∀ (d f x : Nat) (L : List Int) (s : (List Int × Bool)), x + d = n → d < f → L.length = n → Inv s →
  ∃ L' : List Int, L'.length = n ∧ L'.take x = L.take x ∧ fuelF fn0_F f ((x : Int), ()) (g, L, h, lazy, s.1, s.2, ()) = some (((runAll st s (full g.2 h.2 lazy m d (L.take x))).1, ()), (g, L', h, lazy, (runAll st s (full g.2 h.2 lazy m d (L.take x))).2.1, (runAll st s (full g.2 h.2 lazy m d (L.take x))).2.2, ())) ∧ ((runAll st s (full g.2 h.2 lazy m d (L.take x))).1 = true → Inv (runAll st s (full g.2 h.2 lazy m d (L.take x))).2)
 | d, 0, x, L, s, _, hf, _, _ => by omega
 | 0, f + 1, x, L, s, hx, _, hL, hs => by
  obtain ⟨c1, c2⟩ := hst s L hs hL
  have ht : L.take x = L := List.take_of_length_le (by omega)
  have hr : runAll st s [L] = st s L := by
   simp only [runAll]
   cases h : (st s L).1
   · simp only [cond_false]; rw [← h]
   · simp only [cond_true]; rw [← h]
  refine ⟨L, hL, rfl, ?_, ?_⟩
  · simp only [fuelF, fn0_F, full, ht]
    rw [beq_eq (by omega), c1, hr]
    rfl
  · simp only [full, ht, hr]
    exact c2
 | d + 1, f + 1, x, L, s, hx, hf, hL, hs => by
  have hxn : x < n := by omega
  generalize hF : (fun v : Nat => if allFrom (okOne g.2 h.2 lazy (L.take x) (L.take x).length (v : Int)) 0 (L.take x).length then full g.2 h.2 lazy m d (L.take x ++ [(v : Int)]) else []) = F
  have hlen : (L.take x).length = x := by rw [List.length_take]; omega
  have key : ∀ e v : Nat, ∀ (s : (List Int × Bool)) (K : List Int), v + e = m → K.length = n → K.take x = L.take x → Inv s → ∃ L' : List Int, L'.length = n ∧ L'.take x = L.take x ∧
   loopO (fn0_B0 (fuelF fn0_F f)) (((m : Int), (v : Int), ()), (g, K, h, lazy, (x : Int), s.1, s.2, ())) = some (bif (runAll st s (flatFrom F v e)).1 then .inr ((), (g, L', h, lazy, (runAll st s (flatFrom F v e)).2.1, (runAll st s (flatFrom F v e)).2.2, ())) else .inl ((false, ()), (g, L', h, lazy, (runAll st s (flatFrom F v e)).2.1, (runAll st s (flatFrom F v e)).2.2, ()))) ∧
   ((runAll st s (flatFrom F v e)).1 = true → Inv (runAll st s (flatFrom F v e)).2) := by
   intro e
   induction e with
   | zero =>
    intro v s K hv hK ht hs
    refine ⟨K, hK, ht, loop_end ?_, fun _ => by simpa [flatFrom, runAll] using hs⟩
    rw [fn0_B0_at]
    simp only [bif_decide, flatFrom, runAll, cond_true]
    rw [if_neg (by omega)]
   | succ e ih =>
    intro v s K hv hK ht hs
    have hok := wrong_ok g.2 h.2 lazy (n := n) (x := x) K hK hxn (v : Int)
    have hnl := nbs_len g.2 n x
    have hcon := wrong_eq h hhp lazy (K.set x (v : Int)) (nbs g.2 n x) (x : Int) (v : Int) hh (by omega) (fun z hz => by
     simp only [nbs, List.mem_map] at hz
     obtain ⟨k, _, e⟩ := hz
     rw [List.length_set]
     omega)
    rw [hok, ht] at hcon
    cases ha : allFrom (okOne g.2 h.2 lazy (L.take x) x (v : Int)) 0 x
    · have hF0 : F v = [] := by
       rw [← hF]
       simp only [hlen, ha, Bool.false_eq_true, if_false]
      obtain ⟨L', l1, l2, l3, l4⟩ := ih (v + 1) s (K.set x (v : Int)) (by omega) (by rw [List.length_set]; exact hK) (by rw [List.take_set_of_le (Nat.le_refl _)]; exact ht) hs
      refine ⟨L', l1, l2, ?_, by simp only [flatFrom, hF0, List.nil_append]; exact l4⟩
      simp only [flatFrom, hF0, List.nil_append]
      refine loop_step ?_ l3
      rw [fn0_B0_at]
      simp only [bif_decide, neighbors_eq g hg1 (by omega) hgp x hg, Int.toNat_natCast]
      rw [if_pos (by omega), guardB_true (by simp [inb] <;> omega), hcon, ha]
      simp only [Bool.not_false, Bool.not_true, cond_false, w64_succ (show v < 4611686018427387904 by omega)]
    · have hF1 : F v = full g.2 h.2 lazy m d (L.take x ++ [(v : Int)]) := by
       rw [← hF]
       simp only [hlen, ha, if_true]
      obtain ⟨L1, a1, a2, a3, a4⟩ := first_run g h lazy hg1 hn hh1 hm hgp hhp hg hh st Inv hst d f (x + 1) (K.set x (v : Int)) s (by omega) (by omega) (by rw [List.length_set]; exact hK) hs
      have htk : (K.set x (v : Int)).take (x + 1) = L.take x ++ [(v : Int)] := by
       rw [List.take_succ_eq_append_getElem (by rw [List.length_set]; omega), List.getElem_set_self, List.take_set_of_le (Nat.le_refl _), ht]
      rw [htk] at a2 a3 a4
      have ht1 : L1.take x = L.take x := by
       have := congrArg (List.take x) a2
       rw [List.take_take, Nat.min_eq_left (by omega), List.take_append_of_le_length (by omega), List.take_take, Nat.min_self] at this
       exact this
      rw [← hF1] at a3 a4
      have one : fn0_B0 (fuelF fn0_F f) (((m : Int), (v : Int), ()), (g, K, h, lazy, (x : Int), s.1, s.2, ())) = some (bif (runAll st s (F v)).1 then .inl (((m : Int), ((v + 1 : Nat) : Int), ()), (g, L1, h, lazy, (x : Int), (runAll st s (F v)).2.1, (runAll st s (F v)).2.2, ())) else .inr (.inl ((false, ()), (g, L1, h, lazy, (runAll st s (F v)).2.1, (runAll st s (F v)).2.2, ())))) := by
       rw [fn0_B0_at]
       simp only [bif_decide, neighbors_eq g hg1 (by omega) hgp x hg, Int.toNat_natCast]
       rw [if_pos (by omega), guardB_true (by simp [inb] <;> omega), hcon, ha]
       simp only [Bool.not_false, Bool.not_true, cond_false, cond_true]
       rw [w64_succ (show x < 4611686018427387904 by omega), a3]
       simp only [w64_succ (show v < 4611686018427387904 by omega)]
       cases (runAll st s (F v)).1 <;> rfl
      have happ := runAll_append st (F v) (flatFrom F (v + 1) e) s
      cases hr : (runAll st s (F v)).1
      · rw [hr] at one happ
        refine ⟨L1, a1, ht1, ?_, ?_⟩
        · simp only [flatFrom, happ, cond_false]
          exact loop_end one
        · simp only [flatFrom, happ, cond_false]
          intro h; cases h
      · rw [hr] at one happ
        obtain ⟨L', l1, l2, l3, l4⟩ := ih (v + 1) (runAll st s (F v)).2 L1 (by omega) a1 ht1 (a4 hr)
        refine ⟨L', l1, l2, ?_, ?_⟩
        · simp only [flatFrom, happ, cond_true]
          exact loop_step one l3
        · simp only [flatFrom, happ, cond_true]
          exact l4
  obtain ⟨L', l1, l2, l3, l4⟩ := key m 0 s L (by omega) hL rfl hs
  refine ⟨L', l1, l2, ?_, ?_⟩
  · simp only [fuelF, fn0_F, full]
    rw [beq_ne (by omega)]
    simp only [cond_false, hh1]
    erw [l3]
    rw [← hF]
    cases (runAll st s (flatFrom _ 0 m)).1 <;> rfl
  · simp only [full]
    rw [hF]
    exact l4
def firstSt : List Int × Bool → List Int → Bool × (List Int × Bool) := fun _ a => (false, (a, true))
theorem first_one (s : List Int × Bool) (a : List Int) (ha : a.length ≤ 1048576) : fn16 (a, ()) (s.1, s.2, ()) = some (((firstSt s a).1, ()), ((firstSt s a).2.1, (firstSt s a).2.2, ())) := by
 simp only [fn16, slices_Clone_int_int, cloneFn]
 rw [guardB_true (by simp only [decide_eq_true_eq]; omega)]
 rfl
def headOf : List (List Int) → List Int × Bool
 | [] => ([], false)
 | a :: _ => (a, true)
theorem runAll_first (l : List (List Int)) : (runAll firstSt ([], false) l).2 = headOf l := by
 cases l with
 | nil => rfl
 | cons a l => rfl
theorem Few.nil : Few (([] : List (List Int)), ([] : List (Int × Int))) := ⟨by simp, by simp, by simp⟩
def ham : List Int → List Int → Nat
 | x :: xs, y :: ys => (if x = y then 0 else 1) + ham xs ys
 | _, _ => 0
theorem ham_zero : ∀ {a b : List Int}, a.length = b.length → (ham a b = 0 ↔ a = b)
 | [], [], _ => ⟨fun _ => rfl, fun _ => rfl⟩
 | x :: xs, y :: ys, h => by
  have ih := ham_zero (a := xs) (b := ys) (by simpa using h)
  simp only [ham, List.cons.injEq]
  by_cases c : x = y
  · rw [if_pos c]
    constructor
    · intro h; exact ⟨c, ih.1 (by omega)⟩
    · rintro ⟨_, h⟩; have := ih.2 h; omega
  · rw [if_neg c]
    constructor
    · intro h; omega
    · rintro ⟨h, _⟩; exact (c h).elim
def cnt1 (a : List Int) (L : List (List Int)) : Nat := L.countP fun q => decide (ham a q = 1)
def edges : List (List Int) → Nat
 | [] => 0
 | a :: L => cnt1 a L + edges L
def sub (v : Int) : List (List Int) → List (List Int)
 | [] => []
 | (x :: t) :: L => if x = v then t :: sub v L else sub v L
 | [] :: L => sub v L
def both : List (List Int) → List (List Int) → Nat
 | [], _ => 0
 | a :: A, B => B.count a + both A B
theorem both_nil : ∀ A, both A [] = 0
 | [] => rfl
 | a :: A => by simp only [both, both_nil A, List.count_nil]
theorem both_cons (t : List Int) : ∀ (A B : List (List Int)), both A (t :: B) = A.count t + both A B
 | [], B => by simp [both]
 | a :: A, B => by
  simp only [both, both_cons t A B, List.count_cons]
  by_cases c : a = t
  · subst c; simp; omega
  · have h1 : (t == a) = false := by simp; exact fun e => c e.symm
    have h2 : (a == t) = false := by simp; exact c
    simp only [h1, h2]
    simp; omega
theorem both_le : ∀ (A B : List (List Int)), B.Nodup → both A B ≤ A.length
 | [], _, _ => Nat.le_refl _
 | a :: A, B, h => by
  have := both_le A B h
  have := h.count (a := a)
  simp only [both, List.length_cons]
  split at this <;> omega
theorem both_comm : ∀ (A B : List (List Int)), both A B = both B A
 | [], B => by rw [both_nil]; rfl
 | a :: A, B => by rw [both_cons, both, both_comm A B]
structure Vec (d : Nat) (L : List (List Int)) : Prop where
 nodup : L.Nodup
 len : ∀ r ∈ L, r.length = d
 dom : ∀ r ∈ L, ∀ v ∈ r, 0 ≤ v ∧ v < 8
theorem sub_mem {v : Int} {t : List Int} : ∀ {L : List (List Int)}, t ∈ sub v L ↔ (v :: t) ∈ L
 | [] => by simp [sub]
 | [] :: L => by simp only [sub, sub_mem (L := L), List.mem_cons]; simp
 | (x :: s) :: L => by
  simp only [sub]
  by_cases c : x = v
  · rw [if_pos c, List.mem_cons, sub_mem (L := L), List.mem_cons]
    subst c; simp
  · rw [if_neg c, sub_mem (L := L), List.mem_cons]
    constructor
    · exact .inr
    · rintro (h | h)
      · injection h with h1; exact (c h1.symm).elim
      · exact h
theorem sub_nodup {v : Int} : ∀ {L : List (List Int)}, L.Nodup → (sub v L).Nodup
 | [], _ => List.nodup_nil
 | [] :: L, h => by simp only [sub]; exact sub_nodup (List.nodup_cons.1 h).2
 | (x :: s) :: L, h => by
  have h := List.nodup_cons.1 h
  simp only [sub]
  split
  · rename_i c
    subst c
    exact List.nodup_cons.2 ⟨fun hm => h.1 (sub_mem.1 hm), sub_nodup h.2⟩
  · exact sub_nodup h.2
theorem Vec.sub {d : Nat} {L : List (List Int)} (h : Vec (d + 1) L) (v : Int) : Vec d (sub v L) :=
 ⟨sub_nodup h.nodup, fun r hr => by have := h.len _ (sub_mem.1 hr); simpa using this, fun r hr x hx => h.dom _ (sub_mem.1 hr) x (List.mem_cons_of_mem _ hx)⟩
theorem Vec.tail {d : Nat} {r : List Int} {L : List (List Int)} (h : Vec d (r :: L)) : Vec d L :=
 ⟨(List.nodup_cons.1 h.nodup).2, fun s hs => h.len s (List.mem_cons_of_mem _ hs), fun s hs => h.dom s (List.mem_cons_of_mem _ hs)⟩
theorem eight {v : Int} (h : 0 ≤ v ∧ v < 8) : v = 0 ∨ v = 1 ∨ v = 2 ∨ v = 3 ∨ v = 4 ∨ v = 5 ∨ v = 6 ∨ v = 7 := by omega
def S8 (f : Int → Nat) : Nat := f 0 + f 1 + f 2 + f 3 + f 4 + f 5 + f 6 + f 7
def P8 (g : Int → Int → Nat) : Nat := g 0 1 + g 0 2 + g 0 3 + g 0 4 + g 0 5 + g 0 6 + g 0 7 + g 1 2 + g 1 3 + g 1 4 + g 1 5 + g 1 6 + g 1 7 + g 2 3 + g 2 4 + g 2 5 + g 2 6 + g 2 7 + g 3 4 + g 3 5 + g 3 6 + g 3 7 + g 4 5 + g 4 6 + g 4 7 + g 5 6 + g 5 7 + g 6 7
theorem len_split {d : Nat} : ∀ {L : List (List Int)}, Vec (d + 1) L → L.length = S8 fun v => (sub v L).length
 | [], _ => rfl
 | [] :: L, h => by have := h.len [] List.mem_cons_self; simp at this
 | (x :: t) :: L, h => by
  have ih := len_split h.tail
  have hx := h.dom _ List.mem_cons_self x List.mem_cons_self
  simp only [S8, List.length_cons] at ih ⊢
  rcases eight hx with rfl | rfl | rfl | rfl | rfl | rfl | rfl | rfl <;> simp [_root_.Go.Proofs.YtcabghamgilafaaGreat.V.sub] <;> omega
theorem cnt_split {d : Nat} (u : Int) (hu : 0 ≤ u ∧ u < 8) (t : List Int) (ht : t.length = d) : ∀ {L : List (List Int)}, Vec (d + 1) L → cnt1 (u :: t) L + (sub u L).count t = cnt1 t (sub u L) + S8 fun w => (sub w L).count t
 | [], _ => by simp [cnt1, _root_.Go.Proofs.YtcabghamgilafaaGreat.V.sub, S8]
 | [] :: L, h => by have := h.len [] List.mem_cons_self; simp at this
 | (x :: z) :: L, h => by
  have ih := cnt_split u hu t ht h.tail
  have hx := h.dom _ List.mem_cons_self x List.mem_cons_self
  have hz : t.length = z.length := by have := h.len _ List.mem_cons_self; simp at this; omega
  have h0 := ham_zero hz
  simp only [S8, cnt1] at ih ⊢
  by_cases c : u = x
  · subst c
    simp only [List.countP_cons, ham, if_true, _root_.Go.Proofs.YtcabghamgilafaaGreat.V.sub, Nat.zero_add, List.count_cons]
    rcases eight hx with rfl | rfl | rfl | rfl | rfl | rfl | rfl | rfl <;> simp [List.countP_cons, List.count_cons] <;> omega
  · simp only [List.countP_cons, ham, if_neg c, _root_.Go.Proofs.YtcabghamgilafaaGreat.V.sub, if_neg (fun e => c e.symm : ¬ x = u)]
    have e : decide (1 + ham t z = 1) = (z == t) := by
     by_cases g : t = z
     · have := h0.2 g
       subst g; simp; omega
     · have : ham t z ≠ 0 := fun k => g (h0.1 k)
       rw [decide_eq_false (by omega)]
       simp; exact fun e => g e.symm
    rw [e]
    rcases eight hx with rfl | rfl | rfl | rfl | rfl | rfl | rfl | rfl <;> simp [List.count_cons] <;> omega
theorem edges_split {d : Nat} : ∀ {L : List (List Int)}, Vec (d + 1) L → edges L = (S8 fun v => edges (sub v L)) + P8 fun v w => both (sub v L) (sub w L)
 | [], _ => rfl
 | [] :: L, h => by have := h.len [] List.mem_cons_self; simp at this
 | (u :: t) :: L, h => by
  have ih := edges_split h.tail
  have hu := h.dom _ List.mem_cons_self u List.mem_cons_self
  have ht : t.length = d := by have := h.len _ List.mem_cons_self; simpa using this
  have hc := cnt_split u hu t ht h.tail
  simp only [S8, P8] at ih hc ⊢
  simp only [edges]
  rcases eight hu with rfl | rfl | rfl | rfl | rfl | rfl | rfl | rfl <;> simp [_root_.Go.Proofs.YtcabghamgilafaaGreat.V.sub, edges, both, both_cons] <;> omega
theorem size_le : ∀ (d : Nat) (L : List (List Int)), Vec d L → L.length ≤ 8 ^ d
 | 0, L, h => by
  match L, h with
  | [], _ => simp
  | [_], _ => simp
  | a :: b :: L, h =>
   have h1 := h.len a List.mem_cons_self
   have h2 := h.len b (List.mem_cons_of_mem _ List.mem_cons_self)
   have := (List.nodup_cons.1 h.nodup).1
   rw [List.eq_nil_of_length_eq_zero h1, List.eq_nil_of_length_eq_zero h2] at this
   simp at this
 | d + 1, L, h => by
  rw [len_split h, Nat.pow_succ]
  simp only [S8]
  have f := fun v => size_le d _ (h.sub v)
  have := f 0; have := f 1; have := f 2; have := f 3; have := f 4; have := f 5; have := f 6; have := f 7
  omega
theorem pair_le {N a b c : Nat} (h1 : c ≤ a) (h2 : c ≤ b) (ha : a ≤ N) (hb : b ≤ N) : 2 * (N * c) + (a * a + b * b) ≤ N * a + N * b + 2 * (a * b) := by
 have go : ∀ a b : Nat, c ≤ a → a ≤ b → b ≤ N → 2 * (N * c) + (a * a + b * b) ≤ N * a + N * b + 2 * (a * b) := fun a b h1 h2 hb => by
  obtain ⟨k, rfl⟩ : ∃ k, b = a + k := ⟨b - a, by omega⟩
  have e1 : N * c ≤ N * a := Nat.mul_le_mul_left _ h1
  have e2 : k * k ≤ N * k := Nat.mul_le_mul_right _ (by omega)
  have e3 : k * a = a * k := Nat.mul_comm _ _
  simp only [Nat.mul_add, Nat.add_mul]
  omega
 rcases Nat.le_total a b with h | h
 · exact go a b h1 h hb
 · have := go b a h2 h ha
   have e : b * a = a * b := Nat.mul_comm _ _
   omega
def sumN (A : Nat → Nat) : Nat → Nat
 | 0 => 0
 | k + 1 => sumN A k + A k
def parN (B : Nat → Nat → Nat) : Nat → Nat
 | 0 => 0
 | k + 1 => parN B k + sumN (fun v => B v k) k
theorem num_I (N K : Nat) (A E : Nat → Nat) (ih : ∀ v, 2 * (N * E v) + 8 * (N * A v) ≤ K * A v + 8 * (A v * A v)) : ∀ k, 2 * (N * sumN E k) + 8 * (N * sumN A k) ≤ K * sumN A k + 8 * sumN (fun v => A v * A v) k
 | 0 => by simp [sumN]
 | k + 1 => by
  have h := num_I N K A E ih k
  have g := ih k
  simp only [sumN, Nat.mul_add]
  generalize N * sumN E k = x1 at *
  generalize N * sumN A k = x2 at *
  generalize K * sumN A k = x3 at *
  generalize N * E k = x4 at *
  generalize N * A k = x5 at *
  generalize K * A k = x6 at *
  generalize A k * A k = x7 at *
  omega
theorem num_X (N : Nat) (A : Nat → Nat) (b : Nat → Nat) (a : Nat) (pr : ∀ v, 2 * (N * b v) + (A v * A v + a * a) ≤ N * A v + N * a + 2 * (A v * a)) : ∀ j, 2 * (N * sumN b j) + j * (a * a) + sumN (fun v => A v * A v) j ≤ j * (N * a) + N * sumN A j + 2 * (sumN A j * a)
 | 0 => by simp [sumN]
 | j + 1 => by
  have h := num_X N A b a pr j
  have g := pr j
  simp only [sumN, Nat.mul_add, Nat.add_mul, Nat.one_mul]
  generalize N * sumN b j = x1 at *
  generalize N * sumN A j = x2 at *
  generalize sumN A j * a = x3 at *
  generalize N * b j = x4 at *
  generalize N * A j = x5 at *
  generalize A j * a = x6 at *
  generalize A j * A j = x7 at *
  generalize j * (a * a) = x8 at *
  generalize j * (N * a) = x9 at *
  generalize a * a = x10 at *
  generalize N * a = x11 at *
  omega
theorem num_P (N : Nat) (A : Nat → Nat) (B : Nat → Nat → Nat) (pr : ∀ v w, 2 * (N * B v w) + (A v * A v + A w * A w) ≤ N * A v + N * A w + 2 * (A v * A w)) : ∀ k, 2 * (N * parN B k) + k * sumN (fun v => A v * A v) k + N * sumN A k ≤ k * (N * sumN A k) + sumN A k * sumN A k
 | 0 => by simp [sumN, parN]
 | k + 1 => by
  have h := num_P N A B pr k
  have g := num_X N A (fun v => B v k) (A k) (fun v => pr v k) k
  have cm := Nat.mul_comm (A k) (sumN A k)
  simp only [sumN, parN, Nat.mul_add, Nat.add_mul, Nat.one_mul] at *
  generalize N * parN B k = x1 at *
  generalize N * sumN (fun v => B v k) k = x2 at *
  generalize k * sumN (fun v => A v * A v) k = x3 at *
  generalize k * (A k * A k) = x4 at *
  generalize k * (N * sumN A k) = x5 at *
  generalize k * (N * A k) = x6 at *
  generalize N * sumN A k = x7 at *
  generalize N * A k = x8 at *
  generalize A k * sumN A k = x9 at *
  generalize sumN A k * A k = x10 at *
  generalize sumN A k * sumN A k = x11 at *
  generalize A k * A k = x12 at *
  generalize sumN (fun v => A v * A v) k = x13 at *
  omega
theorem edges_bound : ∀ (d : Nat) (L : List (List Int)), Vec d L → 2 * (8 ^ d * edges L) + 8 * (8 ^ d * L.length) ≤ 7 * d * 8 ^ d * L.length + 8 * (L.length * L.length)
 | 0, L, h => by
  have hs := size_le 0 L h
  match L, hs with
  | [], _ => simp [edges]
  | [a], _ => simp [edges, cnt1]
  | a :: b :: L, hs => simp at hs
 | d + 1, L, h => by
  obtain ⟨N, hN⟩ : ∃ N, 8 ^ d = N := ⟨_, rfl⟩
  obtain ⟨K, hK⟩ : ∃ K, 7 * d * N = K := ⟨_, rfl⟩
  have hpow : 8 ^ (d + 1) = 8 * N := by rw [Nat.pow_succ, hN, Nat.mul_comm]
  have hK2 : 7 * (d + 1) * (8 * N) = 8 * K + 56 * N := by
   rw [← hK, show 7 * (d + 1) = 7 * d + 7 by omega, Nat.add_mul]
   have : 7 * d * (8 * N) = 8 * (7 * d * N) := by rw [Nat.mul_left_comm]
   omega
  have ih : ∀ v, 2 * (N * edges (sub v L)) + 8 * (N * (sub v L).length) ≤ K * (sub v L).length + 8 * ((sub v L).length * (sub v L).length) := fun v => by
   have := edges_bound d _ (h.sub v)
   rwa [hN, hK] at this
  have sz : ∀ v, (sub v L).length ≤ N := fun v => by rw [← hN]; exact size_le d _ (h.sub v)
  have pr : ∀ v w, 2 * (N * both (sub v L) (sub w L)) + ((sub v L).length * (sub v L).length + (sub w L).length * (sub w L).length) ≤ N * (sub v L).length + N * (sub w L).length + 2 * ((sub v L).length * (sub w L).length) := fun v w =>
   pair_le (both_le _ _ (h.sub w).nodup) (by rw [both_comm]; exact both_le _ _ (h.sub v).nodup) (sz v) (sz w)
  have tI := num_I N K (fun v => (sub (v : Int) L).length) (fun v => edges (sub (v : Int) L)) (fun v => ih v) 8
  have tP := num_P N (fun v => (sub (v : Int) L).length) (fun v w => both (sub (v : Int) L) (sub (w : Int) L)) (fun v w => pr v w) 8
  have e1 : edges L = sumN (fun v => edges (sub (v : Int) L)) 8 + parN (fun v w => both (sub (v : Int) L) (sub (w : Int) L)) 8 := by
   rw [edges_split h]
   simp only [S8, P8, sumN, parN, Nat.zero_add, Nat.add_zero]
   simp only [Int.ofNat_zero, Int.ofNat_one, show ((2 : Nat) : Int) = 2 from rfl, show ((3 : Nat) : Int) = 3 from rfl, show ((4 : Nat) : Int) = 4 from rfl, show ((5 : Nat) : Int) = 5 from rfl, show ((6 : Nat) : Int) = 6 from rfl, show ((7 : Nat) : Int) = 7 from rfl, show ((1 : Nat) : Int) = 1 from rfl, show ((0 : Nat) : Int) = 0 from rfl]
   omega
  have e2 : L.length = sumN (fun v => (sub (v : Int) L).length) 8 := by
   rw [len_split h]
   simp only [S8, sumN, Nat.zero_add]
   rfl
  rw [hpow, hK2, e1, e2]
  generalize sumN (fun v => (sub (v : Int) L).length) 8 = SA at *
  generalize sumN (fun v => edges (sub (v : Int) L)) 8 = SE at *
  generalize parN (fun v w => both (sub (v : Int) L) (sub (w : Int) L)) 8 = SB at *
  generalize sumN (fun v => (sub (v : Int) L).length * (sub (v : Int) L).length) 8 = Q at *
  rw [Nat.mul_add (8 * N), Nat.add_mul (8 * K)]
  simp only [Nat.mul_assoc]
  generalize N * SA = y1 at *
  generalize N * SE = y2 at *
  generalize N * SB = y3 at *
  generalize K * SA = y4 at *
  generalize SA * SA = y5 at *
  omega
theorem edges_6000 {d : Nat} {L : List (List Int)} (h : Vec d L) (hd : d ≤ 6) (hs : L.length ≤ 300) : edges L ≤ 6000 := by
 have b := edges_bound d L h
 have z := size_le d L h
 have q1 : L.length * L.length ≤ 300 * L.length := Nat.mul_le_mul_right _ hs
 have q2 : L.length * L.length ≤ 8 ^ d * L.length := Nat.mul_le_mul_right _ z
 generalize L.length * L.length = q at *
 have cases7 : d = 0 ∨ d = 1 ∨ d = 2 ∨ d = 3 ∨ d = 4 ∨ d = 5 ∨ d = 6 := by omega
 rcases cases7 with rfl | rfl | rfl | rfl | rfl | rfl | rfl <;> simp only [Nat.reducePow, Nat.reduceMul] at b z q2 <;> omega
theorem fn73_B0_at (a : List (Int)) (b : List (Int)) (count : Int) (i : Int) : fn73_B0 ((a, b, count, i, ()), ()) = bif (decide (i < (List.length a : Int))) then (guardB (inb i (List.length a)) (guardB (inb i (List.length b)) (bif ((List.getD a (Int.toNat i) (0 : Int)) != (List.getD b (Int.toNat i) (0 : Int))) then (some (.inl ((a, b, (w64 (count + (1 : Int))), (w64 (i + (1 : Int))), ()), ()))) else (some (.inl ((a, b, count, (w64 (i + (1 : Int))), ()), ())))))) else (some (.inr ((count, ()), ()))) := rfl
theorem fn74_B0_at (states : List (List (Int))) (i : Int) (j : Int) (t2 : (List (List (Int))) × (List ((Int) × (Int)))) (out : (List (List (Int))) × (List ((Int) × (Int)))) : fn74_B0 ((states, i, j, ()), (t2, out, ())) = bif (decide (j < (List.length states : Int))) then (guardB (inb i (List.length states)) (guardB (inb j (List.length states)) (match fn73 ((List.getD states (Int.toNat i) ([] : (List Int))), (List.getD states (Int.toNat j) ([] : (List Int))), ()) () with | some ((r, ()), ()) => (bif (r == (1 : Int)) then (guardB (decide ((List.length out.2 + List.length [(i, j)]) * 16 ≤ 70368744177664)) (some (.inl ((states, i, (w64 (j + (1 : Int))), ()), (t2, (out.1, (out.2 ++ [(i, j)])), ()))))) else (some (.inl ((states, i, (w64 (j + (1 : Int))), ()), (t2, out, ()))))) | none => none))) else (some (.inr ((states, i, ()), (t2, out, ())))) := rfl
theorem fn74_B1_at (states : List (List (Int))) (i : Int) (t2 : (List (List (Int))) × (List ((Int) × (Int)))) (out : (List (List (Int))) × (List ((Int) × (Int)))) : fn74_B1 ((states, i, ()), (t2, out, ())) = bif (decide (i < (List.length states : Int))) then (match loopO fn74_B0 ((states, i, (w64 (i + (1 : Int))), ()), (t2, out, ())) with | some ((states2, i2, ()), (t2_2, out2, ())) => some (.inl ((states2, (w64 (i2 + (1 : Int))), ()), (t2_2, out2, ()))) | none => none) else (some (.inr ((), (t2, out, ())))) := rfl
theorem fn76_B0_at (b : List (Int)) (out : List (Int)) (t9 : List (Int)) (t10 : Int) (t11 : Int) : fn76_B0 ((b, out, t9, t10, t11, ()), ()) = bif (decide (t11 < t10)) then (guardB (inb t11 (List.length t9)) (guardB (inb t11 (List.length b)) (bif ((List.getD b (Int.toNat t11) (0 : Int)) != (List.getD t9 (Int.toNat t11) (0 : Int))) then (guardB (decide ((List.length out + List.length [t11]) * 8 ≤ 70368744177664)) (some (.inl ((b, (out ++ [t11]), t9, t10, (w64 (t11 + (1 : Int))), ()), ())))) else (some (.inl ((b, out, t9, t10, (w64 (t11 + (1 : Int))), ()), ())))))) else (some (.inr ((out, ()), ()))) := rfl
theorem fn13_B0_at (i : Int) (i2 : Nat) (t17 : Int) (t18 : Int) (lo : Nat) (hi : Nat) (t28 : Int) (t29 : Int) (t4 : (List (List (Int))) × (List ((Int) × (Int)))) (out : (List (List (Int))) × (List ((Int) × (Int)))) : fn13_B0 ((i, i2, t17, t18, (lo, hi), t28, t29, ()), (t4, out, ())) = bif (decide (t29 < t28)) then (guardB (decide (0 ≤ t29) && decide (t29 < (((hi : Nat) : Int) - ((lo : Nat) : Int)))) (match fn55 ((List.getD out.1 i2 ([] : (List Int))), (List.getD out.1 (lo + (Int.toNat t29)) ([] : (List Int))), ()) () with | some ((r, ()), ()) => (bif r then (guardB (decide ((List.length out.2 + List.length [(i, (w64 ((w64 (i + (1 : Int))) + t29)))]) * 16 ≤ 70368744177664)) (some (.inl ((i, i2, t17, t18, (lo, hi), t28, (w64 (t29 + (1 : Int))), ()), (t4, (out.1, (out.2 ++ [(i, (w64 ((w64 (i + (1 : Int))) + t29)))])), ()))))) else (some (.inl ((i, i2, t17, t18, (lo, hi), t28, (w64 (t29 + (1 : Int))), ()), (t4, out, ()))))) | none => none)) else (some (.inr ((t17, t18, ()), (t4, out, ())))) := rfl
theorem fn13_B1_at (t17 : Int) (t18 : Int) (t4 : (List (List (Int))) × (List ((Int) × (Int)))) (out : (List (List (Int))) × (List ((Int) × (Int)))) : fn13_B1 ((t17, t18, ()), (t4, out, ())) = bif (decide (t18 < t17)) then (guardB (inb t18 (List.length out.1)) (guardB (decide (0 ≤ (w64 (t18 + (1 : Int)))) && decide ((w64 (t18 + (1 : Int))) ≤ (List.length out.1 : Int)) && decide ((List.length out.1 : Int) ≤ (List.length out.1 : Int))) (match loopO fn13_B0 ((t18, (Int.toNat t18), t17, t18, ((Int.toNat (w64 (t18 + (1 : Int)))), (Int.toNat (List.length out.1 : Int))), ((((Int.toNat (List.length out.1 : Int)) - (Int.toNat (w64 (t18 + (1 : Int))))) : Nat) : Int), (0 : Int), ()), (t4, out, ())) with | some ((t17_2, t18_2, ()), (t4_2, out2, ())) => some (.inl ((t17_2, (w64 (t18_2 + (1 : Int))), ()), (t4_2, out2, ()))) | none => none))) else (some (.inr ((), (t4, out, ())))) := rfl
theorem ham_drop {a b : List Int} {k : Nat} (h1 : k < a.length) (h2 : k < b.length) : ham (a.drop k) (b.drop k) = (if a.getD k 0 = b.getD k 0 then 0 else 1) + ham (a.drop (k + 1)) (b.drop (k + 1)) := by
 rw [List.drop_eq_getElem_cons h1, List.drop_eq_getElem_cons h2, getD_at h1, getD_at h2]
 rfl
theorem ham_end {a b : List Int} : ham (a.drop a.length) b = 0 := by rw [List.drop_length]; cases b <;> rfl
theorem Apart_eq (a b : List Int) (hl : a.length = b.length) (hs : a.length ≤ 1048576) : fn73 (a, b, ()) () = some (((ham a b : Int), ()), ()) := by
 have key : ∀ d k c : Nat, k + d = a.length → c ≤ k → loopO fn73_B0 ((a, b, (c : Int), (k : Int), ()), ()) = some (((((c + ham (a.drop k) (b.drop k) : Nat)) : Int), ()), ()) := by
  intro d
  induction d with
  | zero =>
   intro k c hk _
   refine loop_end ?_
   rw [fn73_B0_at]
   simp only [bif_decide]
   rw [if_neg (by omega), show k = a.length by omega, ham_end]
   simp
  | succ d ih =>
   intro k c hk hc
   have h1 : k < a.length := by omega
   have h2 : k < b.length := by omega
   have e := ham_drop h1 h2
   by_cases hq : a.getD k 0 = b.getD k 0
   · rw [if_pos hq] at e
     rw [e]
     refine loop_step ?_ (by rw [Nat.zero_add]; exact ih (k + 1) c (by omega) (by omega))
     rw [fn73_B0_at]
     simp only [bif_decide, Int.toNat_natCast]
     rw [if_pos (by omega), guardB_true (inb_true (by omega) (by omega)), guardB_true (inb_true (by omega) (by omega)), bne_eq hq]
     simp only [cond_false, w64_succ (show k < 4611686018427387904 by omega)]
   · rw [if_neg hq] at e
     rw [e]
     have := ih (k + 1) (c + 1) (by omega) (by omega)
     rw [show c + 1 + ham (a.drop (k + 1)) (b.drop (k + 1)) = c + (1 + ham (a.drop (k + 1)) (b.drop (k + 1))) by omega] at this
     refine loop_step ?_ this
     rw [fn73_B0_at]
     simp only [bif_decide, Int.toNat_natCast]
     rw [if_pos (by omega), guardB_true (inb_true (by omega) (by omega)), guardB_true (inb_true (by omega) (by omega)), bne_ne hq]
     simp only [cond_true, w64_succ (show k < 4611686018427387904 by omega), w64_succ (show c < 4611686018427387904 by omega)]
 simp only [fn73]
 have := key a.length 0 0 (by omega) (by omega)
 simp only [List.drop_zero, Nat.zero_add] at this
 erw [this]
theorem places_eq (a b : List Int) (hl : a.length = b.length) (hs : a.length ≤ 1048576) : ∃ R : List Int, fn76 (a, b, ()) () = some ((R, ()), ()) ∧ R.length = ham a b := by
 have key : ∀ d k : Nat, ∀ o : List Int, k + d = a.length → o.length ≤ k → ∃ R : List Int, loopO fn76_B0 ((b, o, a, (a.length : Int), (k : Int), ()), ()) = some ((R, ()), ()) ∧ R.length = o.length + ham (a.drop k) (b.drop k) := by
  intro d
  induction d with
  | zero =>
   intro k o hk _
   refine ⟨o, loop_end ?_, ?_⟩
   · rw [fn76_B0_at]
     simp only [bif_decide]
     rw [if_neg (by omega)]
   · rw [show k = a.length by omega, ham_end]; rfl
  | succ d ih =>
   intro k o hk hc
   have h1 : k < a.length := by omega
   have h2 : k < b.length := by omega
   have e := ham_drop h1 h2
   by_cases hq : a.getD k 0 = b.getD k 0
   · rw [if_pos hq] at e
     obtain ⟨R, q1, q2⟩ := ih (k + 1) o (by omega) (by omega)
     refine ⟨R, loop_step ?_ q1, by rw [q2, e]; omega⟩
     rw [fn76_B0_at]
     simp only [bif_decide, Int.toNat_natCast]
     rw [if_pos (by omega), guardB_true (inb_true (by omega) (by omega)), guardB_true (inb_true (by omega) (by omega)), bne_eq hq.symm]
     simp only [cond_false, w64_succ (show k < 4611686018427387904 by omega)]
   · rw [if_neg hq] at e
     obtain ⟨R, q1, q2⟩ := ih (k + 1) (o ++ [(k : Int)]) (by omega) (by simp; omega)
     refine ⟨R, loop_step ?_ q1, by rw [q2, e]; simp; omega⟩
     rw [fn76_B0_at]
     simp only [bif_decide, Int.toNat_natCast]
     rw [if_pos (by omega), guardB_true (inb_true (by omega) (by omega)), guardB_true (inb_true (by omega) (by omega)), bne_ne (fun h => hq h.symm)]
     simp only [cond_true, w64_succ (show k < 4611686018427387904 by omega)]
     rw [guardB_true (by simp only [List.length_singleton, decide_eq_true_eq]; omega)]
 obtain ⟨R, q1, q2⟩ := key a.length 0 [] (by omega) (by simp)
 refine ⟨R, ?_, by simpa using q2⟩
 simp only [fn76]
 erw [q1]
theorem isChange_eq (a b : List Int) (hl : a.length = b.length) (hs : a.length ≤ 1048576) : fn55 (a, b, ()) () = some ((decide (ham a b = 1), ()), ()) := by
 obtain ⟨R, q1, q2⟩ := places_eq a b hl hs
 simp only [fn55, q1]
 rw [q2]
 by_cases h : ham a b = 1
 · rw [decide_eq_true h, beq_eq (by omega)]
 · rw [decide_eq_false h, beq_ne (by omega)]
def rowSteps (i : Nat) (a : List Int) : Nat → List (List Int) → List (Int × Int)
 | _, [] => []
 | k, b :: L => if ham a b = 1 then ((i : Int), (k : Int)) :: rowSteps i a (k + 1) L else rowSteps i a (k + 1) L
def allSteps : Nat → List (List Int) → List (Int × Int)
 | _, [] => []
 | i, a :: L => rowSteps i a (i + 1) L ++ allSteps (i + 1) L
theorem rowSteps_len (i : Nat) (a : List Int) : ∀ (L : List (List Int)) (k : Nat), (rowSteps i a k L).length = cnt1 a L
 | [], _ => rfl
 | b :: L, k => by
  have ih := rowSteps_len i a L (k + 1)
  simp only [rowSteps, cnt1, List.countP_cons] at ih ⊢
  by_cases h : ham a b = 1
  · simp [h, ih]
  · simp [h, ih]
theorem allSteps_len : ∀ (L : List (List Int)) (i : Nat), (allSteps i L).length = edges L
 | [], _ => rfl
 | a :: L, i => by simp only [allSteps, edges, List.length_append, rowSteps_len, allSteps_len L]
theorem drop_cons {A : List (List Int)} {j : Nat} (h : j < A.length) : A.drop j = A.getD j [] :: A.drop (j + 1) := by
 rw [List.drop_eq_getElem_cons h, getD_at h]
theorem specRow (A : List (List Int)) {n : Nat} (hA : ∀ a ∈ A, a.length = n) (hn : n ≤ 1048576) (hs : A.length ≤ 1048576) {i : Nat} (hi : i < A.length) (t2 : List (List Int) × List (Int × Int)) (o1 : List (List Int)) : ∀ (d j : Nat) (o : List (Int × Int)), j + d = A.length → o.length + (rowSteps i (A.getD i []) j (A.drop j)).length ≤ 1048576 →
  loopO fn74_B0 ((A, (i : Int), (j : Int), ()), (t2, (o1, o), ())) = some ((A, (i : Int), ()), (t2, (o1, o ++ rowSteps i (A.getD i []) j (A.drop j)), ())) := by
 have hlen : ∀ k, k < A.length → (A.getD k []).length = n := fun k hk => by rw [getD_at hk]; exact hA _ (List.getElem_mem hk)
 intro d
 induction d with
 | zero =>
  intro j o hj _
  refine loop_end ?_
  rw [fn74_B0_at]
  simp only [bif_decide]
  rw [if_neg (by omega), List.drop_eq_nil_of_le (by omega)]
  simp only [rowSteps, List.append_nil]
 | succ d ih =>
  intro j o hj hb
  have hj' : j < A.length := by omega
  rw [drop_cons hj'] at hb ⊢
  have st := fn74_B0_at A (i : Int) (j : Int) t2 (o1, o)
  simp only [bif_decide, Int.toNat_natCast] at st
  rw [if_pos (by omega), guardB_true (inb_true (by omega) (by omega)), guardB_true (inb_true (by omega) (by omega)), Apart_eq _ _ (by rw [hlen i hi, hlen j hj']) (by rw [hlen i hi]; exact hn)] at st
  simp only [w64_succ (show j < 4611686018427387904 by omega)] at st
  by_cases hq : ham (A.getD i []) (A.getD j []) = 1
  · simp only [rowSteps, if_pos hq, List.length_cons] at hb ⊢
    rw [beq_eq (by omega)] at st
    simp only [cond_true] at st
    rw [guardB_true (by simp only [List.length_singleton, decide_eq_true_eq]; omega)] at st
    have := ih (j + 1) (o ++ [((i : Int), (j : Int))]) (by omega) (by simp only [List.length_append, List.length_singleton]; omega)
    rw [List.append_assoc, List.singleton_append] at this
    exact loop_step st this
  · simp only [rowSteps, if_neg hq] at hb ⊢
    rw [beq_ne (by omega)] at st
    simp only [cond_false] at st
    exact loop_step st (ih (j + 1) o (by omega) hb)
theorem l6Space_eq (A : List (List Int)) {n : Nat} (hA : ∀ a ∈ A, a.length = n) (hn : n ≤ 1048576) (hs : A.length ≤ 1048576) (he : edges A ≤ 1048576) : fn74 (A, ()) () = some (((A, allSteps 0 A), ()), ()) := by
 have key : ∀ (d i : Nat) (o : List (Int × Int)), i + d = A.length → o.length + (allSteps i (A.drop i)).length ≤ 1048576 →
  loopO fn74_B1 ((A, (i : Int), ()), ((([] : List (List Int)), ([] : List (Int × Int))), (A, o), ())) = some ((), ((([] : List (List Int)), ([] : List (Int × Int))), (A, o ++ allSteps i (A.drop i)), ())) := by
  intro d
  induction d with
  | zero =>
   intro i o hi _
   refine loop_end ?_
   rw [fn74_B1_at]
   simp only [bif_decide]
   rw [if_neg (by omega), List.drop_eq_nil_of_le (by omega)]
   simp only [allSteps, List.append_nil]
  | succ d ih =>
   intro i o hi hb
   have hi' : i < A.length := by omega
   rw [drop_cons hi'] at hb ⊢
   simp only [allSteps, List.length_append] at hb ⊢
   have st := fn74_B1_at A (i : Int) (([] : List (List Int)), ([] : List (Int × Int))) (A, o)
   simp only [bif_decide] at st
   rw [if_pos (by omega), w64_succ (show i < 4611686018427387904 by omega)] at st
   have hr := specRow A hA hn hs hi' (([] : List (List Int)), ([] : List (Int × Int))) A (A.length - (i + 1)) (i + 1) o (by omega) (by omega)
   erw [hr] at st
   simp only [w64_succ (show i < 4611686018427387904 by omega)] at st
   have := ih (i + 1) (o ++ rowSteps i (A.getD i []) (i + 1) (A.drop (i + 1))) (by omega) (by simp only [List.length_append]; omega)
   rw [List.append_assoc] at this
   exact loop_step st this
 simp only [fn74]
 have := key A.length 0 [] (by omega) (by simp only [List.drop_zero, allSteps_len, List.length_nil]; omega)
 simp only [List.drop_zero, List.nil_append] at this
 erw [this]
theorem implRow (A : List (List Int)) {n : Nat} (hA : ∀ a ∈ A, a.length = n) (hn : n ≤ 1048576) (hs : A.length ≤ 1048576) {i : Nat} (hi : i < A.length) (t17 t18 : Int) (t4 : List (List Int) × List (Int × Int)) : ∀ (d j : Nat) (o : List (Int × Int)), i + 1 + j + d = A.length → o.length + (rowSteps i (A.getD i []) (i + 1 + j) (A.drop (i + 1 + j))).length ≤ 1048576 →
  loopO fn13_B0 (((i : Int), i, t17, t18, (i + 1, A.length), ((A.length - (i + 1) : Nat) : Int), (j : Int), ()), (t4, (A, o), ())) = some ((t17, t18, ()), (t4, (A, o ++ rowSteps i (A.getD i []) (i + 1 + j) (A.drop (i + 1 + j))), ())) := by
 have hlen : ∀ k, k < A.length → (A.getD k []).length = n := fun k hk => by rw [getD_at hk]; exact hA _ (List.getElem_mem hk)
 intro d
 induction d with
 | zero =>
  intro j o hj _
  refine loop_end ?_
  rw [fn13_B0_at]
  simp only [bif_decide]
  rw [if_neg (by omega), List.drop_eq_nil_of_le (by omega)]
  simp only [rowSteps, List.append_nil]
 | succ d ih =>
  intro j o hj hb
  have hj' : i + 1 + j < A.length := by omega
  have ih := ih (j + 1)
  rw [show i + 1 + (j + 1) = i + 1 + j + 1 by omega] at ih
  rw [drop_cons hj'] at hb ⊢
  have st := fn13_B0_at (i : Int) i t17 t18 (i + 1) A.length ((A.length - (i + 1) : Nat) : Int) (j : Int) t4 (A, o)
  simp only [bif_decide, Int.toNat_natCast] at st
  rw [if_pos (by omega), guardB_true (by simp only [Bool.and_eq_true, decide_eq_true_eq]; omega), isChange_eq _ _ (by rw [hlen i hi, hlen _ hj']) (by rw [hlen i hi]; exact hn)] at st
  simp only [w64_succ (show j < 4611686018427387904 by omega), w64_succ (show i < 4611686018427387904 by omega)] at st
  by_cases hq : ham (A.getD i []) (A.getD (i + 1 + j) []) = 1
  · simp only [rowSteps, if_pos hq, List.length_cons] at hb ⊢
    rw [decide_eq_true hq] at st
    simp only [cond_true] at st
    rw [guardB_true (by simp only [List.length_singleton, decide_eq_true_eq]; omega), w64_of (by omega) (by omega), show ((i + 1 : Nat) : Int) + (j : Int) = ((i + 1 + j : Nat) : Int) by omega] at st
    have := ih (o ++ [((i : Int), ((i + 1 + j : Nat) : Int))]) (by omega) (by simp only [List.length_append, List.length_singleton]; omega)
    rw [List.append_assoc, List.singleton_append] at this
    exact loop_step st this
  · simp only [rowSteps, if_neg hq] at hb ⊢
    rw [decide_eq_false hq] at st
    simp only [cond_false] at st
    exact loop_step st (ih o (by omega) hb)
theorem spaceOf_eq (A : List (List Int)) {n : Nat} (hsort : sortRows A = A) (hA : ∀ a ∈ A, a.length = n) (hn : n ≤ 1048576) (hs : A.length ≤ 1048576) (he : edges A ≤ 1048576) : fn13 (A, ()) () = some (((A, allSteps 0 A), ()), ()) := by
 have key : ∀ (d i : Nat) (o : List (Int × Int)), i + d = A.length → o.length + (allSteps i (A.drop i)).length ≤ 1048576 →
  loopO fn13_B1 (((A.length : Int), (i : Int), ()), ((([] : List (List Int)), ([] : List (Int × Int))), (A, o), ())) = some ((), ((([] : List (List Int)), ([] : List (Int × Int))), (A, o ++ allSteps i (A.drop i)), ())) := by
  intro d
  induction d with
  | zero =>
   intro i o hi _
   refine loop_end ?_
   rw [fn13_B1_at]
   simp only [bif_decide]
   rw [if_neg (by omega), List.drop_eq_nil_of_le (by omega)]
   simp only [allSteps, List.append_nil]
  | succ d ih =>
   intro i o hi hb
   have hi' : i < A.length := by omega
   rw [drop_cons hi'] at hb ⊢
   simp only [allSteps, List.length_append] at hb ⊢
   have st := fn13_B1_at (A.length : Int) (i : Int) (([] : List (List Int)), ([] : List (Int × Int))) (A, o)
   simp only [bif_decide, Int.toNat_natCast] at st
   rw [if_pos (by omega), guardB_true (inb_true (by omega) (by omega)), w64_succ (show i < 4611686018427387904 by omega), guardB_true (by simp only [Bool.and_eq_true, decide_eq_true_eq]; omega)] at st
   simp only [Int.toNat_natCast] at st
   have hr := implRow A hA hn hs hi' (A.length : Int) (i : Int) (([] : List (List Int)), ([] : List (Int × Int))) (A.length - (i + 1)) 0 o (by omega) (by simp only [Nat.add_zero]; omega)
   simp only [Nat.add_zero] at hr
   erw [hr] at st
   simp only [w64_succ (show i < 4611686018427387904 by omega)] at st
   have := ih (i + 1) (o ++ rowSteps i (A.getD i []) (i + 1) (A.drop (i + 1))) (by omega) (by simp only [List.length_append]; omega)
   rw [List.append_assoc] at this
   exact loop_step st this
 have hS : slices_SortFunc_int_int_own () (A, ()) = some ((), (A, ())) := by
  simp only [slices_SortFunc_int_int_own, sortRowsFn]
  rw [guardB_true (by simp only [Bool.and_eq_true, decide_eq_true_eq, List.all_eq_true]; exact ⟨by omega, fun a ha => by rw [hA a ha]; omega⟩), hsort]
 simp only [fn13]
 erw [hS]
 have := key A.length 0 [] (by omega) (by simp only [List.drop_zero, allSteps_len, List.length_nil]; omega)
 simp only [List.drop_zero, List.nil_append] at this
 simp only
 erw [this]
theorem fn2_B0_at (rc : argP fn2_a → obP (extObs 0 fn2_o) → Option fn2_E.P) (t19 : Int) (t20 : Int) (o0 : (Int) × (List ((Int) × (Int)))) (o2 : List (Int)) (o3 : (Int) × (List ((Int) × (Int)))) (o4 : Bool) (x : Int) (o6 : List (List (Int))) : fn2_B0 rc ((t19, t20, ()), (o0, o2, o3, o4, x, o6, ())) = bif (decide (t20 < t19)) then (guardB (inb x (List.length o2)) (match fn30 (o0, x, ()) () with | some ((r, ()), ()) => (match fn3 (r, ()) (x, o3, t20, (List.set o2 (Int.toNat x) t20), o4, ()) with | some ((r2, ()), (o, o5, o7, o8, o9, ())) => (bif (!r2) then (match rc ((w64 (o + (1 : Int))), ()) (o0, o8, o5, o9, o6, ()) with | some ((r3, ()), (o10, o11, o12, o13, o14, ())) => (bif (!r3) then (some (.inr (.inl ((false, ()), (o10, o11, o12, o13, o14, ()))))) else (some (.inl ((t19, (w64 (t20 + (1 : Int))), ()), (o10, o11, o12, o13, o, o14, ()))))) | none => none) else (some (.inl ((t19, (w64 (t20 + (1 : Int))), ()), (o0, o8, o5, o9, o, o6, ()))))) | none => none) | none => none)) else (some (.inr (.inr ((), (o0, o2, o3, o4, o6, ()))))) := rfl
theorem space_run (g h : Int × List (Int × Int)) (lazy : Bool) {n m : Nat} (hg1 : g.1 = n) (hn : n ≤ 6) (hh1 : h.1 = m) (hm : m ≤ 8) (hgp : pairsB g.2 n = true) (hhp : pairsB h.2 m = true) (hg : g.2.length ≤ 1048576) (hh : h.2.length ≤ 1048576)
  (st : List (List Int) → List Int → Bool × (List (List Int))) (Inv : List (List Int) → Prop) (hst : ∀ s a, Inv s → a.length = n → fn22 (a, ()) (s, ()) = some (((st s a).1, ()), ((st s a).2, ())) ∧ ((st s a).1 = true → Inv (st s a).2)) : ∀ (d f x : Nat) (L : List Int) (s : List (List Int)), x + d = n → d < f → L.length = n → Inv s →
  ∃ L' : List Int, L'.length = n ∧ L'.take x = L.take x ∧ fuelF fn2_F f ((x : Int), ()) (g, L, h, lazy, s, ()) = some (((runAll st s (full g.2 h.2 lazy m d (L.take x))).1, ()), (g, L', h, lazy, (runAll st s (full g.2 h.2 lazy m d (L.take x))).2, ())) ∧ ((runAll st s (full g.2 h.2 lazy m d (L.take x))).1 = true → Inv (runAll st s (full g.2 h.2 lazy m d (L.take x))).2)
 | d, 0, x, L, s, _, hf, _, _ => by omega
 | 0, f + 1, x, L, s, hx, _, hL, hs => by
  obtain ⟨c1, c2⟩ := hst s L hs hL
  have ht : L.take x = L := List.take_of_length_le (by omega)
  have hr : runAll st s [L] = st s L := by
   simp only [runAll]
   cases h : (st s L).1
   · simp only [cond_false]; rw [← h]
   · simp only [cond_true]; rw [← h]
  refine ⟨L, hL, rfl, ?_, ?_⟩
  · simp only [fuelF, fn2_F, full, ht]
    rw [beq_eq (by omega), c1, hr]
    rfl
  · simp only [full, ht, hr]
    exact c2
 | d + 1, f + 1, x, L, s, hx, hf, hL, hs => by
  have hxn : x < n := by omega
  generalize hF : (fun v : Nat => if allFrom (okOne g.2 h.2 lazy (L.take x) (L.take x).length (v : Int)) 0 (L.take x).length then full g.2 h.2 lazy m d (L.take x ++ [(v : Int)]) else []) = F
  have hlen : (L.take x).length = x := by rw [List.length_take]; omega
  have key : ∀ e v : Nat, ∀ (s : List (List Int)) (K : List Int), v + e = m → K.length = n → K.take x = L.take x → Inv s → ∃ L' : List Int, L'.length = n ∧ L'.take x = L.take x ∧
   loopO (fn2_B0 (fuelF fn2_F f)) (((m : Int), (v : Int), ()), (g, K, h, lazy, (x : Int), s, ())) = some (bif (runAll st s (flatFrom F v e)).1 then .inr ((), (g, L', h, lazy, (runAll st s (flatFrom F v e)).2, ())) else .inl ((false, ()), (g, L', h, lazy, (runAll st s (flatFrom F v e)).2, ()))) ∧
   ((runAll st s (flatFrom F v e)).1 = true → Inv (runAll st s (flatFrom F v e)).2) := by
   intro e
   induction e with
   | zero =>
    intro v s K hv hK ht hs
    refine ⟨K, hK, ht, loop_end ?_, fun _ => by simpa [flatFrom, runAll] using hs⟩
    rw [fn2_B0_at]
    simp only [bif_decide, flatFrom, runAll, cond_true]
    rw [if_neg (by omega)]
   | succ e ih =>
    intro v s K hv hK ht hs
    have hok := wrong_ok g.2 h.2 lazy (n := n) (x := x) K hK hxn (v : Int)
    have hnl := nbs_len g.2 n x
    have hcon := wrong_eq h hhp lazy (K.set x (v : Int)) (nbs g.2 n x) (x : Int) (v : Int) hh (by omega) (fun z hz => by
     simp only [nbs, List.mem_map] at hz
     obtain ⟨k, _, e⟩ := hz
     rw [List.length_set]
     omega)
    rw [hok, ht] at hcon
    cases ha : allFrom (okOne g.2 h.2 lazy (L.take x) x (v : Int)) 0 x
    · have hF0 : F v = [] := by
       rw [← hF]
       simp only [hlen, ha, Bool.false_eq_true, if_false]
      obtain ⟨L', l1, l2, l3, l4⟩ := ih (v + 1) s (K.set x (v : Int)) (by omega) (by rw [List.length_set]; exact hK) (by rw [List.take_set_of_le (Nat.le_refl _)]; exact ht) hs
      refine ⟨L', l1, l2, ?_, by simp only [flatFrom, hF0, List.nil_append]; exact l4⟩
      simp only [flatFrom, hF0, List.nil_append]
      refine loop_step ?_ l3
      rw [fn2_B0_at]
      simp only [bif_decide, neighbors_eq g hg1 (by omega) hgp x hg, Int.toNat_natCast]
      rw [if_pos (by omega), guardB_true (by simp [inb] <;> omega), hcon, ha]
      simp only [Bool.not_false, Bool.not_true, cond_false, w64_succ (show v < 4611686018427387904 by omega)]
    · have hF1 : F v = full g.2 h.2 lazy m d (L.take x ++ [(v : Int)]) := by
       rw [← hF]
       simp only [hlen, ha, if_true]
      obtain ⟨L1, a1, a2, a3, a4⟩ := space_run g h lazy hg1 hn hh1 hm hgp hhp hg hh st Inv hst d f (x + 1) (K.set x (v : Int)) s (by omega) (by omega) (by rw [List.length_set]; exact hK) hs
      have htk : (K.set x (v : Int)).take (x + 1) = L.take x ++ [(v : Int)] := by
       rw [List.take_succ_eq_append_getElem (by rw [List.length_set]; omega), List.getElem_set_self, List.take_set_of_le (Nat.le_refl _), ht]
      rw [htk] at a2 a3 a4
      have ht1 : L1.take x = L.take x := by
       have := congrArg (List.take x) a2
       rw [List.take_take, Nat.min_eq_left (by omega), List.take_append_of_le_length (by omega), List.take_take, Nat.min_self] at this
       exact this
      rw [← hF1] at a3 a4
      have one : fn2_B0 (fuelF fn2_F f) (((m : Int), (v : Int), ()), (g, K, h, lazy, (x : Int), s, ())) = some (bif (runAll st s (F v)).1 then .inl (((m : Int), ((v + 1 : Nat) : Int), ()), (g, L1, h, lazy, (x : Int), (runAll st s (F v)).2, ())) else .inr (.inl ((false, ()), (g, L1, h, lazy, (runAll st s (F v)).2, ())))) := by
       rw [fn2_B0_at]
       simp only [bif_decide, neighbors_eq g hg1 (by omega) hgp x hg, Int.toNat_natCast]
       rw [if_pos (by omega), guardB_true (by simp [inb] <;> omega), hcon, ha]
       simp only [Bool.not_false, Bool.not_true, cond_false, cond_true]
       rw [w64_succ (show x < 4611686018427387904 by omega), a3]
       simp only [w64_succ (show v < 4611686018427387904 by omega)]
       cases (runAll st s (F v)).1 <;> rfl
      have happ := runAll_append st (F v) (flatFrom F (v + 1) e) s
      cases hr : (runAll st s (F v)).1
      · rw [hr] at one happ
        refine ⟨L1, a1, ht1, ?_, ?_⟩
        · simp only [flatFrom, happ, cond_false]
          exact loop_end one
        · simp only [flatFrom, happ, cond_false]
          intro h; cases h
      · rw [hr] at one happ
        obtain ⟨L', l1, l2, l3, l4⟩ := ih (v + 1) (runAll st s (F v)).2 L1 (by omega) a1 ht1 (a4 hr)
        refine ⟨L', l1, l2, ?_, ?_⟩
        · simp only [flatFrom, happ, cond_true]
          exact loop_step one l3
        · simp only [flatFrom, happ, cond_true]
          exact l4
  obtain ⟨L', l1, l2, l3, l4⟩ := key m 0 s L (by omega) hL rfl hs
  refine ⟨L', l1, l2, ?_, ?_⟩
  · simp only [fuelF, fn2_F, full]
    rw [beq_ne (by omega)]
    simp only [cond_false, hh1]
    erw [l3]
    rw [← hF]
    cases (runAll st s (flatFrom _ 0 m)).1 <;> rfl
  · simp only [full]
    rw [hF]
    exact l4
theorem cmp_prefix {x y : Int} (h : x < y) (a b : List Int) : ∀ l : List Int, cmpRows (l ++ x :: a) (l ++ y :: b) < 0
 | [] => by simp only [List.nil_append, cmpRows, if_pos h]; omega
 | z :: l => by
  simp only [List.cons_append, cmpRows, Int.lt_irrefl, if_false]
  exact cmp_prefix h a b l
theorem flatFrom_pw {f : Nat → List (List Int)} {R : List Int → List Int → Prop} (h1 : ∀ k, (f k).Pairwise R) (h2 : ∀ i j, i < j → ∀ a ∈ f i, ∀ b ∈ f j, R a b) : ∀ d k, (flatFrom f k d).Pairwise R
 | 0, k => by simp only [flatFrom]; exact List.Pairwise.nil
 | d + 1, k => by
  simp only [flatFrom]
  refine List.pairwise_append.2 ⟨h1 k, flatFrom_pw h1 h2 d (k + 1), fun a ha b hb => ?_⟩
  obtain ⟨v, q1, _, q2⟩ := flatFrom_mem hb
  exact h2 k v (by omega) a ha b q2
theorem full_split (S T : List (Int × Int)) (lazy : Bool) {m d : Nat} {l a : List Int} {v : Nat} (h : a ∈ (if allFrom (okOne S T lazy l l.length (v : Int)) 0 l.length then full S T lazy m d (l ++ [(v : Int)]) else [])) : ∃ t, a = l ++ (v : Int) :: t := by
 split at h
 · have := (full_mem S T lazy d _ a h).2.1
   refine ⟨a.drop (l ++ [(v : Int)]).length, ?_⟩
   have e := List.take_append_drop (l ++ [(v : Int)]).length a
   rw [this, List.append_assoc] at e
   exact e.symm
 · simp at h
theorem full_pw (S T : List (Int × Int)) (lazy : Bool) {m : Nat} : ∀ (d : Nat) (l : List Int), (full S T lazy m d l).Pairwise (fun a b => cmpRows a b < 0)
 | 0, l => by simp only [full]; exact List.pairwise_singleton _ _
 | d + 1, l => by
  simp only [full]
  refine flatFrom_pw (fun k => ?_) (fun i j hij a ha b hb => ?_) m 0
  · split
    · exact full_pw S T lazy d _
    · exact List.Pairwise.nil
  · obtain ⟨t, rfl⟩ := full_split S T lazy ha
    obtain ⟨u, rfl⟩ := full_split S T lazy hb
    exact cmp_prefix (by omega) t u l
theorem full_vec (S T : List (Int × Int)) (lazy : Bool) {m : Nat} (hm : m ≤ 8) (n : Nat) : Vec n (full S T lazy m n []) := by
 refine ⟨?_, fun r hr => ?_, fun r hr v hv => ?_⟩
 · exact (full_pw S T lazy n []).imp (fun {a b} h e => by rw [e, cmpRows_self] at h; omega)
 · have := (full_mem S T lazy n [] r hr).1
   simpa using this
 · have := (full_mem S T lazy n [] r hr).2.2 v (by simpa using hv)
   omega
theorem full_sorted (S T : List (Int × Int)) (lazy : Bool) {m : Nat} (n : Nat) : sortRows (full S T lazy m n []) = full S T lazy m n [] :=
 List.mergeSort_of_pairwise ((full_pw S T lazy n []).imp (fun {a b} h => by simp only [leRows, decide_eq_true_eq]; omega))
def spaceSt : List (List Int) → List Int → Bool × List (List Int) := fun s a => (decide ((s ++ [a]).length ≤ 300), s ++ [a])
theorem space_one (s : List (List Int)) (a : List Int) (hs : s.length ≤ 300) (ha : a.length ≤ 1048576) : fn22 (a, ()) (s, ()) = some (((spaceSt s a).1, ()), ((spaceSt s a).2, ())) := by
 simp only [fn22, fn22_D0, slices_Clone_int_int, cloneFn]
 rw [guardB_true (by simp only [decide_eq_true_eq]; omega)]
 simp only
 rw [guardB_true (by simp only [List.length_singleton, decide_eq_true_eq]; omega)]
 simp only [spaceSt]
 by_cases h : (s ++ [a]).length ≤ 300
 · rw [decide_eq_true h, decide_eq_true (by omega)]
 · rw [decide_eq_false h, decide_eq_false (by omega)]
theorem runAll_space : ∀ (l : List (List Int)) (s : List (List Int)), s.length ≤ 300 → (runAll spaceSt s l).2 = s ++ l.take (301 - s.length)
 | [], s, _ => by simp [runAll]
 | a :: l, s, hs => by
  simp only [runAll]
  obtain ⟨k, hk⟩ : ∃ k, 301 - s.length = k + 1 := ⟨300 - s.length, by omega⟩
  by_cases h : (s ++ [a]).length ≤ 300
  · have h1 : (spaceSt s a).1 = true := by simp only [spaceSt]; exact decide_eq_true h
    rw [h1, cond_true]
    have := runAll_space l (s ++ [a]) h
    rw [show (spaceSt s a).2 = s ++ [a] from rfl, this, hk]
    simp only [List.length_append, List.length_singleton] at h
    rw [show 301 - (s ++ [a]).length = k by simp only [List.length_append, List.length_singleton]; omega, List.take_succ_cons, List.append_assoc]
    rfl
  · have h1 : (spaceSt s a).1 = false := by simp only [spaceSt]; exact decide_eq_false h
    rw [h1, cond_false]
    simp only [List.length_append, List.length_singleton] at h
    rw [hk, show k = 0 by omega]
    simp [spaceSt]
theorem space_core (g h : Int × List (Int × Int)) (lazy : Bool) (hg : g.2.length ≤ 1048576) (hh : h.2.length ≤ 1048576) (hcc : caseB g h = true) : ∃ (R : List (List Int) × List (Int × Int)) (b : Bool), Few R ∧ fn61 (g, h, lazy, ()) () = some ((R, b, ()), ()) ∧ fn54 (g, h, lazy, ()) () = some ((R, b, ()), ()) ∧
  (b = true → R = (full g.2 h.2 lazy h.1.toNat g.1.toNat [], allSteps 0 (full g.2 h.2 lazy h.1.toNat g.1.toNat [])) ∧ R.1.length ≤ 300) ∧ (b = true ↔ (full g.2 h.2 lazy h.1.toNat g.1.toNat []).length ≤ 300) := by
 have hc := hcc
 simp only [caseB, Bool.and_eq_true, decide_eq_true_eq] at hc
 simp only [fn54, Case_eq g h hg hh, hcc]
 obtain ⟨n, hn, hn8, hgp⟩ := good_nat hc.1
 obtain ⟨m, hm, hm8, hhp⟩ := good_nat hc.2.1
 have h6 : n ≤ 6 := by omega
 have s1 := all_run g h lazy hn h6 hm hm8 hg hh n 1000 300 [] (by simp) (by omega) (by omega)
 obtain ⟨L', _, _, s2, _⟩ := space_run g h lazy hn h6 hm hm8 hgp hhp hg hh spaceSt (fun s => s.length ≤ 300) (fun s a hs ha => ⟨space_one s a hs (by omega), fun ht => by simpa [spaceSt] using ht⟩) n 1000 0 (List.replicate n 0) [] (by omega) (by omega) (by simp) (by simp)
 have hv := full_vec g.2 h.2 lazy hm8 n
 have hso := full_sorted g.2 h.2 lazy (m := m) n
 simp only [Nat.reduceAdd] at s1
 simp only [List.take_zero, runAll_space _ [] (by simp), List.nil_append, List.length_nil, Nat.sub_zero] at s2
 rw [hm, hn, Int.toNat_natCast, Int.toNat_natCast]
 generalize full g.2 h.2 lazy m n [] = A at s1 s2 hv hso
 simp only [Bool.not_true, cond_false, show fn83 = fuelF fn83_F 1000 from rfl, fn61, fn12, show fn2 = fuelF fn2_F 1000 from rfl, hn, Int.toNat_natCast]
 rw [guardB_true (fold_len (n := n) (by omega)).1]
 erw [s1, s2]
 simp only [bif_decide]
 by_cases hA : A.length ≤ 300
 · have ht : A.take 301 = A := List.take_of_length_le (by omega)
   rw [ht, if_neg (by omega), if_neg (by omega)]
   have he := edges_6000 hv h6 hA
   rw [l6Space_eq A hv.len (by omega) (by omega) (by omega), spaceOf_eq A hso hv.len (by omega) (by omega) (by omega)]
   have hl := allSteps_len A 0
   refine ⟨(A, allSteps 0 A), true, ⟨by show A.length ≤ _; omega, fun s hs => by rw [hv.len s hs]; omega, by show (allSteps 0 A).length ≤ _; omega⟩, rfl, ?_, fun _ => ⟨rfl, hA⟩, ⟨fun _ => hA, fun _ => rfl⟩⟩
   simp only [fn43, bif_decide]
   rw [if_neg (by omega), if_neg (by omega)]
 · have ht : (A.take 301).length = 301 := by rw [List.length_take]; omega
   rw [if_pos (by omega), if_pos (by omega)]
   exact ⟨([], []), false, Few.nil, rfl, rfl, fun h => (by cases h), ⟨fun h => (by cases h), fun h => absurd h hA⟩⟩
theorem space_both (g h : Int × List (Int × Int)) (lazy : Bool) (hg : g.2.length ≤ 1048576) (hh : h.2.length ≤ 1048576) : ∃ (R : List (List Int) × List (Int × Int)) (b : Bool), Few R ∧ fn58 (g, h, lazy, ()) () = some ((R, b, ()), ()) ∧ fn54 (g, h, lazy, ()) () = some ((R, b, ()), ()) ∧
  (b = true → R = (full g.2 h.2 lazy h.1.toNat g.1.toNat [], allSteps 0 (full g.2 h.2 lazy h.1.toNat g.1.toNat [])) ∧ R.1.length ≤ 300 ∧ caseB g h = true) ∧ (caseB g h = true → (b = true ↔ (full g.2 h.2 lazy h.1.toNat g.1.toNat []).length ≤ 300)) := by
 cases hc : caseB g h
 · refine ⟨([], []), false, Few.nil, ?_, ?_, fun h => (by cases h), fun h => (by cases h)⟩
   · simp only [fn58, Good2_eq g h hg hh, hc, Bool.not_false, cond_true]
   · simp only [fn54, Case_eq g h hg hh, hc, Bool.not_false, cond_true]
 · obtain ⟨R, b, k1, k2, k3, k4, k5⟩ := space_core g h lazy hg hh hc
   refine ⟨R, b, k1, ?_, k3, fun hb => ⟨(k4 hb).1, (k4 hb).2, rfl⟩, fun _ => k5⟩
   simp only [fn58, Good2_eq g h hg hh, hc, Bool.not_true, cond_false, k2]
theorem fn90_B0_at (i : Int) (j : Int) (lists : List (List (Int))) (dist : List (Int)) (out : List (Int)) (k : Int) : fn90_B0 ((i, j, lists, dist, out, k, ()), ()) = guardB (inb i (List.length lists)) (guardB (inb k (List.length (List.getD lists (Int.toNat i) ([] : (List Int))))) (guardB (inb (List.getD (List.getD lists (Int.toNat i) ([] : (List Int))) (Int.toNat k) (0 : Int)) (List.length dist)) (guardB (inb i (List.length dist)) (bif ((List.getD dist (Int.toNat (List.getD (List.getD lists (Int.toNat i) ([] : (List Int))) (Int.toNat k) (0 : Int))) (0 : Int)) != (w64 ((List.getD dist (Int.toNat i) (0 : Int)) - (1 : Int)))) then (some (.inl ((i, j, lists, dist, out, (w64 (k + (1 : Int))), ()), ()))) else (some (.inr ((i, j, lists, dist, out, k, ()), ()))))))) := rfl
theorem fn90_B1_at (i : Int) (j : Int) (lists : List (List (Int))) (dist : List (Int)) (out : List (Int)) : fn90_B1 ((i, j, lists, dist, out, ()), ()) = bif (i != j) then (match loopO fn90_B0 ((i, j, lists, dist, out, (0 : Int), ()), ()) with | some ((i2, j2, lists2, dist2, out2, k, ()), ()) => guardB (inb i2 (List.length lists2)) (guardB (inb k (List.length (List.getD lists2 (Int.toNat i2) ([] : (List Int))))) (guardB (decide ((List.length out2 + List.length [(List.getD (List.getD lists2 (Int.toNat i2) ([] : (List Int))) (Int.toNat k) (0 : Int))]) * 8 ≤ 70368744177664)) (some (.inl (((List.getD (List.getD lists2 (Int.toNat i2) ([] : (List Int))) (Int.toNat k) (0 : Int)), j2, lists2, dist2, (out2 ++ [(List.getD (List.getD lists2 (Int.toNat i2) ([] : (List Int))) (Int.toNat k) (0 : Int))]), ()), ()))))) | none => none) else (some (.inr ((out, ()), ()))) := rfl
theorem fn34_B0_at (i : Int) (j : Int) (roads : List (List (Int))) (far : List (Int)) (out : List (Int)) (t31 : List (Int)) (t32 : Int) (t33 : Int) : fn34_B0 ((i, j, roads, far, out, t31, t32, t33, ()), ()) = bif (decide (t33 < t32)) then (guardB (inb t33 (List.length t31)) (guardB (inb (List.getD t31 (Int.toNat t33) (0 : Int)) (List.length far)) (guardB (inb i (List.length far)) (bif ((List.getD far (Int.toNat (List.getD t31 (Int.toNat t33) (0 : Int))) (0 : Int)) == (w64 ((List.getD far (Int.toNat i) (0 : Int)) - (1 : Int)))) then (some (.inr (((List.getD t31 (Int.toNat t33) (0 : Int)), j, roads, far, out, ()), ()))) else (some (.inl ((i, j, roads, far, out, t31, t32, (w64 (t33 + (1 : Int))), ()), ()))))))) else (some (.inr ((i, j, roads, far, out, ()), ()))) := rfl
theorem fn34_B1_at (i : Int) (j : Int) (roads : List (List (Int))) (far : List (Int)) (out : List (Int)) : fn34_B1 ((i, j, roads, far, out, ()), ()) = bif (i != j) then (guardB (inb i (List.length roads)) (match loopO fn34_B0 ((i, j, roads, far, out, (List.getD roads (Int.toNat i) ([] : (List Int))), (List.length (List.getD roads (Int.toNat i) ([] : (List Int))) : Int), (0 : Int), ()), ()) with | some ((i2, j2, roads2, far2, out2, ()), ()) => guardB (decide ((List.length out2 + List.length [i2]) * 8 ≤ 70368744177664)) (some (.inl ((i2, j2, roads2, far2, (out2 ++ [i2]), ()), ()))) | none => none)) else (some (.inr ((out, ()), ()))) := rfl
theorem first_of {P : Nat → Prop} {n : Nat} (h : ∃ k, k < n ∧ P k) : ∃ p, p < n ∧ P p ∧ ∀ q, q < p → ¬ P q := by
 obtain ⟨k, hk, hp⟩ := h
 induction k using Nat.strongRecOn with
 | ind k ih =>
  by_cases g : ∃ q, q < k ∧ P q
  · obtain ⟨q, hq, pq⟩ := g
    exact ih q hq (by omega) pq
  · exact ⟨k, hk, hp, fun q hq pq => g ⟨q, hq, pq⟩⟩
theorem far_back {L : List (List Int)} {n : Nat} (hL : Rds n L) (hs : Symm L) {a i : Int} (h0 : 0 ≤ a) (h : a < n) (hi : 0 ≤ i) (hi' : i < n) (hp : 0 < (far L a).getD i.toNat 0) :
  ∃ k, k < (L.getD i.toNat []).length ∧ (far L a).getD ((L.getD i.toNat []).getD k 0).toNat 0 = (far L a).getD i.toNat 0 - 1 := by
 have hl := hL.1
 obtain ⟨_, _, f3, _, _⟩ := far_facts hL h0 h
 obtain ⟨v, v1, v2, v3, v4, v5⟩ := f3 i hi hi' hp
 obtain ⟨k, hk, e⟩ := List.getElem_of_mem (hs i v hi v1 (by omega) (by omega) v4)
 exact ⟨k, hk, by rw [getD_at hk, e]; omega⟩
def Chn (L : List (List Int)) (R : List Int) : Prop := ∀ k, k + 1 < R.length → R.getD (k + 1) 0 ∈ L.getD (R.getD k 0).toNat []
theorem getD_last {l : List Int} {z : Int} : (l ++ [z]).getD l.length 0 = z := by simp [List.getD]
theorem chn_snoc {L : List (List Int)} {out : List Int} {i w : Int} (hc : Chn L out) (h0 : 0 < out.length) (hl : out.getD (out.length - 1) 0 = i) (hw : w ∈ L.getD i.toNat []) : Chn L (out ++ [w]) := by
 intro k hk
 simp only [List.length_append, List.length_singleton] at hk
 by_cases e : k + 1 < out.length
 · rw [getD_app e, getD_app (by omega)]; exact hc k e
 · have e1 : k + 1 = out.length := by omega
   rw [e1, getD_last, getD_app (by omega), show k = out.length - 1 by omega, hl]
   exact hw
def WayIn (n : Nat) (R : List Int) : Prop := ∀ w ∈ R, 0 ≤ w ∧ w < n
theorem walk_both {L : List (List Int)} {n : Nat} (hL : Rds n L) (hs : Symm L) (hn : n ≤ 1048576) {a : Int} (h0 : 0 ≤ a) (h : a < n) :
  ∀ (m : Nat) (i : Int) (out : List Int), 0 ≤ i → i < n → (far L a).getD i.toNat 0 = (m : Int) → out.length + m ≤ 4194304 → WayIn n out → Chn L out → 0 < out.length → out.getD (out.length - 1) 0 = i → ∃ R : List Int,
   loopO fn90_B1 ((i, a, L, far L a, out, ()), ()) = some ((R, ()), ()) ∧ loopO fn34_B1 ((i, a, L, far L a, out, ()), ()) = some ((R, ()), ()) ∧ WayIn n R ∧ R.length = out.length + m ∧ (∃ t, R = out ++ t) ∧ Chn L R ∧ R.getD (R.length - 1) 0 = a := by
 have hl := hL.1
 obtain ⟨hfl, hfb⟩ := far_bf hL h0 h
 obtain ⟨f1, f2, f3, f4, f5⟩ := far_facts hL h0 h
 intro m
 induction m with
 | zero =>
  intro i out hi hi' hm ho hw hch hpos hlast
  have : i = a := f4 i hi hi' (by simpa using hm)
  subst this
  refine ⟨out, loop_end ?_, loop_end ?_, hw, rfl, ⟨[], by simp⟩, hch, hlast⟩
  · rw [fn90_B1_at, bne_eq rfl]; rfl
  · rw [fn34_B1_at, bne_eq rfl]; rfl
 | succ m ih =>
  intro i out hi hi' hm ho hw hch hpos hlast
  have hia : i ≠ a := fun e => by rw [e, f5] at hm; omega
  have hrow := hL.2 i.toNat (by omega)
  obtain ⟨p, hp, hpe, hpf⟩ := first_of (far_back hL hs h0 h hi hi' (by omega))
  obtain ⟨D, hD⟩ : ∃ D, far L a = D := ⟨_, rfl⟩
  rw [hD] at hfl hfb f1 f2 f3 f4 f5 hm hpe hpf ih ⊢
  obtain ⟨row, hrw⟩ : ∃ row, L.getD i.toNat [] = row := ⟨_, rfl⟩
  rw [hrw] at hp hpe hpf hrow
  have hbi := hfb i.toNat
  have hd1 : w64 (D.getD i.toNat 0 - 1) = D.getD i.toNat 0 - 1 := w64_of (by omega) (by omega)
  have k1 : ∀ d k, k + d = p → loopO fn90_B0 ((i, a, L, D, out, (k : Int), ()), ()) = some ((i, a, L, D, out, (p : Int), ()), ()) := by
   intro d
   induction d with
   | zero =>
    intro k hk
    have : k = p := by omega
    subst this
    have hwn := hrow.2 _ (getD_in hp)
    refine loop_end ?_
    rw [fn90_B0_at]
    simp only [hrw, Int.toNat_natCast]
    rw [guardB_true (inb_true hi (by omega)), guardB_true (by simp [inb] <;> omega), guardB_true (inb_true hwn.1 (by omega)), guardB_true (inb_true hi (by omega)), hd1, bne_eq hpe]
    rfl
   | succ d ih =>
    intro k hk
    have hkl : k < row.length := by omega
    have hwn := hrow.2 _ (getD_in hkl)
    refine loop_step ?_ (ih (k + 1) (by omega))
    rw [fn90_B0_at]
    simp only [hrw, Int.toNat_natCast]
    rw [guardB_true (inb_true hi (by omega)), guardB_true (by simp [inb] <;> omega), guardB_true (inb_true hwn.1 (by omega)), guardB_true (inb_true hi (by omega)), hd1, bne_ne (hpf k (by omega)), w64_succ (by omega)]
    rfl
  have k2 : ∀ d k, k + d = p → loopO fn34_B0 ((i, a, L, D, out, row, (row.length : Int), (k : Int), ()), ()) = some ((row.getD p 0, a, L, D, out, ()), ()) := by
   intro d
   induction d with
   | zero =>
    intro k hk
    have : k = p := by omega
    subst this
    have hwn := hrow.2 _ (getD_in hp)
    refine loop_end ?_
    rw [fn34_B0_at]
    simp only [bif_decide, Int.toNat_natCast]
    rw [if_pos (by omega), guardB_true (by simp [inb] <;> omega), guardB_true (inb_true hwn.1 (by omega)), guardB_true (inb_true hi (by omega)), hd1, beq_eq hpe]
    rfl
   | succ d ih =>
    intro k hk
    have hkl : k < row.length := by omega
    have hwn := hrow.2 _ (getD_in hkl)
    refine loop_step ?_ (ih (k + 1) (by omega))
    rw [fn34_B0_at]
    simp only [bif_decide, Int.toNat_natCast]
    rw [if_pos (by omega), guardB_true (by simp [inb] <;> omega), guardB_true (inb_true hwn.1 (by omega)), guardB_true (inb_true hi (by omega)), hd1, beq_ne (hpf k (by omega)), w64_succ (by omega)]
    rfl
  have hwn := hrow.2 _ (getD_in hp)
  obtain ⟨R, r1, r2, r3, r4, ⟨t, r5⟩, r6, r7⟩ := ih (row.getD p 0) (out ++ [row.getD p 0]) hwn.1 hwn.2 (by omega) (by simp; omega) (fun w hw' => by
   rcases List.mem_append.1 hw' with h | h
   · exact hw w h
   · have : w = row.getD p 0 := by simpa using h
     rw [this]; exact hwn) (chn_snoc hch hpos hlast (by rw [hrw]; exact getD_in hp)) (by simp) (by rw [List.length_append, List.length_singleton, Nat.add_sub_cancel]; exact getD_last)
  refine ⟨R, loop_step ?_ r1, loop_step ?_ r2, r3, by rw [r4]; simp; omega, ⟨row.getD p 0 :: t, by rw [r5]; simp⟩, r6, r7⟩
  · rw [fn90_B1_at, bne_ne hia]
    simp only [cond_true]
    erw [k1 p 0 (by omega)]
    simp only [hrw, Int.toNat_natCast]
    rw [guardB_true (inb_true hi (by omega)), guardB_true (by simp [inb] <;> omega), guardB_true (by simp only [List.length_singleton, decide_eq_true_eq]; omega)]
  · rw [fn34_B1_at, bne_ne hia]
    simp only [cond_true, hrw]
    rw [guardB_true (inb_true hi (by omega))]
    erw [k2 p 0 (by omega)]
    simp only
    rw [guardB_true (by simp only [List.length_singleton, decide_eq_true_eq]; omega)]
theorem ways_eq (y : List (List Int) × List (Int × Int)) (hp : pairsB y.2 y.1.length = true) (hn : y.1.length ≤ 1048576) (h6 : y.2.length ≤ 6000) {i a : Int} (hi : 0 ≤ i) (hi' : i < y.1.length) (h0 : 0 ≤ a) (h : a < y.1.length) :
  ∃ R : List Int, fn90 (y, i, a, ()) () = some ((R, ()), ()) ∧ (∃ b, fn34 (y, i, a, ()) () = some ((R, b, ()), ()) ∧ (b = true ↔ 0 < R.length)) ∧ WayIn y.1.length R ∧ R.length ≤ 2097152 ∧ (0 < R.length ↔ Rch (listsP y.2 y.1.length) a i) ∧ (0 < R.length → Chn (listsP y.2 y.1.length) R ∧ R.getD 0 0 = i ∧ R.getD (R.length - 1) 0 = a) := by
 have hS := pairsB_ok hp
 have hL := rds_lists hS h6
 have hsy := lists_symm hS
 obtain ⟨hfl, hfb⟩ := far_bf hL h0 h
 obtain ⟨f1, f2, f3, f4, f5⟩ := far_facts hL h0 h
 have e1 := l2Lists_eq y hS hn (by omega)
 have e2 := roads_eq y hp hn (by omega)
 by_cases hd : (far (listsP y.2 y.1.length) a).getD i.toNat 0 < 0
 · refine ⟨[], ?_, ⟨false, ?_, by simp⟩, fun w hw => by simp at hw, by simp, ?_, fun e => by simp at e⟩
   · simp only [fn90, e1, spread_spec hL hn h0 h, bif_decide]
     rw [guardB_true (inb_true hi (by omega)), if_pos hd]
   · simp only [fn34, e2, spread_impl hL hn h0 h, bif_decide]
     rw [guardB_true (inb_true hi (by omega)), if_pos hd]
   · have := f2 i hi hi'
     constructor
     · intro e; simp at e
     · intro e; have := this.2 e; omega
 · have hb := hfb i.toNat
   obtain ⟨R, r1, r2, r3, r4, ⟨t, r5⟩, r6, r7⟩ := walk_both hL hsy hn h0 h ((far (listsP y.2 y.1.length) a).getD i.toNat 0).toNat i [i] hi hi' (by omega) (by simp only [List.length_singleton]; omega) (fun w hw => by
    have : w = i := by simpa using hw
    subst this; exact ⟨hi, hi'⟩) (fun k hk => by simp at hk) (by simp) (by simp)
   have hR : 0 < R.length := by rw [r4]; simp only [List.length_singleton]; omega
   refine ⟨R, ?_, ⟨true, ?_, by simp [hR]⟩, r3, by rw [r4]; simp only [List.length_singleton]; omega, ?_, fun _ => ⟨r6, by rw [r5]; rfl, r7⟩⟩
   · simp only [fn90, e1, spread_spec hL hn h0 h, bif_decide]
     rw [guardB_true (inb_true hi (by omega)), if_neg hd]
     erw [r1]
   · simp only [fn34, e2, spread_impl hL hn h0 h, bif_decide]
     rw [guardB_true (inb_true hi (by omega)), if_neg hd]
     erw [r2]
   · exact ⟨fun _ => (f2 i hi hi').1 (by omega), fun _ => hR⟩
theorem fn4_B0_at (x : List (List (Int))) (target : List (Int)) (n : Int) (i : Int) (j : Int) : fn4_B0 ((x, target, n, i, j, ()), ()) = bif (decide (i < j)) then (guardB (inb (w64 (Int.fdiv (IntKind.wrap .u64 (w64 (i + j))) (2 ^ (min 1 64)))) (List.length x)) (match fn23 ((List.getD x (Int.toNat (w64 (Int.fdiv (IntKind.wrap .u64 (w64 (i + j))) (2 ^ (min 1 64))))) ([] : (List Int))), target, ()) () with | some ((r, ()), ()) => (bif (decide (r < (0 : Int))) then (some (.inl ((x, target, n, (w64 ((w64 (Int.fdiv (IntKind.wrap .u64 (w64 (i + j))) (2 ^ (min 1 64)))) + (1 : Int))), j, ()), ()))) else (some (.inl ((x, target, n, i, (w64 (Int.fdiv (IntKind.wrap .u64 (w64 (i + j))) (2 ^ (min 1 64)))), ()), ())))) | none => none)) else (some (.inr ((x, target, n, i, ()), ()))) := rfl
theorem fn86_B0_at (a : List (Int)) (b : List (Int)) (i : Int) : fn86_B0 ((a, b, i, ()), ()) = bif (decide (i < (List.length a : Int))) then (guardB (inb i (List.length a)) (guardB (inb i (List.length b)) (bif ((List.getD a (Int.toNat i) (0 : Int)) != (List.getD b (Int.toNat i) (0 : Int))) then (some (.inr (.inl ((false, ()), ())))) else (some (.inl ((a, b, (w64 (i + (1 : Int))), ()), ())))))) else (some (.inr (.inr ((), ())))) := rfl
theorem fn69_B0_at (state : List (Int)) (x : (List (List (Int))) × (List ((Int) × (Int)))) (i : Int) : fn69_B0 ((state, x, i, ()), ()) = bif (decide (i < (List.length x.1 : Int))) then (guardB (inb i (List.length x.1)) (match fn86 ((List.getD x.1 (Int.toNat i) ([] : (List Int))), state, ()) () with | some ((r, ()), ()) => (bif r then (some (.inr (.inl ((i, ()), ())))) else (some (.inl ((state, x, (w64 (i + (1 : Int))), ()), ())))) | none => none)) else (some (.inr (.inr ((), ())))) := rfl
theorem lex_cmp : ∀ a b : List Int, lexCmp a b = cmpRows a b
 | [], [] => rfl
 | [], _ :: _ => rfl
 | _ :: _, [] => rfl
 | x :: a, y :: b => by simp only [lexCmp, cmpRows, lex_cmp a b]
def cntRow (t : List Int) : List (List Int) → Nat
 | [] => 0
 | r :: A => if cmpRows r t < 0 then cntRow t A + 1 else 0
theorem cntRow_le (t : List Int) : ∀ A : List (List Int), cntRow t A ≤ A.length
 | [] => Nat.le_refl _
 | r :: A => by
  have := cntRow_le t A
  simp only [cntRow, List.length_cons]
  split <;> omega
theorem cmp_lt_trans {a b c : List Int} (h1 : cmpRows a b < 0) (h2 : cmpRows b c ≤ 0) : cmpRows a c < 0 := by
 have t := cmpRows_trans a b c (by omega) h2
 rcases Int.lt_or_eq_of_le t.1 with h | h
 · exact h
 · have := (t.2 h).1; omega
theorem cntRow_split {A : List (List Int)} (hs : A.Pairwise fun a b => cmpRows a b < 0) (t : List Int) : ∀ i, i < A.length → (cmpRows (A.getD i []) t < 0 ↔ i < cntRow t A) := by
 induction A with
 | nil => intro i hi; simp at hi
 | cons r A ih =>
  obtain ⟨h1, h2⟩ := List.pairwise_cons.1 hs
  intro i hi
  simp only [cntRow]
  by_cases h : cmpRows r t < 0
  · rw [if_pos h]
    cases i with
    | zero => simp [h]
    | succ i =>
     have := ih h2 i (by simpa using hi)
     simp only [List.getD_cons_succ]
     rw [this]; omega
  · rw [if_neg h]
    cases i with
    | zero => simp [h]
    | succ i =>
     have hi' : i < A.length := by simpa using hi
     simp only [List.getD_cons_succ]
     refine ⟨fun e => ?_, fun e => by omega⟩
     have hm := h1 (A.getD i []) (by rw [getD_at hi']; exact List.getElem_mem hi')
     exact absurd (cmp_lt_trans hm (by omega)) h
theorem half_row {i j : Nat} (h : i + j < 4611686018427387904) : w64 (Int.fdiv (IntKind.wrap .u64 (w64 ((i : Int) + (j : Int)))) (2 ^ (min 1 64))) = (((i + j) / 2 : Nat) : Int) := half_eq h
theorem place_loop {A : List (List Int)} (hs : A.Pairwise fun a b => cmpRows a b < 0) (hl : A.length ≤ 1048576) (hr : ∀ a ∈ A, a.length ≤ 1048576) (t : List Int) : ∀ (d i j : Nat), j - i ≤ d → i ≤ cntRow t A → cntRow t A ≤ j → j ≤ A.length →
  loopO fn4_B0 ((A, t, (A.length : Int), (i : Int), (j : Int), ()), ()) = some ((A, t, (A.length : Int), ((cntRow t A : Nat) : Int), ()), ()) := by
 intro d
 induction d with
 | zero =>
  intro i j hd h1 h2 h3
  refine loop_end ?_
  rw [fn4_B0_at]
  simp only [bif_decide]
  rw [if_neg (by omega), show i = cntRow t A by omega]
 | succ d ih =>
  intro i j hd h1 h2 h3
  by_cases hij : i < j
  · have hh : (i + j) / 2 < A.length := by omega
    have hp := cntRow_split hs t ((i + j) / 2) hh
    have step : fn4_B0 ((A, t, (A.length : Int), (i : Int), (j : Int), ()), ()) = some (.inl (if cmpRows (A.getD ((i + j) / 2) []) t < 0 then ((A, t, (A.length : Int), (((i + j) / 2 + 1 : Nat) : Int), (j : Int), ()), ()) else ((A, t, (A.length : Int), (i : Int), (((i + j) / 2 : Nat) : Int), ()), ()))) := by
     rw [fn4_B0_at]
     simp only [bif_decide, half_row (show i + j < 4611686018427387904 by omega), Int.toNat_natCast, w64_succ (show (i + j) / 2 < 4611686018427387904 by omega)]
     rw [if_pos (by omega), guardB_true (by simp [inb] <;> omega), Compare_eq _ _ (by rw [getD_at hh]; exact hr _ (List.getElem_mem hh)), lex_cmp]
     simp only
     by_cases h : cmpRows (A.getD ((i + j) / 2) []) t < 0
     · rw [if_pos h, if_pos h]
     · rw [if_neg h, if_neg h]
    by_cases h : cmpRows (A.getD ((i + j) / 2) []) t < 0
    · rw [if_pos h] at step
      exact loop_step step (ih _ _ (by omega) (by have := hp.1 h; omega) h2 h3)
    · rw [if_neg h] at step
      exact loop_step step (ih _ _ (by omega) h1 (by have := fun e => h (hp.2 e); omega) (by omega))
  · refine loop_end ?_
    rw [fn4_B0_at]
    simp only [bif_decide]
    rw [if_neg (by omega), show i = cntRow t A by omega]
theorem cntRow_mem {A : List (List Int)} (hs : A.Pairwise fun a b => cmpRows a b < 0) {t : List Int} (h : t ∈ A) : cntRow t A < A.length ∧ A.getD (cntRow t A) [] = t := by
 obtain ⟨i, hi, rfl⟩ := List.getElem_of_mem h
 have h1 := cntRow_split hs A[i] i hi
 rw [getD_at hi, cmpRows_self] at h1
 have h2 : cntRow A[i] A ≤ i := by
  rcases Nat.lt_or_ge i (cntRow A[i] A) with g | g
  · have := h1.2 g; omega
  · exact g
 have h3 : ¬ cntRow A[i] A < i := by
  intro h4
  have h5 := List.pairwise_iff_getElem.1 hs (cntRow A[i] A) i (by omega) hi h4
  have h6 := cntRow_split hs A[i] (cntRow A[i] A) (by omega)
  rw [getD_at (by omega)] at h6
  have := h6.1 h5
  omega
 have h4 : cntRow A[i] A = i := by omega
 rw [h4]
 exact ⟨hi, getD_at hi []⟩
theorem place_in (x : List (List Int) × List (Int × Int)) (hs : x.1.Pairwise fun a b => cmpRows a b < 0) (hl : x.1.length ≤ 1048576) (hr : ∀ a ∈ x.1, a.length ≤ 1048576) {t : List Int} (h : t ∈ x.1) : fn41 (x, t, ()) () = some ((((cntRow t x.1 : Nat) : Int), true, ()), ()) := by
 obtain ⟨m1, m2⟩ := cntRow_mem hs h
 have key := place_loop hs hl hr t x.1.length 0 x.1.length (by omega) (Nat.zero_le _) (cntRow_le t _) (Nat.le_refl _)
 simp only [fn41, fn4]
 erw [key]
 simp only [bif_decide, Int.toNat_natCast]
 rw [if_pos (show ((cntRow t x.1 : Nat) : Int) < (x.1.length : Int) by omega), guardB_true (by simp [inb] <;> omega), Compare_eq _ _ (by rw [m2]; exact hr _ h), m2, lex_cmp, cmpRows_self]
 rfl
theorem Same_eq (a b : List Int) (ha : a.length ≤ 1048576) : fn86 (a, b, ()) () = some ((decide (a = b), ()), ()) := by
 simp only [fn86]
 by_cases hl : a.length = b.length
 · rw [bne_eq (by omega)]
   simp only [cond_false]
   have key := loop_all (B := fn86_B0) (fun i => ((a, b, (i : Int), ()), ())) (fun i => decide (a.getD i 0 = b.getD i 0)) a.length (.inl ((false, ()), ())) (.inr ((), ())) (fun i hi _ => by
    rw [fn86_B0_at]
    simp only [bif_decide, Int.toNat_natCast]
    rw [if_pos (by omega), guardB_true (inb_true (by omega) (by omega)), guardB_true (inb_true (by omega) (by omega)), w64_succ (show i < 4611686018427387904 by omega)]
    by_cases h : a.getD i 0 = b.getD i 0
    · rw [bne_eq h, if_pos h]; rfl
    · rw [bne_ne h, if_neg h]; rfl) (by rw [fn86_B0_at]; simp)
   have e : (allUpto (fun i => decide (a.getD i 0 = b.getD i 0)) a.length) = decide (a = b) := by
    rw [Bool.eq_iff_iff, allUpto_iff, decide_eq_true_eq]
    constructor
    · intro h
      apply List.ext_getElem hl
      intro i h1 h2
      have := h i h1
      rw [decide_eq_true_eq, getD_at h1, getD_at h2] at this
      exact this
    · rintro rfl i hi
      exact decide_eq_true rfl
   rw [e] at key
   erw [key]
   by_cases h : a = b
   · rw [decide_eq_true h]; rfl
   · rw [decide_eq_false h]; rfl
 · rw [bne_ne (by omega), decide_eq_false (fun e => hl (by rw [e]))]
   rfl
theorem Index_in (x : List (List Int) × List (Int × Int)) (hs : x.1.Pairwise fun a b => cmpRows a b < 0) (hl : x.1.length ≤ 1048576) (hr : ∀ a ∈ x.1, a.length ≤ 1048576) {t : List Int} (h : t ∈ x.1) : fn69 (x, t, ()) () = some ((((cntRow t x.1 : Nat) : Int), ()), ()) := by
 obtain ⟨m1, m2⟩ := cntRow_mem hs h
 have key : ∀ d k : Nat, k + d = cntRow t x.1 → loopO fn69_B0 ((t, x, (k : Int), ()), ()) = some (.inl ((((cntRow t x.1 : Nat) : Int), ()), ())) := by
  intro d
  induction d with
  | zero =>
   intro k hk
   have hk' : k = cntRow t x.1 := by omega
   refine loop_end ?_
   rw [fn69_B0_at]
   simp only [bif_decide, Int.toNat_natCast]
   rw [if_pos (by omega), guardB_true (inb_true (by omega) (by omega)), hk', m2, Same_eq _ _ (hr _ h), decide_eq_true rfl]
   rfl
  | succ d ih =>
   intro k hk
   have hk' : k < x.1.length := by omega
   refine loop_step ?_ (ih (k + 1) (by omega))
   have hlt := (cntRow_split hs t k hk').2 (by omega)
   rw [fn69_B0_at]
   simp only [bif_decide, Int.toNat_natCast]
   rw [if_pos (by omega), guardB_true (inb_true (by omega) (by omega)), Same_eq _ _ (by rw [getD_at hk']; exact hr _ (List.getElem_mem hk')), decide_eq_false (fun e => by rw [e, cmpRows_self] at hlt; omega), w64_succ (show k < 4611686018427387904 by omega)]
   rfl
 simp only [fn69]
 have := key (cntRow t x.1) 0 (by omega)
 erw [this]
theorem fn84_B0_at (list : List (Int)) (lazy : Bool) (g : (Int) × (List ((Int) × (Int)))) (h : (Int) × (List ((Int) × (Int)))) (x : Int) : fn84_B0 ((list, lazy, g, h, x, ()), ()) = bif (decide (x < (List.length list : Int))) then (guardB (inb x (List.length list)) (match fn100 ((List.getD list (Int.toNat x) (0 : Int)), (0 : Int), (w64 (h.1 - (1 : Int))), ()) () with | some ((r, ()), ()) => (bif (!r) then (some (.inr (.inl ((false, ()), ())))) else (some (.inl ((list, lazy, g, h, (w64 (x + (1 : Int))), ()), ())))) | none => none)) else (some (.inr (.inr ((list, lazy, g, h, ()), ())))) := rfl
theorem fn84_B1_at (list : List (Int)) (lazy : Bool) (g : (Int) × (List ((Int) × (Int)))) (h : (Int) × (List ((Int) × (Int)))) (i : Int) : fn84_B1 ((list, lazy, g, h, i, ()), ()) = bif (decide (i < (List.length g.2 : Int))) then (guardB (inb i (List.length g.2)) (guardB (inb ((List.getD g.2 (Int.toNat i) ((0 : Int), (0 : Int))).1) (List.length list)) (guardB (inb i (List.length g.2)) (guardB (inb ((List.getD g.2 (Int.toNat i) ((0 : Int), (0 : Int))).2) (List.length list)) (match fn66 (h, (List.getD list (Int.toNat ((List.getD g.2 (Int.toNat i) ((0 : Int), (0 : Int))).1)) (0 : Int)), (List.getD list (Int.toNat ((List.getD g.2 (Int.toNat i) ((0 : Int), (0 : Int))).2)) (0 : Int)), lazy, ()) () with | some ((r, ()), ()) => (bif (!r) then (some (.inr (.inl ((false, ()), ())))) else (some (.inl ((list, lazy, g, h, (w64 (i + (1 : Int))), ()), ())))) | none => none))))) else (some (.inr (.inr ((), ())))) := rfl
theorem fn9_B0_at (s : List (Int)) (t7 : Int) (t8 : Int) (o0 : (Int) × (List ((Int) × (Int)))) : fn9_B0 ((s, t7, t8, ()), (o0, ())) = bif (decide (t8 < t7)) then (guardB (inb t8 (List.length s)) (match fn46 ((List.getD s (Int.toNat t8) (0 : Int)), o0, ()) () with | some ((r, ()), ()) => (bif r then (some (.inr (.inl ((t8, ()), (o0, ()))))) else (some (.inl ((s, t7, (w64 (t8 + (1 : Int))), ()), (o0, ()))))) | none => none)) else (some (.inr (.inr ((), (o0, ()))))) := rfl
theorem fn7_B0_at (s : List ((Int) × (Int))) (t7 : Int) (t8 : Int) (o0 : (Int) × (List ((Int) × (Int)))) (o1 : List (Int)) (o2 : Bool) : fn7_B0 ((s, t7, t8, ()), (o0, o1, o2, ())) = bif (decide (t8 < t7)) then (guardB (inb t8 (List.length s)) (match fn38 ((List.getD s (Int.toNat t8) ((0 : Int), (0 : Int))), o0, o1, o2, ()) () with | some ((r, ()), ()) => (bif r then (some (.inr (.inl ((t8, ()), (o0, o1, o2, ()))))) else (some (.inl ((s, t7, (w64 (t8 + (1 : Int))), ()), (o0, o1, o2, ()))))) | none => none)) else (some (.inr (.inr ((), (o0, o1, o2, ()))))) := rfl
def okEdge (T : List (Int × Int)) (lazy : Bool) (l : List Int) (e : Int × Int) : Bool := fitB T lazy (l.getD e.1.toNat 0) (l.getD e.2.toNat 0)
def mapB (g h : Int × List (Int × Int)) (l : List Int) (lazy : Bool) : Bool := decide ((l.length : Int) = g.1) && (allUpto (fun i => inR (l.getD i 0) 0 (h.1 - 1)) l.length && allUpto (fun i => okEdge h.2 lazy l (g.2.getD i (0, 0))) g.2.length)
theorem l10Map_eq (g h : Int × List (Int × Int)) (l : List Int) (lazy : Bool) {n m : Nat} (hg1 : g.1 = n) (hn : n ≤ 8) (hh1 : h.1 = m) (hm : m ≤ 8) (hgp : pairsB g.2 n = true) (hg : g.2.length ≤ 1048576) (hh : h.2.length ≤ 1048576) (hl : l.length ≤ 1048576) : fn84 (g, h, l, lazy, ()) () = some ((mapB g h l lazy, ()), ()) := by
 have k1 := loop_all (B := fn84_B0) (fun i => ((l, lazy, g, h, (i : Int), ()), ())) (fun i => inR (l.getD i 0) 0 (h.1 - 1)) l.length (.inl ((false, ()), ())) (.inr ((l, lazy, g, h, ()), ())) (fun i hi _ => by
  rw [fn84_B0_at]
  simp only [bif_decide, Int.toNat_natCast, w64_of (x := h.1 - 1) (by omega) (by omega), l1In_eq _ _ _]
  rw [if_pos (by omega), guardB_true (inb_true (by omega) (by omega)), w64_succ (show i < 4611686018427387904 by omega)]
  cases inR (l.getD i 0) 0 (h.1 - 1) <;> rfl) (by rw [fn84_B0_at]; simp)
 simp only [fn84, mapB]
 erw [k1]
 cases ha : allUpto (fun i => inR (l.getD i 0) 0 (h.1 - 1)) l.length
 · simp only [cond_false, Bool.false_and, Bool.and_false]
 · simp only [cond_true, Bool.true_and]
   by_cases hlen : (l.length : Int) = g.1
   · rw [bne_eq hlen, decide_eq_true hlen]
     simp only [cond_false, Bool.true_and]
     have k2 := loop_all (B := fn84_B1) (fun i => ((l, lazy, g, h, (i : Int), ()), ())) (fun i => okEdge h.2 lazy l (g.2.getD i (0, 0))) g.2.length (.inl ((false, ()), ())) (.inr ((), ())) (fun i hi _ => by
      have hp := pairsB_at hgp i hi
      simp only [pairB, Bool.and_eq_true, decide_eq_true_eq] at hp
      rw [fn84_B1_at]
      simp only [bif_decide, Int.toNat_natCast]
      rw [if_pos (by omega), guardB_true (inb_true (by omega) (by omega)), guardB_true (inb_true (by omega) (by omega)), guardB_true (inb_true (by omega) (by omega)), guardB_true (inb_true (by omega) (by omega)), Fits_eq h _ _ lazy hh, w64_succ (show i < 4611686018427387904 by omega)]
      simp only [okEdge]
      cases fitB h.2 lazy (l.getD (g.2.getD i (0, 0)).1.toNat 0) (l.getD (g.2.getD i (0, 0)).2.toNat 0) <;> rfl) (by rw [fn84_B1_at]; simp)
     erw [k2]
     cases allUpto (fun i => okEdge h.2 lazy l (g.2.getD i (0, 0))) g.2.length <;> rfl
   · rw [bne_ne hlen, decide_eq_false hlen]
     rfl
theorem isFit_map (h : Int × List (Int × Int)) {m : Nat} (hp : pairsB h.2 m = true) (a b : Int) (lazy : Bool) (hl : h.2.length ≤ 1048576) : fn40 (h, a, b, lazy, ()) () = some ((fitB h.2 lazy a b, ()), ()) := by
 simp only [fn40, has_eq h hp a b hl, fitB]
 cases nearB h.2 a b
 · cases lazy
   · rfl
   · by_cases e : a = b
     · simp only [cond_false, cond_true, beq_eq e, decide_eq_true e]; rfl
     · simp only [cond_false, cond_true, beq_ne e, decide_eq_false e]; rfl
 · rfl
theorem isMap_eq (g h : Int × List (Int × Int)) (l : List Int) (lazy : Bool) {n m : Nat} (hg1 : g.1 = n) (hn : n ≤ 8) (hh1 : h.1 = m) (hm : m ≤ 8) (hgp : pairsB g.2 n = true) (hhp : pairsB h.2 m = true) (hg : g.2.length ≤ 1048576) (hh : h.2.length ≤ 1048576) (hl : l.length ≤ 1048576) : fn94 (g, h, l, lazy, ()) () = some ((mapB g h l lazy, ()), ()) := by
 simp only [fn94, mapB]
 by_cases hlen : (l.length : Int) = g.1
 · rw [bne_eq hlen, decide_eq_true hlen]
   simp only [cond_false, Bool.true_and]
   have q1 : ∀ x : Int, fn46 (x, h, ()) () = some (((!inR x 0 (h.1 - 1)), ()), ()) := fun x => by
    simp only [fn46, w64_of (x := h.1 - 1) (by omega) (by omega), between_eq _ _ _]
   have key := loop_idx (B := fn9_B0) (fun i => ((l, (l.length : Int), (i : Int), ()), (h, ()))) (fun i => !inR (l.getD i 0) 0 (h.1 - 1)) l.length (fun i => .inl ((i, ()), (h, ()))) (.inr ((), (h, ()))) (fun i hi => by
    rw [fn9_B0_at]
    simp only [bif_decide, if_pos (show (i : Int) < (l.length : Int) by omega), guardB_true (inb_true (Int.natCast_nonneg i) (show (i : Int) < (l.length : Int) by omega)), Int.toNat_natCast, q1, w64_succ (show i < 4611686018427387904 by omega)]
    cases inR (l.getD i 0) 0 (h.1 - 1) <;> rfl) (by rw [fn9_B0_at]; simp)
   have k2 : fn9 (l, ()) (h, ()) = some ((firstIdx (fun i => !inR (l.getD i 0) 0 (h.1 - 1)) 0 l.length, ()), (h, ())) := by
    simp only [fn9]
    erw [key]
    by_cases h0 : firstIdx (fun i => !inR (l.getD i 0) 0 (h.1 - 1)) 0 l.length < 0
    · rw [if_pos h0, firstIdx_range _ _ h0]
    · rw [if_neg h0]
   have e : allUpto (fun i => !!inR (l.getD (0 + i) 0) 0 (h.1 - 1)) l.length = allUpto (fun i => inR (l.getD i 0) 0 (h.1 - 1)) l.length := by
    congr 1; funext i; simp
   simp only [fn8, k2, firstIdx_neg, e]
   cases ha : allUpto (fun i => inR (l.getD i 0) 0 (h.1 - 1)) l.length
   · simp only [Bool.not_false, cond_true, Bool.false_and]
   · simp only [Bool.not_true, cond_false, Bool.true_and]
     have q2 : ∀ i, i < g.2.length → fn38 (g.2.getD i (0, 0), h, l, lazy, ()) () = some (((!okEdge h.2 lazy l (g.2.getD i (0, 0))), ()), ()) := fun i hi => by
      have hp := pairsB_at hgp i hi
      simp only [pairB, Bool.and_eq_true, decide_eq_true_eq] at hp
      simp only [fn38, isFit_map h hhp _ _ lazy hh, okEdge]
      rw [guardB_true (inb_true (by omega) (by omega)), guardB_true (inb_true (by omega) (by omega))]
     have key2 := loop_idx (B := fn7_B0) (fun i => ((g.2, (g.2.length : Int), (i : Int), ()), (h, l, lazy, ()))) (fun i => !okEdge h.2 lazy l (g.2.getD i (0, 0))) g.2.length (fun i => .inl ((i, ()), (h, l, lazy, ()))) (.inr ((), (h, l, lazy, ()))) (fun i hi => by
      rw [fn7_B0_at]
      simp only [bif_decide, if_pos (show (i : Int) < (g.2.length : Int) by omega), guardB_true (inb_true (Int.natCast_nonneg i) (show (i : Int) < (g.2.length : Int) by omega)), Int.toNat_natCast, q2 i hi, w64_succ (show i < 4611686018427387904 by omega)]
      cases okEdge h.2 lazy l (g.2.getD i (0, 0)) <;> rfl) (by rw [fn7_B0_at]; simp)
     have k3 : fn7 (g.2, ()) (h, l, lazy, ()) = some ((firstIdx (fun i => !okEdge h.2 lazy l (g.2.getD i (0, 0))) 0 g.2.length, ()), (h, l, lazy, ())) := by
      simp only [fn7]
      erw [key2]
      by_cases h0 : firstIdx (fun i => !okEdge h.2 lazy l (g.2.getD i (0, 0))) 0 g.2.length < 0
      · rw [if_pos h0, firstIdx_range _ _ h0]
      · rw [if_neg h0]
     have e2 : allUpto (fun i => !!okEdge h.2 lazy l (g.2.getD (0 + i) (0, 0))) g.2.length = allUpto (fun i => okEdge h.2 lazy l (g.2.getD i (0, 0))) g.2.length := by
      congr 1; funext i; simp
     simp only [fn6, k3, firstIdx_neg, Bool.not_not, Nat.zero_add]
 · rw [bne_ne hlen, decide_eq_false hlen]
   rfl
theorem flatFrom_in {f : Nat → List (List Int)} {a : List Int} {v : Nat} (h : a ∈ f v) : ∀ {d k : Nat}, k ≤ v → v < k + d → a ∈ flatFrom f k d
 | 0, k, h1, h2 => by omega
 | d + 1, k, h1, h2 => by
  simp only [flatFrom, List.mem_append]
  by_cases e : k = v
  · subst e; exact .inl h
  · exact .inr (flatFrom_in h (by omega) (by omega))
theorem full_in (S T : List (Int × Int)) (lazy : Bool) {m : Nat} {a : List Int} (hv : ∀ i, i < a.length → 0 ≤ a.getD i 0 ∧ a.getD i 0 < m) (hok : ∀ x, x < a.length → ∀ k, k < x → nearB S (k : Int) (x : Int) = true → fitB T lazy (a.getD k 0) (a.getD x 0) = true) : ∀ (d : Nat) (l : List Int), l.length + d = a.length → a.take l.length = l → a ∈ full S T lazy m d l
 | 0, l, h1, h2 => by
  simp only [full, List.mem_singleton]
  rw [← h2, List.take_of_length_le (by omega)]
 | d + 1, l, h1, h2 => by
  have hx : l.length < a.length := by omega
  have hr := hv l.length hx
  simp only [full]
  refine flatFrom_in (v := (a.getD l.length 0).toNat) ?_ (Nat.zero_le _) (by omega)
  have hcast : (((a.getD l.length 0).toNat : Nat) : Int) = a.getD l.length 0 := by omega
  rw [hcast]
  have hall : allFrom (okOne S T lazy l l.length (a.getD l.length 0)) 0 l.length = true := allFrom_iff.2 fun k _ hk => by
   simp only [okOne]
   cases hn : nearB S (k : Int) (l.length : Int)
   · rfl
   · have := hok l.length hx k (by omega) hn
     have e : l.getD k 0 = a.getD k 0 := by
      have := congrArg (fun b : List Int => b.getD k 0) h2
      simp only [List.getD_eq_getElem?_getD, List.getElem?_take_of_lt (show k < l.length by omega)] at this ⊢
      exact this.symm
     rw [e, this]
     rfl
  rw [if_pos hall]
  refine full_in S T lazy hv hok d _ (by simp; omega) ?_
  rw [List.length_append, List.length_singleton, List.take_succ_eq_append_getElem hx, h2, getD_at hx]
theorem mapB_in (g h : Int × List (Int × Int)) (l : List Int) (lazy : Bool) {n m : Nat} (hg1 : g.1 = n) (hh1 : h.1 = m) (hb : mapB g h l lazy = true) : l ∈ full g.2 h.2 lazy m n [] := by
 simp only [mapB, Bool.and_eq_true, decide_eq_true_eq, allUpto_iff] at hb
 obtain ⟨b1, b2, b3⟩ := hb
 refine full_in g.2 h.2 lazy (fun i hi => ?_) (fun x hx k hk hn => ?_) n [] (by simp; omega) (by simp)
 · have := b2 i hi
   simp only [inR, Bool.and_eq_true, decide_eq_true_eq] at this
   omega
 · rcases nearB_iff.1 hn with hm | hm
   · obtain ⟨i, hi, he⟩ := List.getElem_of_mem hm
     have := b3 i hi
     simp only [okEdge, getD_at hi, he, Int.toNat_natCast] at this
     exact this
   · obtain ⟨i, hi, he⟩ := List.getElem_of_mem hm
     have := b3 i hi
     simp only [okEdge, getD_at hi, he, Int.toNat_natCast] at this
     rw [fitB_symm]
     exact this
theorem fn72_B0_at (walk : List (Int)) (x : (List (List (Int))) × (List ((Int) × (Int)))) (out : List (List (Int))) (i : Int) : fn72_B0 ((walk, x, out, i, ()), ()) = bif (decide (i < (List.length walk : Int))) then (guardB (inb i (List.length walk)) (guardB (inb (List.getD walk (Int.toNat i) (0 : Int)) (List.length x.1)) (match fn97 ((List.getD x.1 (Int.toNat (List.getD walk (Int.toNat i) (0 : Int))) ([] : (List Int))), ()) () with | some ((r, ()), ()) => guardB (decide ((List.length out + List.length [r]) * 24 ≤ 70368744177664)) (some (.inl ((walk, x, (out ++ [r]), (w64 (i + (1 : Int))), ()), ()))) | none => none))) else (some (.inr ((out, ()), ()))) := rfl
theorem fn45_B0_at (x : (List (List (Int))) × (List ((Int) × (Int)))) (ok : Bool) (out : List (List (Int))) (t43 : List (Int)) (t44 : Int) (t45 : Int) : fn45_B0 ((x, ok, out, t43, t44, t45, ()), ()) = bif (decide (t45 < t44)) then (guardB (inb t45 (List.length t43)) (guardB (inb (List.getD t43 (Int.toNat t45) (0 : Int)) (List.length x.1)) (match slices_Clone_int_int ((List.getD x.1 (Int.toNat (List.getD t43 (Int.toNat t45) (0 : Int))) ([] : (List Int))), ()) () with | some ((r, ()), ()) => guardB (decide ((List.length out + List.length [r]) * 24 ≤ 70368744177664)) (some (.inl ((x, ok, (out ++ [r]), t43, t44, (w64 (t45 + (1 : Int))), ()), ()))) | none => none))) else (some (.inr ((ok, out, ()), ()))) := rfl
theorem rowSteps_mem {i : Nat} {a : List Int} : ∀ {L : List (List Int)} {k : Nat} {e : Int × Int}, e ∈ rowSteps i a k L → e.1 = i ∧ (k : Int) ≤ e.2 ∧ e.2 < k + L.length
 | [], k, e, h => by simp [rowSteps] at h
 | b :: L, k, e, h => by
  simp only [rowSteps] at h
  have ih := fun h => rowSteps_mem (i := i) (a := a) (L := L) (k := k + 1) (e := e) h
  simp only [List.length_cons]
  split at h
  · rcases List.mem_cons.1 h with h | h
    · subst h; exact ⟨rfl, by simp, by simp; omega⟩
    · have := ih h; omega
  · have := ih h; omega
theorem rowSteps_pw {i : Nat} {a : List Int} : ∀ (L : List (List Int)) (k : Nat), (rowSteps i a k L).Pairwise fun x y => edgeB x y = true
 | [], k => by simp [rowSteps]
 | b :: L, k => by
  have ih := rowSteps_pw (i := i) (a := a) L (k + 1)
  simp only [rowSteps]
  split
  · refine List.pairwise_cons.2 ⟨fun e he => ?_, ih⟩
    have := rowSteps_mem he
    simp only [edgeB, Bool.or_eq_true, Bool.and_eq_true, decide_eq_true_eq]
    omega
  · exact ih
theorem allSteps_mem : ∀ {L : List (List Int)} {i : Nat} {e : Int × Int}, e ∈ allSteps i L → (i : Int) ≤ e.1 ∧ e.1 < e.2 ∧ e.2 < i + L.length
 | [], i, e, h => by simp [allSteps] at h
 | a :: L, i, e, h => by
  simp only [allSteps, List.mem_append] at h
  simp only [List.length_cons]
  rcases h with h | h
  · have := rowSteps_mem h; omega
  · have := allSteps_mem h; omega
theorem allSteps_pw : ∀ (L : List (List Int)) (i : Nat), (allSteps i L).Pairwise fun x y => edgeB x y = true
 | [], i => by simp [allSteps]
 | a :: L, i => by
  simp only [allSteps]
  refine List.pairwise_append.2 ⟨rowSteps_pw L (i + 1), allSteps_pw L (i + 1), fun x hx y hy => ?_⟩
  have h1 := rowSteps_mem hx
  have h2 := allSteps_mem hy
  simp only [edgeB, Bool.or_eq_true, Bool.and_eq_true, decide_eq_true_eq]
  omega
theorem allSteps_ok (L : List (List Int)) : pairsB (allSteps 0 L) L.length = true := by
 simp only [pairsB, allUpto_iff]
 intro i hi
 have h1 := allSteps_mem (List.getElem_mem hi)
 simp only [pairB, getD_at hi, Bool.and_eq_true, decide_eq_true_eq, Bool.or_eq_true]
 refine ⟨by omega, by omega, by omega, ?_⟩
 by_cases h0 : i = 0
 · exact .inl h0
 · refine .inr ?_
   rw [getD_at (show i - 1 < (allSteps 0 L).length by omega)]
   exact List.pairwise_iff_getElem.1 (allSteps_pw L 0) (i - 1) i (by omega) hi (by omega)
theorem Named_eq (x : List (List Int) × List (Int × Int)) (w : List Int) (hr : ∀ a ∈ x.1, a.length ≤ 1048576) (hw : ∀ v ∈ w, 0 ≤ v ∧ v < x.1.length) (hl : w.length ≤ 2097152) : fn72 (x, w, ()) () = some ((w.map (fun v => x.1.getD v.toNat []), ()), ()) := by
 have key : ∀ d k : Nat, k + d = w.length → loopO fn72_B0 ((w, x, (w.take k).map (fun v => x.1.getD v.toNat []), (k : Int), ()), ()) = some ((w.map (fun v => x.1.getD v.toNat []), ()), ()) := by
  intro d
  induction d with
  | zero =>
   intro k hk
   refine loop_end ?_
   rw [fn72_B0_at]
   simp only [bif_decide]
   rw [if_neg (by omega), List.take_of_length_le (by omega)]
  | succ d ih =>
   intro k hk
   have hk' : k < w.length := by omega
   refine loop_step ?_ (ih (k + 1) (by omega))
   have hv := hw _ (List.getElem_mem hk')
   have hv' : w[k].toNat < x.1.length := by omega
   rw [fn72_B0_at]
   simp only [bif_decide, Int.toNat_natCast, getD_at hk']
   rw [if_pos (by omega), guardB_true (inb_true (by omega) (by omega)), guardB_true (inb_true (by omega) (by omega)), own_small _ (by rw [getD_at hv']; have := hr _ (List.getElem_mem hv'); omega)]
   simp only
   rw [guardB_true (by simp only [List.length_map, List.length_take, List.length_singleton, decide_eq_true_eq]; omega), w64_succ (show k < 4611686018427387904 by omega), List.take_succ_eq_append_getElem hk', List.map_append]
   rfl
 simp only [fn72]
 have := key w.length 0 (by omega)
 simp only [List.take_zero, List.map_nil] at this
 erw [this]
theorem walk_rows (x : List (List Int) × List (Int × Int)) (w : List Int) (ok : Bool) (hr : ∀ a ∈ x.1, a.length ≤ 1048576) (hw : ∀ v ∈ w, 0 ≤ v ∧ v < x.1.length) (hl : w.length ≤ 2097152) : loopO fn45_B0 ((x, ok, ([] : List (List Int)), w, (w.length : Int), (0 : Int), ()), ()) = some ((ok, w.map (fun v => x.1.getD v.toNat []), ()), ()) := by
 have key : ∀ d k : Nat, k + d = w.length → loopO fn45_B0 ((x, ok, (w.take k).map (fun v => x.1.getD v.toNat []), w, (w.length : Int), (k : Int), ()), ()) = some ((ok, w.map (fun v => x.1.getD v.toNat []), ()), ()) := by
  intro d
  induction d with
  | zero =>
   intro k hk
   refine loop_end ?_
   rw [fn45_B0_at]
   simp only [bif_decide]
   rw [if_neg (by omega), List.take_of_length_le (by omega)]
  | succ d ih =>
   intro k hk
   have hk' : k < w.length := by omega
   refine loop_step ?_ (ih (k + 1) (by omega))
   have hv := hw _ (List.getElem_mem hk')
   have hv' : w[k].toNat < x.1.length := by omega
   rw [fn45_B0_at]
   simp only [bif_decide, Int.toNat_natCast, getD_at hk', slices_Clone_int_int, cloneFn]
   rw [if_pos (by omega), guardB_true (inb_true (by omega) (by omega)), guardB_true (inb_true (by omega) (by omega)), guardB_true (by rw [getD_at hv']; have := hr _ (List.getElem_mem hv'); simp only [decide_eq_true_eq]; omega)]
   simp only
   rw [guardB_true (by simp only [List.length_map, List.length_take, List.length_singleton, decide_eq_true_eq]; omega), w64_succ (show k < 4611686018427387904 by omega), List.take_succ_eq_append_getElem hk', List.map_append]
   rfl
 have := key w.length 0 (by omega)
 simpa using this
def cyc : Nat → List (Int × Int)
 | 3 => [(0, 1), (0, 2), (1, 2)]
 | 4 => [(0, 1), (0, 3), (1, 2), (2, 3)]
 | 5 => [(0, 1), (0, 4), (1, 2), (2, 3), (3, 4)]
 | 6 => [(0, 1), (0, 5), (1, 2), (2, 3), (3, 4), (4, 5)]
 | 7 => [(0, 1), (0, 6), (1, 2), (2, 3), (3, 4), (4, 5), (5, 6)]
 | 8 => [(0, 1), (0, 7), (1, 2), (2, 3), (3, 4), (4, 5), (5, 6), (6, 7)]
 | _ => []
theorem specCycle_eq {n : Nat} (h : n = 3 ∨ n = 4 ∨ n = 5 ∨ n = 6 ∨ n = 7 ∨ n = 8) : fn60 ((n : Int), ()) () = some ((((n : Int), cyc n), ()), ()) := by
 rcases h with rfl | rfl | rfl | rfl | rfl | rfl
 · have k : loopO fn60_B0 (((3 : Int), (1 : Int), ()), (((0 : Int), ([] : List (Int × Int))), ((3 : Int), [((0 : Int), (1 : Int)), ((0 : Int), (2 : Int))]), ())) = some ((), (((0 : Int), ([] : List (Int × Int))), ((3 : Int), cyc 3), ())) := loop_step rfl (loop_end rfl)
   simp only [fn60]
   erw [k]; rfl
 · have k : loopO fn60_B0 (((4 : Int), (1 : Int), ()), (((0 : Int), ([] : List (Int × Int))), ((4 : Int), [((0 : Int), (1 : Int)), ((0 : Int), (3 : Int))]), ())) = some ((), (((0 : Int), ([] : List (Int × Int))), ((4 : Int), cyc 4), ())) := loop_step rfl (loop_step rfl (loop_end rfl))
   simp only [fn60]
   erw [k]; rfl
 · have k : loopO fn60_B0 (((5 : Int), (1 : Int), ()), (((0 : Int), ([] : List (Int × Int))), ((5 : Int), [((0 : Int), (1 : Int)), ((0 : Int), (4 : Int))]), ())) = some ((), (((0 : Int), ([] : List (Int × Int))), ((5 : Int), cyc 5), ())) := loop_step rfl (loop_step rfl (loop_step rfl (loop_end rfl)))
   simp only [fn60]
   erw [k]; rfl
 · have k : loopO fn60_B0 (((6 : Int), (1 : Int), ()), (((0 : Int), ([] : List (Int × Int))), ((6 : Int), [((0 : Int), (1 : Int)), ((0 : Int), (5 : Int))]), ())) = some ((), (((0 : Int), ([] : List (Int × Int))), ((6 : Int), cyc 6), ())) := loop_step rfl (loop_step rfl (loop_step rfl (loop_step rfl (loop_end rfl))))
   simp only [fn60]
   erw [k]; rfl
 · have k : loopO fn60_B0 (((7 : Int), (1 : Int), ()), (((0 : Int), ([] : List (Int × Int))), ((7 : Int), [((0 : Int), (1 : Int)), ((0 : Int), (6 : Int))]), ())) = some ((), (((0 : Int), ([] : List (Int × Int))), ((7 : Int), cyc 7), ())) := loop_step rfl (loop_step rfl (loop_step rfl (loop_step rfl (loop_step rfl (loop_end rfl)))))
   simp only [fn60]
   erw [k]; rfl
 · have k : loopO fn60_B0 (((8 : Int), (1 : Int), ()), (((0 : Int), ([] : List (Int × Int))), ((8 : Int), [((0 : Int), (1 : Int)), ((0 : Int), (7 : Int))]), ())) = some ((), (((0 : Int), ([] : List (Int × Int))), ((8 : Int), cyc 8), ())) := loop_step rfl (loop_step rfl (loop_step rfl (loop_step rfl (loop_step rfl (loop_step rfl (loop_end rfl))))))
   simp only [fn60]
   erw [k]; rfl
theorem cyc_good {n : Nat} (h : n = 3 ∨ n = 4 ∨ n = 5 ∨ n = 6 ∨ n = 7 ∨ n = 8) : goodG ((n : Int), cyc n) = true ∧ (cyc n).length ≤ 8 := by
 rcases h with rfl | rfl | rfl | rfl | rfl | rfl <;> exact ⟨by decide +kernel, by decide⟩
theorem full_ok (S T : List (Int × Int)) (lazy : Bool) {m : Nat} : ∀ (d : Nat) (l a : List Int), a ∈ full S T lazy m d l → ∀ x, l.length ≤ x → x < a.length → ∀ k, k < x → okOne S T lazy (a.take x) x (a.getD x 0) k = true
 | 0, l, a, h, x, h1, h2, k, hk => by
  simp only [full, List.mem_singleton] at h
  subst h
  omega
 | d + 1, l, a, h, x, h1, h2, k, hk => by
  simp only [full] at h
  obtain ⟨v, _, _, h3⟩ := flatFrom_mem h
  split at h3
  · rename_i hall
    by_cases hx : x = l.length
    · have q := (full_mem S T lazy d _ a h3).2.1
      have ht : a.take l.length = l := by
       have := congrArg (List.take l.length) q
       simp only [List.length_append, List.length_singleton] at this
       rwa [List.take_take, Nat.min_eq_left (by omega), List.take_append_of_le_length (Nat.le_refl _), List.take_length] at this
      have e : a.getD l.length 0 = (v : Int) := by
       simp only [List.length_append, List.length_singleton] at q
       have hlt : l.length < a.length := by omega
       rw [getD_at hlt]
       have := congrArg (fun b : List Int => b[l.length]?) q
       simp only [List.getElem?_take_of_lt (show l.length < l.length + 1 by omega), List.getElem?_append_right (Nat.le_refl _), Nat.sub_self, List.getElem?_cons_zero, List.getElem?_eq_getElem hlt, Option.some.injEq] at this
       exact this
      subst hx
      rw [ht, e]
      exact allFrom_iff.1 hall k (Nat.zero_le _) (by omega)
    · exact full_ok S T lazy d _ a h3 x (by simp only [List.length_append, List.length_singleton]; omega) h2 k hk
  · simp at h3
theorem full_fit (S T : List (Int × Int)) (lazy : Bool) {m n : Nat} {a : List Int} (h : a ∈ full S T lazy m n []) {x k : Nat} (hx : x < n) (hk : k < x) (hs : nearB S (k : Int) (x : Int) = true) : fitB T lazy (a.getD k 0) (a.getD x 0) = true := by
 have hl : a.length = n := by have := (full_mem S T lazy n [] a h).1; simpa using this
 have := full_ok S T lazy n [] a h x (by simp) (by omega) k hk
 simp only [okOne, hs, Bool.not_true, Bool.false_or] at this
 rwa [show (a.take x).getD k 0 = a.getD k 0 by simp only [List.getD_eq_getElem?_getD, List.getElem?_take_of_lt hk]] at this
theorem full_mapB (g h : Int × List (Int × Int)) (lazy : Bool) {n m : Nat} (hg1 : g.1 = n) (hh1 : h.1 = m) (hgp : pairsB g.2 n = true) {a : List Int} (h1 : a ∈ full g.2 h.2 lazy m n []) : mapB g h a lazy = true := by
 obtain ⟨q1, _, q3⟩ := full_mem g.2 h.2 lazy n [] a h1
 have hl : a.length = n := by simpa using q1
 simp only [mapB, Bool.and_eq_true, decide_eq_true_eq, allUpto_iff]
 refine ⟨by omega, fun i hi => ?_, fun i hi => ?_⟩
 · have := q3 (a.getD i 0) (by rw [getD_at hi]; simp)
   simp only [inR, Bool.and_eq_true, decide_eq_true_eq]
   omega
 · obtain ⟨x, y, e, hxy, hy⟩ := pairsB_ok hgp i hi
   simp only [okEdge, e, Int.toNat_natCast]
   have hne : nearB g.2 (x : Int) (y : Int) = true := nearB_iff.2 (.inl (by rw [← e, getD_at hi]; exact List.getElem_mem hi))
   exact full_fit g.2 h.2 lazy h1 hy hxy hne
theorem rowSteps_only {i : Nat} {a : List Int} : ∀ {L : List (List Int)} {k : Nat} {e : Int × Int}, e ∈ rowSteps i a k L → ∃ t, t < L.length ∧ e = ((i : Int), ((k + t : Nat) : Int)) ∧ ham a (L.getD t []) = 1
 | [], k, e, h => by simp [rowSteps] at h
 | b :: L, k, e, h => by
  have tl : e ∈ rowSteps i a (k + 1) L → ∃ t, t < (b :: L).length ∧ e = ((i : Int), ((k + t : Nat) : Int)) ∧ ham a ((b :: L).getD t []) = 1 := fun h => by
   obtain ⟨t, t1, t2, t3⟩ := rowSteps_only h
   exact ⟨t + 1, by simpa using t1, by rw [t2, show k + 1 + t = k + (t + 1) by omega], by simpa using t3⟩
  simp only [rowSteps] at h
  split at h
  · rename_i hh
    rcases List.mem_cons.1 h with h | h
    · exact ⟨0, by simp, by rw [h]; simp, by simpa using hh⟩
    · exact tl h
  · exact tl h
theorem allSteps_only : ∀ {L : List (List Int)} {k : Nat} {e : Int × Int}, e ∈ allSteps k L → ∃ i j, i < j ∧ j < L.length ∧ e = (((k + i : Nat) : Int), ((k + j : Nat) : Int)) ∧ ham (L.getD i []) (L.getD j []) = 1
 | [], k, e, h => by simp [allSteps] at h
 | a :: L, k, e, h => by
  simp only [allSteps, List.mem_append] at h
  rcases h with h | h
  · obtain ⟨t, t1, t2, t3⟩ := rowSteps_only h
    exact ⟨0, t + 1, by omega, by simpa using t1, by rw [t2, show k + 1 + t = k + (t + 1) by omega]; rfl, by simpa using t3⟩
  · obtain ⟨i, j, h1, h2, h3, h4⟩ := allSteps_only h
    exact ⟨i + 1, j + 1, by omega, by simpa using h2, by rw [h3, show k + 1 + i = k + (i + 1) by omega, show k + 1 + j = k + (j + 1) by omega], by simpa using h4⟩
theorem hamS : ∀ a b : List Int, ham a b = ham b a
 | [], [] => rfl
 | [], _ :: _ => rfl
 | _ :: _, [] => rfl
 | x :: a, y :: b => by
  simp only [ham, hamS a b]
  by_cases h : x = y
  · rw [if_pos h, if_pos h.symm]
  · rw [if_neg h, if_neg (fun e => h e.symm)]
theorem nbr_only {A : List (List Int)} {i j : Nat} (h : (j : Int) ∈ nbr (allSteps 0 A) i) : ham (A.getD i []) (A.getD j []) = 1 := by
 simp only [nbr, inc, outg, List.mem_append, List.mem_map, List.mem_filter, decide_eq_true_eq] at h
 rcases h with ⟨e, ⟨h1, h2⟩, h3⟩ | ⟨e, ⟨h1, h2⟩, h3⟩
 · obtain ⟨x, y, _, _, rfl, hh⟩ := allSteps_only h1
   simp only [Nat.zero_add] at h2 h3
   rw [show i = y by omega, show j = x by omega, hamS]; exact hh
 · obtain ⟨x, y, _, _, rfl, hh⟩ := allSteps_only h1
   simp only [Nat.zero_add] at h2 h3
   rw [show i = x by omega, show j = y by omega]; exact hh
def WayGood (g h : Int × List (Int × Int)) (lazy : Bool) (R : List (List Int)) : Prop := (∀ r ∈ R, caseB g h = true ∧ mapB g h r lazy = true) ∧ ∀ k, k + 1 < R.length → ham (R.getD k []) (R.getD (k + 1) []) = 1
theorem wayGood_nil {g h : Int × List (Int × Int)} {lazy : Bool} : WayGood g h lazy [] := ⟨fun r hr => by simp at hr, fun k hk => by simp at hk⟩
theorem way_bothC (g h : Int × List (Int × Int)) (a b : List Int) (lazy : Bool) (hg : g.2.length ≤ 1048576) (hh : h.2.length ≤ 1048576) (ha : a.length ≤ 1048576) (hb : b.length ≤ 1048576) : ∃ (R : List (List Int)) (c : Bool), (∀ r ∈ R, r.length ≤ 6) ∧ R.length ≤ 2097152 ∧ (fn82 (g, h, a, b, lazy, ()) () = some ((R, c, ()), ()) ∧ WayGood g h lazy R) ∧ fn75 (g, h, a, b, lazy, ()) () = some ((R, c, ()), ()) := by
 cases hc : caseB g h
 · refine ⟨[], false, by simp, by simp, ⟨?_, wayGood_nil⟩, ?_⟩
   · simp only [fn82, Good2_eq g h hg hh, hc, Bool.not_false, cond_true]
   · simp only [fn75, fn54, Case_eq g h hg hh, hc, Bool.not_false, cond_true]
 · have hcc := hc
   simp only [caseB, Bool.and_eq_true, decide_eq_true_eq] at hcc
   obtain ⟨n, hn, hn8, hgp⟩ := good_nat hcc.1
   obtain ⟨m, hm, hm8, hhp⟩ := good_nat hcc.2.1
   have h6 : n ≤ 6 := by omega
   obtain ⟨X, c, k1, k2, k3, k4, k5⟩ := space_core g h lazy hg hh hc
   simp only [fn82, fn75, Good2_eq g h hg hh, hc, l10Map_eq g h a lazy hn hn8 hm hm8 hgp hg hh ha, l10Map_eq g h b lazy hn hn8 hm hm8 hgp hg hh hb, isMap_eq g h a lazy hn hn8 hm hm8 hgp hhp hg hh ha, isMap_eq g h b lazy hn hn8 hm hm8 hgp hhp hg hh hb, k2, k3, Bool.not_true, cond_false]
   cases c
   · refine ⟨[], false, by simp, by simp, ⟨?_, wayGood_nil⟩, rfl⟩
     cases mapB g h a lazy
     · rfl
     · cases mapB g h b lazy <;> rfl
   · cases hma : mapB g h a lazy
     · exact ⟨[], false, by simp, by simp, ⟨rfl, wayGood_nil⟩, rfl⟩
     · cases hmb : mapB g h b lazy
       · exact ⟨[], false, by simp, by simp, ⟨rfl, wayGood_nil⟩, rfl⟩
       · obtain ⟨e, e300⟩ := k4 rfl
         rw [hn, hm, Int.toNat_natCast, Int.toNat_natCast] at e
         have ia := mapB_in g h a lazy hn hm hma
         have ib := mapB_in g h b lazy hn hm hmb
         have hv := full_vec g.2 h.2 lazy hm8 n
         have hpw := full_pw g.2 h.2 lazy (m := m) n []
         have hX1 : X.1 = full g.2 h.2 lazy m n [] := by rw [e]
         have hX2 : X.2 = allSteps 0 X.1 := by rw [hX1, e]
         rw [← hX1] at ia ib hv hpw
         have hr : ∀ r ∈ X.1, r.length ≤ 1048576 := fun r hr => by rw [hv.len r hr]; omega
         have hsp := allSteps_ok X.1
         rw [← hX2] at hsp
         have hed : X.2.length ≤ 6000 := by rw [hX2, allSteps_len]; exact edges_6000 hv h6 e300
         obtain ⟨a1, _⟩ := cntRow_mem hpw ia
         obtain ⟨b1, _⟩ := cntRow_mem hpw ib
         obtain ⟨R, w1, ⟨ok, w2, w3⟩, w4, w5, _, w7⟩ := ways_eq X hsp (by omega) hed (i := ((cntRow a X.1 : Nat) : Int)) (a := ((cntRow b X.1 : Nat) : Int)) (by omega) (by omega) (by omega) (by omega)
         simp only [Bool.not_true, cond_false, Index_in X hpw (by omega) hr ia, Index_in X hpw (by omega) hr ib, fn45, place_in X hpw (by omega) hr ia, place_in X hpw (by omega) hr ib, w1, w2, Named_eq X R hr w4 w5, walk_rows X R ok hr w4 w5]
         refine ⟨R.map (fun v => X.1.getD v.toNat []), ok, fun r hr' => ?_, by rw [List.length_map]; exact w5, ⟨?_, ?_⟩, rfl⟩
         · obtain ⟨v, hv', rfl⟩ := List.mem_map.1 hr'
           have := w4 v hv'
           rw [getD_at (show v.toNat < X.1.length by omega), hv.len _ (List.getElem_mem _)]
           exact h6
         · have e1 : decide ((0 : Int) < (R.length : Int)) = ok := by
            cases ok
            · exact decide_eq_false fun h => by have := w3.2 (by omega); cases this
            · exact decide_eq_true (by have := w3.1 rfl; omega)
           rw [e1]
         · rw [hX2] at w7
           refine ⟨fun r hr' => ?_, fun k hk => ?_⟩
           · obtain ⟨v, hv', rfl⟩ := List.mem_map.1 hr'
             have := w4 v hv'
             refine ⟨hc, full_mapB g h lazy hn hm hgp ?_⟩
             rw [← hX1, getD_at (show v.toNat < X.1.length by omega)]
             exact List.getElem_mem _
           · rw [List.length_map] at hk
             have hpos : 0 < R.length := by omega
             have hch := (w7 hpos).1 k hk
             have v1 := w4 _ (List.getElem_mem (show k < R.length by omega))
             have v2 := w4 _ (List.getElem_mem hk)
             rw [getD_at hk, getD_at (show k < R.length by omega)] at hch
             rw [getD_at (show k < (R.map fun v => X.1.getD v.toNat []).length by rw [List.length_map]; omega), getD_at (show k + 1 < (R.map fun v => X.1.getD v.toNat []).length by rw [List.length_map]; omega), List.getElem_map, List.getElem_map]
             rw [show (listsP (allSteps 0 X.1) X.1.length).getD (R[k]).toNat [] = nbr (allSteps 0 X.1) (R[k]).toNat from rows_get (by omega) _] at hch
             have := nbr_only (A := X.1) (i := (R[k]).toNat) (j := (R[k + 1]).toNat) (by rw [Int.toNat_of_nonneg v2.1]; exact hch)
             exact this
theorem fn56_B0_at (a : List (Int)) (b : List (Int)) (out : List (Int)) (x : Int) : fn56_B0 ((a, b, out, x, ()), ()) = bif (decide (x < (List.length a : Int))) then (guardB (inb x (List.length a)) (guardB (inb (List.getD a (Int.toNat x) (0 : Int)) (List.length b)) (guardB (decide ((List.length out + List.length [(List.getD b (Int.toNat (List.getD a (Int.toNat x) (0 : Int))) (0 : Int))]) * 8 ≤ 70368744177664)) (some (.inl ((a, b, (out ++ [(List.getD b (Int.toNat (List.getD a (Int.toNat x) (0 : Int))) (0 : Int))]), (w64 (x + (1 : Int))), ()), ())))))) else (some (.inr ((out, ()), ()))) := rfl
theorem fn52_B0_at (b : List (Int)) (out : List (Int)) (t44 : List (Int)) (t45 : Int) (t46 : Int) : fn52_B0 ((b, out, t44, t45, t46, ()), ()) = bif (decide (t46 < t45)) then (guardB (inb t46 (List.length t44)) (guardB (inb (List.getD t44 (Int.toNat t46) (0 : Int)) (List.length b)) (guardB (decide ((List.length out + List.length [(List.getD b (Int.toNat (List.getD t44 (Int.toNat t46) (0 : Int))) (0 : Int))]) * 8 ≤ 70368744177664)) (some (.inl ((b, (out ++ [(List.getD b (Int.toNat (List.getD t44 (Int.toNat t46) (0 : Int))) (0 : Int))]), t44, t45, (w64 (t46 + (1 : Int))), ()), ())))))) else (some (.inr ((out, ()), ()))) := rfl
theorem flat_sum {f : Nat → List (List Int)} {c : Nat → Nat} (h : ∀ k, (f k).length = c k) : ∀ d k, (flatFrom f k d).length = sumFrom c k d
 | 0, k => rfl
 | d + 1, k => by simp only [flatFrom, sumFrom, List.length_append, h, flat_sum h d (k + 1)]
theorem cnt_full (S T : List (Int × Int)) (lazy : Bool) (m : Nat) : ∀ (d : Nat) (l : List Int), (full S T lazy m d l).length = cnt S T lazy m d l
 | 0, l => rfl
 | d + 1, l => by
  simp only [full, cnt]
  refine flat_sum (fun k => ?_) m 0
  split
  · exact cnt_full S T lazy m d _
  · rfl
theorem maps_bothC (g h : Int × List (Int × Int)) (lazy : Bool) (hg : g.2.length ≤ 1048576) (hh : h.2.length ≤ 1048576) (hc : caseB g h = true) : fn50 (g, h, lazy, ()) () = some ((((full g.2 h.2 lazy h.1.toNat g.1.toNat []).length : Int), true, ()), ()) ∧ fn47 (g, h, lazy, ()) () = some ((((full g.2 h.2 lazy h.1.toNat g.1.toNat []).length : Int), true, ()), ()) := by
 simp only [fn50, fn47, Good2_eq g h hg hh, Case_eq g h hg hh, hc]
 simp only [caseB, Bool.and_eq_true, decide_eq_true_eq] at hc
 obtain ⟨n, hn, hn8, hgp⟩ := good_nat hc.1
 obtain ⟨m, hm, hm8, hhp⟩ := good_nat hc.2.1
 have h6 : n ≤ 6 := by omega
 have hp8 : 8 ^ n ≤ 262144 := Nat.le_trans (Nat.pow_le_pow_right (by decide) h6) (by decide)
 have s1 := count_run g h lazy hn h6 hm hm8 hg hh n 1000 [] (by simp) (by omega)
 obtain ⟨L', _, _, s2⟩ := maps_run g h lazy hn h6 hm hm8 hgp hhp hg hh n 1000 0 (List.replicate n 0) 0 (by omega) (by omega) (by simp) (by omega)
 simp only [List.take_zero, Nat.zero_add] at s2
 rw [hm, hn, Int.toNat_natCast, Int.toNat_natCast, cnt_full]
 refine ⟨?_, ?_⟩
 · simp only [Bool.not_true, cond_false, show fn59 = fuelF fn59_F 1000 from rfl, s1]
 · simp only [Bool.not_true, cond_false, fn11, show fn1 = fuelF fn1_F 1000 from rfl, hn, Int.toNat_natCast]
   rw [guardB_true (fold_len (n := n) (by omega)).1]
   erw [s2]
theorem maps_bothN (g h : Int × List (Int × Int)) (lazy : Bool) (hg : g.2.length ≤ 1048576) (hh : h.2.length ≤ 1048576) (hc : caseB g h = false) : fn50 (g, h, lazy, ()) () = some ((0, false, ()), ()) ∧ fn47 (g, h, lazy, ()) () = some ((0, false, ()), ()) := by
 simp only [fn50, fn47, Good2_eq g h hg hh, Case_eq g h hg hh, hc]
 exact ⟨rfl, rfl⟩
theorem first_bothC (g h : Int × List (Int × Int)) (lazy : Bool) (hg : g.2.length ≤ 1048576) (hh : h.2.length ≤ 1048576) (hc : caseB g h = true) : fn57 (g, h, lazy, ()) () = some (((headOf (full g.2 h.2 lazy h.1.toNat g.1.toNat [])).1, (headOf (full g.2 h.2 lazy h.1.toNat g.1.toNat [])).2, ()), ()) ∧ fn53 (g, h, lazy, ()) () = some (((headOf (full g.2 h.2 lazy h.1.toNat g.1.toNat [])).1, (headOf (full g.2 h.2 lazy h.1.toNat g.1.toNat [])).2, ()), ()) := by
 simp only [fn57, fn53, Good2_eq g h hg hh, Case_eq g h hg hh, hc]
 simp only [caseB, Bool.and_eq_true, decide_eq_true_eq] at hc
 obtain ⟨n, hn, hn8, hgp⟩ := good_nat hc.1
 obtain ⟨m, hm, hm8, hhp⟩ := good_nat hc.2.1
 have h6 : n ≤ 6 := by omega
 have s1 := all_run g h lazy hn h6 hm hm8 hg hh n 1000 0 [] (by simp) (by omega) (by omega)
 obtain ⟨L', _, _, s2, _⟩ := first_run g h lazy hn h6 hm hm8 hgp hhp hg hh firstSt (fun _ => True) (fun s a _ ha => ⟨first_one s a (by omega), fun _ => trivial⟩) n 1000 0 (List.replicate n 0) ([], false) (by omega) (by omega) (by simp) trivial
 simp only [List.take_zero, runAll_first] at s2
 rw [hm, hn, Int.toNat_natCast, Int.toNat_natCast]
 generalize full g.2 h.2 lazy m n [] = A at s1 s2
 refine ⟨?_, ?_⟩
 · simp only [Bool.not_true, cond_false, show fn83 = fuelF fn83_F 1000 from rfl]
   erw [s1]
   cases A with
   | nil => rfl
   | cons a A => rfl
 · simp only [Bool.not_true, cond_false, fn10, show fn0 = fuelF fn0_F 1000 from rfl, hn, Int.toNat_natCast]
   rw [guardB_true (fold_len (n := n) (by omega)).1]
   erw [s2]
theorem first_bothN (g h : Int × List (Int × Int)) (lazy : Bool) (hg : g.2.length ≤ 1048576) (hh : h.2.length ≤ 1048576) (hc : caseB g h = false) : fn57 (g, h, lazy, ()) () = some (([], false, ()), ()) ∧ fn53 (g, h, lazy, ()) () = some (([], false, ()), ()) := by
 simp only [fn57, fn53, Good2_eq g h hg hh, Case_eq g h hg hh, hc]
 exact ⟨rfl, rfl⟩
theorem ismap_both (g h : Int × List (Int × Int)) (l : List Int) (lazy : Bool) (hg : g.2.length ≤ 1048576) (hh : h.2.length ≤ 1048576) (hl : l.length ≤ 1048576) : fn96 (g, h, l, lazy, ()) () = some ((caseB g h && mapB g h l lazy, caseB g h, ()), ()) ∧ fn93 (g, h, l, lazy, ()) () = some ((caseB g h && mapB g h l lazy, caseB g h, ()), ()) := by
 simp only [fn96, fn93, Good2_eq g h hg hh, Case_eq g h hg hh]
 cases hc : caseB g h
 · exact ⟨rfl, rfl⟩
 · simp only [caseB, Bool.and_eq_true, decide_eq_true_eq] at hc
   obtain ⟨n, hn, hn8, hgp⟩ := good_nat hc.1
   obtain ⟨m, hm, hm8, hhp⟩ := good_nat hc.2.1
   simp only [Bool.not_true, cond_false, Bool.true_and, l10Map_eq g h l lazy hn hn8 hm hm8 hgp hg hh hl, isMap_eq g h l lazy hn hn8 hm hm8 hgp hhp hg hh hl]
   exact ⟨trivial, trivial⟩
def comp (b a : List Int) : List Int := a.map fun v => b.getD v.toNat 0
theorem comp_run (a b : List Int) (ha : a.length ≤ 1048576) (hv : ∀ v ∈ a, 0 ≤ v ∧ v < b.length) : loopO fn56_B0 ((a, b, ([] : List Int), (0 : Int), ()), ()) = some ((comp b a, ()), ()) ∧ loopO fn52_B0 ((b, ([] : List Int), a, (a.length : Int), (0 : Int), ()), ()) = some ((comp b a, ()), ()) := by
 have key : ∀ d k : Nat, k + d = a.length → loopO fn56_B0 ((a, b, comp b (a.take k), (k : Int), ()), ()) = some ((comp b a, ()), ()) ∧ loopO fn52_B0 ((b, comp b (a.take k), a, (a.length : Int), (k : Int), ()), ()) = some ((comp b a, ()), ()) := by
  intro d
  induction d with
  | zero =>
   intro k hk
   have e : a.take k = a := List.take_of_length_le (by omega)
   rw [e]
   refine ⟨loop_end ?_, loop_end ?_⟩
   · rw [fn56_B0_at, bif_decide, if_neg (by omega)]
   · rw [fn52_B0_at, bif_decide, if_neg (by omega)]
  | succ d ih =>
   intro k hk
   have hk' : k < a.length := by omega
   obtain ⟨i1, i2⟩ := ih (k + 1) (by omega)
   have hb := hv _ (List.getElem_mem hk')
   have e : comp b (a.take (k + 1)) = comp b (a.take k) ++ [b.getD (a.getD k 0).toNat 0] := by
    rw [List.take_succ_eq_append_getElem hk', comp, List.map_append, getD_at hk']; rfl
   have hlen : (comp b (a.take k)).length ≤ 1048576 := by simp only [comp, List.length_map, List.length_take]; omega
   rw [e] at i1 i2
   refine ⟨loop_step ?_ i1, loop_step ?_ i2⟩
   · rw [fn56_B0_at, bif_decide, if_pos (by omega), guardB_true (inb_true (by omega) (by omega)), Int.toNat_natCast, guardB_true (by rw [getD_at hk']; exact inb_true hb.1 hb.2), guardB_true (by simp only [List.length_singleton, decide_eq_true_eq]; omega), w64_succ (by omega)]
   · rw [fn52_B0_at, bif_decide, if_pos (by omega), guardB_true (inb_true (by omega) (by omega)), Int.toNat_natCast, guardB_true (by rw [getD_at hk']; exact inb_true hb.1 hb.2), guardB_true (by simp only [List.length_singleton, decide_eq_true_eq]; omega), w64_succ (by omega)]
 exact key a.length 0 (by omega)
theorem mapB_iff {g h : Int × List (Int × Int)} {l : List Int} {lazy : Bool} : mapB g h l lazy = true ↔ (l.length : Int) = g.1 ∧ (∀ i, i < l.length → 0 ≤ l.getD i 0 ∧ l.getD i 0 < h.1) ∧ ∀ e ∈ g.2, fitB h.2 lazy (l.getD e.1.toNat 0) (l.getD e.2.toNat 0) = true := by
 simp only [mapB, Bool.and_eq_true, decide_eq_true_eq, allUpto_iff, inR, okEdge]
 refine ⟨fun ⟨h1, h2, h3⟩ => ⟨h1, fun i hi => ⟨(h2 i hi).1, by have := (h2 i hi).2; omega⟩, fun e he => ?_⟩, fun ⟨h1, h2, h3⟩ => ⟨h1, fun i hi => ⟨(h2 i hi).1, by have := (h2 i hi).2; omega⟩, fun i hi => h3 _ (by rw [getD_at hi]; exact List.getElem_mem hi)⟩⟩
 obtain ⟨i, hi, e'⟩ := List.getElem_of_mem he
 have := h3 i hi
 rw [getD_at hi, e'] at this
 exact this
theorem comp_get {a b : List Int} {i : Nat} (hi : i < a.length) : (comp b a).getD i 0 = b.getD (a.getD i 0).toNat 0 := by
 rw [getD_at (show i < (comp b a).length by simpa [comp] using hi), getD_at hi]
 simp [comp]
theorem comp_map {g h k : Int × List (Int × Int)} {a b : List Int} {lazy : Bool} (hg : goodG g = true) (ha : mapB g h a lazy = true) (hb : mapB h k b lazy = true) : mapB g k (comp b a) lazy = true := by
 obtain ⟨n, hn, hn8, hgp⟩ := good_nat hg
 obtain ⟨a1, a2, a3⟩ := mapB_iff.1 ha
 obtain ⟨b1, b2, b3⟩ := mapB_iff.1 hb
 have hcl : (comp b a).length = a.length := by simp [comp]
 refine mapB_iff.2 ⟨by rw [hcl]; exact a1, fun i hi => ?_, fun e he => ?_⟩
 · rw [hcl] at hi
   rw [comp_get hi]
   have := a2 i hi
   exact b2 _ (by omega)
 · obtain ⟨i, hi, e'⟩ := List.getElem_of_mem he
   obtain ⟨x, y, q1, q2, q3⟩ := pairsB_ok hgp i hi
   rw [getD_at hi, e'] at q1
   have hf := a3 e he
   rw [q1] at hf ⊢
   simp only [Int.toNat_natCast] at hf ⊢
   have hx : x < a.length := by omega
   have hy : y < a.length := by omega
   rw [comp_get hx, comp_get hy]
   have vx := a2 x hx
   have vy := a2 y hy
   simp only [fitB, Bool.or_eq_true, Bool.and_eq_true, decide_eq_true_eq] at hf
   rcases hf with hf | ⟨h1, h2⟩
   · rcases nearB_iff.1 hf with hm | hm
     · exact b3 _ hm
     · have q := b3 _ hm
       dsimp only at q
       rw [fitB_symm]; exact q
   · rw [h2]; simp only [fitB, Bool.or_eq_true, Bool.and_eq_true, decide_eq_true_eq]; exact .inr ⟨h1, trivial⟩
theorem after_both (g h k : Int × List (Int × Int)) (a b : List Int) (lazy : Bool) (hg : g.2.length ≤ 1048576) (hh : h.2.length ≤ 1048576) (hk : k.2.length ≤ 1048576) (ha : a.length ≤ 1048576) (hb : b.length ≤ 1048576) : ∃ (R : List Int) (c : Bool), R.length ≤ 1048576 ∧ fn56 (g, h, k, a, b, lazy, ()) () = some ((R, c, ()), ()) ∧ fn52 (g, h, k, a, b, lazy, ()) () = some ((R, c, ()), ()) ∧ (c = true → caseB g k = true ∧ mapB g k R lazy = true) := by
 simp only [fn56, fn52, Good2_eq g h hg hh, Case_eq g h hg hh, Good2_eq h k hh hk, Case_eq h k hh hk]
 cases hc : caseB g h
 · exact ⟨[], false, by simp, rfl, rfl, fun h => by cases h⟩
 · cases hc2 : caseB h k
   · exact ⟨[], false, by simp, rfl, rfl, fun h => by cases h⟩
   · simp only [caseB, Bool.and_eq_true, decide_eq_true_eq] at hc hc2
     obtain ⟨n, hn, hn8, hgp⟩ := good_nat hc.1
     obtain ⟨m, hm, hm8, hhp⟩ := good_nat hc.2.1
     obtain ⟨p, hp, hp8, hkp⟩ := good_nat hc2.2.1
     simp only [Bool.not_true, cond_false, l10Map_eq g h a lazy hn hn8 hm hm8 hgp hg hh ha, isMap_eq g h a lazy hn hn8 hm hm8 hgp hhp hg hh ha, l10Map_eq h k b lazy hm hm8 hp hp8 hhp hh hk hb, isMap_eq h k b lazy hm hm8 hp hp8 hhp hkp hh hk hb]
     cases hma : mapB g h a lazy
     · exact ⟨[], false, by simp, rfl, rfl, fun h => by cases h⟩
     · cases hmb : mapB h k b lazy
       · exact ⟨[], false, by simp, rfl, rfl, fun h => by cases h⟩
       · obtain ⟨a1, a2, a3⟩ := mapB_iff.1 hma
         obtain ⟨b1, b2, b3⟩ := mapB_iff.1 hmb
         obtain ⟨r1, r2⟩ := comp_run a b ha (fun v hv => by
          obtain ⟨i, hi, e⟩ := List.getElem_of_mem hv
          have := a2 i hi
          rw [getD_at hi, e] at this
          omega)
         simp only [Bool.not_true, cond_false]
         erw [r1, r2]
         exact ⟨comp b a, true, by simp only [comp, List.length_map]; exact ha, rfl, rfl, fun _ => ⟨by simp only [caseB, hc.1, hc2.2.1, hc.2.2, Bool.true_and, decide_true], comp_map hc.1 hma hmb⟩⟩
theorem fn36_B0_at (list : List ((Int) × (Int))) (e : (Int) × (Int)) (k : Int) : fn36_B0 ((list, e, k, ()), ()) = bif (decide ((0 : Int) < k)) then (guardB (inb (w64 (k - (1 : Int))) (List.length list)) (match fn87 (e, (List.getD list (Int.toNat (w64 (k - (1 : Int)))) ((0 : Int), (0 : Int))), ()) () with | some ((r, ()), ()) => (bif r then (some (.inl ((list, e, (w64 (k - (1 : Int))), ()), ()))) else (some (.inr ((list, e, k, ()), ())))) | none => none)) else (some (.inr ((list, e, k, ()), ()))) := rfl
theorem fn36_D0_at (list : List ((Int) × (Int))) (lo : Nat) (hi : Nat) (t38 : (Int) × (Int)) (lo2 : Nat) (hi2 : Nat) : fn36_D0 ((list, (lo, hi), t38, (lo2, hi2), ()), ()) = fn36_D1 ((list, ([] : (List (Int × Int))), (lo, hi), t38, (lo2, hi2), ()), ()) := rfl
theorem fn36_D1_at (list : List ((Int) × (Int))) (t33 : List ((Int) × (Int))) (lo : Nat) (hi : Nat) (t38 : (Int) × (Int)) (lo2 : Nat) (hi2 : Nat) : fn36_D1 ((list, t33, (lo, hi), t38, (lo2, hi2), ()), ()) = guardB (decide ((List.length t33 + List.length (List.drop lo (List.take hi list))) * 16 ≤ 70368744177664)) (guardB (decide ((List.length (t33 ++ (List.drop lo (List.take hi list))) + List.length [t38]) * 16 ≤ 70368744177664)) (guardB (decide ((List.length ((t33 ++ (List.drop lo (List.take hi list))) ++ [t38]) + List.length (List.drop lo2 (List.take hi2 list))) * 16 ≤ 70368744177664)) (some (((((t33 ++ (List.drop lo (List.take hi list))) ++ [t38]) ++ (List.drop lo2 (List.take hi2 list))), ()), ())))) := rfl
theorem fn15_B0_at (t5 : Int) (t7 : Int) (t8 : Bool) (t9 : Int) (t10 : Int) (o0 : (List (Int)) × ((Int) × (Int))) (t4 : (Int) × (List ((Int) × (Int)))) (t6 : (Int) × (List ((Int) × (Int)))) : fn15_B0 ((t5, t7, t8, t9, t10, ()), (o0, t4, t6, ())) = bif (decide (t10 < t5)) then (match fn24 (t7, ()) (o0, ()) with | some ((r, ()), (o, ())) => (bif (r == (0 : Int)) then (match fn36 (t6.2, (t9, t10), ()) () with | some ((r2, ()), ()) => some (.inl ((t5, t7, t8, t9, (w64 (t10 + (1 : Int))), ()), (o, t4, (t6.1, r2), ()))) | none => none) else (some (.inl ((t5, t7, t8, t9, (w64 (t10 + (1 : Int))), ()), (o, t4, t6, ()))))) | none => none) else (some (.inr ((t5, t7, t8, t9, ()), (o0, t4, t6, ())))) := rfl
theorem fn15_B1_at (t5 : Int) (t7 : Int) (t8 : Bool) (t9 : Int) (o0 : (List (Int)) × ((Int) × (Int))) (t4 : (Int) × (List ((Int) × (Int)))) (t6 : (Int) × (List ((Int) × (Int)))) : fn15_B1 ((t5, t7, t8, t9, ()), (o0, t4, t6, ())) = bif (decide (t9 < t5)) then (match loopO fn15_B0 ((t5, t7, t8, t9, (w64 (t9 + (1 : Int))), ()), (o0, t4, t6, ())) with | some ((t5_2, t7_2, t8_2, t9_2, ()), (o0_2, t4_2, t6_2, ())) => (bif (decide ((0 : Int) < t9_2)) then (bif (!t8_2) then (match fn15_D0 ((t5_2, t7_2, t8_2, t9_2, t9_2, t9_2, ()), (o0_2, t4_2, t6_2, ())) with | some ((t5_3, t7_3, t8_3, t9_3, ()), (o0_3, t4_3, t6_3, ())) => some (.inl ((t5_3, t7_3, t8_3, (w64 (t9_3 + (1 : Int))), ()), (o0_3, t4_3, t6_3, ()))) | none => none) else (some (.inl ((t5_2, t7_2, t8_2, (w64 (t9_2 + (1 : Int))), ()), (o0_2, t4_2, t6_2, ()))))) else (some (.inl ((t5_2, t7_2, t8_2, (w64 (t9_2 + (1 : Int))), ()), (o0_2, t4_2, t6_2, ()))))) | none => none) else (some (.inr ((), (o0, t4, t6, ())))) := rfl
theorem fn15_D0_at (t5 : Int) (t7 : Int) (t8 : Bool) (t9 : Int) (t66 : Int) (t68 : Int) (o0 : (List (Int)) × ((Int) × (Int))) (t4 : (Int) × (List ((Int) × (Int)))) (t6 : (Int) × (List ((Int) × (Int)))) : fn15_D0 ((t5, t7, t8, t9, t66, t68, ()), (o0, t4, t6, ())) = match fn24 (t66, ()) (o0, ()) with | some ((r, ()), (o, ())) => (match fn36 (t6.2, (r, t68), ()) () with | some ((r2, ()), ()) => some ((t5, t7, t8, t9, ()), (o, t4, (t6.1, r2), ())) | none => none) | none => none := rfl
theorem fn15_D1_at (t4 : (Int) × (List ((Int) × (Int)))) (t6 : (Int) × (List ((Int) × (Int)))) (o0 : (List (Int)) × ((Int) × (Int))) : fn15_D1 ((), (t4, t6, o0, ())) = match fn24 ((4 : Int), ()) (o0, ()) with | some ((r, ()), (o, ())) => (match fn24 ((9 : Int), ()) (o, ()) with | some ((r2, ()), (o2, ())) => guardB (decide ((List.length t6.2 + List.length [(r, (w64 (r2 - (1 : Int))))]) * 16 ≤ 70368744177664)) (some ((), (t4, (t6.1, (t6.2 ++ [(r, (w64 (r2 - (1 : Int))))])), o2, ()))) | none => none) | none => none := rfl
theorem fn15_D3_at (t106 : Int) (t4 : (Int) × (List ((Int) × (Int)))) (t6 : (Int) × (List ((Int) × (Int)))) (o0 : (List (Int)) × ((Int) × (Int))) : fn15_D3 ((t106, ()), (t4, t6, o0, ())) = fn15_D4 ((t106, ()), (t4, t6, o0, ())) := rfl
theorem fn15_D4_at (t106 : Int) (t4 : (Int) × (List ((Int) × (Int)))) (t6 : (Int) × (List ((Int) × (Int)))) (o0 : (List (Int)) × ((Int) × (Int))) : fn15_D4 ((t106, ()), (t4, t6, o0, ())) = match fn24 (t106, ()) (o0, ()) with | some ((r, ()), (o, ())) => guardB (inb r (List.length t6.2)) (guardB (decide ((List.length t6.2 + List.length [(List.getD t6.2 (Int.toNat r) ((0 : Int), (0 : Int)))]) * 16 ≤ 70368744177664)) (some ((), (t4, (t6.1, (t6.2 ++ [(List.getD t6.2 (Int.toNat r) ((0 : Int), (0 : Int)))])), o, ())))) | none => none := rfl
def CurOk (c : List Int × (Int × Int)) (k : Nat) : Prop := (∀ x ∈ c.1, 0 ≤ x ∧ x ≤ 255) ∧ c.1.length ≤ 65536 ∧ 0 ≤ c.2.1 ∧ c.2.1 ≤ k
theorem CurOk.le {c : List Int × (Int × Int)} {k l : Nat} (h : CurOk c k) (hl : k ≤ l) : CurOk c l := ⟨h.1, h.2.1, h.2.2.1, by have := h.2.2.2; omega⟩
theorem byte_and (X : Int) : ∃ n : Nat, n ≤ 255 ∧ w64 (IntKind.wrap .u64 ((BitVec.ofInt 64 X &&& BitVec.ofInt 64 (255 : Int)).toNat : Int)) = n := by
 have h : (BitVec.ofInt 64 X &&& BitVec.ofInt 64 (255 : Int)).toNat ≤ 255 := by
  rw [BitVec.toNat_and]
  exact Nat.le_trans Nat.and_le_right (by decide)
 obtain ⟨n, hn⟩ : ∃ n, (BitVec.ofInt 64 X &&& BitVec.ofInt 64 (255 : Int)).toNat = n := ⟨_, rfl⟩
 rw [hn] at h ⊢
 exact ⟨n, h, by rw [(wrapN (show n < 9223372036854775808 by omega)).1, w64_of (by omega) (by omega)]⟩
theorem next_eq (c : List Int × (Int × Int)) {k : Nat} (h : CurOk c k) (hk : k ≤ 1000000) : ∃ (b : Int) (d : List Int × (Int × Int)), fn27 () (c, ()) = some ((b, ()), (d, ())) ∧ CurOk d (k + 1) ∧ 0 ≤ b ∧ b ≤ 255 := by
 obtain ⟨code, i, s⟩ := c
 obtain ⟨h1, h2, h3, h4⟩ := h
 dsimp only at h1 h2 h3 h4
 have fin : ∀ b : Int, 0 ≤ b → b ≤ 255 → ∃ (b' : Int) (d : List Int × (Int × Int)),
  (bif (decide ((w64 (i + (1 : Int))) ≤ (List.length code : Int))) then (some ((b, ()), ((code, ((w64 (i + (1 : Int))), (IntKind.wrap .u64 ((IntKind.wrap .u64 ((IntKind.wrap .u64 (s * (6364136223846793005 : Int))) + (IntKind.wrap .u64 b))) + (462197 : Int))))), ()))) else (some (((w64 (IntKind.wrap .u64 (BitVec.ofInt 64 (Int.fdiv (IntKind.wrap .u64 ((IntKind.wrap .u64 ((IntKind.wrap .u64 (s * (6364136223846793005 : Int))) + (IntKind.wrap .u64 b))) + (462197 : Int))) (2 ^ (min 40 64))) &&& BitVec.ofInt 64 (255 : Int)).toNat)), ()), ((code, ((w64 (i + (1 : Int))), (IntKind.wrap .u64 ((IntKind.wrap .u64 ((IntKind.wrap .u64 (s * (6364136223846793005 : Int))) + (IntKind.wrap .u64 b))) + (462197 : Int))))), ()))) : Option ((Int × Unit) × ((List Int × (Int × Int)) × Unit))) = some ((b', ()), (d, ())) ∧ CurOk d (k + 1) ∧ 0 ≤ b' ∧ b' ≤ 255 := by
  intro b hb0 hb1
  have hw : w64 (i + 1) = i + 1 := w64_of (by omega) (by omega)
  rw [bif_decide, hw]
  by_cases hc : i + 1 ≤ (List.length code : Int)
  · rw [if_pos hc]
    exact ⟨_, _, rfl, ⟨h1, h2, by show 0 ≤ i + 1; omega, by show i + 1 ≤ _; omega⟩, hb0, hb1⟩
  · rw [if_neg hc]
    obtain ⟨n, n1, n2⟩ := byte_and (Int.fdiv (IntKind.wrap .u64 ((IntKind.wrap .u64 ((IntKind.wrap .u64 (s * (6364136223846793005 : Int))) + (IntKind.wrap .u64 b))) + (462197 : Int))) (2 ^ (min 40 64)))
    exact ⟨_, _, rfl, ⟨h1, h2, by show 0 ≤ i + 1; omega, by show i + 1 ≤ _; omega⟩, by rw [n2]; omega, by rw [n2]; omega⟩
 simp only [fn27]
 by_cases hc : i < (List.length code : Int)
 · have hm : List.getD code i.toNat 0 ∈ code := by rw [getD_at (by omega)]; exact List.getElem_mem _
   have hb := h1 _ hm
   rw [decide_eq_true hc, cond_true, guardB_true (inb_true h3 hc), w64_of (x := List.getD code i.toNat 0) (by omega) (by omega)]
   exact fin _ hb.1 hb.2
 · rw [decide_eq_false hc, cond_false]
   exact fin 0 (by omega) (by omega)
theorem pick_eq (c : List Int × (Int × Int)) {k : Nat} (h : CurOk c k) (hk : k ≤ 900000) (n : Int) : ∃ (r : Int) (d : List Int × (Int × Int)), fn24 (n, ()) (c, ()) = some ((r, ()), (d, ())) ∧ CurOk d (k + 2) ∧ 0 ≤ r ∧ (1 ≤ n → r < n) ∧ r ≤ 65535 := by
 simp only [fn24, bif_decide]
 by_cases h1 : n ≤ 1
 · rw [if_pos h1]; exact ⟨0, c, rfl, h.le (by omega), by omega, fun _ => by omega, by omega⟩
 · rw [if_neg h1]
   obtain ⟨b, d, e1, e2, e3, e4⟩ := next_eq c h (by omega)
   simp only [e1]
   have hz : (!(n == 0)) = true := by rw [beq_ne (by omega)]; rfl
   by_cases h2 : 200 < n
   · rw [if_pos h2]
     obtain ⟨b2, d2, f1, f2, f3, f4⟩ := next_eq d e2 (by omega)
     simp only [f1]
     have hx : w64 (w64 (b * 256) + b2) = b * 256 + b2 := by rw [w64_of (x := b * 256) (by omega) (by omega), w64_of (by omega) (by omega)]
     rw [guardB_true hz, hx]
     have t1 := Int.tmod_nonneg n (show 0 ≤ b * 256 + b2 by omega)
     have t2 := Int.tmod_lt_of_pos (b * 256 + b2) (show 0 < n by omega)
     have t3 : Int.tmod (b * 256 + b2) n ≤ b * 256 + b2 := by
      rw [Int.tmod_eq_emod_of_nonneg (by omega)]
      have q1 := Int.emod_add_mul_ediv (b * 256 + b2) n
      have q2 := Int.mul_nonneg (show 0 ≤ n by omega) (Int.ediv_nonneg (show 0 ≤ b * 256 + b2 by omega) (show 0 ≤ n by omega))
      omega
     exact ⟨_, _, rfl, f2.le (by omega), t1, fun _ => t2, by omega⟩
   · rw [if_neg h2, guardB_true hz]
     have t1 := Int.tmod_nonneg n (show 0 ≤ b by omega)
     have t2 := Int.tmod_lt_of_pos b (show 0 < n by omega)
     exact ⟨_, _, rfl, e2.le (by omega), t1, fun _ => t2, by omega⟩
theorem one_eq (c : List Int × (Int × Int)) {k : Nat} (h : CurOk c k) (hk : k ≤ 900000) (n : Int) : ∃ (r : Bool) (d : List Int × (Int × Int)), fn28 (n, ()) (c, ()) = some ((r, ()), (d, ())) ∧ CurOk d (k + 2) := by
 obtain ⟨r, d, e1, e2, _⟩ := pick_eq c h hk n
 simp only [fn28, e1]
 exact ⟨_, _, rfl, e2⟩
theorem among_eq (c : List Int × (Int × Int)) {k : Nat} (h : CurOk c k) (hk : k ≤ 900000) (l : List Int) (hl : 1 ≤ l.length) : ∃ (r : Int) (d : List Int × (Int × Int)), fn21 (l, ()) (c, ()) = some ((r, ()), (d, ())) ∧ CurOk d (k + 2) ∧ r ∈ l := by
 obtain ⟨r, d, e1, e2, e3, e4, _⟩ := pick_eq c h hk (l.length : Int)
 have := e4 (by omega)
 simp only [fn21, e1]
 rw [guardB_true (inb_true e3 this)]
 exact ⟨_, _, rfl, e2, by rw [getD_at (by omega)]; exact List.getElem_mem _⟩
theorem Edge_some (a b : Int × Int) : ∃ r : Bool, fn87 (a, b, ()) () = some ((r, ()), ()) := by
 simp only [fn87]
 cases decide (a.1 < b.1)
 · cases (a.1 == b.1)
   · exact ⟨_, rfl⟩
   · exact ⟨_, rfl⟩
 · exact ⟨_, rfl⟩
theorem PutPair_some (l : List (Int × Int)) (e : Int × Int) (hl : l.length ≤ 1000000) : ∃ r : List (Int × Int), fn36 (l, e, ()) () = some ((r, ()), ()) ∧ r.length ≤ l.length + 1 := by
 have key : ∀ k : Nat, k ≤ l.length → ∃ k' : Nat, k' ≤ l.length ∧ loopO fn36_B0 ((l, e, (k : Int), ()), ()) = some ((l, e, (k' : Int), ()), ()) := by
  intro k
  induction k with
  | zero =>
   intro _
   refine ⟨0, by omega, loop_end ?_⟩
   rw [fn36_B0_at]; rfl
  | succ k ih =>
   intro hk
   obtain ⟨k', q1, q2⟩ := ih (by omega)
   have hw : w64 (((k + 1 : Nat) : Int) - 1) = (k : Int) := by rw [w64_of (by omega) (by omega)]; omega
   have st := fn36_B0_at l e ((k + 1 : Nat) : Int)
   simp only [bif_decide, hw, Int.toNat_natCast] at st
   rw [if_pos (by omega), guardB_true (inb_true (by omega) (by omega))] at st
   obtain ⟨b, hb⟩ : ∃ b : Bool, fn87 (e, l.getD k (0, 0), ()) () = some ((b, ()), ()) := Edge_some _ _
   rw [hb] at st
   cases b
   · exact ⟨k + 1, hk, loop_end st⟩
   · exact ⟨k', q1, loop_step st q2⟩
 obtain ⟨k, k1, k2⟩ := key l.length (Nat.le_refl _)
 simp only [fn36]
 erw [k2]
 simp only [bif_decide]
 have fin : ∃ r : List (Int × Int), (guardB (decide (0 ≤ (0 : Int)) && decide ((0 : Int) ≤ (k : Int)) && decide ((k : Int) ≤ (List.length l : Int))) (guardB (decide (0 ≤ (k : Int)) && decide ((k : Int) ≤ (List.length l : Int)) && decide ((List.length l : Int) ≤ (List.length l : Int))) (match fn36_D0 ((l, (0, (Int.toNat (k : Int))), e, ((Int.toNat (k : Int)), (Int.toNat (List.length l : Int))), ()), ()) with | some ((t4, ()), ()) => some ((t4, ()), ()) | none => none)) : Option ((List (Int × Int) × Unit) × Unit)) = some ((r, ()), ()) ∧ r.length ≤ l.length + 1 := by
  have l1 : (List.drop 0 (List.take k l)).length = k := by rw [List.drop_zero, List.length_take]; omega
  have l2 : (List.drop k (List.take l.length l)).length = l.length - k := by rw [List.take_length, List.length_drop]
  rw [guardB_true (show (decide (0 ≤ (0 : Int)) && decide ((0 : Int) ≤ (k : Int)) && decide ((k : Int) ≤ (List.length l : Int))) = true by simp; omega), guardB_true (show (decide (0 ≤ (k : Int)) && decide ((k : Int) ≤ (List.length l : Int)) && decide ((List.length l : Int) ≤ (List.length l : Int))) = true by simp; omega)]
  rw [fn36_D0_at, fn36_D1_at]
  simp only [Int.toNat_natCast, List.nil_append]
  rw [guardB_true (by simp only [List.length_nil, l1, decide_eq_true_eq]; omega), guardB_true (by simp only [List.length_singleton, l1, decide_eq_true_eq]; omega), guardB_true (by simp only [List.length_append, List.length_singleton, l1, l2, decide_eq_true_eq]; omega)]
  exact ⟨_, rfl, by simp only [List.length_append, List.length_singleton, l1, l2]; omega⟩
 by_cases hk0 : (0 : Int) < (k : Int)
 · rw [if_pos hk0]
   have hw : w64 ((k : Int) - 1) = ((k - 1 : Nat) : Int) := by rw [w64_of (by omega) (by omega)]; omega
   rw [hw, guardB_true (inb_true (by omega) (by omega))]
   cases ((List.getD l (Int.toNat ((k - 1 : Nat) : Int)) ((0 : Int), (0 : Int))).1 == e.1 && (List.getD l (Int.toNat ((k - 1 : Nat) : Int)) ((0 : Int), (0 : Int))).2 == e.2)
   · exact fin
   · exact ⟨l, rfl, by omega⟩
 · rw [if_neg hk0]; exact fin
theorem sg_inner (n : Nat) (hn : n ≤ 8) (t7 : Int) (t8 : Bool) (t9 : Int) (t4 : Int × List (Int × Int)) : ∀ (d x : Nat) (c : List Int × (Int × Int)) (g : Int × List (Int × Int)) (k : Nat), x + d = n → CurOk c k → k + 2 * d ≤ 800000 → g.2.length + d ≤ 900000 →
  ∃ (c' : List Int × (Int × Int)) (r : List (Int × Int)), loopO fn15_B0 (((n : Int), t7, t8, t9, (x : Int), ()), (c, t4, g, ())) = some (((n : Int), t7, t8, t9, ()), (c', t4, (g.1, r), ())) ∧ CurOk c' (k + 2 * d) ∧ r.length ≤ g.2.length + d := by
 intro d
 induction d with
 | zero =>
  intro x c g k hx hc hk hl
  refine ⟨c, g.2, loop_end ?_, hc.le (by omega), by omega⟩
  rw [fn15_B0_at]
  simp only [bif_decide]
  rw [if_neg (by omega)]
 | succ d ih =>
  intro x c g k hx hc hk hl
  obtain ⟨r, c1, e1, e2, _⟩ := pick_eq c hc (by omega) t7
  have st := fn15_B0_at (n : Int) t7 t8 t9 (x : Int) c t4 g
  simp only [bif_decide, e1] at st
  rw [if_pos (by omega), w64_succ (by omega)] at st
  by_cases hr : r = 0
  · obtain ⟨l, f1, f2⟩ := PutPair_some g.2 (t9, (x : Int)) (by omega)
    rw [beq_eq hr, cond_true, f1] at st
    obtain ⟨c2, l2, q1, q2, q3⟩ := ih (x + 1) c1 (g.1, l) (k + 2) (by omega) e2 (by omega) (by show l.length + d ≤ _; omega)
    exact ⟨c2, l2, loop_step st q1, q2.le (by omega), by dsimp only at q3; omega⟩
  · rw [beq_ne hr, cond_false] at st
    obtain ⟨c2, l2, q1, q2, q3⟩ := ih (x + 1) c1 g (k + 2) (by omega) e2 (by omega) (by omega)
    exact ⟨c2, l2, loop_step st q1, q2.le (by omega), by omega⟩
theorem sg_outer (n : Nat) (hn : n ≤ 8) (t7 : Int) (t8 : Bool) (t4 : Int × List (Int × Int)) : ∀ (d x : Nat) (c : List Int × (Int × Int)) (g : Int × List (Int × Int)) (k : Nat), x + d = n → CurOk c k → k + 20 * d ≤ 700000 → g.2.length + 10 * d ≤ 800000 →
  ∃ (c' : List Int × (Int × Int)) (r : List (Int × Int)), loopO fn15_B1 (((n : Int), t7, t8, (x : Int), ()), (c, t4, g, ())) = some ((), (c', t4, (g.1, r), ())) ∧ CurOk c' (k + 20 * d) ∧ r.length ≤ g.2.length + 10 * d := by
 intro d
 induction d with
 | zero =>
  intro x c g k hx hc hk hl
  refine ⟨c, g.2, loop_end ?_, hc.le (by omega), by omega⟩
  rw [fn15_B1_at]
  simp only [bif_decide]
  rw [if_neg (by omega)]
 | succ d ih =>
  intro x c g k hx hc hk hl
  obtain ⟨c1, l1, e1, e2, e3⟩ := sg_inner n hn t7 t8 (x : Int) t4 (n - (x + 1)) (x + 1) c g k (by omega) hc (by omega) (by omega)
  have st := fn15_B1_at (n : Int) t7 t8 (x : Int) c t4 g
  simp only [bif_decide] at st
  rw [if_pos (by omega), w64_succ (by omega), e1] at st
  dsimp only at st
  simp only [w64_succ (show x < 4611686018427387904 by omega)] at st
  have e2 : CurOk c1 (k + 16) := e2.le (by omega)
  have nx : loopO fn15_B1 (((n : Int), t7, t8, ((x + 1 : Nat) : Int), ()), (c1, t4, (g.1, l1), ())) = loopO fn15_B1 (((n : Int), t7, t8, ((x + 1 : Nat) : Int), ()), (c1, t4, (g.1, l1), ())) := rfl
  have plain : fn15_B1 (((n : Int), t7, t8, (x : Int), ()), (c, t4, g, ())) = some (.inl (((n : Int), t7, t8, ((x + 1 : Nat) : Int), ()), (c1, t4, (g.1, l1), ()))) → ∃ (c' : List Int × (Int × Int)) (r : List (Int × Int)), loopO fn15_B1 (((n : Int), t7, t8, (x : Int), ()), (c, t4, g, ())) = some ((), (c', t4, (g.1, r), ())) ∧ CurOk c' (k + 20 * (d + 1)) ∧ r.length ≤ g.2.length + 10 * (d + 1) := fun st => by
   obtain ⟨c2, l2, q1, q2, q3⟩ := ih (x + 1) c1 (g.1, l1) (k + 16) (by omega) e2 (by omega) (by show l1.length + _ ≤ _; omega)
   exact ⟨c2, l2, loop_step st q1, q2.le (by omega), by dsimp only at q3; omega⟩
  by_cases h0 : (0 : Int) < (x : Int)
  · rw [if_pos h0] at st
    cases ht : t8
    · rw [ht] at st plain
      simp only [Bool.not_false, cond_true] at st
      obtain ⟨r, c2, f1, f2, _⟩ := pick_eq c1 e2 (by omega) (x : Int)
      obtain ⟨l2, f3, f4⟩ := PutPair_some l1 (r, (x : Int)) (by omega)
      rw [fn15_D0_at] at st
      simp only [f1, f3, w64_succ (show x < 4611686018427387904 by omega)] at st
      rw [ht] at ih
      obtain ⟨c3, l3, q1, q2, q3⟩ := ih (x + 1) c2 (g.1, l2) (k + 18) (by omega) (f2.le (by omega)) (by omega) (by show l2.length + _ ≤ _; omega)
      exact ⟨c3, l3, loop_step st q1, q2.le (by omega), by dsimp only at q3; omega⟩
    · rw [ht] at st plain
      simp only [Bool.not_true, cond_false] at st
      exact plain st
  · rw [if_neg h0] at st
    exact plain st
theorem someGraph_eq (m : Int) (hm : m ≤ 8) (c : List Int × (Int × Int)) {k : Nat} (hc : CurOk c k) (hk : k ≤ 600000) : ∃ (g : Int × List (Int × Int)) (d : List Int × (Int × Int)), fn15 (m, ()) (c, ()) = some ((g, ()), (d, ())) ∧ CurOk d (k + 200) ∧ g.2.length ≤ 100 := by
 obtain ⟨r0, c1, a1, a2, a3⟩ := among_eq c hc (by omega) [4, 5, 3, 6, 2, 1, 0] (by simp)
 have hr0 : 0 ≤ r0 ∧ r0 ≤ 8 := by simp at a3; omega
 have first : ∃ (t5 : Int) (c2 : List Int × (Int × Int)), (bif (decide ((6 : Int) < m)) then (match fn28 ((4 : Int), ()) (c1, ()) with | some ((r2, ()), (o2, ())) => (bif r2 then (match fn24 ((2 : Int), ()) (o2, ()) with | some ((r3, ()), (o3, ())) => some (.inl ((m, (w64 ((7 : Int) + r3)), ()), (o3, ((0 : Int), ([] : (List (Int × Int)))), ()))) | none => none) else (some (.inl ((m, r0, ()), (o2, ((0 : Int), ([] : (List (Int × Int)))), ()))))) | none => none) else (some (.inl ((m, r0, ()), (c1, ((0 : Int), ([] : (List (Int × Int)))), ())))) : Option (fn15_J0.P ⊕ fn15_E.P)) = some (.inl ((m, t5, ()), (c2, ((0 : Int), ([] : (List (Int × Int)))), ()))) ∧ CurOk c2 (k + 6) ∧ 0 ≤ t5 ∧ t5 ≤ 8 := by
  rw [bif_decide]
  by_cases h6 : 6 < m
  · rw [if_pos h6]
    obtain ⟨r2, c2, b1, b2⟩ := one_eq c1 a2 (by omega) 4
    rw [b1]
    cases r2
    · exact ⟨_, _, rfl, b2.le (by omega), hr0.1, hr0.2⟩
    · obtain ⟨r3, c3, d1, d2, d3, d4, _⟩ := pick_eq c2 b2 (by omega) 2
      have := d4 (by omega)
      simp only [cond_true, d1]
      rw [w64_of (by omega) (by omega)]
      exact ⟨_, _, rfl, d2.le (by omega), by omega, by omega⟩
  · rw [if_neg h6]
    exact ⟨_, _, rfl, a2.le (by omega), hr0.1, hr0.2⟩
 obtain ⟨t5, c2, b1, b2, b3, b4⟩ := first
 obtain ⟨u, hu, u1⟩ : ∃ u : Int, fn68 (t5, m, ()) () = some ((u, ()), ()) ∧ u ≤ 8 := by
  simp only [fn68, bif_decide]
  split
  · exact ⟨_, rfl, b4⟩
  · exact ⟨_, rfl, hm⟩
 obtain ⟨r5, c3, d1, d2, _⟩ := among_eq c2 b2 (by omega) [1, 3, 4, 6] (by simp)
 obtain ⟨r6, c4, e1, e2⟩ := one_eq c3 d2 (by omega) 5
 have body : ∃ (c5 : List Int × (Int × Int)) (l : List (Int × Int)), loopO fn15_B1 ((u, r5, r6, (0 : Int), ()), (c4, ((0 : Int), ([] : (List (Int × Int)))), (u, ([] : (List (Int × Int)))), ())) = some ((), (c5, ((0 : Int), ([] : (List (Int × Int)))), (u, l), ())) ∧ CurOk c5 (k + 180) ∧ l.length ≤ 90 := by
  by_cases hu0 : 0 ≤ u
  · obtain ⟨n, rfl⟩ : ∃ n : Nat, u = n := ⟨u.toNat, by omega⟩
    obtain ⟨c5, l, q1, q2, q3⟩ := sg_outer n (by omega) r5 r6 ((0 : Int), ([] : (List (Int × Int)))) n 0 c4 ((n : Int), []) (k + 10) (by omega) (e2.le (by omega)) (by omega) (by simp; omega)
    exact ⟨c5, l, q1, q2.le (by omega), by simp at q3; omega⟩
  · refine ⟨c4, [], loop_end ?_, e2.le (by omega), by simp⟩
    rw [fn15_B1_at]
    simp only [bif_decide]
    rw [if_neg (by omega)]
 obtain ⟨c5, l, f1, f2, f3⟩ := body
 obtain ⟨r7, c6, g1, g2, _⟩ := pick_eq c5 f2 (by omega) 50
 simp only [fn15, a1]
 erw [b1]
 simp only [hu, d1, e1]
 erw [f1]
 simp only [g1]
 by_cases h0 : r7 = 0
 · obtain ⟨r8, c7, i1, i2, _⟩ := among_eq c6 g2 (by omega) [-1, 8, 9, 0, 4611686018427387904] (by simp)
   rw [beq_eq h0, cond_true]
   simp only [i1]
   exact ⟨_, _, rfl, i2.le (by omega), by show l.length ≤ _; omega⟩
 · rw [beq_ne h0, cond_false]
   by_cases h1 : r7 = 1
   · obtain ⟨r8, c7, i1, i2, _⟩ := pick_eq c6 g2 (by omega) 4
     obtain ⟨r9, c8, j1, j2, _⟩ := pick_eq c7 i2 (by omega) 9
     rw [beq_eq h1, cond_true, fn15_D1_at]
     simp only [i1, j1]
     rw [guardB_true (by simp only [List.length_singleton, decide_eq_true_eq]; omega)]
     exact ⟨_, _, rfl, j2.le (by omega), by simp only [List.length_append, List.length_singleton]; omega⟩
   · rw [beq_ne h1, cond_false]
     by_cases h2 : r7 = 2
     · rw [beq_eq h2, cond_true, bif_decide]
       by_cases hl : (0 : Int) < (l.length : Int)
       · obtain ⟨r8, c7, i1, i2, i3, i4, _⟩ := pick_eq c6 g2 (by omega) (l.length : Int)
         have i4 := i4 (by omega)
         rw [if_pos hl, fn15_D3_at, fn15_D4_at]
         simp only [i1]
         rw [guardB_true (inb_true i3 i4), guardB_true (by simp only [List.length_singleton, decide_eq_true_eq]; omega)]
         exact ⟨_, _, rfl, i2.le (by omega), by simp only [List.length_append, List.length_singleton]; omega⟩
       · rw [if_neg hl]
         exact ⟨_, _, rfl, g2.le (by omega), by show l.length ≤ _; omega⟩
     · rw [beq_ne h2, cond_false]
       exact ⟨_, _, rfl, g2.le (by omega), by show l.length ≤ _; omega⟩
theorem fn29_D0_at (t30 : Int) (t2 : (Int) × (List ((Int) × (Int)))) (t3 : (Int) × (List ((Int) × (Int)))) (h : (Int) × (List ((Int) × (Int)))) (g : (Int) × (List ((Int) × (Int)))) (o0 : (List (Int)) × ((Int) × (Int))) : fn29_D0 (((t30, ()), ()), (t2, t3, h, g, o0, ())) = some ((), ((t30, g.2), (h.1, h.2), o0, ())) := rfl
theorem bigGraph_eq (c : List Int × (Int × Int)) {k : Nat} (hc : CurOk c k) (hk : k ≤ 600000) : ∃ (g : Int × List (Int × Int)) (d : List Int × (Int × Int)), fn17 () (c, ()) = some ((g, ()), (d, ())) ∧ CurOk d (k + 200) ∧ g.2.length ≤ 100 := by
 obtain ⟨g, d, e1, e2, e3⟩ := someGraph_eq 8 (by omega) c hc hk
 simp only [fn17, e1]
 exact ⟨_, _, rfl, e2, e3⟩
theorem cur0 {code : List Int} (hc : Sm (.list (.int .u8)) code) (hl : code.length ≤ 65536) : CurOk (code, ((0 : Int), (0 : Int))) 0 :=
 ⟨fun x hx => hc.2 x hx, hl, by show (0 : Int) ≤ 0; omega, by show (0 : Int) ≤ 0; omega⟩
theorem cyc35 {r : Int} (h0 : 0 ≤ r) (h1 : r < 3) : ∃ g : Int × List (Int × Int), fn60 (w64 (3 + r), ()) () = some ((g, ()), ()) ∧ g.2.length ≤ 100 := by
 rw [w64_of (by omega) (by omega)]
 have k : ∀ n : Nat, (n = 3 ∨ n = 4 ∨ n = 5 ∨ n = 6 ∨ n = 7 ∨ n = 8) → 3 + r = n → ∃ g : Int × List (Int × Int), fn60 (3 + r, ()) () = some ((g, ()), ()) ∧ g.2.length ≤ 100 := fun n hn e => by
  rw [e]
  exact ⟨_, specCycle_eq hn, Nat.le_trans (cyc_good hn).2 (by omega)⟩
 rcases (show r = 0 ∨ r = 1 ∨ r = 2 by omega) with h | h | h
 · exact k 3 (.inl rfl) (by omega)
 · exact k 4 (.inr (.inl rfl)) (by omega)
 · exact k 5 (.inr (.inr (.inl rfl))) (by omega)
theorem pair_draw (c : List Int × (Int × Int)) {k : Nat} (hc : CurOk c k) (hk : k ≤ 500000) : ∃ (g h : Int × List (Int × Int)) (d : List Int × (Int × Int)), fn29 () (c, ()) = some ((g, h, ()), (d, ())) ∧ CurOk d (k + 700) ∧ g.2.length ≤ 100 ∧ h.2.length ≤ 100 := by
 obtain ⟨g1, c1, a1, a2, a3⟩ := someGraph_eq 4 (by omega) c hc (by omega)
 obtain ⟨g2, c2, b1, b2, b3⟩ := someGraph_eq 4 (by omega) c1 a2 (by omega)
 obtain ⟨r, c3, d1, d2, _⟩ := pick_eq c2 b2 (by omega) 5
 simp only [fn29, a1, b1, d1]
 by_cases h0 : r = 0
 · obtain ⟨r4, c4, e1, e2, e3, e4, _⟩ := pick_eq c3 d2 (by omega) 3
   obtain ⟨y, y1, y2⟩ := cyc35 e3 (e4 (by omega))
   rw [beq_eq h0, cond_true]
   simp only [e1, y1, fn29_D0_at]
   exact ⟨_, _, _, rfl, e2.le (by omega), y2, b3⟩
 · rw [beq_ne h0, cond_false]
   by_cases h1 : r = 1
   · obtain ⟨r4, c4, e1, e2, e3, e4, _⟩ := pick_eq c3 d2 (by omega) 3
     obtain ⟨y, y1, y2⟩ := cyc35 e3 (e4 (by omega))
     rw [beq_eq h1, cond_true]
     simp only [e1, y1, fn29_D0_at]
     exact ⟨_, _, _, rfl, e2.le (by omega), a3, y2⟩
   · rw [beq_ne h1, cond_false]
     by_cases h2 : r = 2
     · obtain ⟨r4, c4, e1, e2⟩ := one_eq c3 d2 (by omega) 3
       rw [beq_eq h2, cond_true]
       simp only [e1]
       cases r4
       · simp only [cond_false, fn29_D0_at]
         exact ⟨_, _, _, rfl, e2.le (by omega), a3, b3⟩
       · obtain ⟨y, c5, y1, y2, y3⟩ := bigGraph_eq c4 e2 (by omega)
         simp only [cond_true, y1, fn29_D0_at]
         exact ⟨_, _, _, rfl, y2.le (by omega), y3, b3⟩
     · rw [beq_ne h2, cond_false]
       rw [fn29_D0_at]
       exact ⟨_, _, _, rfl, d2.le (by omega), a3, b3⟩
theorem DrawCountMaps_eq {code : List Int} (hc : Sm (.list (.int .u8)) code) (hl : code.length ≤ 65536) : ∃ (g h : Int × List (Int × Int)) (b : Bool), fn26 (code, ()) () = some ((g, h, b, ()), ()) ∧ g.2.length ≤ 100 ∧ h.2.length ≤ 100 := by
 obtain ⟨g, h, d, e1, e2, e3, e4⟩ := pair_draw _ (cur0 hc hl) (by omega)
 obtain ⟨b, d2, f1, _⟩ := one_eq d e2 (by omega) 2
 simp only [fn26, e1, f1]
 exact ⟨_, _, _, rfl, e3, e4⟩
theorem DrawMapSpace_eq {code : List Int} (hc : Sm (.list (.int .u8)) code) (hl : code.length ≤ 65536) : ∃ (g h : Int × List (Int × Int)) (b : Bool), fn33 (code, ()) () = some ((g, h, b, ()), ()) ∧ g.2.length ≤ 100 ∧ h.2.length ≤ 100 := by
 obtain ⟨g, h, b, e1, e3, e4⟩ := DrawCountMaps_eq hc hl
 simp only [fn33, e1]
 exact ⟨_, _, _, rfl, e3, e4⟩
theorem fn18_B0_at (g : (Int) × (List ((Int) × (Int)))) (h : (Int) × (List ((Int) × (Int)))) (out : List (Int)) (x : Int) (o0 : (List (Int)) × ((Int) × (Int))) : fn18_B0 ((g, h, out, x, ()), (o0, ())) = bif (decide (x < g.1)) then (bif (decide (x < (8 : Int))) then (match fn68 (h.1, (8 : Int), ()) () with | some ((r, ()), ()) => (match fn85 (r, (0 : Int), ()) () with | some ((r2, ()), ()) => (match fn24 ((w64 (r2 + (2 : Int))), ()) (o0, ()) with | some ((r3, ()), (o, ())) => (match fn24 ((2 : Int), ()) (o, ()) with | some ((r4, ()), (o2, ())) => guardB (decide ((List.length out + List.length [(w64 (r3 - r4))]) * 8 ≤ 70368744177664)) (some (.inl ((g, h, (out ++ [(w64 (r3 - r4))]), (w64 (x + (1 : Int))), ()), (o2, ())))) | none => none) | none => none) | none => none) | none => none) else (some (.inr ((out, ()), (o0, ()))))) else (some (.inr ((out, ()), (o0, ())))) := rfl
theorem image_loop (g h : Int × List (Int × Int)) : ∀ (d x : Nat) (out : List Int) (c : List Int × (Int × Int)) (k : Nat), x + d = 8 → CurOk c k → k + 4 * d ≤ 800000 → out.length + d ≤ 1000 → ∃ (r : List Int) (c' : List Int × (Int × Int)), loopO fn18_B0 ((g, h, out, (x : Int), ()), (c, ())) = some ((r, ()), (c', ())) ∧ CurOk c' (k + 4 * d) ∧ r.length ≤ out.length + d := by
 intro d
 induction d with
 | zero =>
  intro x out c k hx hc hk hl
  refine ⟨out, c, loop_end ?_, hc.le (by omega), by omega⟩
  rw [fn18_B0_at]
  simp only [bif_decide]
  by_cases h1 : (x : Int) < g.1
  · rw [if_pos h1, if_neg (by omega)]
  · rw [if_neg h1]
 | succ d ih =>
  intro x out c k hx hc hk hl
  have st := fn18_B0_at g h out (x : Int) c
  simp only [bif_decide] at st
  by_cases h1 : (x : Int) < g.1
  · obtain ⟨u, hu⟩ : ∃ u : Int, fn68 (h.1, (8 : Int), ()) () = some ((u, ()), ()) := by
     simp only [fn68, bif_decide]
     split
     · exact ⟨_, rfl⟩
     · exact ⟨_, rfl⟩
    obtain ⟨v, hv⟩ : ∃ v : Int, fn85 (u, (0 : Int), ()) () = some ((v, ()), ()) := by
     simp only [fn85, bif_decide]
     split
     · exact ⟨_, rfl⟩
     · exact ⟨_, rfl⟩
    obtain ⟨r3, c1, e1, e2, _⟩ := pick_eq c hc (by omega) (w64 (v + 2))
    obtain ⟨r4, c2, f1, f2, _⟩ := pick_eq c1 e2 (by omega) 2
    rw [if_pos h1, if_pos (by omega), hu] at st
    simp only [hv, e1, f1] at st
    rw [guardB_true (by simp only [List.length_singleton, decide_eq_true_eq]; omega), w64_succ (by omega)] at st
    obtain ⟨r, c3, q1, q2, q3⟩ := ih (x + 1) (out ++ [w64 (r3 - r4)]) c2 (k + 4) (by omega) (f2.le (by omega)) (by omega) (by simp only [List.length_append, List.length_singleton]; omega)
    exact ⟨r, c3, loop_step st q1, q2.le (by omega), by simp only [List.length_append, List.length_singleton] at q3; omega⟩
  · rw [if_neg h1] at st
    exact ⟨out, c, loop_end st, hc.le (by omega), by omega⟩
theorem image_eq (g h : Int × List (Int × Int)) (lazy : Bool) (hg : g.2.length ≤ 1048576) (hh : h.2.length ≤ 1048576) (c : List Int × (Int × Int)) {k : Nat} (hc : CurOk c k) (hk : k ≤ 500000) : ∃ (r : List Int) (d : List Int × (Int × Int)), fn18 (g, h, lazy, ()) (c, ()) = some ((r, ()), (d, ())) ∧ CurOk d (k + 100) ∧ r.length ≤ 100 := by
 have tail : ∀ (c : List Int × (Int × Int)) (k : Nat), CurOk c k → k ≤ 600000 → ∃ (r : List Int) (d : List Int × (Int × Int)), (match loopO fn18_B0 ((g, h, ([] : List Int), (0 : Int), ()), (c, ())) with | some ((out2, ()), (o0_3, ())) => some ((out2, ()), (o0_3, ())) | none => none : Option ((List Int × Unit) × ((List Int × (Int × Int)) × Unit))) = some ((r, ()), (d, ())) ∧ CurOk d (k + 40) ∧ r.length ≤ 100 := fun c k hc hk => by
  obtain ⟨r, d, q1, q2, q3⟩ := image_loop g h 8 0 [] c k (by omega) hc (by omega) (by simp)
  have q1 : loopO fn18_B0 ((g, h, ([] : List Int), (0 : Int), ()), (c, ())) = some ((r, ()), (d, ())) := q1
  rw [q1]
  exact ⟨r, d, rfl, q2.le (by omega), by simp at q3; omega⟩
 simp only [fn18, Good2_eq g h hg hh]
 cases hcc : caseB g h
 · simp only [cond_false]
   obtain ⟨r, d, q1, q2, q3⟩ := tail c k hc (by omega)
   exact ⟨r, d, q1, q2.le (by omega), q3⟩
 · simp only [cond_true]
   obtain ⟨r2, c2, e1, e2⟩ := one_eq c hc (by omega) 8
   simp only [e1]
   cases r2
   · simp only [caseB, Bool.and_eq_true, decide_eq_true_eq] at hcc
     obtain ⟨n, hn, hn8, hgp⟩ := good_nat hcc.1
     obtain ⟨m, hm, hm8, hhp⟩ := good_nat hcc.2.1
     have s1 := all_run g h lazy hn (by omega) hm hm8 hg hh n 1000 60 [] (by simp) (by omega) (by omega)
     have hmem := full_mem g.2 h.2 lazy (m := m) n []
     generalize full g.2 h.2 lazy m n [] = A at s1 hmem
     have s2 : fn83 (g, h, lazy, ([] : List Int), (60 : Int), ()) () = some ((A.take 61, ()), ()) := s1
     simp only [Bool.not_false, cond_true, s2, bif_decide]
     by_cases hl : (0 : Int) < ((A.take 61).length : Int)
     · obtain ⟨r4, c3, f1, f2, f3, f4, _⟩ := pick_eq c2 e2 (by omega) ((A.take 61).length : Int)
       have f4 := f4 (by omega)
       rw [if_pos hl]
       simp only [f1]
       have hi : r4.toNat < (A.take 61).length := by omega
       have hin : (A.take 61).getD r4.toNat [] ∈ A := by rw [getD_at hi]; exact List.mem_of_mem_take (List.getElem_mem hi)
       have hlen := (hmem _ hin).1
       simp only [List.length_nil, Nat.zero_add] at hlen
       rw [guardB_true (inb_true f3 f4), own_small _ (by omega)]
       exact ⟨_, _, rfl, f2.le (by omega), by omega⟩
     · rw [if_neg hl]
       obtain ⟨r, d, q1, q2, q3⟩ := tail c2 (k + 2) e2 (by omega)
       exact ⟨r, d, q1, q2.le (by omega), q3⟩
   · simp only [Bool.not_true, cond_false]
     obtain ⟨r, d, q1, q2, q3⟩ := tail c2 (k + 2) e2 (by omega)
     exact ⟨r, d, q1, q2.le (by omega), q3⟩
theorem DrawMapWay_eq {code : List Int} (hc : Sm (.list (.int .u8)) code) (hl : code.length ≤ 65536) : ∃ (g h : Int × List (Int × Int)) (a b : List Int) (z : Bool), fn35 (code, ()) () = some ((g, h, a, b, z, ()), ()) ∧ g.2.length ≤ 100 ∧ h.2.length ≤ 100 ∧ a.length ≤ 100 ∧ b.length ≤ 100 := by
 obtain ⟨g, h, d, e1, e2, e3, e4⟩ := pair_draw _ (cur0 hc hl) (by omega)
 obtain ⟨z, d2, f1, f2⟩ := one_eq d e2 (by omega) 2
 obtain ⟨a, d3, i1, i2, i3⟩ := image_eq g h z (by omega) (by omega) d2 f2 (by omega)
 obtain ⟨b, d4, j1, j2, j3⟩ := image_eq g h z (by omega) (by omega) d3 i2 (by omega)
 simp only [fn35, e1, f1, i1, j1]
 exact ⟨_, _, _, _, _, rfl, e3, e4, i3, j3⟩
theorem DrawAfterMap_eq {code : List Int} (hc : Sm (.list (.int .u8)) code) (hl : code.length ≤ 65536) : ∃ (g h k : Int × List (Int × Int)) (a b : List Int) (z : Bool), fn32 (code, ()) () = some ((g, h, k, a, b, z, ()), ()) ∧ g.2.length ≤ 100 ∧ h.2.length ≤ 100 ∧ k.2.length ≤ 100 ∧ a.length ≤ 100 ∧ b.length ≤ 100 := by
 obtain ⟨g, h, d, e1, e2, e3, e4⟩ := pair_draw _ (cur0 hc hl) (by omega)
 obtain ⟨k, d1, k1, k2, k3⟩ := someGraph_eq 4 (by omega) d e2 (by omega)
 obtain ⟨z, d2, f1, f2⟩ := one_eq d1 k2 (by omega) 2
 obtain ⟨a, d3, i1, i2, i3⟩ := image_eq g h z (by omega) (by omega) d2 f2 (by omega)
 obtain ⟨b, d4, j1, j2, j3⟩ := image_eq h k z (by omega) (by omega) d3 i2 (by omega)
 simp only [fn32, e1, k1, f1, i1, j1]
 exact ⟨_, _, _, _, _, _, rfl, e3, e4, k3, i3, j3⟩
theorem DrawIsMap_eq {code : List Int} (hc : Sm (.list (.int .u8)) code) (hl : code.length ≤ 65536) : ∃ (g h : Int × List (Int × Int)) (a : List Int) (z : Bool), fn39 (code, ()) () = some ((g, h, a, z, ()), ()) ∧ g.2.length ≤ 100 ∧ h.2.length ≤ 100 ∧ a.length ≤ 100 := by
 obtain ⟨g, h, d, e1, e2, e3, e4⟩ := pair_draw _ (cur0 hc hl) (by omega)
 obtain ⟨z, d2, f1, f2⟩ := one_eq d e2 (by omega) 2
 obtain ⟨a, d3, i1, i2, i3⟩ := image_eq g h z (by omega) (by omega) d2 f2 (by omega)
 simp only [fn39, e1, f1, i1]
 exact ⟨_, _, _, _, rfl, e3, e4, i3⟩
theorem fn95_B0_at (a : List (Int)) (b : List (Int)) (i : Int) : fn95_B0 ((a, b, i, ()), ()) = bif (decide (i < (List.length a : Int))) then (guardB (inb i (List.length a)) (guardB (inb i (List.length b)) (bif ((List.getD a (Int.toNat i) (0 : Int)) != (List.getD b (Int.toNat i) (0 : Int))) then (some (.inr (.inl ((false, ()), ())))) else (some (.inl ((a, b, (w64 (i + (1 : Int))), ()), ())))))) else (some (.inr (.inr ((), ())))) := rfl
theorem fn79_B0_at (a : List ((Int) × (Int))) (b : List ((Int) × (Int))) (i : Int) : fn79_B0 ((a, b, i, ()), ()) = bif (decide (i < (List.length a : Int))) then (guardB (inb i (List.length a)) (guardB (inb i (List.length b)) (bif (!((((List.getD a (Int.toNat i) ((0 : Int), (0 : Int))).1) == ((List.getD b (Int.toNat i) ((0 : Int), (0 : Int))).1)) && (((List.getD a (Int.toNat i) ((0 : Int), (0 : Int))).2) == ((List.getD b (Int.toNat i) ((0 : Int), (0 : Int))).2)))) then (some (.inr (.inl ((false, ()), ())))) else (some (.inl ((a, b, (w64 (i + (1 : Int))), ()), ())))))) else (some (.inr (.inr ((), ())))) := rfl
theorem fn81_B0_at (a : List (List (Int))) (b : List (List (Int))) (i : Int) : fn81_B0 ((a, b, i, ()), ()) = bif (decide (i < (List.length a : Int))) then (guardB (inb i (List.length a)) (guardB (inb i (List.length b)) (match fn95 ((List.getD a (Int.toNat i) ([] : (List Int))), (List.getD b (Int.toNat i) ([] : (List Int))), ()) () with | some ((r, ()), ()) => (bif (!r) then (some (.inr (.inl ((false, ()), ())))) else (some (.inl ((a, b, (w64 (i + (1 : Int))), ()), ())))) | none => none))) else (some (.inr (.inr ((), ())))) := rfl
theorem rInts_self (l : List Int) (hl : l.length ≤ 1048576) : fn95 (l, l, ()) () = some ((true, ()), ()) := by
 have key := loop_all (B := fn95_B0) (fun i => ((l, l, (i : Int), ()), ())) (fun _ => true) l.length (.inl ((false, ()), ())) (.inr ((), ())) (fun i hi _ => by
  rw [fn95_B0_at, bif_decide, if_pos (show (i : Int) < (l.length : Int) by omega), guardB_true (inb_true (Int.natCast_nonneg i) (show (i : Int) < (l.length : Int) by omega)), guardB_true (inb_true (Int.natCast_nonneg i) (show (i : Int) < (l.length : Int) by omega)), bne_self_eq_false, cond_false, w64_succ (show i < 4611686018427387904 by omega)]
  rfl) (by rw [fn95_B0_at]; simp)
 rw [allUpto_true] at key
 simp only [fn95, bne_self_eq_false, cond_false]
 rw [show (0 : Int) = ((0 : Nat) : Int) from rfl, key]
 rfl
theorem rTable_self (l : List (List Int)) (hl : l.length ≤ 4000000) (h : ∀ x ∈ l, x.length ≤ 1048576) : fn81 (l, l, ()) () = some ((true, ()), ()) := by
 have key := loop_all (B := fn81_B0) (fun i => ((l, l, (i : Int), ()), ())) (fun _ => true) l.length (.inl ((false, ()), ())) (.inr ((), ())) (fun i hi _ => by
  rw [fn81_B0_at, bif_decide, if_pos (show (i : Int) < (l.length : Int) by omega), guardB_true (inb_true (Int.natCast_nonneg i) (show (i : Int) < (l.length : Int) by omega)), guardB_true (inb_true (Int.natCast_nonneg i) (show (i : Int) < (l.length : Int) by omega)), Int.toNat_natCast, rInts_self (l.getD i []) (by rw [getD_at hi]; exact h _ (List.getElem_mem hi)), w64_succ (show i < 4611686018427387904 by omega)]
  rfl) (by rw [fn81_B0_at]; simp)
 rw [allUpto_true] at key
 simp only [fn81, bne_self_eq_false, cond_false]
 rw [show (0 : Int) = ((0 : Nat) : Int) from rfl, key]
 rfl
theorem rPairs_self (l : List (Int × Int)) (hl : l.length ≤ 1048576) : fn79 (l, l, ()) () = some ((true, ()), ()) := by
 have key := loop_all (B := fn79_B0) (fun i => ((l, l, (i : Int), ()), ())) (fun _ => true) l.length (.inl ((false, ()), ())) (.inr ((), ())) (fun i hi _ => by
  rw [fn79_B0_at, bif_decide, if_pos (show (i : Int) < (l.length : Int) by omega), guardB_true (inb_true (Int.natCast_nonneg i) (show (i : Int) < (l.length : Int) by omega)), guardB_true (inb_true (Int.natCast_nonneg i) (show (i : Int) < (l.length : Int) by omega)), beq_self_eq_true, beq_self_eq_true, w64_succ (show i < 4611686018427387904 by omega)]
  rfl) (by rw [fn79_B0_at]; simp)
 rw [allUpto_true] at key
 simp only [fn79, bne_self_eq_false, cond_false]
 rw [show (0 : Int) = ((0 : Nat) : Int) from rfl, key]
 rfl
theorem rSpace_self (x : List (List Int) × List (Int × Int)) (h1 : x.1.length ≤ 1048576) (h2 : ∀ s ∈ x.1, s.length ≤ 1048576) (h3 : x.2.length ≤ 1048576) : fn80 (x, x, ()) () = some ((true, ()), ()) := by
 simp only [fn80, rTable_self x.1 (by omega) h2, cond_true, rPairs_self x.2 h3]
theorem fn78_B0_at (t0 : List (Int)) (t18 : (Int) × (List ((Int) × (Int)))) (t19 : (Int) × (List ((Int) × (Int)))) (t22 : Bool) (t23 : List (List (Int))) (t27 : Int) (t32 : Int) (t33 : Int) : fn78_B0 ((t0, t18, t19, t22, t23, t27, t32, t33, ()), ()) = bif (decide ((0 : Int) < t27)) then (guardB (inb t27 (List.length t23)) (bif (decide (t33 < (List.length (List.getD t23 (Int.toNat t27) ([] : (List Int))) : Int))) then (guardB (inb t27 (List.length t23)) (guardB (inb t33 (List.length (List.getD t23 (Int.toNat t27) ([] : (List Int))))) (guardB (inb (w64 (t27 - (1 : Int))) (List.length t23)) (guardB (inb t33 (List.length (List.getD t23 (Int.toNat (w64 (t27 - (1 : Int)))) ([] : (List Int))))) (bif ((List.getD (List.getD t23 (Int.toNat t27) ([] : (List Int))) (Int.toNat t33) (0 : Int)) != (List.getD (List.getD t23 (Int.toNat (w64 (t27 - (1 : Int)))) ([] : (List Int))) (Int.toNat t33) (0 : Int))) then (some (.inl ((t0, t18, t19, t22, t23, t27, (w64 (t32 + (1 : Int))), (w64 (t33 + (1 : Int))), ()), ()))) else (some (.inl ((t0, t18, t19, t22, t23, t27, t32, (w64 (t33 + (1 : Int))), ()), ())))))))) else (some (.inr ((t0, t18, t19, t22, t23, t27, t32, ()), ()))))) else (some (.inr ((t0, t18, t19, t22, t23, t27, t32, ()), ()))) := rfl
theorem fn78_B1_at (t0 : List (Int)) (t18 : (Int) × (List ((Int) × (Int)))) (t19 : (Int) × (List ((Int) × (Int)))) (t22 : Bool) (t23 : List (List (Int))) (t27 : Int) : fn78_B1 ((t0, t18, t19, t22, t23, t27, ()), ()) = bif (decide (t27 < (List.length t23 : Int))) then (guardB (inb t27 (List.length t23)) (match fn93 (t18, t19, (List.getD t23 (Int.toNat t27) ([] : (List Int))), t22, ()) () with | some ((r, r2, ()), ()) => guardB (inb t27 (List.length t23)) (match fn96 (t18, t19, (List.getD t23 (Int.toNat t27) ([] : (List Int))), t22, ()) () with | some ((r3, r4, ()), ()) => (bif (!r2) then (some (.inr (.inl ((false, ()), ())))) else (bif (!r4) then (some (.inr (.inl ((false, ()), ())))) else (bif (!(r == r3)) then (some (.inr (.inl ((false, ()), ())))) else (bif (!r) then (some (.inr (.inl ((false, ()), ())))) else (match loopO fn78_B0 ((t0, t18, t19, t22, t23, t27, (0 : Int), (0 : Int), ()), ()) with | some ((t0_2, t18_2, t19_2, t22_2, t23_2, t27_2, t32, ()), ()) => (bif (decide ((0 : Int) < t27_2)) then (bif (t32 != (1 : Int)) then (some (.inr (.inl ((false, ()), ())))) else (some (.inl ((t0_2, t18_2, t19_2, t22_2, t23_2, (w64 (t27_2 + (1 : Int))), ()), ())))) else (some (.inl ((t0_2, t18_2, t19_2, t22_2, t23_2, (w64 (t27_2 + (1 : Int))), ()), ())))) | none => none))))) | none => none) | none => none)) else (some (.inr (.inr ((t0, ()), ())))) := rfl
theorem diffs (code : List Int) (g h : Int × List (Int × Int)) (z : Bool) (R : List (List Int)) {k : Nat} (hk : k + 1 < R.length) (hl : (R.getD k []).length = (R.getD (k + 1) []).length) (hs : (R.getD k []).length ≤ 1048576) (hR : R.length ≤ 2097152) : loopO fn78_B0 ((code, g, h, z, R, ((k + 1 : Nat) : Int), (0 : Int), (0 : Int), ()), ()) = some ((code, g, h, z, R, ((k + 1 : Nat) : Int), ((ham (R.getD (k + 1) []) (R.getD k []) : Nat) : Int), ()), ()) := by
 have hw : w64 (((k + 1 : Nat) : Int) - 1) = (k : Int) := by rw [w64_of (by omega) (by omega)]; omega
 have key : ∀ d j c : Nat, j + d = (R.getD (k + 1) []).length → c ≤ j → loopO fn78_B0 ((code, g, h, z, R, ((k + 1 : Nat) : Int), (c : Int), (j : Int), ()), ()) = some ((code, g, h, z, R, ((k + 1 : Nat) : Int), ((c + ham ((R.getD (k + 1) []).drop j) ((R.getD k []).drop j) : Nat) : Int), ()), ()) := by
  intro d
  induction d with
  | zero =>
   intro j c hj _
   refine loop_end ?_
   rw [fn78_B0_at]
   simp only [bif_decide, Int.toNat_natCast]
   rw [if_pos (by omega), guardB_true (inb_true (by omega) (by omega)), if_neg (by omega), show j = (R.getD (k + 1) []).length by omega, ham_end]
   simp
  | succ d ih =>
   intro j c hj hc
   have st := fn78_B0_at code g h z R ((k + 1 : Nat) : Int) (c : Int) (j : Int)
   simp only [bif_decide, Int.toNat_natCast, hw] at st
   rw [if_pos (by omega), guardB_true (inb_true (by omega) (by omega)), if_pos (by omega), guardB_true (inb_true (by omega) (by omega)), guardB_true (inb_true (by omega) (by omega)), guardB_true (inb_true (by omega) (by omega)), guardB_true (inb_true (by omega) (by omega))] at st
   have e := ham_drop (a := R.getD (k + 1) []) (b := R.getD k []) (k := j) (by omega) (by omega)
   by_cases hq : (R.getD (k + 1) []).getD j 0 = (R.getD k []).getD j 0
   · rw [if_pos hq] at e
     rw [e]
     rw [bne_eq hq] at st
     simp only [cond_false, w64_succ (show j < 4611686018427387904 by omega)] at st
     refine loop_step st ?_
     rw [Nat.zero_add]
     exact ih (j + 1) c (by omega) (by omega)
   · rw [if_neg hq] at e
     rw [e]
     rw [bne_ne hq] at st
     simp only [cond_true, w64_succ (show j < 4611686018427387904 by omega), w64_succ (show c < 4611686018427387904 by omega)] at st
     refine loop_step st ?_
     have := ih (j + 1) (c + 1) (by omega) (by omega)
     rw [show c + 1 + ham ((R.getD (k + 1) []).drop (j + 1)) ((R.getD k []).drop (j + 1)) = c + (1 + ham ((R.getD (k + 1) []).drop (j + 1)) ((R.getD k []).drop (j + 1))) by omega] at this
     exact this
 have := key (R.getD (k + 1) []).length 0 0 (by omega) (by omega)
 simpa using this
theorem ways_good (code : List Int) (g h : Int × List (Int × Int)) (z : Bool) (R : List (List Int)) (hg : g.2.length ≤ 1048576) (hh : h.2.length ≤ 1048576) (hW : WayGood g h z R) (h6 : ∀ r ∈ R, r.length ≤ 6) (hR : R.length ≤ 2097152) : loopO fn78_B1 ((code, g, h, z, R, (0 : Int), ()), ()) = some (.inr ((code, ()), ())) := by
 have key : ∀ d k : Nat, k + d = R.length → loopO fn78_B1 ((code, g, h, z, R, (k : Int), ()), ()) = some (.inr ((code, ()), ())) := by
  intro d
  induction d with
  | zero =>
   intro k hk
   refine loop_end ?_
   rw [fn78_B1_at, bif_decide, if_neg (by omega)]
  | succ d ih =>
   intro k hk
   have hk' : k < R.length := by omega
   have hmem : R.getD k [] ∈ R := by rw [getD_at hk']; exact List.getElem_mem hk'
   obtain ⟨c1, c2⟩ := hW.1 _ hmem
   have hlen : ∀ r ∈ R, (r.length : Int) = g.1 := fun r hr => (mapB_iff.1 (hW.1 r hr).2).1
   obtain ⟨i1, i2⟩ := ismap_both g h (R.getD k []) z hg hh (by have := h6 _ hmem; omega)
   rw [c1, c2] at i1 i2
   have st := fn78_B1_at code g h z R (k : Int)
   rw [bif_decide, if_pos (by omega), guardB_true (inb_true (by omega) (by omega)), Int.toNat_natCast, i1, i2] at st
   simp only [Bool.true_and, guardB_true (inb_true (show (0 : Int) ≤ (k : Int) by omega) (show (k : Int) < (R.length : Int) by omega)), beq_self_eq_true, Bool.not_true, cond_false] at st
   refine loop_step ?_ (ih (k + 1) (by omega))
   cases k with
   | zero =>
    have e0 : loopO fn78_B0 ((code, g, h, z, R, ((0 : Nat) : Int), (0 : Int), (0 : Int), ()), ()) = some ((code, g, h, z, R, ((0 : Nat) : Int), (0 : Int), ()), ()) := loop_end (by rw [fn78_B0_at, bif_decide, if_neg (by omega)])
    rw [e0] at st
    simp only [bif_decide] at st
    rw [if_neg (by omega), w64_succ (by omega)] at st
    exact st
   | succ k =>
    have hm2 : R.getD k [] ∈ R := by rw [getD_at (show k < R.length by omega)]; exact List.getElem_mem _
    have l1 := hlen _ hmem
    have l2 := hlen _ hm2
    have hh1 := hW.2 k hk'
    rw [hamS] at hh1
    rw [diffs code g h z R hk' (by omega) (by have := h6 _ hm2; omega) hR, hh1] at st
    simp only [bif_decide] at st
    rw [if_pos (by omega), bne_eq (show ((1 : Nat) : Int) = 1 from rfl), cond_false, w64_succ (by omega)] at st
    exact st
 exact key R.length 0 (by omega)
theorem FnMaps_tail (code : List Int) (hc : Sm (.list (.int .u8)) code) (hb : code.length ≤ 65536) : ((match fn35 (code, ()) () with | some ((r21, r22, r23, r24, r25, ()), ()) => (match fn75 (r21, r22, r23, r24, r25, ()) () with | some ((r26, r27, ()), ()) => (match fn82 (r21, r22, r23, r24, r25, ()) () with | some ((r28, r29, ()), ()) => (bif (!(r27 == r29)) then (some ((false, ()), ())) else (match fn81 (r26, r28, ()) () with | some ((r30, ()), ()) => (bif (!r30) then (some ((false, ()), ())) else (match loopO fn78_B1 ((code, r21, r22, r25, r26, (0 : Int), ()), ()) with | some (.inl ((t2, ()), ())) => some ((t2, ()), ()) | some (.inr ((t0_5, ()), ())) => (match fn32 (t0_5, ()) () with | some ((r31, r32, r33, r34, r35, r36, ()), ()) => (match fn52 (r31, r32, r33, r34, r35, r36, ()) () with | some ((r37, r38, ()), ()) => (match fn56 (r31, r32, r33, r34, r35, r36, ()) () with | some ((r39, r40, ()), ()) => (bif (!(r38 == r40)) then (some ((false, ()), ())) else (match fn95 (r37, r39, ()) () with | some ((r41, ()), ()) => (bif (!r41) then (some ((false, ()), ())) else (match (bif r38 then (match fn93 (r31, r33, r37, r36, ()) () with | some ((r42, r43, ()), ()) => (bif (!r43) then (some (.inr ((false, ()), ()))) else (bif (!r42) then (some (.inr ((false, ()), ()))) else (some (.inl ((t0_5, ()), ()))))) | none => none) else (some (.inl ((t0_5, ()), ()))) : Option (fn78_J2.P ⊕ fn78_E.P)) with | some (.inl ((t0_6, ()), ())) => (match fn39 (t0_6, ()) () with | some ((r44, r45, r46, r47, ()), ()) => (match fn93 (r44, r45, r46, r47, ()) () with | some ((r48, r49, ()), ()) => (match fn96 (r44, r45, r46, r47, ()) () with | some ((r50, r51, ()), ()) => (bif (r48 == r50) then (some (((r49 == r51), ()), ())) else (some ((false, ()), ()))) | none => none) | none => none) | none => none) | some (.inr r) => some r | none => none)) | none => none)) | none => none) | none => none) | none => none) | none => none)) | none => none)) | none => none) | none => none) | none => none) : Option ((Bool × Unit) × Unit)) = some ((true, ()), ()) := by
 obtain ⟨g, h, a, b, z, d1, d2, d3, d4, d5⟩ := DrawMapWay_eq hc hb
 obtain ⟨R, c, r1, r2, ⟨r3, r4⟩, r5⟩ := way_bothC g h a b z (by omega) (by omega) (by omega) (by omega)
 simp only [d1, r3, r5, beq_self_eq_true, Bool.not_true, cond_false, rTable_self R (by omega) (fun x hx => by have := r1 x hx; omega)]
 erw [ways_good code g h z R (by omega) (by omega) r4 r1 r2]
 obtain ⟨g2, h2, k2, a2, b2, z2, m1, m2, m3, m4, m5, m6⟩ := DrawAfterMap_eq hc hb
 obtain ⟨S, e, s1, s2, s3, s4⟩ := after_both g2 h2 k2 a2 b2 z2 (by omega) (by omega) (by omega) (by omega) (by omega)
 obtain ⟨g3, h3, a3, z3, n1, n2, n3, n4⟩ := DrawIsMap_eq hc hb
 obtain ⟨i1, i2⟩ := ismap_both g3 h3 a3 z3 (by omega) (by omega) (by omega)
 simp only [m1, s2, s3, beq_self_eq_true, Bool.not_true, cond_false, rInts_self S s1]
 cases e
 · simp only [cond_false, n1, i1, i2, beq_self_eq_true, cond_true]
 · obtain ⟨t1, t2⟩ := s4 rfl
   obtain ⟨_, q2⟩ := ismap_both g2 k2 S z2 (by omega) (by omega) s1
   rw [t1, t2] at q2
   simp only [cond_true, q2, Bool.true_and, Bool.not_true, cond_false, n1, i1, i2, beq_self_eq_true]
theorem FnMaps_true (code : List Int) (hc : Sm (.list (.int .u8)) code) : fn78 (code, ()) () = some ((true, ()), ()) := by
 simp only [fn78, fn99, bif_decide]
 by_cases hb : (65536 : Int) < (code.length : Int)
 · rw [if_pos hb]
 rw [if_neg hb]
 have tl := FnMaps_tail code hc (by omega)
 obtain ⟨g, h, z, d1, d2, d3⟩ := DrawMapSpace_eq hc (by omega)
 obtain ⟨X, b, x1, x2, x3, x4, x5⟩ := space_both g h z (by omega) (by omega)
 simp only [d1, x2, x3, beq_self_eq_true, Bool.not_true, cond_false, rSpace_self X x1.states x1.state x1.steps]
 cases hcc : caseB g h
 · have hbf : b = false := by
    cases b
    · rfl
    · have := (x4 rfl).2.2; rw [hcc] at this; cases this
   subst hbf
   obtain ⟨c1, c2⟩ := maps_bothN g h z (by omega) (by omega) hcc
   obtain ⟨f1, f2⟩ := first_bothN g h z (by omega) (by omega) hcc
   simp only [c1, c2, f1, f2, bne_self_eq_false, beq_self_eq_true, Bool.not_true, cond_false, rInts_self [] (by simp)]
   exact tl
 · obtain ⟨c1, c2⟩ := maps_bothC g h z (by omega) (by omega) hcc
   obtain ⟨f1, f2⟩ := first_bothC g h z (by omega) (by omega) hcc
   have x5 := x5 hcc
   have hmem := full_mem g.2 h.2 z (m := h.1.toNat) g.1.toNat []
   have hn6 : g.1.toNat ≤ 8 := by
    simp only [caseB, Bool.and_eq_true, decide_eq_true_eq] at hcc
    omega
   generalize full g.2 h.2 z h.1.toNat g.1.toNat [] = A at c1 c2 f1 f2 x4 x5 hmem
   have hd : (b == decide ((A.length : Int) ≤ 300)) = true := by
    cases b
    · rw [decide_eq_false (fun e => by have := x5.2 (by omega); cases this)]; rfl
    · rw [decide_eq_true (by have := x5.1 rfl; omega)]; rfl
   have hhd : (headOf A).1.length ≤ 1048576 ∧ ((headOf A).2 == decide ((0 : Int) < (A.length : Int))) = true := by
    cases A with
    | nil => exact ⟨by simp [headOf], rfl⟩
    | cons a A =>
     have := (hmem a (by simp)).1
     simp only [List.length_nil, Nat.zero_add] at this
     refine ⟨by show a.length ≤ _; omega, ?_⟩
     rw [decide_eq_true (by simp only [List.length_cons]; omega)]; rfl
   simp only [c1, c2, f1, f2, bne_self_eq_false, beq_self_eq_true, Bool.not_true, cond_false, cond_true, hd, hhd.2, rInts_self _ hhd.1]
   cases b
   · simp only [cond_false]
     exact tl
   · obtain ⟨y1, y2, y3⟩ := x4 rfl
     subst y1
     simp only [cond_true, bne_self_eq_false, cond_false]
     cases A with
     | nil => exact tl
     | cons a A =>
      have ha := hhd.1
      simp only [headOf] at ha ⊢
      simp only [cond_true]
      rw [guardB_true (inb_true (by omega) (by simp only [List.length_cons]; omega))]
      simp only [List.getD_cons_zero, rInts_self a ha, Bool.not_true, cond_false]
      exact tl
end Go.Proofs.YtcabghamgilafaaGreat.V
