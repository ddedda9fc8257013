/-
  What the reference and the program compute agrees: plain lemmas over numbers and lists.
-/
import Derived.Test.YtolabkhcmcfnpaaTFnExactMergeHeights
import Derived.Test.YtolabkhcmcfnpaaE3
namespace Go.Proofs.Ytolabkhcmcfnpaa.V
open Go Go.Ve Go.Proofs
set_option linter.unusedVariables false
set_option linter.unusedSimpArgs false
theorem fold_len {n : Nat} (h : n ≤ 1048576) : (decide (0 ≤ (n : Int)) && decide ((n : Int) ≤ (n : Int)) && decide ((n : Int) * 8 ≤ 140737488355328)) = true ∧ (decide (0 ≤ (n : Int)) && decide ((n : Int) ≤ (n : Int)) && decide ((n : Int) * 24 ≤ 140737488355328)) = true ∧ (decide (0 ≤ (n : Int)) && decide ((n : Int) ≤ (n : Int)) && decide ((n : Int) * 16 ≤ 140737488355328)) = true := by
  refine ⟨?_, ?_, ?_⟩ <;> simp <;> omega

theorem toIntS_eq (l : List Int) (hl : l.length ≤ 1048576) : laws_toIntS (l, ()) () = some ((l, ()), ()) := by
  simp only [laws_toIntS, guardB_true (fold_len hl).1, Int.toNat_natCast]
  have key : loopO laws_toIntS_B0 ((l, fill (fun j => l.getD j 0) 0 l.length 0, ((0 : Nat) : Int), ()), ()) = some ((fill (fun j => l.getD j 0) 0 l.length l.length, ()), ()) := by
    refine loop_count (fun i => ((l, fill (fun j => l.getD j 0) 0 l.length i, (i : Int), ()), ())) l.length _ (fun i hi => ?_) ?_ 0 (Nat.zero_le _)
    · simp only [laws_toIntS_B0, bif_decide, if_pos (show (i : Int) < (l.length : Int) by omega), fill_len, guardB_true (inb_true (Int.natCast_nonneg i) (show (i : Int) < (l.length : Int) by omega)), Int.toNat_natCast, fill_set hi, w64_succ (show i < 4611686018427387904 by omega)]
    · simp only [laws_toIntS_B0, bif_decide, if_neg (show ¬ (l.length : Int) < (l.length : Int) by omega)]
  rw [fill_zero, fill_all, range_getD] at key
  erw [key]

theorem toIntSS_eq (l : List (List Int)) (hl : l.length ≤ 1048576) (h : ∀ x ∈ l, x.length ≤ 1048576) : laws_toIntSS (l, ()) () = some ((l, ()), ()) := by
  simp only [laws_toIntSS, guardB_true (fold_len hl).2.1, Int.toNat_natCast]
  have key : loopO laws_toIntSS_B0 ((l, fill (fun j => l.getD j []) [] l.length 0, ((0 : Nat) : Int), ()), ()) = some ((fill (fun j => l.getD j []) [] l.length l.length, ()), ()) := by
    refine loop_count (fun i => ((l, fill (fun j => l.getD j []) [] l.length i, (i : Int), ()), ())) l.length _ (fun i hi => ?_) ?_ 0 (Nat.zero_le _)
    · simp only [laws_toIntSS_B0, bif_decide, if_pos (show (i : Int) < (l.length : Int) by omega), fill_len, guardB_true (inb_true (Int.natCast_nonneg i) (show (i : Int) < (l.length : Int) by omega)), Int.toNat_natCast]
      rw [toIntS_eq (l.getD i []) (by rw [getD_at hi]; exact h _ (List.getElem_mem hi))]
      simp only [fill_set (f := fun j => l.getD j []) hi, w64_succ (show i < 4611686018427387904 by omega)]
    · simp only [laws_toIntSS_B0, bif_decide, if_neg (show ¬ (l.length : Int) < (l.length : Int) by omega)]
  rw [fill_zero, fill_all, range_getD] at key
  erw [key]

theorem toIntA2_eq (a : Int × Int) : laws_toIntA2 (a, ()) () = some ((a, ()), ()) := by
  obtain ⟨x, y⟩ := a
  have e0 : laws_toIntA2_B0 (((x, y), 0, ()), ((0, 0), (0, 0), ())) = some (.inl (((x, y), 1, ()), ((0, 0), (x, 0), ()))) := rfl
  have e1 : laws_toIntA2_B0 (((x, y), 1, ()), ((0, 0), (x, 0), ())) = some (.inl (((x, y), 2, ()), ((0, 0), (x, y), ()))) := rfl
  have e2 : laws_toIntA2_B0 (((x, y), 2, ()), ((0, 0), (x, y), ())) = some (.inr ((), ((0, 0), (x, y), ()))) := rfl
  simp only [laws_toIntA2, loop_step e0 (loop_step e1 (loop_end e2))]

theorem toIntA2S_eq (l : List (Int × Int)) (hl : l.length ≤ 1048576) : laws_toIntA2S (l, ()) () = some ((l, ()), ()) := by
  simp only [laws_toIntA2S, guardB_true (fold_len hl).2.2, Int.toNat_natCast]
  have key : loopO laws_toIntA2S_B0 ((l, fill (fun j => l.getD j (0, 0)) (0, 0) l.length 0, ((0 : Nat) : Int), ()), ()) = some ((fill (fun j => l.getD j (0, 0)) (0, 0) l.length l.length, ()), ()) := by
    refine loop_count (fun i => ((l, fill (fun j => l.getD j (0, 0)) (0, 0) l.length i, (i : Int), ()), ())) l.length _ (fun i hi => ?_) ?_ 0 (Nat.zero_le _)
    · simp only [laws_toIntA2S_B0, bif_decide, if_pos (show (i : Int) < (l.length : Int) by omega), fill_len, guardB_true (inb_true (Int.natCast_nonneg i) (show (i : Int) < (l.length : Int) by omega)), Int.toNat_natCast]
      rw [toIntA2_eq]
      simp only [fill_set (f := fun j => l.getD j (0, 0)) hi, w64_succ (show i < 4611686018427387904 by omega)]
    · simp only [laws_toIntA2S_B0, bif_decide, if_neg (show ¬ (l.length : Int) < (l.length : Int) by omega)]
  rw [fill_zero, fill_all, range_getD] at key
  erw [key]

theorem allUpto_true {n : Nat} : allUpto (fun _ => true) n = true := allUpto_iff.2 fun _ _ => rfl
theorem eqIntS_gen (l : List Int) (hl : l.length ≤ 2000000000000) : laws_eqIntS (l, l, ()) () = some ((true, ()), ()) := by
  have key := loop_all (B := laws_eqIntS_B0) (fun i => ((l, l, (i : Int), ()), ())) (fun _ => true) l.length (.inl ((false, ()), ())) (.inr ((), ())) (fun i hi _ => by
    simp [laws_eqIntS_B0, inb_nat, hi, guardB, w64_succ (show i < 4611686018427387904 by omega)]) (by simp [laws_eqIntS_B0])
  rw [allUpto_true] at key
  simp only [laws_eqIntS, bne_self_eq_false, cond_false]
  rw [show (0 : Int) = ((0 : Nat) : Int) from rfl, key]
  rfl
theorem eqIntS_eq (l : List Int) (hl : l.length ≤ 1048576) : laws_eqIntS (l, l, ()) () = some ((true, ()), ()) := eqIntS_gen l (by omega)
theorem eqIntSS_gen (l : List (List Int)) (hl : l.length ≤ 2000000000000) (h : ∀ x ∈ l, x.length ≤ 1048576) : laws_eqIntSS (l, l, ()) () = some ((true, ()), ()) := by
  have key := loop_all (B := laws_eqIntSS_B0) (fun i => ((l, l, (i : Int), ()), ())) (fun _ => true) l.length (.inl ((false, ()), ())) (.inr ((), ())) (fun i hi _ => by
    simp only [laws_eqIntSS_B0, bif_decide, if_pos (show (i : Int) < (l.length : Int) by omega), guardB_true (inb_true (Int.natCast_nonneg i) (show (i : Int) < (l.length : Int) by omega)), Int.toNat_natCast]
    rw [eqIntS_eq (l.getD i []) (by rw [getD_at hi]; exact h _ (List.getElem_mem hi))]
    simp [w64_succ (show i < 4611686018427387904 by omega)]) (by simp [laws_eqIntSS_B0])
  rw [allUpto_true] at key
  simp only [laws_eqIntSS, bne_self_eq_false, cond_false]
  rw [show (0 : Int) = ((0 : Nat) : Int) from rfl, key]
  rfl
theorem eqIntSS_eq (l : List (List Int)) (hl : l.length ≤ 1048576) (h : ∀ x ∈ l, x.length ≤ 1048576) : laws_eqIntSS (l, l, ()) () = some ((true, ()), ()) := eqIntSS_gen l (by omega) h
theorem eqIntA2_eq (a : Int × Int) : laws_eqIntA2 (a, a, ()) () = some ((true, ()), ()) := by
  obtain ⟨x, y⟩ := a
  have e0 : laws_eqIntA2_B0 (((x, y), (x, y), 0, ()), ()) = some (.inl (((x, y), (x, y), 1, ()), ())) := by
    simp [laws_eqIntA2_B0, guardB]; rfl
  have e1 : laws_eqIntA2_B0 (((x, y), (x, y), 1, ()), ()) = some (.inl (((x, y), (x, y), 2, ()), ())) := by
    simp [laws_eqIntA2_B0, guardB]; rfl
  have e2 : laws_eqIntA2_B0 (((x, y), (x, y), 2, ()), ()) = some (.inr (.inr ((), ()))) := rfl
  simp only [laws_eqIntA2, loop_step e0 (loop_step e1 (loop_end e2))]
theorem eqIntA2S_eq (l : List (Int × Int)) (hl : l.length ≤ 1048576) : laws_eqIntA2S (l, l, ()) () = some ((true, ()), ()) := by
  have key := loop_all (B := laws_eqIntA2S_B0) (fun i => ((l, l, (i : Int), ()), ())) (fun _ => true) l.length (.inl ((false, ()), ())) (.inr ((), ())) (fun i hi _ => by
    simp only [laws_eqIntA2S_B0, bif_decide, if_pos (show (i : Int) < (l.length : Int) by omega), guardB_true (inb_true (Int.natCast_nonneg i) (show (i : Int) < (l.length : Int) by omega)), Int.toNat_natCast]
    rw [eqIntA2_eq]
    simp [w64_succ (show i < 4611686018427387904 by omega)]) (by simp [laws_eqIntA2S_B0])
  rw [allUpto_true] at key
  simp only [laws_eqIntA2S, bne_self_eq_false, cond_false]
  rw [show (0 : Int) = ((0 : Nat) : Int) from rfl, key]
  rfl

/-- what is asked of a Space that is looked at: not too great -/
structure Few (x : List (List Int) × List (Int × Int)) : Prop where
  states : x.1.length ≤ 1048576
  state : ∀ s ∈ x.1, s.length ≤ 1048576
  steps : x.2.length ≤ 1048576
theorem szIntS_eq (l : List Int) (n : Int) (h0 : 0 ≤ n) (hn : n ≤ 1048576) (hl : l.length ≤ 140737488351232) : laws_szIntS (l, n, ()) () = some (((if (l.length : Int) ≤ n then n - l.length else -1), ()), ()) := by
  simp only [laws_szIntS, w64_of (x := n - (l.length : Int)) (by omega) (by omega), bif_decide]
  by_cases h : (l.length : Int) ≤ n
  · rw [if_neg (by omega), if_pos h]
  · rw [if_pos (by omega), if_neg h]
theorem szIntA2S_eq (l : List (Int × Int)) (n : Int) (h0 : 0 ≤ n) (hn : n ≤ 1048576) (hl : l.length ≤ 140737488351232) : laws_szIntA2S (l, n, ()) () = some (((if (l.length : Int) ≤ n then n - l.length else -1), ()), ()) := by
  simp only [laws_szIntA2S, w64_of (x := n - (l.length : Int)) (by omega) (by omega), bif_decide]
  by_cases h : (l.length : Int) ≤ n
  · rw [if_neg (by omega), if_pos h]
  · rw [if_pos (by omega), if_neg h]
theorem szIntSS_eq (l : List (List Int)) (n : Int) (h0 : 0 ≤ n) (hn : n ≤ 1048576) (hl : l.length ≤ 140737488351232) (hs : ∀ x ∈ l, x.length ≤ 140737488351232) :
    ∃ r : Int, laws_szIntSS (l, n, ()) () = some ((r, ()), ()) ∧ r ≤ 1048576 ∧ (0 ≤ r → (l.length : Int) ≤ n ∧ ∀ x ∈ l, (x.length : Int) ≤ n) ∧ (r < 0 → r = -1) := by
  simp only [laws_szIntSS, w64_of (x := n - (l.length : Int)) (by omega) (by omega), bif_decide]
  by_cases h : n - (l.length : Int) < 0
  · rw [if_pos h]; exact ⟨-1, rfl, by omega, fun h => by omega, fun _ => rfl⟩
  · rw [if_neg h]
    obtain ⟨q, h1, h2⟩ := loop_inv (B := laws_szIntSS_B0) (fun p => ∃ (m : Int) (i : Nat), p = ((l, m, (i : Int), ()), ()) ∧ 0 ≤ m ∧ m ≤ n ∧ i ≤ l.length ∧ ∀ j, j < i → ((l.getD j []).length : Int) ≤ n)
      (fun p => l.length - p.1.2.2.1.toNat) (fun q => match q with
        | .inl ((t, ()), ()) => (fun t : Int => t = -1) t
        | .inr ((m, ()), ()) => (fun m : Int => 0 ≤ m ∧ m ≤ n ∧ ∀ j, j < l.length → ((l.getD j []).length : Int) ≤ n) m) (by
      rintro p ⟨m, i, rfl, h3, h4, h5, h6⟩
      by_cases hi : i < l.length
      · simp only [laws_szIntSS_B0, bif_decide, if_pos (show (i : Int) < (l.length : Int) by omega), guardB_true (inb_true (Int.natCast_nonneg i) (show (i : Int) < (l.length : Int) by omega)), Int.toNat_natCast]
        rw [szIntS_eq (l.getD i []) m h3 (by omega) (by rw [getD_at hi]; exact hs _ (List.getElem_mem hi))]
        by_cases h7 : ((l.getD i []).length : Int) ≤ m
        · rw [if_pos h7]
          simp only [if_neg (show ¬ (m - ((l.getD i []).length : Int)) < 0 by omega), w64_succ (show i < 4611686018427387904 by omega)]
          refine .inl ⟨_, rfl, ⟨_, i + 1, rfl, by omega, by omega, by omega, fun j hj => ?_⟩, ?_⟩
          · rcases Nat.lt_or_ge j i with h | h
            · exact h6 j h
            · rw [show j = i by omega]; omega
          · simp only [Int.toNat_natCast]; omega
        · rw [if_neg h7]
          exact .inr ⟨_, rfl, rfl⟩
      · have hi : i = l.length := by omega
        subst hi
        simp only [laws_szIntSS_B0, bif_decide, if_neg (show ¬ (l.length : Int) < (l.length : Int) by omega)]
        exact .inr ⟨_, rfl, h3, h4, h6⟩) ((l, n - (l.length : Int), 0, ()), ()) ⟨n - (l.length : Int), 0, rfl, by omega, by omega, by omega, fun j hj => by omega⟩
    rw [h1]
    rcases q with ⟨⟨t, ⟨⟩⟩, ⟨⟩⟩ | ⟨⟨m, ⟨⟩⟩, ⟨⟩⟩
    · dsimp only at h2
      exact ⟨t, rfl, by omega, fun h => by omega, fun _ => h2⟩
    · dsimp only at h2
      refine ⟨m, rfl, by have := h2.2.1; omega, fun _ => ⟨by omega, fun x hx => ?_⟩, fun h => by have := h2.1; omega⟩
      obtain ⟨j, hj, rfl⟩ := List.getElem_of_mem hx
      have := h2.2.2 j hj
      rw [getD_at hj] at this
      exact this
theorem szSpace_eq (x : List (List Int) × List (Int × Int)) (n : Int) (h0 : 0 ≤ n) (hn : n ≤ 1048576) (hx : Sm (.prod (.list (.list I)) (.list (.prod I I))) x) :
    ∃ r : Int, laws_szSpace (x, n, ()) () = some ((r, ()), ()) ∧ r ≤ 1048576 ∧ (0 ≤ r → Few x) ∧ (r < 0 → r = -1) := by
  obtain ⟨a, b⟩ := x
  obtain ⟨⟨h1, h2⟩, h3, h4⟩ := hx
  obtain ⟨r, e1, e2, e3, e4⟩ := szIntSS_eq a n h0 hn h1 (fun x hx => (h2 x hx).1)
  simp only [laws_szSpace, e1, bif_decide]
  by_cases h : r < 0
  · rw [if_pos h]; exact ⟨-1, rfl, by omega, fun h => by omega, fun _ => rfl⟩
  · rw [if_neg h]
    have := e3 (by omega)
    rw [szIntA2S_eq b r (by omega) e2 h3]
    by_cases h5 : (b.length : Int) ≤ r
    · rw [if_pos h5]
      simp only [if_neg (show ¬ (r - (b.length : Int)) < 0 by omega)]
      exact ⟨_, rfl, by omega, fun _ => ⟨by show a.length ≤ _; omega, fun s hs => by have := this.2 s hs; omega, by show b.length ≤ _; omega⟩, fun h => by omega⟩
    · rw [if_neg h5]
      exact ⟨-1, rfl, by omega, fun h => by omega, fun _ => rfl⟩
theorem toSpace_eq (x : List (List Int) × List (Int × Int)) (h : Few x) : laws_toSpace (x, ()) () = some ((x, ()), ()) := by
  obtain ⟨a, b⟩ := x
  simp only [laws_toSpace, toIntSS_eq a h.states h.state, toIntA2S_eq b h.steps]
theorem eqSpace_eq (x : List (List Int) × List (Int × Int)) (h : Few x) : laws_eqSpace (x, x, ()) () = some ((true, ()), ()) := by
  obtain ⟨a, b⟩ := x
  simp only [laws_eqSpace, eqIntSS_eq a h.states h.state, eqIntA2S_eq b h.steps]
  rfl
def inR (x a b : Int) : Bool := decide (a ≤ x) && decide (x ≤ b)
theorem l1In_eq (x a b : Int) : spec_l1In (x, a, b, ()) () = some ((inR x a b, ()), ()) := by
  simp only [spec_l1In, inR]
  by_cases h : a ≤ x <;> simp [h]
theorem between_eq (x a b : Int) : impl_between (x, a, b, ()) () = some ((inR x a b, ()), ()) := by
  simp only [impl_between, inR]
  by_cases h : a ≤ x <;> simp [h]
theorem cmp_eq (x y : Int) : cmp_Compare_int (x, y, ()) () = some (((if x < y then -1 else if y < x then 1 else 0), ()), ()) := by
  simp only [cmp_Compare_int, cmp_isNaN_int, bne_self_eq_false, cond_false, bif_decide]
  split
  · rfl
  · split <;> rfl

def goodN (n : Int) : Bool := inR n (-99) 99
def goodState (s : List Int) : Bool := decide (s.length ≤ 24) && s.all goodN
theorem allUpto_getD {f : Int → Bool} {s : List Int} : allUpto (fun i => f (s.getD i 0)) s.length = s.all f := by
  rw [Bool.eq_iff_iff, allUpto_iff, List.all_eq_true]
  constructor
  · intro h x hx
    obtain ⟨i, hi, rfl⟩ := List.getElem_of_mem hx
    have := h i hi
    rwa [getD_at hi] at this
  · intro h i hi
    rw [getD_at hi]
    exact h _ (List.getElem_mem hi)
theorem l2State_eq (s : List Int) (hs : s.length ≤ 1048576) : spec_l2State (s, ()) () = some ((goodState s, ()), ()) := by
  have key := loop_all (B := spec_l2State_B0) (fun i => ((s, (i : Int), ()), ())) (fun i => goodN (s.getD i 0)) s.length (.inl ((false, ()), ())) (.inr ((s, ()), ())) (fun i hi _ => by
    simp only [spec_l2State_B0, bif_decide, if_pos (show (i : Int) < (s.length : Int) by omega), guardB_true (inb_true (Int.natCast_nonneg i) (show (i : Int) < (s.length : Int) by omega)), Int.toNat_natCast, l1In_eq _ _ _, w64_succ (show i < 4611686018427387904 by omega), goodN]
    cases inR (s.getD i 0) (-99) 99 <;> rfl) (by simp [spec_l2State_B0])
  rw [allUpto_getD] at key
  simp only [spec_l2State]
  erw [key]
  have e : decide ((s.length : Int) ≤ 24) = decide (s.length ≤ 24) := by rw [decide_eq_decide]; omega
  cases h : s.all goodN
  · simp [goodState, h]
  · simp [goodState, h, e]
/-- where is the first one? -/
def firstIdx (p : Nat → Bool) : Nat → Nat → Int
  | _, 0 => -1
  | k, d + 1 => if p k then k else firstIdx p (k + 1) d
theorem firstIdx_neg {p : Nat → Bool} : ∀ {d k : Nat}, (decide ((0 : Int) ≤ firstIdx p k d) = !(allUpto (fun i => !p (k + i)) d))
  | 0, k => by simp [firstIdx, allUpto]
  | d + 1, k => by
    by_cases h : p k
    · rw [show firstIdx p k (d + 1) = k by simp [firstIdx, h]]
      have : allUpto (fun i => !p (k + i)) (d + 1) = false := by
        cases e : allUpto (fun i => !p (k + i)) (d + 1)
        · rfl
        · have := allUpto_iff.1 e 0 (by omega); simp [h] at this
      rw [this]; simp
    · rw [show firstIdx p k (d + 1) = firstIdx p (k + 1) d by simp [firstIdx, h], firstIdx_neg]
      congr 1
      rw [Bool.eq_iff_iff, allUpto_iff, allUpto_iff]
      constructor
      · intro g i hi
        cases i with
        | zero => simpa using h
        | succ i => have := g i (by omega); rw [show k + 1 + i = k + (i + 1) by omega] at this; exact this
      · intro g i hi
        have := g (i + 1) (by omega)
        rw [show k + (i + 1) = k + 1 + i by omega] at this; exact this
theorem loop_idx {P Q : Type} {B : P → Option (P ⊕ Q)} (st : Nat → P) (p : Nat → Bool) (n : Nat) (found : Int → Q) (fin : Q) (step : ∀ i, i < n → B (st i) = some (bif p i then .inr (found i) else .inl (st (i + 1)))) (stop : B (st n) = some (.inr fin)) :
    loopO B (st 0) = some (if firstIdx p 0 n < 0 then fin else found (firstIdx p 0 n)) := by
  suffices h : ∀ d k, k + d = n → loopO B (st k) = some (if firstIdx p k d < 0 then fin else found (firstIdx p k d)) from h n 0 (by omega)
  intro d
  induction d with
  | zero => intro k hk; have : k = n := by omega
            subst this; simpa [firstIdx] using loop_end stop
  | succ d ih =>
    intro k hk
    have h := step k (by omega)
    cases e : p k
    · rw [e] at h; rw [show firstIdx p k (d + 1) = firstIdx p (k + 1) d by simp [firstIdx, e]]; exact loop_step h (ih (k + 1) (by omega))
    · rw [e] at h; rw [show firstIdx p k (d + 1) = k by simp [firstIdx, e], if_neg (by omega)]; exact loop_end h
theorem isState_eq (s : List Int) (hs : s.length ≤ 1048576) : impl_isState (s, ()) () = some ((goodState s, ()), ()) := by
  have k1 : ∀ n : Int, impl_isState_1 (n, ()) () = some (((!goodN n), ()), ()) := fun n => by simp only [impl_isState_1, between_eq _ _ _, goodN]
  have key := loop_idx (B := slices_IndexFunc_int_int_2_vf_impl_isState_1_B0) (fun i => ((s, (s.length : Int), (i : Int), ()), ())) (fun i => !goodN (s.getD i 0)) s.length (fun i => .inl ((i, ()), ())) (.inr ((), ())) (fun i hi => by
    simp only [slices_IndexFunc_int_int_2_vf_impl_isState_1_B0, bif_decide, if_pos (show (i : Int) < (s.length : Int) by omega), guardB_true (inb_true (Int.natCast_nonneg i) (show (i : Int) < (s.length : Int) by omega)), Int.toNat_natCast, k1, w64_succ (show i < 4611686018427387904 by omega)]
    cases goodN (s.getD i 0) <;> rfl) (by simp [slices_IndexFunc_int_int_2_vf_impl_isState_1_B0])
  have k2 : slices_IndexFunc_int_int_2_vf_impl_isState_1 (s, ()) () = some ((firstIdx (fun i => !goodN (s.getD i 0)) 0 s.length, ()), ()) := by
    simp only [slices_IndexFunc_int_int_2_vf_impl_isState_1]
    erw [key]
    by_cases h : firstIdx (fun i => !goodN (s.getD i 0)) 0 s.length < 0
    · rw [if_pos h]
      have : ∀ d k, firstIdx (fun i => !goodN (s.getD i 0)) k d < 0 → firstIdx (fun i => !goodN (s.getD i 0)) k d = -1 := by
        intro d
        induction d with
        | zero => intro k _; rfl
        | succ d ih =>
          intro k hk
          simp only [firstIdx] at hk ⊢
          split
          · rename_i h; rw [if_pos h] at hk; omega
          · rename_i h; rw [if_neg h] at hk; exact ih _ hk
      rw [this _ _ h]
    · rw [if_neg h]
  simp only [impl_isState, slices_ContainsFunc_int_int_2_vf_impl_isState_1, k2, firstIdx_neg, bif_decide]
  have e : allUpto (fun i => !!goodN (s.getD (0 + i) 0)) s.length = s.all goodN := by
    rw [← allUpto_getD]; congr 1; funext i; simp
  rw [e]
  by_cases h : s.length ≤ 24
  · rw [if_pos (by omega)]; simp [goodState, h]
  · rw [if_neg (by omega)]; simp [goodState, h]

def lexDiff : List Int → List Int → Option Bool
  | a :: l, b :: k => if a = b then lexDiff l k else some (decide (a < b))
  | _, _ => none
def lexLt (a b : List Int) : Bool := match lexDiff a b with
  | some t => t
  | none => decide (a.length < b.length)
def lexCmp : List Int → List Int → Int
  | a :: l, b :: k => if a < b then -1 else if b < a then 1 else lexCmp l k
  | [], [] => 0
  | [], _ :: _ => -1
  | _ :: _, [] => 1
theorem lexCmp_lt : ∀ (a b : List Int), decide ((0 : Int) ≤ lexCmp a b) = !lexLt a b
  | a :: l, b :: k => by
    by_cases h : a < b
    · simp [lexCmp, lexLt, lexDiff, h, show ¬ a = b by omega]
    · by_cases h2 : b < a
      · simp [lexCmp, lexLt, lexDiff, h, h2, show ¬ a = b by omega]
      · have e : a = b := by omega
        subst e
        rw [show lexCmp (a :: l) (a :: k) = lexCmp l k by simp [lexCmp], lexCmp_lt l k]
        simp only [lexLt, lexDiff, if_pos, List.length_cons]
        cases lexDiff l k <;> simp
  | [], [] => by simp [lexCmp, lexLt, lexDiff]
  | [], _ :: _ => by simp [lexCmp, lexLt, lexDiff]
  | _ :: _, [] => by simp [lexCmp, lexLt, lexDiff]
theorem l2Before_eq (a b : List Int) (ha : a.length ≤ 1048576) : spec_l2Before (a, b, ()) () = some ((lexLt a b, ()), ()) := by
  have key : ∀ d i, i + d = a.length → loopO spec_l2Before_B0 ((a, b, (i : Int), ()), ()) = some (match lexDiff (a.drop i) (b.drop i) with
      | some t => .inl ((t, ()), ())
      | none => .inr ((a, b, ()), ())) := by
    intro d
    induction d with
    | zero =>
      intro i hi
      have : i = a.length := by omega
      subst this
      refine loop_end ?_
      simp [spec_l2Before_B0, lexDiff]
    | succ d ih =>
      intro i hi
      have h1 : i < a.length := by omega
      by_cases h2 : i < b.length
      · rw [List.drop_eq_getElem_cons h1, List.drop_eq_getElem_cons h2]
        simp only [lexDiff]
        by_cases h3 : a[i] = b[i]
        · rw [if_pos h3]
          refine loop_step ?_ (ih (i + 1) (by omega))
          simp [spec_l2Before_B0, inb_nat, guardB, h1, h2, h3, w64_succ (show i < 4611686018427387904 by omega)]
        · rw [if_neg h3]
          refine loop_end ?_
          simp [spec_l2Before_B0, inb_nat, guardB, h1, h2, bne_ne h3]
      · have : lexDiff (a.drop i) (b.drop i) = none := by
          rw [List.drop_eq_nil_of_le (show b.length ≤ i by omega)]
          cases a.drop i <;> rfl
        rw [this]
        refine loop_end ?_
        simp [spec_l2Before_B0, inb_nat, guardB, h1, h2]
  simp only [spec_l2Before]
  erw [key a.length 0 (by omega)]
  simp only [List.drop_zero, lexLt]
  cases lexDiff a b <;> simp
theorem Compare_eq (a b : List Int) (ha : a.length ≤ 1048576) : slices_Compare_int_int (a, b, ()) () = some ((lexCmp a b, ()), ()) := by
  have key : ∀ d i, i + d = a.length → ∃ q, loopO slices_Compare_int_int_B0 ((a, b, a, (a.length : Int), (i : Int), ()), ()) = some q ∧ ((q = .inl ((lexCmp (a.drop i) (b.drop i), ()), ())) ∨ (q = .inr ((a, b, ()), ()) ∧ (i ≤ b.length → lexCmp (a.drop i) (b.drop i) = if a.length < b.length then -1 else 0))) := by
    intro d
    induction d with
    | zero =>
      intro i hi
      have : i = a.length := by omega
      subst this
      refine ⟨_, loop_end (q := .inr ((a, b, ()), ())) (by simp [slices_Compare_int_int_B0]), .inr ⟨rfl, fun hb => ?_⟩⟩
      rw [List.drop_length]
      by_cases h : a.length < b.length
      · rw [List.drop_eq_getElem_cons h, if_pos h]; rfl
      · rw [List.drop_eq_nil_of_le (by omega), if_neg h]; rfl
    | succ d ih =>
      intro i hi
      have h1 : i < a.length := by omega
      by_cases h2 : i < b.length
      · rw [List.drop_eq_getElem_cons h1, List.drop_eq_getElem_cons h2]
        simp only [lexCmp]
        have e : slices_Compare_int_int_B0 ((a, b, a, (a.length : Int), (i : Int), ()), ()) = some (if (if a[i] < b[i] then (-1 : Int) else if b[i] < a[i] then 1 else 0) = 0 then .inl ((a, b, a, (a.length : Int), ((i + 1 : Nat) : Int), ()), ()) else .inr (.inl (((if a[i] < b[i] then (-1 : Int) else if b[i] < a[i] then 1 else 0), ()), ()))) := by
          simp only [slices_Compare_int_int_B0, bif_decide, if_pos (show (i : Int) < (a.length : Int) by omega), if_neg (show ¬ (b.length : Int) ≤ (i : Int) by omega), guardB_true (inb_true (Int.natCast_nonneg i) (show (i : Int) < (a.length : Int) by omega)), guardB_true (inb_true (Int.natCast_nonneg i) (show (i : Int) < (b.length : Int) by omega)), Int.toNat_natCast, getD_at h1, getD_at h2, cmp_eq _ _, w64_succ (show i < 4611686018427387904 by omega)]
          by_cases h3 : a[i] < b[i]
          · simp [h3]
          · by_cases h4 : b[i] < a[i]
            · simp [h3, h4]
            · simp [h3, h4]
        by_cases h3 : a[i] < b[i]
        · simp only [if_pos h3] at e ⊢
          exact ⟨_, loop_end e, .inl rfl⟩
        · by_cases h4 : b[i] < a[i]
          · simp only [if_neg h3, if_pos h4] at e ⊢
            exact ⟨_, loop_end e, .inl rfl⟩
          · simp only [if_neg h3, if_neg h4, if_pos] at e ⊢
            obtain ⟨q, q1, q2⟩ := ih (i + 1) (by omega)
            refine ⟨q, loop_step e q1, q2.imp id fun ⟨r1, r2⟩ => ⟨r1, fun _ => r2 (by omega)⟩⟩
      · refine ⟨_, loop_end (q := .inl ((1, ()), ())) (by simp [slices_Compare_int_int_B0, inb_nat, guardB, h1, show b.length ≤ i by omega]), .inl ?_⟩
        rw [List.drop_eq_nil_of_le (show b.length ≤ i by omega), List.drop_eq_getElem_cons h1]
        rfl
  obtain ⟨q, q1, q2⟩ := key a.length 0 (by omega)
  simp only [slices_Compare_int_int]
  erw [q1]
  simp only [List.drop_zero] at q2
  rcases q2 with rfl | ⟨rfl, q2⟩
  · rfl
  · rw [q2 (Nat.zero_le _)]
    simp only [bif_decide, Int.ofNat_lt]
    split <;> rfl

def edgeB (a b : Int × Int) : Bool := decide (a.1 < b.1) || (decide (a.1 = b.1) && decide (a.2 < b.2))
theorem l2Edge_eq (a b : Int × Int) : spec_l2Edge (a, b, ()) () = some ((edgeB a b, ()), ()) := by
  simp only [spec_l2Edge, edgeB]
  by_cases h : a.1 < b.1
  · simp [h]
  · by_cases h2 : a.1 = b.1
    · simp [h, h2]
    · simp [h, h2, beq_ne h2]
theorem cmpOr_eq (x y : Int) : cmp_Or_int ([x, y], ()) () = some (((if x = 0 then y else x), ()), ()) := by
  simp only [cmp_Or_int]
  have e0 : cmp_Or_int_B0 ((0, [x, y], ([x, y].length : Int), 0, ()), ()) = some (if x = 0 then .inl ((0, [x, y], ([x, y].length : Int), 1, ()), ()) else .inr (.inl ((x, ()), ()))) := by
    by_cases h : x = 0
    · simp [cmp_Or_int_B0, inb, guardB, h]; rfl
    · simp [cmp_Or_int_B0, inb, guardB, h, bne_ne h]
  have e1 : cmp_Or_int_B0 ((0, [x, y], ([x, y].length : Int), 1, ()), ()) = some (if y = 0 then .inl ((0, [x, y], ([x, y].length : Int), 2, ()), ()) else .inr (.inl ((y, ()), ()))) := by
    by_cases h : y = 0
    · simp [cmp_Or_int_B0, inb, guardB, h]; rfl
    · simp [cmp_Or_int_B0, inb, guardB, h, bne_ne h]
  have e2 : cmp_Or_int_B0 ((0, [x, y], ([x, y].length : Int), 2, ()), ()) = some (.inr (.inr ((0, ()), ()))) := by
    simp [cmp_Or_int_B0]
  by_cases h : x = 0
  · rw [if_pos h] at e0 ⊢
    by_cases g : y = 0
    · rw [if_pos g] at e1
      rw [loop_step e0 (loop_step e1 (loop_end e2)), g]
    · rw [if_neg g] at e1
      rw [loop_step e0 (loop_end e1)]
  · rw [if_neg h] at e0 ⊢
    rw [loop_end e0]
theorem comparePairs_eq (a b : Int × Int) : ∃ r : Int, impl_comparePairs (a, b, ()) () = some ((r, ()), ()) ∧ (decide ((0 : Int) ≤ r) = !edgeB a b) ∧ (r = 0 ↔ a = b) := by
  obtain ⟨a1, a2⟩ := a
  obtain ⟨b1, b2⟩ := b
  simp only [impl_comparePairs, cmp_eq _ _, cmpOr_eq _ _]
  refine ⟨_, rfl, ?_, ?_⟩
  · simp only [edgeB]
    by_cases h : a1 < b1
    · simp [h]
    · by_cases h2 : b1 < a1
      · have : ¬ a1 = b1 := by omega
        simp [h, h2, this]
      · have : a1 = b1 := by omega
        subst this
        by_cases h3 : a2 < b2
        · simp [h3]
        · by_cases h4 : b2 < a2 <;> simp [h3, h4]
  · simp only [Prod.mk.injEq]
    by_cases h : a1 < b1
    · simp [h]; omega
    · by_cases h2 : b1 < a1
      · simp [h, h2]; omega
      · have : a1 = b1 := by omega
        subst this
        by_cases h3 : a2 < b2
        · simp [h3]; omega
        · by_cases h4 : b2 < a2
          · simp [h3, h4]; omega
          · simp [h3, h4]; omega
def pairB (l : List (Int × Int)) (n : Int) (i : Nat) : Bool :=
  decide (0 ≤ (l.getD i (0, 0)).1) && (decide ((l.getD i (0, 0)).1 < (l.getD i (0, 0)).2) && (decide ((l.getD i (0, 0)).2 < n) && (decide (i = 0) || edgeB (l.getD (i - 1) (0, 0)) (l.getD i (0, 0)))))
def pairsB (l : List (Int × Int)) (n : Int) : Bool := allUpto (pairB l n) l.length
theorem l2Pairs_eq (l : List (Int × Int)) (n : Int) (hl : l.length ≤ 1048576) (h0 : -1048576 ≤ n) (hn : n ≤ 1048576) : spec_l2Pairs (l, n, ()) () = some ((pairsB l n, ()), ()) := by
  have key := loop_all (B := spec_l2Pairs_B0) (fun i => ((l, n, (i : Int), ()), ())) (pairB l n) l.length (.inl ((false, ()), ())) (.inr ((), ())) (fun i hi _ => by
    obtain ⟨e, he⟩ : ∃ e : Int × Int, l.getD i (0, 0) = e := ⟨_, rfl⟩
    simp only [spec_l2Pairs_B0, bif_decide, if_pos (show (i : Int) < (l.length : Int) by omega), guardB_true (inb_true (Int.natCast_nonneg i) (show (i : Int) < (l.length : Int) by omega)), Int.toNat_natCast, l1In_eq _ _ _, w64_succ (show i < 4611686018427387904 by omega), w64_of (x := n - 1) (by omega) (by omega), pairB, inR, he]
    by_cases h1 : 0 ≤ e.1
    · by_cases h2 : e.1 ≤ n - 1
      · by_cases h3 : 0 ≤ e.2
        · by_cases h4 : e.2 ≤ n - 1
          · by_cases h5 : e.2 ≤ e.1
            · simp [h1, h2, h3, h4, h5, show ¬ e.1 < e.2 by omega]
            · by_cases h6 : i = 0
              · subst h6
                simp [h1, h2, h3, h4, h5, show e.1 < e.2 by omega, show e.2 < n by omega]
              · rw [w64_pred (by omega) (by omega), guardB_true (inb_true (Int.natCast_nonneg _) (show ((i - 1 : Nat) : Int) < (l.length : Int) by omega)), Int.toNat_natCast, l2Edge_eq]
                cases edgeB (l.getD (i - 1) (0, 0)) e <;> simp [h1, h2, h3, h4, h5, h6, show e.1 < e.2 by omega, show e.2 < n by omega, show 0 < i by omega]
          · simp [h1, h2, h3, h4, show ¬ e.2 < n by omega]
        · simp [h1, h2, h3, show ¬ e.1 < e.2 by omega]
      · simp only [h1, h2, decide_true, decide_false, Bool.and_false, Bool.not_false, cond_true, Bool.true_and]
        by_cases h3 : e.1 < e.2
        · simp [h3, show ¬ e.2 < n by omega]
        · simp [h3]
    · simp [h1]) (by simp [spec_l2Pairs_B0])
  simp only [spec_l2Pairs]
  erw [key]
  simp only [pairsB]
  cases allUpto (pairB l n) l.length <;> rfl
theorem isPairs_eq (l : List (Int × Int)) (n : Int) (hl : l.length ≤ 1048576) : impl_isPairs (l, n, ()) () = some ((pairsB l n, ()), ()) := by
  have key := loop_all (B := impl_isPairs_B0) (fun i => ((l, n, l, (l.length : Int), (i : Int), ()), ())) (pairB l n) l.length (.inl ((false, ()), ())) (.inr ((), ())) (fun i hi _ => by
    obtain ⟨e, he⟩ : ∃ e : Int × Int, l.getD i (0, 0) = e := ⟨_, rfl⟩
    simp only [impl_isPairs_B0, bif_decide, if_pos (show (i : Int) < (l.length : Int) by omega), guardB_true (inb_true (Int.natCast_nonneg i) (show (i : Int) < (l.length : Int) by omega)), Int.toNat_natCast, w64_succ (show i < 4611686018427387904 by omega), pairB, he]
    by_cases h1 : e.1 < 0
    · simp [h1, show ¬ 0 ≤ e.1 by omega]
    · by_cases h2 : e.2 ≤ e.1
      · simp [h1, h2, show ¬ e.1 < e.2 by omega]
      · by_cases h3 : n ≤ e.2
        · simp [h1, h2, h3, show ¬ e.2 < n by omega]
        · by_cases h6 : i = 0
          · subst h6
            simp [h1, h2, h3, show 0 ≤ e.1 by omega, show e.1 < e.2 by omega, show e.2 < n by omega]
          · obtain ⟨r, r1, r2, _⟩ := comparePairs_eq (l.getD (i - 1) (0, 0)) e
            rw [w64_pred (by omega) (by omega), guardB_true (inb_true (Int.natCast_nonneg _) (show ((i - 1 : Nat) : Int) < (l.length : Int) by omega)), Int.toNat_natCast, r1]
            simp only [if_neg h1, if_neg h2, if_neg h3, if_pos (show (0 : Int) < (i : Int) by omega), ← bif_decide, r2]
            cases edgeB (l.getD (i - 1) (0, 0)) e <;> simp [h6, show 0 ≤ e.1 by omega, show e.1 < e.2 by omega, show e.2 < n by omega]) (by simp [impl_isPairs_B0])
  simp only [impl_isPairs]
  erw [key]
  simp only [pairsB]
  cases allUpto (pairB l n) l.length <;> rfl

def stateB (L : List (List Int)) (i : Nat) : Bool := goodState (L.getD i []) && (decide (i = 0) || lexLt (L.getD (i - 1) []) (L.getD i []))
def spaceB (x : List (List Int) × List (Int × Int)) : Bool := decide (x.1.length ≤ 300) && (decide (x.2.length ≤ 6000) && (allUpto (stateB x.1) x.1.length && pairsB x.2 x.1.length))
theorem l2Space_eq (x : List (List Int) × List (Int × Int)) (hx : Few x) : spec_l2Space (x, ()) () = some ((spaceB x, ()), ()) := by
  obtain ⟨L, S⟩ := x
  have hL := hx.states
  have hs := hx.state
  have hS := hx.steps
  dsimp only at hL hs hS
  have hlen : ∀ i, i < L.length → (L.getD i []).length ≤ 1048576 := fun i hi => by rw [getD_at hi]; exact hs _ (List.getElem_mem hi)
  have key := loop_all (B := spec_l2Space_B0) (fun i => (((L, S), (i : Int), ()), ())) (stateB L) L.length (.inl ((false, ()), ())) (.inr (((L, S), ()), ())) (fun i hi _ => by
    simp only [spec_l2Space_B0, bif_decide, if_pos (show (i : Int) < (L.length : Int) by omega), guardB_true (inb_true (Int.natCast_nonneg i) (show (i : Int) < (L.length : Int) by omega)), Int.toNat_natCast, l2State_eq _ (hlen i hi), w64_succ (show i < 4611686018427387904 by omega), stateB]
    by_cases h6 : i = 0
    · subst h6
      cases goodState (L.getD 0 []) <;> simp
    · rw [w64_pred (by omega) (by omega), guardB_true (inb_true (Int.natCast_nonneg _) (show ((i - 1 : Nat) : Int) < (L.length : Int) by omega)), Int.toNat_natCast, l2Before_eq _ _ (hlen (i - 1) (by omega))]
      cases goodState (L.getD i []) <;> cases lexLt (L.getD (i - 1) []) (L.getD i []) <;> simp [h6, show 0 < i by omega]) (by simp [spec_l2Space_B0])
  simp only [spec_l2Space, bif_decide, spaceB]
  by_cases h1 : L.length ≤ 300
  · rw [if_neg (by omega)]
    by_cases h2 : S.length ≤ 6000
    · rw [if_neg (by omega)]
      erw [key]
      simp only [h1, h2, decide_true, Bool.true_and]
      cases h3 : allUpto (stateB L) L.length
      · rfl
      · simp only [cond_true, l2Pairs_eq S (L.length : Int) hS (by omega) (by omega), Bool.true_and]
    · rw [if_pos (by omega)]; simp [h2]
  · rw [if_pos (by omega)]; simp [h1]
theorem IsSpace_eq (x : List (List Int) × List (Int × Int)) (hx : Few x) : impl_IsSpace (x, ()) () = some ((spaceB x, ()), ()) := by
  obtain ⟨L, S⟩ := x
  have hL := hx.states
  have hs := hx.state
  have hS := hx.steps
  dsimp only at hL hs hS
  have hlen : ∀ i, i < L.length → (L.getD i []).length ≤ 1048576 := fun i hi => by rw [getD_at hi]; exact hs _ (List.getElem_mem hi)
  have key := loop_all (B := impl_IsSpace_B0) (fun i => (((L, S), L, (L.length : Int), (i : Int), ()), ())) (stateB L) L.length (.inl ((false, ()), ())) (.inr (((L, S), ()), ())) (fun i hi _ => by
    simp only [impl_IsSpace_B0, if_pos (show (i : Int) < (L.length : Int) by omega), guardB_true (inb_true (Int.natCast_nonneg i) (show (i : Int) < (L.length : Int) by omega)), Int.toNat_natCast, isState_eq _ (hlen i hi), w64_succ (show i < 4611686018427387904 by omega), stateB]
    by_cases h6 : i = 0
    · subst h6
      cases goodState (L.getD 0 []) <;> simp [hi]
    · rw [w64_pred (by omega) (by omega), guardB_true (inb_true (Int.natCast_nonneg _) (show ((i - 1 : Nat) : Int) < (L.length : Int) by omega)), Int.toNat_natCast, Compare_eq _ _ (hlen (i - 1) (by omega))]
      simp only [lexCmp_lt]
      cases goodState (L.getD i []) <;> cases lexLt (L.getD (i - 1) []) (L.getD i []) <;> simp [h6, hi, show 0 < i by omega]) (by simp [impl_IsSpace_B0])
  simp only [impl_IsSpace, bif_decide, spaceB]
  by_cases h1 : L.length ≤ 300
  · rw [if_neg (by omega)]
    by_cases h2 : S.length ≤ 6000
    · rw [if_neg (by omega)]
      erw [key]
      simp only [h1, h2, decide_true, Bool.true_and]
      cases h3 : allUpto (stateB L) L.length
      · rfl
      · simp only [cond_true, isPairs_eq S (L.length : Int) hS, Bool.true_and]
    · rw [if_pos (by omega)]; simp [h2]
  · rw [if_pos (by omega)]; simp [h1]
theorem sort_sorted (l : List Int) : (l.mergeSort fun a b => decide (a ≤ b)).Pairwise (· ≤ ·) := by
  have := List.pairwise_mergeSort (le := fun a b : Int => decide (a ≤ b)) (fun a b c h1 h2 => by simp at *; omega) (fun a b => by simp; omega) l
  exact this.imp fun h => by simpa using h
theorem firstIdx_range {p : Nat → Bool} : ∀ (d k : Nat), firstIdx p k d < 0 → firstIdx p k d = -1
  | 0, k, _ => rfl
  | d + 1, k, h => by
    simp only [firstIdx] at h ⊢
    split
    · rename_i g; rw [if_pos g] at h; omega
    · rename_i g; rw [if_neg g] at h; exact firstIdx_range d (k + 1) h
def rows {α : Type} (n : Nat) (F : Nat → α) : List α := (List.range n).map F
theorem rows_len {α : Type} {n : Nat} {F : Nat → α} : (rows n F).length = n := by simp [rows]
theorem rows_get {α : Type} {n i : Nat} {F : Nat → α} (h : i < n) (d : α) : (rows n F).getD i d = F i := by simp [rows, List.getD, h]
theorem rows_set {α : Type} {n i : Nat} {F : Nat → α} (v : α) : (rows n F).set i v = rows n (fun j => if j = i then v else F j) := by
  apply List.ext_getElem
  · simp [rows]
  · intro j h1 h2
    simp only [rows, List.getElem_set, List.getElem_map, List.getElem_range]
    by_cases h : i = j
    · subst h; simp
    · rw [if_neg h, if_neg (fun e => h e.symm)]
theorem rows_congr {α : Type} {n : Nat} {F G : Nat → α} (h : ∀ j, j < n → F j = G j) : rows n F = rows n G := by
  apply List.map_congr_left
  intro j hj
  exact h j (by simpa using hj)
theorem rows_rep {α : Type} {n : Nat} (d : α) : List.replicate n d = rows n (fun _ => d) := by
  apply List.ext_getElem
  · simp [rows]
  · intro j h1 h2; simp [rows]
theorem take_one {α : Type} {l : List α} {i : Nat} (h : i < l.length) (d : α) : l.take (i + 1) = l.take i ++ [l.getD i d] := by
  rw [getD_at h, List.take_succ_eq_append_getElem h]
def inc (S : List (Int × Int)) (j : Nat) : List Int := (S.filter fun e => decide (e.2 = (j : Int))).map (·.1)
def outg (S : List (Int × Int)) (j : Nat) : List Int := (S.filter fun e => decide (e.1 = (j : Int))).map (·.2)
def nbr (S : List (Int × Int)) (j : Nat) : List Int := inc S j ++ outg S j
def listsP (S : List (Int × Int)) (n : Nat) : List (List Int) := rows n (nbr S)
theorem inc_snoc (T : List (Int × Int)) (a b j : Nat) : inc (T ++ [((a : Int), (b : Int))]) j = if j = b then inc T j ++ [(a : Int)] else inc T j := by
  simp only [inc, List.filter_append, List.map_append]
  by_cases h : j = b
  · subst h; simp
  · rw [if_neg h]; simp [show ¬ (b : Int) = (j : Int) by omega]
theorem outg_snoc (T : List (Int × Int)) (a b j : Nat) : outg (T ++ [((a : Int), (b : Int))]) j = if j = a then outg T j ++ [(b : Int)] else outg T j := by
  simp only [outg, List.filter_append, List.map_append]
  by_cases h : j = a
  · subst h; simp
  · rw [if_neg h]; simp [show ¬ (a : Int) = (j : Int) by omega]
theorem inc_len (T : List (Int × Int)) (j : Nat) : (inc T j).length ≤ T.length := by simp only [inc, List.length_map]; exact List.length_filter_le _ _
theorem outg_len (T : List (Int × Int)) (j : Nat) : (outg T j).length ≤ T.length := by simp only [outg, List.length_map]; exact List.length_filter_le _ _
/-- steps: pairs of places -/
def StepsOk (S : List (Int × Int)) (n : Nat) : Prop := ∀ i, i < S.length → ∃ a b : Nat, S.getD i (0, 0) = ((a : Int), (b : Int)) ∧ a < b ∧ b < n
theorem pairsB_at {S : List (Int × Int)} {n : Nat} (h : pairsB S n = true) (i : Nat) (hi : i < S.length) : pairB S n i = true := allUpto_iff.1 h i hi
theorem pairsB_ok {S : List (Int × Int)} {n : Nat} (h : pairsB S n = true) : StepsOk S n := by
  intro i hi
  have := pairsB_at h i hi
  simp only [pairB, Bool.and_eq_true, decide_eq_true_eq] at this
  obtain ⟨h1, h2, h3, _⟩ := this
  generalize S.getD i (0, 0) = e at h1 h2 h3
  obtain ⟨a, b⟩ := e
  simp only at h1 h2 h3
  exact ⟨a.toNat, b.toNat, by rw [Int.toNat_of_nonneg h1, Int.toNat_of_nonneg (by omega)], by omega, by omega⟩
theorem edge_lt {S : List (Int × Int)} {n : Nat} (h : pairsB S n = true) : ∀ d i, i + 1 + d < S.length → edgeB (S.getD i (0, 0)) (S.getD (i + 1 + d) (0, 0)) = true := by
  have one : ∀ i, i + 1 < S.length → edgeB (S.getD i (0, 0)) (S.getD (i + 1) (0, 0)) = true := by
    intro i hi
    have := pairsB_at h (i + 1) hi
    simp only [pairB, Bool.and_eq_true, Bool.or_eq_true, decide_eq_true_eq] at this
    rcases this.2.2.2 with h0 | h0
    · omega
    · simpa using h0
  have tr : ∀ a b c : Int × Int, edgeB a b = true → edgeB b c = true → edgeB a c = true := by
    intro a b c h1 h2
    simp only [edgeB, Bool.or_eq_true, Bool.and_eq_true, decide_eq_true_eq] at *
    omega
  intro d
  induction d with
  | zero => intro i hi; exact one i hi
  | succ d ih => intro i hi; exact tr _ _ _ (ih i (by omega)) (one (i + 1 + d) hi)
theorem steps_pairwise {S : List (Int × Int)} {n : Nat} (h : pairsB S n = true) : S.Pairwise fun a b => edgeB a b = true := by
  rw [List.pairwise_iff_getElem]
  intro i j hi hj hij
  have := edge_lt h (j - i - 1) i (by omega)
  rw [show i + 1 + (j - i - 1) = j by omega, getD_at hi, getD_at hj] at this
  exact this
theorem steps_mem {S : List (Int × Int)} {n : Nat} (h : StepsOk S n) {e : Int × Int} (he : e ∈ S) : 0 ≤ e.1 ∧ e.1 < e.2 ∧ e.2 < n := by
  obtain ⟨i, hi, rfl⟩ := List.getElem_of_mem he
  obtain ⟨a, b, h1, h2, h3⟩ := h i hi
  rw [getD_at hi] at h1
  rw [h1]
  simp only
  omega
theorem nbr_sorted {S : List (Int × Int)} {n : Nat} (h : pairsB S n = true) (j : Nat) : (nbr S j).Pairwise (· < ·) := by
  have hp := steps_pairwise h
  have hok := pairsB_ok h
  rw [nbr, List.pairwise_append]
  refine ⟨?_, ?_, ?_⟩
  · rw [inc, List.pairwise_map]
    refine ((hp.sublist List.filter_sublist).imp_of_mem fun {a b} ha hb hab => ?_)
    simp only [List.mem_filter, decide_eq_true_eq] at ha hb
    simp only [edgeB, Bool.or_eq_true, Bool.and_eq_true, decide_eq_true_eq] at hab
    omega
  · rw [outg, List.pairwise_map]
    refine ((hp.sublist List.filter_sublist).imp_of_mem fun {a b} ha hb hab => ?_)
    simp only [List.mem_filter, decide_eq_true_eq] at ha hb
    simp only [edgeB, Bool.or_eq_true, Bool.and_eq_true, decide_eq_true_eq] at hab
    omega
  · intro a ha b hb
    simp only [inc, outg, List.mem_map, List.mem_filter, decide_eq_true_eq] at ha hb
    obtain ⟨e, ⟨he, e1⟩, rfl⟩ := ha
    obtain ⟨f, ⟨hf, f1⟩, rfl⟩ := hb
    have := steps_mem hok he
    have := steps_mem hok hf
    omega
theorem l2Lists_eq (x : List (List Int) × List (Int × Int)) (hS : StepsOk x.2 x.1.length) (hn : x.1.length ≤ 1048576) (hs : x.2.length ≤ 1048576) : spec_l2Lists (x, ()) () = some ((listsP x.2 x.1.length, ()), ()) := by
  obtain ⟨L, S⟩ := x
  simp only at hS hn hs
  simp only [spec_l2Lists, guardB_true (fold_len hn).2.1, Int.toNat_natCast]
  have k0 : loopO spec_l2Lists_B0 (((L, S), rows L.length (inc (S.take 0)), ((0 : Nat) : Int), ()), ()) = some (((L, S), rows L.length (inc (S.take S.length)), ()), ()) := by
    refine loop_count (fun i => (((L, S), rows L.length (inc (S.take i)), (i : Int), ()), ())) S.length _ (fun i hi => ?_) ?_ 0 (Nat.zero_le _)
    · obtain ⟨a, b, he, hab, hb⟩ := hS i hi
      have hg : guardB (decide ((List.length (inc (S.take i) b) + List.length [(a : Int)]) * 8 ≤ 70368744177664)) = (id : Option (spec_l2Lists_J0.P ⊕ spec_l2Lists_O0.P) → _) := by
        funext z
        refine guardB_true ?_
        have := inc_len (S.take i) b
        simp only [List.length_take] at this
        simp only [List.length_singleton, decide_eq_true_eq]
        omega
      simp only [spec_l2Lists_B0, bif_decide, if_pos (show (i : Int) < (S.length : Int) by omega), guardB_true (inb_true (Int.natCast_nonneg i) (show (i : Int) < (S.length : Int) by omega)), Int.toNat_natCast, he, rows_len, guardB_true (inb_true (Int.natCast_nonneg b) (show (b : Int) < (L.length : Int) by omega)), rows_get (show b < L.length by omega), Nat.beq_refl, Bool.and_self, guardB_true rfl, w64_succ (show i < 4611686018427387904 by omega), rows_set]
      rw [hg]
      simp only [id]
      rw [take_one hi (0, 0), he]
      have : rows L.length (fun j => if j = b then inc (S.take i) b ++ [(a : Int)] else inc (S.take i) j) = rows L.length (inc (S.take i ++ [((a : Int), (b : Int))])) := rows_congr fun j _ => by
        rw [inc_snoc]
        by_cases h : j = b
        · subst h; rfl
        · simp only [if_neg h]
      rw [this]
    · simp only [spec_l2Lists_B0, bif_decide, if_neg (show ¬ (S.length : Int) < (S.length : Int) by omega)]
  have k1 : loopO spec_l2Lists_B1 (((L, S), rows L.length (fun j => inc S j ++ outg (S.take 0) j), ((0 : Nat) : Int), ()), ()) = some ((rows L.length (fun j => inc S j ++ outg (S.take S.length) j), ()), ()) := by
    refine loop_count (fun i => (((L, S), rows L.length (fun j => inc S j ++ outg (S.take i) j), (i : Int), ()), ())) S.length _ (fun i hi => ?_) ?_ 0 (Nat.zero_le _)
    · obtain ⟨a, b, he, hab, hb⟩ := hS i hi
      have hg : guardB (decide ((List.length (inc S a ++ outg (S.take i) a) + List.length [(b : Int)]) * 8 ≤ 70368744177664)) = (id : Option (spec_l2Lists_J2.P ⊕ spec_l2Lists_O1.P) → _) := by
        funext z
        refine guardB_true ?_
        have := inc_len S a
        have := outg_len (S.take i) a
        simp only [List.length_take] at this
        simp only [List.length_singleton, List.length_append, decide_eq_true_eq]
        omega
      simp only [spec_l2Lists_B1, bif_decide, if_pos (show (i : Int) < (S.length : Int) by omega), guardB_true (inb_true (Int.natCast_nonneg i) (show (i : Int) < (S.length : Int) by omega)), Int.toNat_natCast, he, rows_len, guardB_true (inb_true (Int.natCast_nonneg a) (show (a : Int) < (L.length : Int) by omega)), rows_get (show a < L.length by omega), Nat.beq_refl, Bool.and_self, guardB_true rfl, w64_succ (show i < 4611686018427387904 by omega), rows_set]
      rw [hg]
      simp only [id]
      rw [take_one hi (0, 0), he]
      have : rows L.length (fun j => if j = a then (inc S a ++ outg (S.take i) a) ++ [(b : Int)] else inc S j ++ outg (S.take i) j) = rows L.length (fun j => inc S j ++ outg (S.take i ++ [((a : Int), (b : Int))]) j) := rows_congr fun j _ => by
        rw [outg_snoc]
        by_cases h : j = a
        · subst h; simp
        · simp only [if_neg h]
      rw [this]
    · simp only [spec_l2Lists_B1, bif_decide, if_neg (show ¬ (S.length : Int) < (S.length : Int) by omega)]
  rw [List.take_length] at k0 k1
  have z0 : rows L.length (inc (S.take 0)) = List.replicate L.length [] := by rw [rows_rep]; exact rows_congr fun j _ => rfl
  have z1 : rows L.length (fun j => inc S j ++ outg (S.take 0) j) = rows L.length (inc S) := rows_congr fun j _ => by simp [outg]
  rw [z0] at k0
  rw [z1] at k1
  erw [k0]
  simp only
  erw [k1]
  rfl
def raw (S : List (Int × Int)) (j : Nat) : List Int := S.flatMap fun e => (if e.1 = (j : Int) then [e.2] else []) ++ (if e.2 = (j : Int) then [e.1] else [])
theorem raw_perm : ∀ (S : List (Int × Int)) (j : Nat), (raw S j).Perm (nbr S j)
  | [], j => by simp [raw, nbr, inc, outg]
  | e :: S, j => by
    have ih := raw_perm S j
    simp only [raw, List.flatMap_cons] at ih ⊢
    simp only [nbr, inc, outg, List.filter_cons] at ih ⊢
    by_cases h1 : e.1 = (j : Int)
    · by_cases h2 : e.2 = (j : Int)
      · simp only [h1, h2, if_true, decide_true, List.map_cons, List.cons_append, List.nil_append]
        exact ((ih.cons (j : Int)).cons (j : Int)).trans (List.perm_middle.symm.cons _)
      · simp only [h1, h2, if_true, if_false, decide_true, decide_false, List.map_cons, List.cons_append, List.nil_append, List.append_nil, Bool.false_eq_true]
        exact (ih.cons _).trans List.perm_middle.symm
    · by_cases h2 : e.2 = (j : Int)
      · simp only [h1, h2, if_true, if_false, decide_true, decide_false, List.map_cons, List.cons_append, List.nil_append, List.append_nil, Bool.false_eq_true]
        exact ih.cons _
      · simp only [h1, h2, if_false, decide_false, List.nil_append, Bool.false_eq_true]
        exact ih
theorem sort_of_perm {l k : List Int} (h : l.Perm k) (hk : k.Pairwise (· < ·)) : l.mergeSort (fun a b => decide (a ≤ b)) = k := by
  refine List.Perm.eq_of_pairwise (le := (· ≤ ·)) ?_ (sort_sorted l) (hk.imp fun h => Int.le_of_lt h) ((List.mergeSort_perm l _).trans h)
  intro a b _ _ h1 h2
  omega
theorem raw_snoc (T : List (Int × Int)) (a b j : Nat) (hab : a < b) : raw (T ++ [((a : Int), (b : Int))]) j = if j = b then raw T j ++ [(a : Int)] else if j = a then raw T j ++ [(b : Int)] else raw T j := by
  simp only [raw, List.flatMap_append, List.flatMap_cons, List.flatMap_nil, List.append_nil]
  by_cases h : j = b
  · subst h; simp [show ¬ (a : Int) = (j : Int) by omega]
  · by_cases h2 : j = a
    · subst h2; simp [show ¬ (b : Int) = (j : Int) by omega, h]
    · simp [h, h2, show ¬ (b : Int) = (j : Int) by omega, show ¬ (a : Int) = (j : Int) by omega]
theorem raw_len (T : List (Int × Int)) (j : Nat) : (raw T j).length ≤ 2 * T.length := by
  rw [(raw_perm T j).length_eq, nbr, List.length_append]
  have := inc_len T j
  have := outg_len T j
  omega
theorem roads_eq (x : List (List Int) × List (Int × Int)) (hp : pairsB x.2 x.1.length = true) (hn : x.1.length ≤ 1048576) (hs : x.2.length ≤ 1048576) : impl_Space_roads (x, ()) () = some ((listsP x.2 x.1.length, ()), ()) := by
  obtain ⟨L, S⟩ := x
  simp only at hp hn hs
  have hS := pairsB_ok hp
  simp only [impl_Space_roads, guardB_true (fold_len hn).2.1, Int.toNat_natCast]
  have k0 : loopO impl_Space_roads_B0 ((rows L.length (raw (S.take 0)), S, (S.length : Int), ((0 : Nat) : Int), ()), ()) = some ((rows L.length (raw (S.take S.length)), ()), ()) := by
    refine loop_count (fun i => ((rows L.length (raw (S.take i)), S, (S.length : Int), (i : Int), ()), ())) S.length _ (fun i hi => ?_) ?_ 0 (Nat.zero_le _)
    · obtain ⟨a, b, he, hab, hb⟩ := hS i hi
      have hl := fun j => raw_len (S.take i) j
      simp only [List.length_take] at hl
      have g1 : decide ((List.length (raw (S.take i) a) + List.length [(b : Int)]) * 8 ≤ 70368744177664) = true := by
        have := hl a
        simp only [List.length_singleton, decide_eq_true_eq]
        omega
      have g2 : decide ((List.length (raw (S.take i) b) + List.length [(a : Int)]) * 8 ≤ 70368744177664) = true := by
        have := hl b
        simp only [List.length_singleton, decide_eq_true_eq]
        omega
      simp only [impl_Space_roads_B0, bif_decide, if_pos (show (i : Int) < (S.length : Int) by omega), guardB_true (inb_true (Int.natCast_nonneg i) (show (i : Int) < (S.length : Int) by omega)), Int.toNat_natCast, he, rows_len, guardB_true (inb_true (Int.natCast_nonneg a) (show (a : Int) < (L.length : Int) by omega)), guardB_true (inb_true (Int.natCast_nonneg b) (show (b : Int) < (L.length : Int) by omega)), rows_get (show a < L.length by omega), rows_get (show b < L.length by omega), Nat.beq_refl, Bool.and_self, guardB_true rfl, w64_succ (show i < 4611686018427387904 by omega), rows_set, if_neg (show ¬ b = a by omega), guardB_true g1, guardB_true g2]
      rw [take_one hi (0, 0), he]
      have : rows L.length (fun j => if j = b then raw (S.take i) b ++ [(a : Int)] else if j = a then raw (S.take i) a ++ [(b : Int)] else raw (S.take i) j) = rows L.length (raw (S.take i ++ [((a : Int), (b : Int))])) := rows_congr fun j _ => by
        rw [raw_snoc _ _ _ _ hab]
        by_cases h : j = b
        · subst h; rw [if_pos rfl, if_pos rfl]
        · by_cases h2 : j = a
          · subst h2; simp [h]
          · simp only [if_neg h, if_neg h2]
      rw [this]
    · simp only [impl_Space_roads_B0, bif_decide, if_neg (show ¬ (S.length : Int) < (S.length : Int) by omega)]
  have k1 : loopO impl_Space_roads_B1 ((rows L.length (fun j => if j < 0 then nbr S j else raw S j), (L.length : Int), ((0 : Nat) : Int), ()), ()) = some ((rows L.length (fun j => if j < L.length then nbr S j else raw S j), ()), ()) := by
    refine loop_count (fun i => ((rows L.length (fun j => if j < i then nbr S j else raw S j), (L.length : Int), (i : Int), ()), ())) L.length _ (fun i hi => ?_) ?_ 0 (Nat.zero_le _)
    · have hl := raw_len S i
      simp only [impl_Space_roads_B1, bif_decide, if_pos (show (i : Int) < (L.length : Int) by omega), rows_len, guardB_true (inb_true (Int.natCast_nonneg i) (show (i : Int) < (L.length : Int) by omega)), Int.toNat_natCast, rows_get hi, if_neg (show ¬ i < i by omega), slices_Sort_int_int, sortFn]
      rw [guardB_true (by simp only [decide_eq_true_eq]; omega)]
      simp only [sort_of_perm (raw_perm S i) (nbr_sorted hp i), rows_set, w64_succ (show i < 4611686018427387904 by omega)]
      have : rows L.length (fun j => if j = i then nbr S i else if j < i then nbr S j else raw S j) = rows L.length (fun j => if j < i + 1 then nbr S j else raw S j) := rows_congr fun j _ => by
        by_cases h : j = i
        · subst h; rw [if_pos rfl, if_pos (by omega)]
        · by_cases h2 : j < i
          · rw [if_neg h, if_pos h2, if_pos (by omega)]
          · rw [if_neg h, if_neg h2, if_neg (by omega)]
      rw [this]
    · simp only [impl_Space_roads_B1, bif_decide, if_neg (show ¬ (L.length : Int) < (L.length : Int) by omega)]
  rw [List.take_length] at k0
  have z0 : rows L.length (raw (S.take 0)) = List.replicate L.length [] := by rw [rows_rep]; exact rows_congr fun j _ => rfl
  have z1 : rows L.length (fun j => if j < 0 then nbr S j else raw S j) = rows L.length (raw S) := rows_congr fun j _ => by simp
  have z2 : rows L.length (fun j => if j < L.length then nbr S j else raw S j) = rows L.length (nbr S) := rows_congr fun j hj => by simp [hj]
  rw [z0] at k0
  rw [z1, z2] at k1
  erw [k0]
  simp only [rows_len]
  erw [k1]
  rfl
def cntLt (n : Int) : List Int → Nat
  | [] => 0
  | x :: l => if x < n then cntLt n l + 1 else 0
theorem cntLt_le (n : Int) : ∀ l : List Int, cntLt n l ≤ l.length
  | [] => Nat.le_refl _
  | x :: l => by
    simp only [cntLt, List.length_cons]
    have := cntLt_le n l
    split <;> omega
theorem cntLt_lt (n : Int) : ∀ (l : List Int) (i : Nat), i < cntLt n l → l.getD i 0 < n
  | [], i, h => by simp [cntLt] at h
  | x :: l, i, h => by
    simp only [cntLt] at h
    split at h
    · rename_i hx
      cases i with
      | zero => simpa using hx
      | succ i => simpa using cntLt_lt n l i (by omega)
    · omega
theorem cntLt_ge (n : Int) : ∀ (l : List Int), cntLt n l < l.length → ¬ l.getD (cntLt n l) 0 < n
  | [], h => by simp at h
  | x :: l, h => by
    simp only [cntLt, List.length_cons] at h ⊢
    split
    · rename_i hx
      rw [if_pos hx] at h
      simpa using cntLt_ge n l (by omega)
    · rename_i hx; simpa using hx
theorem l1Own_eq (l : List Int) (hl : l.length ≤ 1048576) : spec_l1Own (l, ()) () = some ((l, ()), ()) := by
  simp only [spec_l1Own, List.nil_append]
  rw [guardB_true (by simp; omega)]
theorem nbr_len {S : List (Int × Int)} (hs : S.length ≤ 6000) (j : Nat) : (nbr S j).length ≤ 12000 := by
  rw [nbr, List.length_append]
  have := inc_len S j
  have := outg_len S j
  omega
theorem flatMap_len {α β : Type} (f : α → List β) (m : Nat) : ∀ l : List α, (∀ x, (f x).length ≤ m) → (l.flatMap f).length ≤ l.length * m
  | [], _ => by simp
  | x :: l, h => by
    rw [List.flatMap_cons, List.length_append, List.length_cons, Nat.add_mul, Nat.one_mul]
    have := flatMap_len f m l h
    have := h x
    omega
def iota (k : Int) (n : Nat) : List Int := rows n fun i => k + (i : Int)
def tot : List (List Int) → Nat
  | [] => 0
  | l :: L => l.length + tot L
def iotas (k : Int) : List (List Int) → List (List Int)
  | [] => []
  | l :: L => iota k l.length :: iotas (k + (l.length : Int)) L
theorem tot_snoc : ∀ (L : List (List Int)) (l : List Int), tot (L ++ [l]) = tot L + l.length
  | [], l => by simp [tot]
  | x :: L, l => by simp only [List.cons_append, tot, tot_snoc L l]; omega
theorem iotas_snoc : ∀ (L : List (List Int)) (l : List Int) (k : Int), iotas k (L ++ [l]) = iotas k L ++ [iota (k + (tot L : Int)) l.length]
  | [], l, k => by simp [iotas, tot]
  | x :: L, l, k => by
    simp only [List.cons_append, iotas, tot, iotas_snoc L l]
    rw [show k + (x.length : Int) + (tot L : Int) = k + ((x.length + tot L : Nat) : Int) by omega]
theorem iotas_len : ∀ (L : List (List Int)) (k : Int), (iotas k L).length = L.length
  | [], k => rfl
  | x :: L, k => by simp [iotas, iotas_len L]
theorem tot_take (L : List (List Int)) : ∀ i, tot (L.take i) ≤ tot L
  | 0 => by simp [tot]
  | i + 1 => by
    cases L with
    | nil => simp [tot]
    | cons x L =>
      simp only [List.take_succ_cons, tot]
      have := tot_take L i
      omega
theorem tot_bound {m : Nat} : ∀ (L : List (List Int)), (∀ l ∈ L, l.length ≤ m) → tot L ≤ L.length * m
  | [], _ => by simp [tot]
  | x :: L, h => by
    simp only [tot, List.length_cons, Nat.add_mul, Nat.one_mul]
    have := tot_bound L fun l hl => h l (by simp [hl])
    have := h x (by simp)
    omega
theorem w64_nat {x : Int} (h0 : 0 ≤ x) (h : x ≤ 4611686018427387904) : w64 (x + 1) = x + 1 := w64_of (by omega) (by omega)
theorem markIntS_eq (l : List Int) (k : Int) (h0 : 0 ≤ k) (hk : k + (l.length : Int) ≤ 4611686018427387000) : laws_markIntS_e0v_ls (k, ()) (l, ()) = some ((k + (l.length : Int), ()), (iota k l.length, ())) := by
  have key := loop_count (B := laws_markIntS_e0v_ls_B0) (fun i => ((k + (i : Int), (i : Int), ()), (rows l.length (fun j => if j < i then k + (j : Int) else l.getD j 0), ()))) l.length ((k + (l.length : Int), ()), (rows l.length (fun j => if j < l.length then k + (j : Int) else l.getD j 0), ())) (fun i hi => by
    simp only [laws_markIntS_e0v_ls_B0, rows_len, bif_decide, if_pos (show (i : Int) < (l.length : Int) by omega), guardB_true (inb_true (Int.natCast_nonneg i) (show (i : Int) < (l.length : Int) by omega)), Int.toNat_natCast, w64_succ (show i < 4611686018427387904 by omega), w64_nat (x := k + (i : Int)) (by omega) (by omega), rows_set]
    have : rows l.length (fun j => if j = i then k + (i : Int) else if j < i then k + (j : Int) else l.getD j 0) = rows l.length (fun j => if j < i + 1 then k + (j : Int) else l.getD j 0) := rows_congr fun j _ => by
      by_cases h : j = i
      · subst h; rw [if_pos rfl, if_pos (by omega)]
      · by_cases h2 : j < i
        · rw [if_neg h, if_pos h2, if_pos (by omega)]
        · rw [if_neg h, if_neg h2, if_neg (by omega)]
    rw [this, show k + (i : Int) + 1 = k + ((i + 1 : Nat) : Int) by omega]) (by simp only [laws_markIntS_e0v_ls_B0, rows_len, bif_decide, if_neg (show ¬ (l.length : Int) < (l.length : Int) by omega)]) 0 (Nat.zero_le _)
  have z0 : rows l.length (fun j => if j < 0 then k + (j : Int) else l.getD j 0) = l := by
    rw [show rows l.length (fun j => if j < 0 then k + (j : Int) else l.getD j 0) = rows l.length (fun j => l.getD j 0) from rows_congr fun j _ => by simp]
    exact range_getD l 0
  have z1 : rows l.length (fun j => if j < l.length then k + (j : Int) else l.getD j 0) = iota k l.length := rows_congr fun j hj => by simp [hj]
  rw [z0, z1] at key
  simp only [laws_markIntS_e0v_ls]
  rw [show k + ((0 : Nat) : Int) = k by omega] at key
  erw [key]
theorem heldIntS_eq (n : Nat) (k : Int) (h0 : 0 ≤ k) (hk : k + (n : Int) ≤ 4611686018427387000) : laws_heldIntS (iota k n, k, ()) () = some ((k + (n : Int), ()), ()) := by
  have key := loop_count (B := laws_heldIntS_B0) (fun i => ((iota k n, k + (i : Int), (i : Int), ()), ())) n (.inr ((k + (n : Int), ()), ())) (fun i hi => by
    simp only [laws_heldIntS_B0, iota, rows_len, bif_decide, if_pos (show (i : Int) < (n : Int) by omega), guardB_true (inb_true (Int.natCast_nonneg i) (show (i : Int) < (n : Int) by omega)), Int.toNat_natCast, w64_succ (show i < 4611686018427387904 by omega), w64_nat (x := k + (i : Int)) (by omega) (by omega), rows_get hi]
    rw [bne_eq rfl, show k + (i : Int) + 1 = k + ((i + 1 : Nat) : Int) by omega]
    rfl) (by simp only [laws_heldIntS_B0, iota, rows_len, bif_decide, if_neg (show ¬ (n : Int) < (n : Int) by omega)]) 0 (Nat.zero_le _)
  simp only [laws_heldIntS]
  rw [show k + ((0 : Nat) : Int) = k by omega] at key
  erw [key]
theorem set_mid {α : Type} (A B : List α) (x y : α) : (A ++ x :: B).set A.length y = A ++ y :: B := by simp
theorem markIntSS_eq (L : List (List Int)) (k : Int) (h0 : 0 ≤ k) (hk : k + (tot L : Int) ≤ 4611686018427386000) (hL : L.length ≤ 2000000000000) : laws_markIntSS_e0v_l1 (k, ()) (L, ()) = some ((k + (tot L : Int), ()), (iotas k L, ())) := by
  have key := loop_count (B := laws_markIntSS_e0v_l1_B0) (fun i => ((k + (tot (L.take i) : Int), (i : Int), ()), (iotas k (L.take i) ++ L.drop i, ()))) L.length ((k + (tot (L.take L.length) : Int), ()), (iotas k (L.take L.length) ++ L.drop L.length, ())) (fun i hi => by
    have hlen : (iotas k (L.take i) ++ L.drop i).length = L.length := by simp only [List.length_append, iotas_len, List.length_take, List.length_drop]; omega
    have hli : (iotas k (L.take i)).length = i := by simp only [iotas_len, List.length_take]; omega
    have hget : (iotas k (L.take i) ++ L.drop i).getD i [] = L.getD i [] := by
      rw [getD_at hi, getD_at (by omega), List.getElem_append_right (by omega)]
      simp [hli]
    have ht := tot_take L (i + 1)
    rw [take_one hi [], tot_snoc] at ht
    simp only [laws_markIntSS_e0v_l1_B0, hlen, bif_decide, if_pos (show (i : Int) < (L.length : Int) by omega), guardB_true (inb_true (Int.natCast_nonneg i) (show (i : Int) < (L.length : Int) by omega)), Int.toNat_natCast, hget]
    rw [markIntS_eq _ _ (by omega) (by omega)]
    simp only [w64_succ (show i < 4611686018427387904 by omega)]
    have hset : (iotas k (L.take i) ++ L.drop i).set i (iota (k + (tot (L.take i) : Int)) (L.getD i []).length) = iotas k (L.take (i + 1)) ++ L.drop (i + 1) := by
      rw [List.drop_eq_getElem_cons hi, take_one hi [], iotas_snoc, List.append_assoc]
      have := set_mid (iotas k (L.take i)) (L.drop (i + 1)) L[i] (iota (k + (tot (L.take i) : Int)) (L.getD i []).length)
      rw [hli] at this
      rw [this]
      rfl
    rw [hset, take_one hi [], tot_snoc, show k + (tot (L.take i) : Int) + ((L.getD i []).length : Int) = k + ((tot (L.take i) + (L.getD i []).length : Nat) : Int) by omega]) (by
      have hlen : (iotas k (L.take L.length) ++ L.drop L.length).length = L.length := by simp only [List.length_append, iotas_len, List.length_take, List.length_drop]; omega
      simp only [laws_markIntSS_e0v_l1_B0, hlen, bif_decide, if_neg (show ¬ (L.length : Int) < (L.length : Int) by omega)]) 0 (Nat.zero_le _)
  simp only [List.take_length, List.drop_length, List.append_nil, List.take_zero, List.drop_zero, iotas, List.nil_append, tot] at key
  rw [show k + ((0 : Nat) : Int) = k by omega] at key
  simp only [laws_markIntSS_e0v_l1]
  erw [key]
theorem markA2_step (l : List (Int × Int)) (k : Int) (i : Nat) (hi : i < l.length) (h0 : 0 ≤ k) (hk : k ≤ 4611686018427387000) : ∃ l' : List (Int × Int), l'.length = l.length ∧ loopO laws_markIntA2S_e0v_ls_B0 ((k, (i : Int), 0, ()), (l, ())) = some ((k + 2, (i : Int), ()), (l', ())) := by
  have e0 : laws_markIntA2S_e0v_ls_B0 ((k, (i : Int), 0, ()), (l, ())) = some (.inl ((k + 1, (i : Int), 1, ()), (l.set i (k, (l.getD i (0, 0)).2), ()))) := by
    simp only [laws_markIntA2S_e0v_ls_B0, guardB_true (inb_true (Int.natCast_nonneg i) (show (i : Int) < (l.length : Int) by omega)), Int.toNat_natCast, w64_nat h0 (by omega)]
    rfl
  have e1 : laws_markIntA2S_e0v_ls_B0 ((k + 1, (i : Int), 1, ()), (l.set i (k, (l.getD i (0, 0)).2), ())) = some (.inl ((k + 2, (i : Int), 2, ()), ((l.set i (k, (l.getD i (0, 0)).2)).set i (((l.set i (k, (l.getD i (0, 0)).2)).getD i (0, 0)).1, k + 1), ()))) := by
    simp only [laws_markIntA2S_e0v_ls_B0, List.length_set, guardB_true (inb_true (Int.natCast_nonneg i) (show (i : Int) < (l.length : Int) by omega)), Int.toNat_natCast, w64_nat (x := k + 1) (by omega) (by omega)]
    rw [show k + 1 + 1 = k + 2 by omega]
    rfl
  refine ⟨_, ?_, loop_step e0 (loop_step e1 (loop_end rfl))⟩
  simp
theorem markA2S_eq (l : List (Int × Int)) (k : Int) (h0 : 0 ≤ k) (hk : k ≤ 4611686018000000000) (hl : l.length ≤ 1048576) : ∃ l' : List (Int × Int), laws_markIntA2S_e0v_ls (k, ()) (l, ()) = some ((k + 2 * (l.length : Int), ()), (l', ())) := by
  suffices h : ∀ d i, i + d = l.length → ∀ (m : List (Int × Int)) (k : Int), m.length = l.length → 0 ≤ k → k + 2 * (d : Int) ≤ 4611686018427387000 → ∃ l' : List (Int × Int), loopO laws_markIntA2S_e0v_ls_B1 ((k, (i : Int), ()), (m, ())) = some ((k + 2 * (d : Int), ()), (l', ())) by
    obtain ⟨l', h⟩ := h l.length 0 (by omega) l k rfl h0 (by omega)
    refine ⟨l', ?_⟩
    simp only [laws_markIntA2S_e0v_ls]
    erw [h]
  intro d
  induction d with
  | zero =>
    intro i hi m k hm h0 hk
    refine ⟨m, loop_end ?_⟩
    simp only [laws_markIntA2S_e0v_ls_B1, bif_decide, if_neg (show ¬ (i : Int) < (m.length : Int) by omega)]
    rw [show k + 2 * ((0 : Nat) : Int) = k by omega]
  | succ d ih =>
    intro i hi m k hm h0 hk
    obtain ⟨m', h1, h2⟩ := markA2_step m k i (by omega) h0 (by omega)
    obtain ⟨l', h3⟩ := ih (i + 1) (by omega) m' (k + 2) (by omega) (by omega) (by omega)
    refine ⟨l', ?_⟩
    rw [show k + 2 * ((d + 1 : Nat) : Int) = k + 2 + 2 * (d : Int) by omega]
    refine loop_step ?_ h3
    simp only [laws_markIntA2S_e0v_ls_B1, bif_decide, if_pos (show (i : Int) < (m.length : Int) by omega)]
    erw [h2]
    simp only [w64_succ (show i < 4611686018427387904 by omega)]
theorem markSpace_eq (x : List (List Int) × List (Int × Int)) (k : Int) (h : Few x) (h0 : 0 ≤ k) (hk : k ≤ 1000) : ∃ r : Int, laws_markSpace_op21v (x, k, ()) () = some ((r, ()), ()) ∧ 0 ≤ r ∧ r ≤ 2000000000000 := by
  obtain ⟨A, B⟩ := x
  have h1 := h.states
  have h2 := h.steps
  dsimp only at h1 h2
  have ht : tot A ≤ 1048576 * 1048576 := Nat.le_trans (tot_bound A (m := 1048576) h.state) (Nat.mul_le_mul_right _ h1)
  have e1 := markIntSS_eq A k h0 (by omega) (by omega)
  obtain ⟨l', e2⟩ := markA2S_eq B (k + (tot A : Int)) (by omega) (by omega) h2
  simp only [laws_markSpace_op21v, e1, e2]
  exact ⟨_, rfl, by omega, by omega⟩
theorem wrapU {x : Int} (h0 : 0 ≤ x) (h : x < 18446744073709551616) : IntKind.wrap .u64 x = x := by
  simp only [IntKind.wrap, IntKind.bits, IntKind.signed]
  simp
  omega
theorem spec_l2Spread_B0_at (t0 : List (List (Int))) (t1 : Int) (t5 : List (Int)) (t6 : Int) : spec_l2Spread_B0 ((t0, t1, t5, t6, ()), ()) = bif (decide (t6 < (List.length t5 : Int))) then (guardB (inb t6 (List.length t5)) (some (.inl ((t0, t1, (List.set t5 (Int.toNat t6) (-1 : Int)), (w64 (t6 + (1 : Int))), ()), ())))) else (some (.inr ((t0, t1, t5, ()), ()))) := rfl
theorem spec_l2Spread_B1_at (t0 : List (List (Int))) (t5 : List (Int)) (t7 : List (Int)) (t8 : Int) (t9 : List (Int)) (t10 : Int) : spec_l2Spread_B1 ((t0, t5, t7, t8, t9, t10, ()), ()) = bif (decide (t10 < (List.length t9 : Int))) then (guardB (inb t10 (List.length t9)) (guardB (inb (List.getD t9 (Int.toNat t10) (0 : Int)) (List.length t5)) (bif (decide ((List.getD t5 (Int.toNat (List.getD t9 (Int.toNat t10) (0 : Int))) (0 : Int)) < (0 : Int))) then (guardB (inb t10 (List.length t9)) (guardB (inb t8 (List.length t7)) (guardB (inb (List.getD t7 (Int.toNat t8) (0 : Int)) (List.length t5)) (guardB (inb (List.getD t9 (Int.toNat t10) (0 : Int)) (List.length t5)) (guardB (inb t10 (List.length t9)) (guardB (decide ((List.length t7 + List.length [(List.getD t9 (Int.toNat t10) (0 : Int))]) * 8 ≤ 70368744177664)) (some (.inl ((t0, (List.set t5 (Int.toNat (List.getD t9 (Int.toNat t10) (0 : Int))) (w64 ((List.getD t5 (Int.toNat (List.getD t7 (Int.toNat t8) (0 : Int))) (0 : Int)) + (1 : Int)))), (t7 ++ [(List.getD t9 (Int.toNat t10) (0 : Int))]), t8, t9, (w64 (t10 + (1 : Int))), ()), ()))))))))) else (some (.inl ((t0, t5, t7, t8, t9, (w64 (t10 + (1 : Int))), ()), ())))))) else (some (.inr ((t0, t5, t7, t8, ()), ()))) := rfl
theorem spec_l2Spread_B2_at (t0 : List (List (Int))) (t5 : List (Int)) (t7 : List (Int)) (t8 : Int) : spec_l2Spread_B2 ((t0, t5, t7, t8, ()), ()) = bif (decide (t8 < (List.length t7 : Int))) then (guardB (inb t8 (List.length t7)) (guardB (inb (List.getD t7 (Int.toNat t8) (0 : Int)) (List.length t0)) (match loopO spec_l2Spread_B1 ((t0, t5, t7, t8, (List.getD t0 (Int.toNat (List.getD t7 (Int.toNat t8) (0 : Int))) ([] : (List Int))), (0 : Int), ()), ()) with | some ((t0_2, t5_2, t7_2, t8_2, ()), ()) => some (.inl ((t0_2, t5_2, t7_2, (w64 (t8_2 + (1 : Int))), ()), ())) | none => none))) else (some (.inr ((t5, ()), ()))) := rfl
theorem getD_set {l : List Int} {i j : Nat} {a d : Int} (h : i < l.length) : (l.set i a).getD j d = if i = j then a else l.getD j d := by
  simp only [List.getD, List.getElem?_set, h, if_true]
  split <;> simp
def vis1 (v : Int) (s : List Int × List Int) (w : Int) : List Int × List Int := if s.1.getD w.toNat 0 < 0 then (s.1.set w.toNat (s.1.getD v.toNat 0 + 1), s.2 ++ [w]) else s
def vis (v : Int) (row : List Int) (s : List Int × List Int) : List Int × List Int := row.foldl (vis1 v) s
def Bf (n : Nat) (s : List Int × List Int) : Prop := s.1.length = n ∧ (∀ w ∈ s.2, 0 ≤ w ∧ w < n ∧ 0 ≤ s.1.getD w.toNat 0) ∧ s.2.length + s.1.countP (fun d => decide (d < 0)) = n ∧ (∀ j, -1 ≤ s.1.getD j 0 ∧ s.1.getD j 0 < s.2.length)
theorem vis1_bf {n : Nat} {v w : Int} {s : List Int × List Int} (h : Bf n s) (hv : v ∈ s.2) (hw : 0 ≤ w ∧ w < n) : Bf n (vis1 v s w) ∧ ∃ t, (vis1 v s w).2 = s.2 ++ t := by
  unfold vis1
  by_cases hd : s.1.getD w.toNat 0 < 0
  · rw [if_pos hd]
    refine ⟨?_, _, rfl⟩
    obtain ⟨h1, h2, h3, h4⟩ := h
    have hl : w.toNat < s.1.length := by omega
    have hv2 := h2 v hv
    refine ⟨by simp [h1], ?_, ?_, ?_⟩
    · intro u hu
      simp only
      rw [getD_set hl]
      rcases List.mem_append.1 hu with hu | hu
      · have := h2 u hu
        refine ⟨this.1, this.2.1, ?_⟩
        split
        · omega
        · exact this.2.2
      · have : u = w := by simpa using hu
        subst this
        refine ⟨hw.1, hw.2, ?_⟩
        rw [if_pos rfl]; omega
    · simp only [List.length_append, List.length_singleton]
      rw [List.countP_set hl]
      have e1 : decide (s.1[w.toNat] < 0) = true := by rw [← getD_at hl 0]; simpa using hd
      have e2 : decide (s.1.getD v.toNat 0 + 1 < 0) = false := by simp only [decide_eq_false_iff_not]; omega
      have e3 : 0 < s.1.countP (fun d => decide (d < 0)) := List.countP_pos_iff.2 ⟨_, List.getElem_mem hl, e1⟩
      simp only [e1, e2, if_true, Bool.false_eq_true, if_false]
      omega
    · intro j
      simp only [List.length_append, List.length_singleton]
      rw [getD_set hl]
      have a1 := h4 j
      have a2 := h4 v.toNat
      split
      · omega
      · omega
  · rw [if_neg hd]
    exact ⟨h, [], by simp⟩
theorem vis_bf {n : Nat} {v : Int} : ∀ (row : List Int) {s : List Int × List Int}, Bf n s → v ∈ s.2 → (∀ w ∈ row, 0 ≤ w ∧ w < n) → Bf n (vis v row s) ∧ ∃ t, (vis v row s).2 = s.2 ++ t
  | [], s, h, hv, hr => ⟨h, [], by simp [vis]⟩
  | w :: row, s, h, hv, hr => by
    obtain ⟨h1, t1, e1⟩ := vis1_bf h hv (hr w (by simp))
    obtain ⟨h2, t2, e2⟩ := vis_bf row h1 (by rw [e1]; exact List.mem_append_left _ hv) (fun u hu => hr u (by simp [hu]))
    exact ⟨h2, t1 ++ t2, by show (vis v row (vis1 v s w)).2 = _; rw [e2, e1, List.append_assoc]⟩
theorem vis_snoc {v : Int} {row : List Int} {i : Nat} (h : i < row.length) (s : List Int × List Int) : vis v (row.take (i + 1)) s = vis1 v (vis v (row.take i) s) (row.getD i 0) := by
  rw [take_one h 0]; simp [vis, List.foldl_append]
theorem Bf.few {n : Nat} {s : List Int × List Int} (h : Bf n s) : s.2.length ≤ n := by have := h.2.2.1; omega
theorem getD_app {l t : List Int} {k : Nat} (h : k < l.length) : (l ++ t).getD k 0 = l.getD k 0 := by
  rw [getD_at h, getD_at (by simp <;> omega), List.getElem_append_left h]
theorem getD_in {l : List Int} {k : Nat} (h : k < l.length) : l.getD k 0 ∈ l := by rw [getD_at h]; exact List.getElem_mem h
theorem spread_row (L : List (List Int)) {n k : Nat} {s : List Int × List Int} {row : List Int} (hB : Bf n s) (hk : k < s.2.length) (hr : ∀ w ∈ row, 0 ≤ w ∧ w < n) (hn : n ≤ 1048576) (hl : row.length ≤ 1048576) :
    loopO spec_l2Spread_B1 ((L, s.1, s.2, (k : Int), row, 0, ()), ()) = some ((L, (vis (s.2.getD k 0) row s).1, (vis (s.2.getD k 0) row s).2, (k : Int), ()), ()) := by
  have key := loop_count (B := spec_l2Spread_B1) (fun i => ((L, (vis (s.2.getD k 0) (row.take i) s).1, (vis (s.2.getD k 0) (row.take i) s).2, (k : Int), row, (i : Int), ()), ())) row.length ((L, (vis (s.2.getD k 0) row s).1, (vis (s.2.getD k 0) row s).2, (k : Int), ()), ()) ?_ ?_ 0 (Nat.zero_le _)
  · simpa [vis] using key
  · intro i hi
    obtain ⟨hB', t, ht⟩ := vis_bf (row.take i) hB (getD_in hk) (fun w hw => hr w (List.mem_of_mem_take hw))
    have hv : (vis (s.2.getD k 0) (row.take i) s).2.getD k 0 = s.2.getD k 0 := by rw [ht]; exact getD_app hk
    have hk' : k < (vis (s.2.getD k 0) (row.take i) s).2.length := by rw [ht, List.length_append]; omega
    have hvn := hB.2.1 _ (getD_in hk)
    have hw := hr _ (getD_in hi)
    obtain ⟨s', hs'⟩ : ∃ s', vis (s.2.getD k 0) (row.take i) s = s' := ⟨_, rfl⟩
    simp only [vis_snoc hi, hs'] at *
    obtain ⟨v, hve⟩ : ∃ v, s.2.getD k 0 = v := ⟨_, rfl⟩
    obtain ⟨w, hwe⟩ : ∃ w, row.getD i 0 = w := ⟨_, rfl⟩
    have few := hB'.few
    have hlen := hB'.1
    have hb := hB'.2.2.2 v.toNat
    rw [spec_l2Spread_B1_at]
    simp only [bif_decide, Int.toNat_natCast, vis1, hve, hwe] at *
    rw [if_pos (by omega), guardB_true (by simp [inb] <;> omega), guardB_true (inb_true hw.1 (by omega)), hv]
    by_cases hd : s'.1.getD w.toNat 0 < 0
    · rw [if_pos hd, if_pos hd, guardB_true (by simp [inb] <;> omega), guardB_true (by simp [inb] <;> omega), guardB_true (inb_true hvn.1 (by omega)), guardB_true (inb_true hw.1 (by omega)), guardB_true (by simp [inb] <;> omega), guardB_true (by simp only [List.length_singleton, decide_eq_true_eq]; omega), w64_succ (by omega), w64_of (by omega) (by omega)]
    · rw [if_neg hd, if_neg hd, w64_succ (by omega)]
  · rw [spec_l2Spread_B1_at]; simp
def Rds (n : Nat) (L : List (List Int)) : Prop := L.length = n ∧ ∀ i, i < n → (L.getD i []).length ≤ 1048576 ∧ ∀ w ∈ L.getD i [], 0 ≤ w ∧ w < n
def bfs (L : List (List Int)) : Nat → Nat → List Int × List Int → List Int × List Int
  | 0, _, s => s
  | f + 1, k, s => if k < s.2.length then bfs L f (k + 1) (vis (s.2.getD k 0) (L.getD (s.2.getD k 0).toNat []) s) else s
theorem bfs_step {L : List (List Int)} {n k : Nat} {s : List Int × List Int} (hL : Rds n L) (hB : Bf n s) (hk : k < s.2.length) : Bf n (vis (s.2.getD k 0) (L.getD (s.2.getD k 0).toNat []) s) ∧ k + 1 ≤ (vis (s.2.getD k 0) (L.getD (s.2.getD k 0).toNat []) s).2.length := by
  have hvn := hB.2.1 _ (getD_in hk)
  obtain ⟨h1, t, ht⟩ := vis_bf (L.getD (s.2.getD k 0).toNat []) hB (getD_in hk) (hL.2 _ (by omega)).2
  exact ⟨h1, by rw [ht, List.length_append]; omega⟩
theorem bfs_bf {L : List (List Int)} {n : Nat} (hL : Rds n L) : ∀ (f k : Nat) (s : List Int × List Int), Bf n s → Bf n (bfs L f k s)
  | 0, _, s, h => h
  | f + 1, k, s, h => by
    unfold bfs
    split
    · rename_i hk
      exact bfs_bf hL f (k + 1) _ (bfs_step hL h hk).1
    · exact h
theorem spread_out {L : List (List Int)} {n : Nat} (hL : Rds n L) (hn : n ≤ 1048576) : ∀ (f k : Nat) (s : List Int × List Int), Bf n s → k ≤ s.2.length → n - k ≤ f → loopO spec_l2Spread_B2 ((L, s.1, s.2, (k : Int), ()), ()) = some (((bfs L f k s).1, ()), ()) := by
  intro f
  induction f with
  | zero =>
    intro k s hB hk hf
    have := hB.few
    refine loop_end ?_
    rw [spec_l2Spread_B2_at]
    simp only [bif_decide, bfs]
    rw [if_neg (by omega)]
  | succ f ih =>
    intro k s hB hk hf
    have few := hB.few
    unfold bfs
    split
    · rename_i hk'
      obtain ⟨h1, h2⟩ := bfs_step hL hB hk'
      have hvn := hB.2.1 _ (getD_in hk')
      have hrow := hL.2 (s.2.getD k 0).toNat (by omega)
      have key := spread_row L hB hk' hrow.2 hn hrow.1
      refine loop_step ?_ (ih (k + 1) _ h1 h2 (by omega))
      have hL1 := hL.1
      rw [spec_l2Spread_B2_at]
      simp only [bif_decide, Int.toNat_natCast]
      rw [if_pos (by omega), guardB_true (by simp [inb] <;> omega), guardB_true (inb_true hvn.1 (by omega))]
      erw [key]
      simp only [w64_succ (show k < 4611686018427387904 by omega)]
    · rename_i hk'
      refine loop_end ?_
      rw [spec_l2Spread_B2_at]
      simp only [bif_decide]
      rw [if_neg (by omega)]
def far0 (n : Nat) (a : Int) : List Int × List Int := ((List.replicate n (-1 : Int)).set a.toNat 0, [a])
def far (L : List (List Int)) (a : Int) : List Int := (bfs L L.length 0 (far0 L.length a)).1
theorem far0_bf {n : Nat} {a : Int} (h0 : 0 ≤ a) (h : a < n) : Bf n (far0 n a) := by
  have hl : a.toNat < (List.replicate n (-1 : Int)).length := by simp; omega
  refine ⟨by simp [far0], ?_, ?_, ?_⟩
  · intro w hw
    have : w = a := by simpa [far0] using hw
    subst this
    refine ⟨h0, h, ?_⟩
    simp only [far0]
    rw [getD_set hl, if_pos rfl]
    exact Int.le_refl 0
  · simp only [far0]
    rw [List.countP_set hl]
    have e : (List.replicate n (-1 : Int)).countP (fun d => decide (d < 0)) = n := by rw [List.countP_replicate]; simp
    simp only [e, List.getElem_replicate, List.length_singleton]
    simp
    omega
  · intro j
    simp only [far0]
    rw [getD_set hl, List.length_singleton]
    split
    · omega
    · by_cases hj : j < n
      · rw [getD_at (by simpa using hj)]; simp
      · simp [List.getD, hj]
theorem far_bf {L : List (List Int)} {n : Nat} (hL : Rds n L) {a : Int} (h0 : 0 ≤ a) (h : a < n) : (far L a).length = n ∧ ∀ j, -1 ≤ (far L a).getD j 0 ∧ (far L a).getD j 0 < n := by
  have hB := bfs_bf hL L.length 0 _ (far0_bf (n := n) h0 h)
  have few := hB.few
  unfold far
  rw [hL.1] at hB ⊢
  refine ⟨hB.1, fun j => ?_⟩
  have := hB.2.2.2 j
  rw [hL.1] at few
  omega
theorem spread_spec {L : List (List Int)} {n : Nat} (hL : Rds n L) (hn : n ≤ 1048576) {a : Int} (h0 : 0 ≤ a) (h : a < n) : spec_l2Spread (L, a, ()) () = some ((far L a, ()), ()) := by
  have hl := hL.1
  have key1 : loopO spec_l2Spread_B0 ((L, a, List.replicate n 0, 0, ()), ()) = some ((L, a, List.replicate n (-1), ()), ()) := by
    have := loop_count (B := spec_l2Spread_B0) (fun i => ((L, a, fill (fun _ => (-1 : Int)) 0 n i, (i : Int), ()), ())) n ((L, a, fill (fun _ => (-1 : Int)) 0 n n, ()), ()) ?_ ?_ 0 (Nat.zero_le _)
    · rw [fill_all] at this
      rw [rows_rep (-1 : Int)]
      simpa [fill_zero, rows] using this
    · intro i hi
      rw [spec_l2Spread_B0_at]
      simp only [bif_decide, fill_len, Int.toNat_natCast]
      rw [if_pos (by omega), guardB_true (by simp [inb] <;> omega), fill_set hi, w64_succ (by omega)]
    · rw [spec_l2Spread_B0_at]; simp [fill_len]
  have key2 := spread_out hL hn n 0 (far0 n a) (far0_bf h0 h) (Nat.zero_le _) (by omega)
  simp only [spec_l2Spread, hl, Int.toNat_natCast]
  rw [guardB_true (by simp <;> omega)]
  erw [key1]
  simp only
  rw [guardB_true (inb_true h0 (by simp <;> omega))]
  have : far L a = (bfs L n 0 (far0 n a)).1 := by simp only [far, hl]
  rw [this]
  erw [key2]
theorem rds_lists {S : List (Int × Int)} {n : Nat} (h : StepsOk S n) (hs : S.length ≤ 6000) : Rds n (listsP S n) := by
  refine ⟨rows_len, fun i hi => ?_⟩
  rw [show (listsP S n).getD i [] = nbr S i from rows_get hi _]
  refine ⟨by have := nbr_len hs i; omega, fun w hw => ?_⟩
  simp only [nbr, inc, outg, List.mem_append, List.mem_map, List.mem_filter] at hw
  rcases hw with ⟨e, ⟨he, _⟩, rfl⟩ | ⟨e, ⟨he, _⟩, rfl⟩
  · have := steps_mem h he; omega
  · have := steps_mem h he; omega
theorem spec_l11Numbers_B0_at (list : List (Int)) (n : Int) (i : Int) : spec_l11Numbers_B0 ((list, n, i, ()), ()) = bif (decide (i < (List.length list : Int))) then (guardB (inb i (List.length list)) (match spec_l1In ((List.getD list (Int.toNat i) (0 : Int)), (0 : Int), (999 : Int), ()) () with | some ((r, ()), ()) => (bif (!r) then (some (.inr (.inl ((false, ()), ())))) else (some (.inl ((list, n, (w64 (i + (1 : Int))), ()), ())))) | none => none)) else (some (.inr (.inr ((list, n, ()), ())))) := rfl
theorem slices_IndexFunc_int_int_2_vf_impl_areLoads_1_B0_at (s : List (Int)) (t7 : Int) (t8 : Int) : slices_IndexFunc_int_int_2_vf_impl_areLoads_1_B0 ((s, t7, t8, ()), ()) = bif (decide (t8 < t7)) then (guardB (inb t8 (List.length s)) (match impl_areLoads_1 ((List.getD s (Int.toNat t8) (0 : Int)), ()) () with | some ((r, ()), ()) => (bif r then (some (.inr (.inl ((t8, ()), ())))) else (some (.inl ((s, t7, (w64 (t8 + (1 : Int))), ()), ())))) | none => none)) else (some (.inr (.inr ((), ())))) := rfl
theorem spec_l11Under_B0_at (heights : List (Int)) (level : Int) (out : List (Int)) (i : Int) : spec_l11Under_B0 ((heights, level, out, i, ()), ()) = bif (decide (i < (List.length heights : Int))) then (guardB (inb i (List.length heights)) (bif (decide ((List.getD heights (Int.toNat i) (0 : Int)) ≤ level)) then (guardB (decide ((List.length out + List.length [i]) * 8 ≤ 70368744177664)) (some (.inl ((heights, level, (out ++ [i]), (w64 (i + (1 : Int))), ()), ())))) else (some (.inl ((heights, level, out, (w64 (i + (1 : Int))), ()), ()))))) else (some (.inr ((out, ()), ()))) := rfl
theorem impl_below_B0_at (level : Int) (out : List (Int)) (t9 : List (Int)) (t10 : Int) (t11 : Int) : impl_below_B0 ((level, out, t9, t10, t11, ()), ()) = bif (decide (t11 < t10)) then (guardB (inb t11 (List.length t9)) (bif (decide ((List.getD t9 (Int.toNat t11) (0 : Int)) ≤ level)) then (guardB (decide ((List.length out + List.length [t11]) * 8 ≤ 70368744177664)) (some (.inl ((level, (out ++ [t11]), t9, t10, (w64 (t11 + (1 : Int))), ()), ())))) else (some (.inl ((level, out, t9, t10, (w64 (t11 + (1 : Int))), ()), ()))))) else (some (.inr ((out, ()), ()))) := rfl
def loadB (n : Int) : Bool := inR n 0 999
def loadsB (m : Nat) (l : List Int) : Bool := decide (l.length = m) && l.all loadB
theorem l11Numbers_eq (l : List Int) (m : Nat) (hl : l.length ≤ 1048576) : spec_l11Numbers (l, (m : Int), ()) () = some ((loadsB m l, ()), ()) := by
  have key := loop_all (B := spec_l11Numbers_B0) (fun i => ((l, (m : Int), (i : Int), ()), ())) (fun i => loadB (l.getD i 0)) l.length (.inl ((false, ()), ())) (.inr ((l, (m : Int), ()), ())) (fun i hi _ => by
    rw [spec_l11Numbers_B0_at]
    simp only [bif_decide, if_pos (show (i : Int) < (l.length : Int) by omega), guardB_true (inb_true (Int.natCast_nonneg i) (show (i : Int) < (l.length : Int) by omega)), Int.toNat_natCast, l1In_eq _ _ _, w64_succ (show i < 4611686018427387904 by omega), loadB]
    cases inR (l.getD i 0) 0 999 <;> rfl) (by rw [spec_l11Numbers_B0_at]; simp)
  rw [allUpto_getD] at key
  simp only [spec_l11Numbers]
  erw [key]
  have e : ((l.length : Int) == (m : Int)) = decide (l.length = m) := by
    by_cases h : l.length = m
    · simp [h]
    · rw [beq_ne (by omega), decide_eq_false h]
  cases h : l.all loadB
  · simp [loadsB, h]
  · simp [loadsB, h, e]
theorem areLoads_eq (l : List Int) (m : Nat) (hl : l.length ≤ 1048576) : impl_areLoads (l, (m : Int), ()) () = some ((loadsB m l, ()), ()) := by
  have k1 : ∀ n : Int, impl_areLoads_1 (n, ()) () = some (((!loadB n), ()), ()) := fun n => by simp only [impl_areLoads_1, between_eq _ _ _, loadB]
  have key := loop_idx (B := slices_IndexFunc_int_int_2_vf_impl_areLoads_1_B0) (fun i => ((l, (l.length : Int), (i : Int), ()), ())) (fun i => !loadB (l.getD i 0)) l.length (fun i => .inl ((i, ()), ())) (.inr ((), ())) (fun i hi => by
    rw [slices_IndexFunc_int_int_2_vf_impl_areLoads_1_B0_at]
    simp only [bif_decide, if_pos (show (i : Int) < (l.length : Int) by omega), guardB_true (inb_true (Int.natCast_nonneg i) (show (i : Int) < (l.length : Int) by omega)), Int.toNat_natCast, k1, w64_succ (show i < 4611686018427387904 by omega)]
    cases loadB (l.getD i 0) <;> rfl) (by rw [slices_IndexFunc_int_int_2_vf_impl_areLoads_1_B0_at]; simp)
  have k2 : slices_IndexFunc_int_int_2_vf_impl_areLoads_1 (l, ()) () = some ((firstIdx (fun i => !loadB (l.getD i 0)) 0 l.length, ()), ()) := by
    simp only [slices_IndexFunc_int_int_2_vf_impl_areLoads_1]
    erw [key]
    by_cases h : firstIdx (fun i => !loadB (l.getD i 0)) 0 l.length < 0
    · rw [if_pos h, firstIdx_range _ _ h]
    · rw [if_neg h]
  have e : allUpto (fun i => !!loadB (l.getD (0 + i) 0)) l.length = l.all loadB := by
    rw [← allUpto_getD]; congr 1; funext i; simp
  simp only [impl_areLoads, slices_ContainsFunc_int_int_2_vf_impl_areLoads_1, k2, firstIdx_neg, e]
  by_cases h : l.length = m
  · rw [show ((l.length : Int) == (m : Int)) = true by simp [h]]; simp [loadsB, h]
  · rw [show ((l.length : Int) == (m : Int)) = false from beq_ne (by omega)]; simp [loadsB, h]
def underFrom (t : Int) (k : Nat) : List Int → List Int
  | [] => []
  | h :: l => if h ≤ t then (k : Int) :: underFrom t (k + 1) l else underFrom t (k + 1) l
def under (t : Int) (l : List Int) : List Int := underFrom t 0 l
theorem underFrom_snoc (t x : Int) : ∀ (l : List Int) (k : Nat), underFrom t k (l ++ [x]) = underFrom t k l ++ (if x ≤ t then [((k + l.length : Nat) : Int)] else [])
  | [], k => by by_cases h : x ≤ t <;> simp [underFrom, h]
  | y :: l, k => by
    simp only [List.cons_append, underFrom, underFrom_snoc t x l (k + 1), List.length_cons, show k + 1 + l.length = k + (l.length + 1) by omega]
    by_cases h : y ≤ t
    · rw [if_pos h, if_pos h]; rfl
    · rw [if_neg h, if_neg h]
theorem underFrom_len (t : Int) : ∀ (l : List Int) (k : Nat), (underFrom t k l).length ≤ l.length
  | [], k => by simp [underFrom]
  | y :: l, k => by
    have := underFrom_len t l (k + 1)
    simp only [underFrom, List.length_cons]
    split <;> simp <;> omega
theorem underFrom_mem {t : Int} {x : Int} : ∀ {l : List Int} {k : Nat}, x ∈ underFrom t k l → (k : Int) ≤ x ∧ x < k + l.length
  | [], k, h => by simp [underFrom] at h
  | y :: l, k, h => by
    simp only [underFrom] at h
    simp only [List.length_cons]
    split at h
    · rcases List.mem_cons.1 h with h | h
      · omega
      · have := underFrom_mem h; omega
    · have := underFrom_mem h; omega
theorem underFrom_sorted (t : Int) : ∀ (l : List Int) (k : Nat), (underFrom t k l).Pairwise (· < ·)
  | [], k => by simp [underFrom]
  | y :: l, k => by
    simp only [underFrom]
    split
    · refine List.pairwise_cons.2 ⟨fun x hx => ?_, underFrom_sorted t l (k + 1)⟩
      have := underFrom_mem hx; omega
    · exact underFrom_sorted t l (k + 1)
theorem under_sorted (t : Int) (l : List Int) : (under t l).Pairwise (· < ·) := underFrom_sorted t l 0
theorem under_mem {t x : Int} {l : List Int} (h : x ∈ under t l) : 0 ≤ x ∧ x < l.length := by have := underFrom_mem h; omega
theorem l11Under_eq (l : List Int) (t : Int) (hl : l.length ≤ 1048576) : spec_l11Under (l, t, ()) () = some ((under t l, ()), ()) := by
  have key := loop_count (B := spec_l11Under_B0) (fun i => ((l, t, under t (l.take i), (i : Int), ()), ())) l.length ((under t l, ()), ()) (fun i hi => by
    have hs : under t (l.take (i + 1)) = under t (l.take i) ++ (if l.getD i 0 ≤ t then [(i : Int)] else []) := by
      rw [take_one hi 0, under, underFrom_snoc]; simp [under, Nat.min_eq_left (Nat.le_of_lt hi)]
    have hle : (under t (l.take i)).length ≤ 1048576 := by have := underFrom_len t (l.take i) 0; simp only [List.length_take] at this; unfold under; omega
    rw [spec_l11Under_B0_at]
    simp only [bif_decide, if_pos (show (i : Int) < (l.length : Int) by omega), guardB_true (inb_true (Int.natCast_nonneg i) (show (i : Int) < (l.length : Int) by omega)), Int.toNat_natCast, w64_succ (show i < 4611686018427387904 by omega), hs]
    by_cases h : l.getD i 0 ≤ t
    · rw [if_pos h, if_pos h, guardB_true (by simp only [List.length_singleton, decide_eq_true_eq]; omega)]
    · rw [if_neg h, if_neg h, List.append_nil]) (by rw [spec_l11Under_B0_at]; simp) 0 (Nat.zero_le _)
  simp only [spec_l11Under]
  erw [key]
theorem below_eq (l : List Int) (t : Int) (hl : l.length ≤ 1048576) : impl_below (l, t, ()) () = some ((under t l, ()), ()) := by
  have key := loop_count (B := impl_below_B0) (fun i => ((t, under t (l.take i), l, (l.length : Int), (i : Int), ()), ())) l.length ((under t l, ()), ()) (fun i hi => by
    have hs : under t (l.take (i + 1)) = under t (l.take i) ++ (if l.getD i 0 ≤ t then [(i : Int)] else []) := by
      rw [take_one hi 0, under, underFrom_snoc]; simp [under, Nat.min_eq_left (Nat.le_of_lt hi)]
    have hle : (under t (l.take i)).length ≤ 1048576 := by have := underFrom_len t (l.take i) 0; simp only [List.length_take] at this; unfold under; omega
    rw [impl_below_B0_at]
    simp only [bif_decide, if_pos (show (i : Int) < (l.length : Int) by omega), guardB_true (inb_true (Int.natCast_nonneg i) (show (i : Int) < (l.length : Int) by omega)), Int.toNat_natCast, w64_succ (show i < 4611686018427387904 by omega), hs]
    by_cases h : l.getD i 0 ≤ t
    · rw [if_pos h, if_pos h, guardB_true (by simp only [List.length_singleton, decide_eq_true_eq]; omega)]
    · rw [if_neg h, if_neg h, List.append_nil]) (by rw [impl_below_B0_at]; simp) 0 (Nat.zero_le _)
  simp only [impl_below]
  erw [key]
theorem slices_BinarySearch_int_int_B0_at (x : List (Int)) (target : Int) (n : Int) (i : Int) (j : Int) : slices_BinarySearch_int_int_B0 ((x, target, n, i, j, ()), ()) = bif (decide (i < j)) then (guardB (inb (w64 (Int.fdiv (IntKind.wrap .u64 (w64 (i + j))) (2 ^ (min 1 64)))) (List.length x)) (match cmp_Less_int ((List.getD x (Int.toNat (w64 (Int.fdiv (IntKind.wrap .u64 (w64 (i + j))) (2 ^ (min 1 64))))) (0 : Int)), target, ()) () with | some ((r, ()), ()) => (bif r then (some (.inl ((x, target, n, (w64 ((w64 (Int.fdiv (IntKind.wrap .u64 (w64 (i + j))) (2 ^ (min 1 64)))) + (1 : Int))), j, ()), ()))) else (some (.inl ((x, target, n, i, (w64 (Int.fdiv (IntKind.wrap .u64 (w64 (i + j))) (2 ^ (min 1 64)))), ()), ())))) | none => none)) else (some (.inr ((x, target, n, i, ()), ()))) := rfl
theorem isNaN_cmp (x : Int) : cmp_isNaN_int (x, ()) () = some ((false, ()), ()) := by simp [cmp_isNaN_int]
theorem isNaN_sl (x : Int) : slices_isNaN_int (x, ()) () = some ((false, ()), ()) := by simp [slices_isNaN_int]
theorem Less_eq (x y : Int) : cmp_Less_int (x, y, ()) () = some ((decide (x < y), ()), ()) := by
  simp only [cmp_Less_int, isNaN_cmp x]
  rfl
theorem cntLt_split {l : List Int} (hs : l.Pairwise (· < ·)) (t : Int) : ∀ i, i < l.length → (l.getD i 0 < t ↔ i < cntLt t l) := by
  intro i hi
  constructor
  · intro h
    refine Classical.byContradiction fun hn => ?_
    have hc : cntLt t l < l.length := by omega
    have h1 := cntLt_ge t l hc
    have : l.getD (cntLt t l) 0 ≤ l.getD i 0 := by
      rw [getD_at hc, getD_at hi]
      by_cases he : cntLt t l = i
      · simp [he]
      · have := List.pairwise_iff_getElem.1 hs (cntLt t l) i hc hi (by omega)
        omega
    omega
  · exact cntLt_lt t l i
theorem half_eq {i j : Nat} (h : i + j < 4611686018427387904) : w64 (Int.fdiv (IntKind.wrap .u64 (w64 ((i : Int) + (j : Int)))) (2 ^ (min 1 64))) = (((i + j) / 2 : Nat) : Int) := by
  rw [w64_of (x := (i : Int) + (j : Int)) (by omega) (by omega), wrapU (by omega) (by omega), show (2 : Int) ^ (min 1 64) = 2 by decide, Int.fdiv_eq_ediv_of_nonneg _ (by decide), w64_of (by omega) (by omega)]
  omega
theorem search_loop {l : List Int} (hs : l.Pairwise (· < ·)) (hl : l.length ≤ 1048576) (t : Int) : ∀ (d i j : Nat), j - i ≤ d → i ≤ cntLt t l → cntLt t l ≤ j → j ≤ l.length → loopO slices_BinarySearch_int_int_B0 ((l, t, (l.length : Int), (i : Int), (j : Int), ()), ()) = some ((l, t, (l.length : Int), ((cntLt t l : Nat) : Int), ()), ()) := by
  intro d
  induction d with
  | zero =>
    intro i j hd h1 h2 h3
    refine loop_end ?_
    rw [slices_BinarySearch_int_int_B0_at]
    simp only [bif_decide]
    rw [if_neg (by omega), show i = cntLt t l by omega]
  | succ d ih =>
    intro i j hd h1 h2 h3
    by_cases hij : i < j
    · have hh : (i + j) / 2 < l.length := by omega
      have hp := cntLt_split hs t ((i + j) / 2) hh
      have step : slices_BinarySearch_int_int_B0 ((l, t, (l.length : Int), (i : Int), (j : Int), ()), ()) = some (.inl (if l.getD ((i + j) / 2) 0 < t then ((l, t, (l.length : Int), (((i + j) / 2 + 1 : Nat) : Int), (j : Int), ()), ()) else ((l, t, (l.length : Int), (i : Int), (((i + j) / 2 : Nat) : Int), ()), ()))) := by
        rw [slices_BinarySearch_int_int_B0_at]
        simp only [bif_decide, half_eq (show i + j < 4611686018427387904 by omega), Int.toNat_natCast, w64_succ (show (i + j) / 2 < 4611686018427387904 by omega)]
        rw [if_pos (by omega), guardB_true (by simp [inb] <;> omega)]
        by_cases h : l.getD ((i + j) / 2) 0 < t
        · rw [if_pos h, Less_eq, decide_eq_true h]; rfl
        · rw [if_neg h, Less_eq, decide_eq_false h]; rfl
      by_cases h : l.getD ((i + j) / 2) 0 < t
      · rw [if_pos h] at step
        exact loop_step step (ih _ _ (by omega) (by have := hp.1 h; omega) h2 h3)
      · rw [if_neg h] at step
        exact loop_step step (ih _ _ (by omega) h1 (by have := fun e => h (hp.2 e); omega) (by omega))
    · refine loop_end ?_
      rw [slices_BinarySearch_int_int_B0_at]
      simp only [bif_decide]
      rw [if_neg (by omega), show i = cntLt t l by omega]
theorem cntLt_mem {l : List Int} (hs : l.Pairwise (· < ·)) {t : Int} : t ∈ l ↔ cntLt t l < l.length ∧ l.getD (cntLt t l) 0 = t := by
  constructor
  · intro h
    obtain ⟨i, hi, rfl⟩ := List.getElem_of_mem h
    have h1 := cntLt_split hs l[i] i hi
    rw [getD_at hi] at h1
    have h2 : cntLt l[i] l ≤ i := by have := fun e => Int.lt_irrefl _ (h1.2 e); omega
    have h3 : ¬ cntLt l[i] l < i := by
      intro h4
      have h5 := List.pairwise_iff_getElem.1 hs (cntLt l[i] l) i (by omega) hi h4
      have h6 := cntLt_ge l[i] l (by omega)
      rw [getD_at (by omega)] at h6
      omega
    have h4 : cntLt l[i] l = i := by omega
    rw [h4]
    exact ⟨hi, getD_at hi 0⟩
  · rintro ⟨h1, h2⟩
    rw [← h2]
    exact getD_in h1
theorem BinarySearch_eq {l : List Int} (hs : l.Pairwise (· < ·)) (hl : l.length ≤ 1048576) (t : Int) : slices_BinarySearch_int_int (l, t, ()) () = some ((((cntLt t l : Nat) : Int), decide (t ∈ l), ()), ()) := by
  have key := search_loop hs hl t l.length 0 l.length (by omega) (Nat.zero_le _) (cntLt_le t l) (Nat.le_refl _)
  simp only [slices_BinarySearch_int_int]
  erw [key]
  have hm := cntLt_mem hs (t := t)
  by_cases h : cntLt t l < l.length
  · simp only [bif_decide, Int.toNat_natCast]
    rw [if_pos (show ((cntLt t l : Nat) : Int) < (l.length : Int) by omega), guardB_true (by simp [inb] <;> omega)]
    by_cases h2 : l.getD (cntLt t l) 0 = t
    · rw [decide_eq_true (hm.2 ⟨h, h2⟩)]
      show (bif l.getD (cntLt t l) 0 == t then _ else _) = _
      rw [beq_eq h2]; rfl
    · rw [decide_eq_false (fun e => h2 (hm.1 e).2)]
      show (bif l.getD (cntLt t l) 0 == t then _ else _) = _
      rw [beq_ne h2, guardB_true (by simp [inb] <;> omega), isNaN_sl]; rfl
  · rw [decide_eq_false (fun e => h (hm.1 e).1)]
    simp only [bif_decide]
    rw [if_neg (show ¬ ((cntLt t l : Nat) : Int) < (l.length : Int) by omega)]
theorem impl_isRising_B0_at (list : List (Int)) (below : Int) (t7 : List (Int)) (t8 : Int) (t9 : Int) : impl_isRising_B0 ((list, below, t7, t8, t9, ()), ()) = bif (decide (t9 < t8)) then (guardB (inb t9 (List.length t7)) (match impl_between ((List.getD t7 (Int.toNat t9) (0 : Int)), (0 : Int), (w64 (below - (1 : Int))), ()) () with | some ((r, ()), ()) => (bif (!r) then (some (.inr (.inl ((false, ()), ())))) else (bif (decide ((0 : Int) < t9)) then (guardB (inb (w64 (t9 - (1 : Int))) (List.length list)) (bif (decide ((List.getD t7 (Int.toNat t9) (0 : Int)) ≤ (List.getD list (Int.toNat (w64 (t9 - (1 : Int)))) (0 : Int)))) then (some (.inr (.inl ((false, ()), ())))) else (some (.inl ((list, below, t7, t8, (w64 (t9 + (1 : Int))), ()), ()))))) else (some (.inl ((list, below, t7, t8, (w64 (t9 + (1 : Int))), ()), ()))))) | none => none)) else (some (.inr (.inr ((), ())))) := rfl
theorem spec_l2Induced_B0_at (t1 : List (Int)) (t2 : (List (List (Int))) × (List ((Int) × (Int)))) (t6 : List (Int)) (t7 : Int) (t4 : (List (List (Int))) × (List ((Int) × (Int)))) (t5 : (List (List (Int))) × (List ((Int) × (Int)))) : spec_l2Induced_B0 ((t1, t2, t6, t7, ()), (t4, t5, ())) = bif (decide (t7 < (List.length t6 : Int))) then (guardB (inb t7 (List.length t6)) (some (.inl ((t1, t2, (List.set t6 (Int.toNat t7) (-1 : Int)), (w64 (t7 + (1 : Int))), ()), (t4, t5, ()))))) else (some (.inr ((t1, t2, t6, ()), (t4, t5, ())))) := rfl
theorem spec_l2Induced_B1_at (t1 : List (Int)) (t2 : (List (List (Int))) × (List ((Int) × (Int)))) (t6 : List (Int)) (t8 : Int) (t4 : (List (List (Int))) × (List ((Int) × (Int)))) (t5 : (List (List (Int))) × (List ((Int) × (Int)))) : spec_l2Induced_B1 ((t1, t2, t6, t8, ()), (t4, t5, ())) = bif (decide (t8 < (List.length t1 : Int))) then (guardB (inb t8 (List.length t1)) (guardB (inb (List.getD t1 (Int.toNat t8) (0 : Int)) (List.length t6)) (guardB (inb t8 (List.length t1)) (guardB (inb (List.getD t1 (Int.toNat t8) (0 : Int)) (List.length t2.1)) (match spec_l2Induced_D12 ((t1, t2, (List.set t6 (Int.toNat (List.getD t1 (Int.toNat t8) (0 : Int))) t8), t8, (List.getD t2.1 (Int.toNat (List.getD t1 (Int.toNat t8) (0 : Int))) ([] : (List Int))), ()), (t4, t5, ())) with | some ((t1_2, t2_2, t6_2, t8_2, ()), (t4_2, t5_2, ())) => some (.inl ((t1_2, t2_2, t6_2, (w64 (t8_2 + (1 : Int))), ()), (t4_2, t5_2, ()))) | none => none))))) else (some (.inr ((t2, t6, ()), (t4, t5, ())))) := rfl
theorem spec_l2Induced_B2_at (t2 : (List (List (Int))) × (List ((Int) × (Int)))) (t6 : List (Int)) (t9 : Int) (t4 : (List (List (Int))) × (List ((Int) × (Int)))) (t5 : (List (List (Int))) × (List ((Int) × (Int)))) : spec_l2Induced_B2 ((t2, t6, t9, ()), (t4, t5, ())) = bif (decide (t9 < (List.length t2.2 : Int))) then (guardB (inb t9 (List.length t2.2)) (guardB (inb ((List.getD t2.2 (Int.toNat t9) ((0 : Int), (0 : Int))).1) (List.length t6)) (guardB (inb t9 (List.length t2.2)) (guardB (inb ((List.getD t2.2 (Int.toNat t9) ((0 : Int), (0 : Int))).2) (List.length t6)) (bif (decide ((0 : Int) ≤ (List.getD t6 (Int.toNat ((List.getD t2.2 (Int.toNat t9) ((0 : Int), (0 : Int))).1)) (0 : Int)))) then (bif (decide ((0 : Int) ≤ (List.getD t6 (Int.toNat ((List.getD t2.2 (Int.toNat t9) ((0 : Int), (0 : Int))).2)) (0 : Int)))) then (guardB (decide ((List.length t5.2 + List.length [((List.getD t6 (Int.toNat ((List.getD t2.2 (Int.toNat t9) ((0 : Int), (0 : Int))).1)) (0 : Int)), (List.getD t6 (Int.toNat ((List.getD t2.2 (Int.toNat t9) ((0 : Int), (0 : Int))).2)) (0 : Int)))]) * 16 ≤ 70368744177664)) (some (.inl ((t2, t6, (w64 (t9 + (1 : Int))), ()), (t4, (t5.1, (t5.2 ++ [((List.getD t6 (Int.toNat ((List.getD t2.2 (Int.toNat t9) ((0 : Int), (0 : Int))).1)) (0 : Int)), (List.getD t6 (Int.toNat ((List.getD t2.2 (Int.toNat t9) ((0 : Int), (0 : Int))).2)) (0 : Int)))])), ()))))) else (some (.inl ((t2, t6, (w64 (t9 + (1 : Int))), ()), (t4, t5, ()))))) else (some (.inl ((t2, t6, (w64 (t9 + (1 : Int))), ()), (t4, t5, ()))))))))) else (some (.inr ((), (t4, t5, ())))) := rfl
theorem spec_l2Induced_D12_at (t1 : List (Int)) (t2 : (List (List (Int))) × (List ((Int) × (Int)))) (t6 : List (Int)) (t8 : Int) (t50 : List (Int)) (t4 : (List (List (Int))) × (List ((Int) × (Int)))) (t5 : (List (List (Int))) × (List ((Int) × (Int)))) : spec_l2Induced_D12 ((t1, t2, t6, t8, t50, ()), (t4, t5, ())) = match spec_l1Own (t50, ()) () with | some ((r, ()), ()) => guardB (decide ((List.length t5.1 + List.length [r]) * 24 ≤ 70368744177664)) (some ((t1, t2, t6, t8, ()), (t4, ((t5.1 ++ [r]), t5.2), ()))) | none => none := rfl
theorem spec_l2Induced_D0_at (t1 : List (Int)) (t2 : (List (List (Int))) × (List ((Int) × (Int)))) (t17 : Int) (t4 : (List (List (Int))) × (List ((Int) × (Int)))) : spec_l2Induced_D0 ((t1, t2, t17, ()), (t4, ())) = spec_l2Induced_D1 ((t1, t2, ([] : (List (List Int))), t17, ()), (t4, ())) := rfl
theorem impl_InducedSpace_B0_at (t1 : List (Int)) (t2 : (List (List (Int))) × (List ((Int) × (Int)))) (t28 : List (Int)) (t29 : Int) (t30 : Int) (t4 : (List (List (Int))) × (List ((Int) × (Int)))) (t6 : (List (List (Int))) × (List ((Int) × (Int)))) : impl_InducedSpace_B0 ((t1, t2, t28, t29, t30, ()), (t4, t6, ())) = bif (decide (t30 < t29)) then (guardB (inb t30 (List.length t28)) (guardB (inb (List.getD t28 (Int.toNat t30) (0 : Int)) (List.length t2.1)) (match impl_InducedSpace_D0 ((t1, t2, t28, t29, t30, (List.getD t2.1 (Int.toNat (List.getD t28 (Int.toNat t30) (0 : Int))) ([] : (List Int))), ()), (t4, t6, ())) with | some ((t1_2, t2_2, t28_2, t29_2, t30_2, ()), (t4_2, t6_2, ())) => some (.inl ((t1_2, t2_2, t28_2, t29_2, (w64 (t30_2 + (1 : Int))), ()), (t4_2, t6_2, ()))) | none => none))) else (some (.inr ((t1, t2, ()), (t4, t6, ())))) := rfl
theorem impl_InducedSpace_B1_at (t1 : List (Int)) (t47 : List ((Int) × (Int))) (t48 : Int) (t49 : Int) (t4 : (List (List (Int))) × (List ((Int) × (Int)))) (t6 : (List (List (Int))) × (List ((Int) × (Int)))) : impl_InducedSpace_B1 ((t1, t47, t48, t49, ()), (t4, t6, ())) = bif (decide (t49 < t48)) then (guardB (inb t49 (List.length t47)) (match slices_BinarySearch_int_int (t1, (List.getD t47 (Int.toNat t49) ((0 : Int), (0 : Int))).1, ()) () with | some ((r, r2, ()), ()) => (match slices_BinarySearch_int_int (t1, (List.getD t47 (Int.toNat t49) ((0 : Int), (0 : Int))).2, ()) () with | some ((r3, r4, ()), ()) => (bif r2 then (bif r4 then (guardB (decide ((List.length t6.2 + List.length [(r, r3)]) * 16 ≤ 70368744177664)) (some (.inl ((t1, t47, t48, (w64 (t49 + (1 : Int))), ()), (t4, (t6.1, (t6.2 ++ [(r, r3)])), ()))))) else (some (.inl ((t1, t47, t48, (w64 (t49 + (1 : Int))), ()), (t4, t6, ()))))) else (some (.inl ((t1, t47, t48, (w64 (t49 + (1 : Int))), ()), (t4, t6, ()))))) | none => none) | none => none)) else (some (.inr ((), (t4, t6, ())))) := rfl
theorem impl_InducedSpace_D0_at (t1 : List (Int)) (t2 : (List (List (Int))) × (List ((Int) × (Int)))) (t28 : List (Int)) (t29 : Int) (t30 : Int) (t40 : List (Int)) (t4 : (List (List (Int))) × (List ((Int) × (Int)))) (t6 : (List (List (Int))) × (List ((Int) × (Int)))) : impl_InducedSpace_D0 ((t1, t2, t28, t29, t30, t40, ()), (t4, t6, ())) = match slices_Clone_int_int (t40, ()) () with | some ((r, ()), ()) => guardB (decide ((List.length t6.1 + List.length [r]) * 24 ≤ 70368744177664)) (some ((t1, t2, t28, t29, t30, ()), (t4, ((t6.1 ++ [r]), t6.2), ()))) | none => none := rfl
theorem spec_l2Induced_D1_at (t1 : List (Int)) (t2 : (List (List (Int))) × (List ((Int) × (Int)))) (t12 : List (List (Int))) (t17 : Int) (t4 : (List (List (Int))) × (List ((Int) × (Int)))) : spec_l2Induced_D1 ((t1, t2, t12, t17, ()), (t4, ())) = spec_l2Induced_D2 ((t1, t2, t12, ([] : (List (Int × Int))), ((), ()), t17, ()), (t4, ())) := rfl
theorem cntLt_get {l : List Int} (hs : l.Pairwise (· < ·)) {i : Nat} (hi : i < l.length) : cntLt (l.getD i 0) l = i := by
  have h1 := cntLt_split hs (l.getD i 0) i hi
  have h2 : cntLt (l.getD i 0) l ≤ i := by have := fun e => Int.lt_irrefl _ (h1.2 e); omega
  have h3 : ¬ cntLt (l.getD i 0) l < i := by
    intro h4
    have h5 := List.pairwise_iff_getElem.1 hs (cntLt (l.getD i 0) l) i (by omega) hi h4
    have h6 := cntLt_ge (l.getD i 0) l (by omega)
    rw [← getD_at (show cntLt (l.getD i 0) l < l.length by omega) 0, ← getD_at hi 0] at h5
    omega
  omega
def posOf (u : List Int) (v : Int) : Int := if v ∈ u then ((cntLt v u : Nat) : Int) else -1
def indE (u : List Int) (e : Int × Int) : List (Int × Int) := if e.1 ∈ u ∧ e.2 ∈ u then [(((cntLt e.1 u : Nat) : Int), ((cntLt e.2 u : Nat) : Int))] else []
def indS (u : List Int) (S : List (Int × Int)) : List (Int × Int) := S.flatMap (indE u)
def indL (u : List Int) (L : List (List Int)) : List (List Int) := u.map fun v => L.getD v.toNat []
def induced (u : List Int) (x : List (List Int) × List (Int × Int)) : List (List Int) × List (Int × Int) := (indL u x.1, indS u x.2)
theorem indS_snoc (u : List Int) {S : List (Int × Int)} {i : Nat} (h : i < S.length) : indS u (S.take (i + 1)) = indS u (S.take i) ++ indE u (S.getD i (0, 0)) := by
  rw [take_one h (0, 0)]; simp [indS]
theorem indE_len (u : List Int) (e : Int × Int) : (indE u e).length ≤ 1 := by unfold indE; split <;> simp
theorem indS_len (u : List Int) (S : List (Int × Int)) : (indS u S).length ≤ S.length := by
  have := flatMap_len (indE u) 1 S (fun e => indE_len u e)
  unfold indS; omega
theorem posOf_mem {u : List Int} {v : Int} : 0 ≤ posOf u v ↔ v ∈ u := by
  unfold posOf; split
  · rename_i h; exact ⟨fun _ => h, fun _ => by omega⟩
  · rename_i h; exact ⟨fun e => by omega, fun e => absurd e h⟩
def tabAt (n : Nat) (u : List Int) (i : Nat) : List Int := rows n fun v => if (v : Int) ∈ u.take i then ((cntLt (v : Int) u : Nat) : Int) else -1
theorem tabAt_zero (n : Nat) (u : List Int) : tabAt n u 0 = List.replicate n (-1) := by
  rw [rows_rep]; exact rows_congr fun j hj => by simp
theorem tabAt_set {n : Nat} {u : List Int} (hs : u.Pairwise (· < ·)) {i : Nat} (hi : i < u.length) (h0 : 0 ≤ u.getD i 0) : (tabAt n u i).set (u.getD i 0).toNat (i : Int) = tabAt n u (i + 1) := by
  unfold tabAt
  rw [rows_set, take_one hi 0]
  refine rows_congr fun j hj => ?_
  by_cases h : j = (u.getD i 0).toNat
  · rw [if_pos h]
    have e : (j : Int) = u.getD i 0 := by omega
    rw [e, if_pos (by simp), cntLt_get hs hi]
  · rw [if_neg h]
    have e : ¬ (j : Int) = u.getD i 0 := by omega
    simp only [List.mem_append, List.mem_singleton, e, or_false]
theorem l2Induced_eq (x : List (List Int) × List (Int × Int)) (u : List Int) (hs : u.Pairwise (· < ·)) (hr : ∀ v ∈ u, 0 ≤ v ∧ v < x.1.length) (hS : StepsOk x.2 x.1.length) (hn : x.1.length ≤ 1048576) (h2 : x.2.length ≤ 1048576) (hu : u.length ≤ 1048576) (hrow : ∀ i, (x.1.getD i []).length ≤ 1048576) :
    spec_l2Induced (x, u, ()) () = some ((induced u x, ()), ()) := by
  have d0 : spec_l2Induced_D0 ((u, x, (x.1.length : Int), ()), ((([] : (List (List Int))), ([] : (List (Int × Int)))), ())) = some ((u, x, List.replicate x.1.length 0, ()), ((([] : (List (List Int))), ([] : (List (Int × Int)))), (([] : (List (List Int))), ([] : (List (Int × Int)))), ())) := by
    rw [spec_l2Induced_D0_at, spec_l2Induced_D1_at]
    show guardB (decide (0 ≤ (x.1.length : Int)) && decide ((x.1.length : Int) ≤ (x.1.length : Int)) && decide ((x.1.length : Int) * 8 ≤ 140737488355328)) (some ((u, x, List.replicate (Int.toNat (x.1.length : Int)) 0, ()), ((([] : (List (List Int))), ([] : (List (Int × Int)))), (([] : (List (List Int))), ([] : (List (Int × Int)))), ()))) = _
    rw [guardB_true (by simp <;> omega), Int.toNat_natCast]
  have b0 : ∀ t4 t5 : List (List Int) × List (Int × Int), loopO spec_l2Induced_B0 ((u, x, List.replicate x.1.length 0, 0, ()), (t4, t5, ())) = some ((u, x, tabAt x.1.length u 0, ()), (t4, t5, ())) := by
    intro t4 t5
    have := loop_count (B := spec_l2Induced_B0) (fun i => ((u, x, fill (fun _ => (-1 : Int)) 0 x.1.length i, (i : Int), ()), (t4, t5, ()))) x.1.length ((u, x, fill (fun _ => (-1 : Int)) 0 x.1.length x.1.length, ()), (t4, t5, ())) ?_ ?_ 0 (Nat.zero_le _)
    · rw [fill_all] at this
      rw [tabAt_zero, rows_rep (-1 : Int)]
      simpa [fill_zero, rows] using this
    · intro i hi
      rw [spec_l2Induced_B0_at]
      simp only [bif_decide, fill_len, Int.toNat_natCast]
      rw [if_pos (by omega), guardB_true (by simp [inb] <;> omega), fill_set hi, w64_succ (by omega)]
    · rw [spec_l2Induced_B0_at]; simp [fill_len]
  have b1 : ∀ t4 : List (List Int) × List (Int × Int), loopO spec_l2Induced_B1 ((u, x, tabAt x.1.length u 0, 0, ()), (t4, (([] : (List (List Int))), ([] : (List (Int × Int)))), ())) = some ((x, tabAt x.1.length u u.length, ()), (t4, (indL u x.1, ([] : (List (Int × Int)))), ())) := by
    intro t4
    have := loop_count (B := spec_l2Induced_B1) (fun i => ((u, x, tabAt x.1.length u i, (i : Int), ()), (t4, (indL (u.take i) x.1, ([] : (List (Int × Int)))), ()))) u.length ((x, tabAt x.1.length u u.length, ()), (t4, (indL u x.1, ([] : (List (Int × Int)))), ())) ?_ ?_ 0 (Nat.zero_le _)
    · simpa [indL] using this
    · intro i hi
      have hv := hr _ (getD_in hi)
      have hlen : (indL (u.take i) x.1).length ≤ 1048576 := by simp [indL]; omega
      have hsn : indL (u.take (i + 1)) x.1 = indL (u.take i) x.1 ++ [x.1.getD (u.getD i 0).toNat []] := by rw [take_one hi 0]; simp [indL]
      have htl : (tabAt x.1.length u i).length = x.1.length := rows_len
      rw [spec_l2Induced_B1_at]
      simp only [bif_decide, Int.toNat_natCast]
      rw [if_pos (by omega), guardB_true (by simp [inb] <;> omega), guardB_true (inb_true hv.1 (by omega)), guardB_true (by simp [inb] <;> omega), guardB_true (inb_true hv.1 (by omega)), spec_l2Induced_D12_at, l1Own_eq _ (hrow _)]
      simp only
      rw [guardB_true (by simp only [List.length_singleton, decide_eq_true_eq]; omega), tabAt_set hs hi hv.1, hsn]
      simp only [w64_succ (show i < 4611686018427387904 by omega)]
    · rw [spec_l2Induced_B1_at]; simp
  have b2 : ∀ t4 : List (List Int) × List (Int × Int), loopO spec_l2Induced_B2 ((x, tabAt x.1.length u u.length, 0, ()), (t4, (indL u x.1, ([] : (List (Int × Int)))), ())) = some ((), (t4, (indL u x.1, indS u x.2), ())) := by
    intro t4
    have := loop_count (B := spec_l2Induced_B2) (fun i => ((x, tabAt x.1.length u u.length, (i : Int), ()), (t4, (indL u x.1, indS u (x.2.take i)), ()))) x.2.length ((), (t4, (indL u x.1, indS u x.2), ())) ?_ ?_ 0 (Nat.zero_le _)
    · simpa [indS] using this
    · intro i hi
      obtain ⟨a, b, hab, h3, h4⟩ := hS i hi
      have htl : (tabAt x.1.length u u.length).length = x.1.length := rows_len
      have hg : ∀ c : Nat, c < x.1.length → (tabAt x.1.length u u.length).getD c 0 = posOf u c := fun c hc => by
        unfold tabAt posOf; rw [rows_get hc, List.take_length]
      have hlen : (indS u (x.2.take i)).length ≤ 1048576 := by have := indS_len u (x.2.take i); simp only [List.length_take] at this; omega
      have ga := hg a (by omega)
      have gb := hg b h4
      have ma := posOf_mem (u := u) (v := (a : Int))
      have mb := posOf_mem (u := u) (v := (b : Int))
      rw [spec_l2Induced_B2_at]
      simp only [bif_decide, Int.toNat_natCast, hab, indS_snoc u hi]
      rw [if_pos (by omega), guardB_true (by simp [inb] <;> omega), guardB_true (inb_true (by omega) (by omega)), guardB_true (by simp [inb] <;> omega), guardB_true (inb_true (by omega) (by omega)), ga, gb]
      by_cases h5 : (a : Int) ∈ u
      · rw [if_pos (ma.2 h5)]
        by_cases h6 : (b : Int) ∈ u
        · rw [if_pos (mb.2 h6), guardB_true (by simp only [List.length_singleton, decide_eq_true_eq]; omega), w64_succ (by omega)]
          simp only [indE, posOf, h5, h6, and_self, if_true]
        · rw [if_neg (fun e => h6 (mb.1 e)), w64_succ (by omega)]
          simp only [indE, h5, h6, and_false, if_false, List.append_nil]
      · rw [if_neg (fun e => h5 (ma.1 e)), w64_succ (by omega)]
        simp only [indE, h5, false_and, if_false, List.append_nil]
    · rw [spec_l2Induced_B2_at]; simp
  simp only [spec_l2Induced]
  erw [d0]
  simp only
  erw [b0]
  simp only
  erw [b1]
  simp only
  erw [b2]
  rfl
theorem isRising_true {u : List Int} {n : Nat} (hs : u.Pairwise (· < ·)) (hr : ∀ v ∈ u, 0 ≤ v ∧ v < n) (hn : n ≤ 1048576) (hu : u.length ≤ 1048576) : impl_isRising (u, (n : Int), ()) () = some ((true, ()), ()) := by
  have := loop_count (B := impl_isRising_B0) (fun i => ((u, (n : Int), u, (u.length : Int), (i : Int), ()), ())) u.length (.inr ((), ())) ?_ ?_ 0 (Nat.zero_le _)
  · simp only [impl_isRising]
    erw [this]
  · intro i hi
    have hv := hr _ (getD_in hi)
    rw [impl_isRising_B0_at]
    simp only [bif_decide, Int.toNat_natCast, w64_of (x := (n : Int) - 1) (by omega) (by omega), between_eq _ _ _]
    rw [if_pos (by omega), guardB_true (by simp [inb] <;> omega), show inR (u.getD i 0) 0 ((n : Int) - 1) = true by simp only [inR, Bool.and_eq_true, decide_eq_true_eq]; omega]
    simp only [Bool.not_true, cond_false]
    by_cases h0 : 0 < i
    · have h5 := List.pairwise_iff_getElem.1 hs (i - 1) i (by omega) hi (by omega)
      rw [← getD_at (show i - 1 < u.length by omega) 0, ← getD_at hi 0] at h5
      rw [if_pos (by omega), w64_pred (by omega) h0, guardB_true (by simp [inb] <;> omega), Int.toNat_natCast, if_neg (by omega), w64_succ (by omega)]
    · rw [if_neg (by omega), w64_succ (by omega)]
  · rw [impl_isRising_B0_at]; simp
theorem InducedSpace_eq (x : List (List Int) × List (Int × Int)) (hF : Few x) (hsp : spaceB x = true) (u : List Int) (hs : u.Pairwise (· < ·)) (hr : ∀ v ∈ u, 0 ≤ v ∧ v < x.1.length) (hu : u.length ≤ 1048576) (hrow : ∀ i, (x.1.getD i []).length ≤ 1048576) :
    impl_InducedSpace (x, u, ()) () = some ((induced u x, true, ()), ()) := by
  have hn := hF.states
  have h2 := hF.steps
  have b0 : ∀ t4 : List (List Int) × List (Int × Int), loopO impl_InducedSpace_B0 ((u, x, u, (u.length : Int), 0, ()), (t4, (([] : (List (List Int))), ([] : (List (Int × Int)))), ())) = some ((u, x, ()), (t4, (indL u x.1, ([] : (List (Int × Int)))), ())) := by
    intro t4
    have := loop_count (B := impl_InducedSpace_B0) (fun i => ((u, x, u, (u.length : Int), (i : Int), ()), (t4, (indL (u.take i) x.1, ([] : (List (Int × Int)))), ()))) u.length ((u, x, ()), (t4, (indL u x.1, ([] : (List (Int × Int)))), ())) ?_ ?_ 0 (Nat.zero_le _)
    · simpa [indL] using this
    · intro i hi
      have hv := hr _ (getD_in hi)
      have hlen : (indL (u.take i) x.1).length ≤ 1048576 := by simp [indL]; omega
      have hsn : indL (u.take (i + 1)) x.1 = indL (u.take i) x.1 ++ [x.1.getD (u.getD i 0).toNat []] := by rw [take_one hi 0]; simp [indL]
      have hc : slices_Clone_int_int (x.1.getD (u.getD i 0).toNat [], ()) () = some ((x.1.getD (u.getD i 0).toNat [], ()), ()) := by
        have := hrow (u.getD i 0).toNat
        simp only [slices_Clone_int_int, cloneFn]
        rw [guardB_true (by simp only [decide_eq_true_eq]; omega)]
      rw [impl_InducedSpace_B0_at]
      simp only [bif_decide, Int.toNat_natCast]
      rw [if_pos (by omega), guardB_true (by simp [inb] <;> omega), guardB_true (inb_true hv.1 (by omega)), impl_InducedSpace_D0_at, hc]
      simp only
      rw [guardB_true (by simp only [List.length_singleton, decide_eq_true_eq]; omega), hsn]
      simp only [w64_succ (show i < 4611686018427387904 by omega)]
    · rw [impl_InducedSpace_B0_at]; simp
  have b1 : ∀ t4 : List (List Int) × List (Int × Int), loopO impl_InducedSpace_B1 ((u, x.2, (x.2.length : Int), 0, ()), (t4, (indL u x.1, ([] : (List (Int × Int)))), ())) = some ((), (t4, (indL u x.1, indS u x.2), ())) := by
    intro t4
    have := loop_count (B := impl_InducedSpace_B1) (fun i => ((u, x.2, (x.2.length : Int), (i : Int), ()), (t4, (indL u x.1, indS u (x.2.take i)), ()))) x.2.length ((), (t4, (indL u x.1, indS u x.2), ())) ?_ ?_ 0 (Nat.zero_le _)
    · simpa [indS] using this
    · intro i hi
      have hlen : (indS u (x.2.take i)).length ≤ 1048576 := by have := indS_len u (x.2.take i); simp only [List.length_take] at this; omega
      rw [impl_InducedSpace_B1_at]
      simp only [bif_decide, Int.toNat_natCast, indS_snoc u hi, BinarySearch_eq hs hu _]
      rw [if_pos (by omega), guardB_true (by simp [inb] <;> omega)]
      by_cases h5 : (x.2.getD i (0, 0)).1 ∈ u
      · by_cases h6 : (x.2.getD i (0, 0)).2 ∈ u
        · rw [if_pos h5, if_pos h6, w64_succ (by omega), guardB_true (by simp only [List.length_singleton, decide_eq_true_eq]; omega)]
          simp only [indE, h5, h6, and_self, if_true]
        · rw [if_pos h5, if_neg h6, w64_succ (by omega)]
          simp only [indE, h6, and_false, if_false, List.append_nil]
      · rw [if_neg h5, w64_succ (by omega)]
        simp only [indE, h5, false_and, if_false, List.append_nil]
    · rw [impl_InducedSpace_B1_at]; simp
  simp only [impl_InducedSpace, IsSpace_eq x hF, hsp, isRising_true hs hr hn hu, Bool.not_true, cond_false]
  erw [b0]
  simp only
  erw [b1]
  rfl
inductive Rch (L : List (List Int)) (a : Int) : Int → Prop
  | refl : Rch L a a
  | step (v w : Int) : Rch L a v → w ∈ L.getD v.toNat [] → Rch L a w
def Good (L : List (List Int)) (n : Nat) (a : Int) (s : List Int × List Int) : Prop :=
  (∀ w : Int, 0 ≤ w → w < n → (0 ≤ s.1.getD w.toNat 0 ↔ w ∈ s.2)) ∧ (∀ w ∈ s.2, Rch L a w) ∧
  (∀ w : Int, 0 ≤ w → w < n → 0 < s.1.getD w.toNat 0 → ∃ v ∈ s.2, w ∈ L.getD v.toNat [] ∧ s.1.getD w.toNat 0 = s.1.getD v.toNat 0 + 1) ∧
  (∀ w : Int, 0 ≤ w → w < n → s.1.getD w.toNat 0 = 0 → w = a)
theorem vis1_good {L : List (List Int)} {n : Nat} {a v w : Int} {s : List Int × List Int} (hB : Bf n s) (hG : Good L n a s) (hv : v ∈ s.2) (hw : 0 ≤ w ∧ w < n) (hin : w ∈ L.getD v.toNat []) :
    Good L n a (vis1 v s w) ∧ (∀ u : Int, 0 ≤ u → 0 ≤ s.1.getD u.toNat 0 → (vis1 v s w).1.getD u.toNat 0 = s.1.getD u.toNat 0) ∧ 0 ≤ (vis1 v s w).1.getD w.toNat 0 := by
  have hv2 := hB.2.1 v hv
  unfold vis1
  by_cases hd : s.1.getD w.toNat 0 < 0
  · rw [if_pos hd]
    have hl : w.toNat < s.1.length := by have := hB.1; omega
    have hst : ∀ u : Int, 0 ≤ u → 0 ≤ s.1.getD u.toNat 0 → (s.1.set w.toNat (s.1.getD v.toNat 0 + 1)).getD u.toNat 0 = s.1.getD u.toNat 0 := by
      intro u hu h0
      rw [getD_set hl]
      split
      · rename_i e; rw [e] at hd; omega
      · rfl
    obtain ⟨g1, g2, g3, g4⟩ := hG
    refine ⟨⟨?_, ?_, ?_, ?_⟩, hst, ?_⟩
    · intro u h0 h1
      simp only [List.mem_append, List.mem_singleton]
      rw [getD_set hl]
      by_cases e : w.toNat = u.toNat
      · rw [if_pos e]
        have : u = w := by omega
        constructor
        · intro _; exact .inr this
        · intro _; omega
      · rw [if_neg e, g1 u h0 h1]
        constructor
        · exact .inl
        · rintro (h | h)
          · exact h
          · exact absurd (by rw [h]) e
    · intro u hu
      rcases List.mem_append.1 hu with hu | hu
      · exact g2 u hu
      · have : u = w := by simpa using hu
        subst this
        exact .step v u (g2 v hv) hin
    · intro u h0 h1 hp
      simp only at hp ⊢
      rw [getD_set hl] at hp ⊢
      by_cases e : w.toNat = u.toNat
      · have e' : u = w := by omega
        subst e'
        rw [if_pos rfl]
        exact ⟨v, List.mem_append_left _ hv, hin, by rw [hst v hv2.1 hv2.2.2]⟩
      · rw [if_neg e] at hp ⊢
        obtain ⟨p, p1, p2, p3⟩ := g3 u h0 h1 hp
        have hp2 := hB.2.1 p p1
        exact ⟨p, List.mem_append_left _ p1, p2, by rw [hst p hp2.1 hp2.2.2]; exact p3⟩
    · intro u h0 h1 hz
      simp only at hz
      rw [getD_set hl] at hz
      by_cases e : w.toNat = u.toNat
      · rw [if_pos e] at hz; omega
      · rw [if_neg e] at hz; exact g4 u h0 h1 hz
    · simp only
      rw [getD_set hl, if_pos rfl]; omega
  · rw [if_neg hd]
    exact ⟨hG, fun _ _ _ => rfl, by omega⟩
theorem vis_good {L : List (List Int)} {n : Nat} {a v : Int} : ∀ (row : List Int) {s : List Int × List Int}, Bf n s → Good L n a s → v ∈ s.2 → (∀ w ∈ row, 0 ≤ w ∧ w < n) → (∀ w ∈ row, w ∈ L.getD v.toNat []) →
    Good L n a (vis v row s) ∧ (∀ u : Int, 0 ≤ u → 0 ≤ s.1.getD u.toNat 0 → (vis v row s).1.getD u.toNat 0 = s.1.getD u.toNat 0) ∧ ∀ w ∈ row, 0 ≤ (vis v row s).1.getD w.toNat 0
  | [], s, hB, hG, hv, hr, hin => ⟨hG, fun _ _ _ => rfl, fun w hw => by simp at hw⟩
  | w :: row, s, hB, hG, hv, hr, hin => by
    obtain ⟨b1, t, e⟩ := vis1_bf hB hv (hr w (by simp))
    obtain ⟨g1, g2, g3⟩ := vis1_good hB hG hv (hr w (by simp)) (hin w (by simp))
    obtain ⟨k1, k2, k3⟩ := vis_good row b1 g1 (by rw [e]; exact List.mem_append_left _ hv) (fun u hu => hr u (by simp [hu])) (fun u hu => hin u (by simp [hu]))
    have hw := hr w (by simp)
    refine ⟨k1, fun u h0 h1 => ?_, fun u hu => ?_⟩
    · have := k2 u h0 (by rw [g2 u h0 h1]; exact h1)
      exact this.trans (g2 u h0 h1)
    · rcases List.mem_cons.1 hu with hu | hu
      · subst hu
        have := k2 u hw.1 g3
        show 0 ≤ (vis v row (vis1 v s u)).1.getD u.toNat 0
        rw [this]; exact g3
      · exact k3 u hu
def Done (L : List (List Int)) (k : Nat) (s : List Int × List Int) : Prop := ∀ i, i < k → ∀ w ∈ L.getD (s.2.getD i 0).toNat [], 0 ≤ s.1.getD w.toNat 0
theorem bfs_good {L : List (List Int)} {n : Nat} {a : Int} (hL : Rds n L) : ∀ (f k : Nat) (s : List Int × List Int), Bf n s → Good L n a s → k ≤ s.2.length → n - k ≤ f → Done L k s →
    Good L n a (bfs L f k s) ∧ Done L (bfs L f k s).2.length (bfs L f k s) ∧ (∀ u : Int, 0 ≤ u → 0 ≤ s.1.getD u.toNat 0 → (bfs L f k s).1.getD u.toNat 0 = s.1.getD u.toNat 0)
  | 0, k, s, hB, hG, hk, hf, hD => by
    have := hB.few
    have e : s.2.length = k := by omega
    unfold bfs
    exact ⟨hG, by rw [e]; exact hD, fun _ _ _ => rfl⟩
  | f + 1, k, s, hB, hG, hk, hf, hD => by
    have few := hB.few
    unfold bfs
    split
    · rename_i hk'
      obtain ⟨h1, h2⟩ := bfs_step hL hB hk'
      have hvn := hB.2.1 _ (getD_in hk')
      have hrow := hL.2 (s.2.getD k 0).toNat (by omega)
      obtain ⟨g1, g2, g3⟩ := vis_good (L := L) (a := a) (L.getD (s.2.getD k 0).toNat []) hB hG (getD_in hk') hrow.2 (fun w hw => hw)
      obtain ⟨_, t, ht⟩ := vis_bf (L.getD (s.2.getD k 0).toNat []) hB (getD_in hk') hrow.2
      obtain ⟨r1, r2, r3⟩ := bfs_good hL f (k + 1) _ h1 g1 h2 (by omega) (by
        intro i hi w hw
        by_cases e : i = k
        · subst e
          rw [ht, getD_app hk'] at hw
          exact g3 w hw
        · have hi' : i < k := by omega
          rw [ht, getD_app (by omega)] at hw
          have h0 := hD i hi' w hw
          have hvi := hB.2.1 _ (getD_in (show i < s.2.length by omega))
          have hw2 := (hL.2 (s.2.getD i 0).toNat (by omega)).2 w hw
          rw [g2 w hw2.1 h0]
          exact h0)
      exact ⟨r1, r2, fun u h0 h3 => by rw [r3 u h0 (by rw [g2 u h0 h3]; exact h3)]; exact g2 u h0 h3⟩
    · rename_i hk'
      have e : s.2.length = k := by omega
      exact ⟨hG, by rw [e]; exact hD, fun _ _ _ => rfl⟩
theorem far0_good {L : List (List Int)} {n : Nat} {a : Int} (h0 : 0 ≤ a) (h : a < n) : Good L n a (far0 n a) := by
  have hl : a.toNat < (List.replicate n (-1 : Int)).length := by simp; omega
  have hg : ∀ w : Int, 0 ≤ w → w < n → (far0 n a).1.getD w.toNat 0 = if w = a then 0 else -1 := by
    intro w h1 h2
    simp only [far0]
    rw [getD_set hl]
    by_cases e : w = a
    · subst e; rw [if_pos rfl, if_pos rfl]
    · rw [if_neg (by omega), if_neg e, getD_at (by simp; omega)]; simp
  refine ⟨fun w h1 h2 => ?_, fun w hw => ?_, fun w h1 h2 h3 => ?_, fun w h1 h2 h3 => ?_⟩
  · rw [hg w h1 h2]
    by_cases e : w = a
    · rw [if_pos e]; simp [far0, e]
    · rw [if_neg e]; simp [far0, e]
  · have : w = a := by simpa [far0] using hw
    rw [this]; exact .refl
  · rw [hg w h1 h2] at h3; split at h3 <;> omega
  · rw [hg w h1 h2] at h3
    by_cases e : w = a
    · exact e
    · rw [if_neg e] at h3; omega
theorem far_facts {L : List (List Int)} {n : Nat} (hL : Rds n L) {a : Int} (h0 : 0 ≤ a) (h : a < n) :
    (∀ v w : Int, 0 ≤ v → v < n → 0 ≤ (far L a).getD v.toNat 0 → w ∈ L.getD v.toNat [] → 0 ≤ (far L a).getD w.toNat 0) ∧
    (∀ w : Int, 0 ≤ w → w < n → (0 ≤ (far L a).getD w.toNat 0 ↔ Rch L a w)) ∧
    (∀ w : Int, 0 ≤ w → w < n → 0 < (far L a).getD w.toNat 0 → ∃ v : Int, 0 ≤ v ∧ v < n ∧ 0 ≤ (far L a).getD v.toNat 0 ∧ w ∈ L.getD v.toNat [] ∧ (far L a).getD w.toNat 0 = (far L a).getD v.toNat 0 + 1) ∧
    (∀ w : Int, 0 ≤ w → w < n → (far L a).getD w.toNat 0 = 0 → w = a) ∧ (far L a).getD a.toNat 0 = 0 := by
  have hl := hL.1
  have hB0 := far0_bf (n := n) h0 h
  have hB := bfs_bf hL n 0 _ hB0
  obtain ⟨⟨g1, g2, g3, g4⟩, gD, gs⟩ := bfs_good (a := a) hL n 0 (far0 n a) hB0 (far0_good h0 h) (Nat.zero_le _) (by omega) (fun i hi => by omega)
  have e : far L a = (bfs L n 0 (far0 n a)).1 := by simp only [far, hl]
  rw [e]
  have cl : ∀ v w : Int, 0 ≤ v → v < n → 0 ≤ (bfs L n 0 (far0 n a)).1.getD v.toNat 0 → w ∈ L.getD v.toNat [] → 0 ≤ (bfs L n 0 (far0 n a)).1.getD w.toNat 0 := by
    intro v w hv hv' hp hw
    obtain ⟨i, hi, ei⟩ := List.getElem_of_mem ((g1 v hv hv').1 hp)
    exact gD i hi w (by rw [getD_at hi, ei]; exact hw)
  have hz : (bfs L n 0 (far0 n a)).1.getD a.toNat 0 = 0 := by
    have hl : a.toNat < (List.replicate n (-1 : Int)).length := by simp; omega
    have e0 : (far0 n a).1.getD a.toNat 0 = 0 := by simp only [far0]; rw [getD_set hl, if_pos rfl]
    rw [gs a h0 (by omega), e0]
  refine ⟨cl, fun w h1 h2 => ⟨fun hp => g2 w ((g1 w h1 h2).1 hp), fun hr => ?_⟩, fun w h1 h2 hp => ?_, g4, hz⟩
  · suffices hh : ∀ w, Rch L a w → 0 ≤ w ∧ w < n ∧ 0 ≤ (bfs L n 0 (far0 n a)).1.getD w.toNat 0 from (hh w hr).2.2
    intro w hr
    induction hr with
    | refl => exact ⟨h0, h, by omega⟩
    | step v w _ hin ih =>
      have hw := (hL.2 v.toNat (by omega)).2 w hin
      exact ⟨hw.1, hw.2, cl v w ih.1 ih.2.1 ih.2.2 hin⟩
  · obtain ⟨v, v1, v2, v3⟩ := g3 w h1 h2 hp
    have := hB.2.1 v v1
    exact ⟨v, this.1, this.2.1, this.2.2, v2, v3⟩
theorem nbr_symm {S : List (Int × Int)} {n : Nat} (h : StepsOk S n) {i j : Nat} : (i : Int) ∈ nbr S j ↔ (j : Int) ∈ nbr S i := by
  simp only [nbr, inc, outg, List.mem_append, List.mem_map, List.mem_filter, decide_eq_true_eq]
  constructor
  · rintro (⟨e, ⟨h1, h2⟩, h3⟩ | ⟨e, ⟨h1, h2⟩, h3⟩)
    · exact .inr ⟨e, ⟨h1, h3⟩, h2⟩
    · exact .inl ⟨e, ⟨h1, h3⟩, h2⟩
  · rintro (⟨e, ⟨h1, h2⟩, h3⟩ | ⟨e, ⟨h1, h2⟩, h3⟩)
    · exact .inr ⟨e, ⟨h1, h3⟩, h2⟩
    · exact .inl ⟨e, ⟨h1, h3⟩, h2⟩
def Symm (L : List (List Int)) : Prop := ∀ v w : Int, 0 ≤ v → 0 ≤ w → v < L.length → w < L.length → v ∈ L.getD w.toNat [] → w ∈ L.getD v.toNat []
theorem lists_symm {S : List (Int × Int)} {n : Nat} (h : StepsOk S n) : Symm (listsP S n) := by
  intro v w h1 h2 h3 h4 hm
  have hl : (listsP S n).length = n := rows_len
  rw [hl] at h3 h4
  rw [show (listsP S n).getD w.toNat [] = nbr S w.toNat from rows_get (by omega) _] at hm
  rw [show (listsP S n).getD v.toNat [] = nbr S v.toNat from rows_get (by omega) _]
  have := (nbr_symm h (i := v.toNat) (j := w.toNat)).1 (by rw [Int.toNat_of_nonneg h1]; exact hm)
  rwa [Int.toNat_of_nonneg h2] at this
theorem Rch.trans {L : List (List Int)} {a b c : Int} (h1 : Rch L a b) (h2 : Rch L b c) : Rch L a c := by
  induction h2 with
  | refl => exact h1
  | step v w _ hin ih => exact .step v w ih hin
theorem Rch.range {L : List (List Int)} {n : Nat} (hL : Rds n L) {a b : Int} (h0 : 0 ≤ a ∧ a < n) (h : Rch L a b) : 0 ≤ b ∧ b < n := by
  induction h with
  | refl => exact h0
  | step v w _ hin ih => exact (hL.2 v.toNat (by omega)).2 w hin
theorem Rch.symm {L : List (List Int)} {n : Nat} (hL : Rds n L) (hs : Symm L) {a b : Int} (h0 : 0 ≤ a ∧ a < n) (h : Rch L a b) : Rch L b a := by
  have hl := hL.1
  induction h with
  | refl => exact .refl
  | step v w hr hin ih =>
    have hv := hr.range hL h0
    have hw := (hL.2 v.toNat (by omega)).2 w hin
    exact Rch.trans (.step w v .refl (hs w v hw.1 hv.1 (by omega) (by omega) hin)) ih
theorem spec_l2Parts_B0_at (out : List (List (Int))) (lists : List (List (Int))) (seen : List (Bool)) (i : Int) (part : List (Int)) (dist : List (Int)) (k : Int) : spec_l2Parts_B0 ((out, lists, seen, i, part, dist, k, ()), ()) = bif (decide (k < (List.length dist : Int))) then (guardB (inb k (List.length dist)) (bif (decide ((0 : Int) ≤ (List.getD dist (Int.toNat k) (0 : Int)))) then (guardB (decide ((List.length part + List.length [k]) * 8 ≤ 70368744177664)) (guardB (inb k (List.length seen)) (some (.inl ((out, lists, (List.set seen (Int.toNat k) true), i, (part ++ [k]), dist, (w64 (k + (1 : Int))), ()), ()))))) else (some (.inl ((out, lists, seen, i, part, dist, (w64 (k + (1 : Int))), ()), ()))))) else (some (.inr ((out, lists, seen, i, part, ()), ()))) := rfl
theorem spec_l2Parts_B1_at (out : List (List (Int))) (lists : List (List (Int))) (seen : List (Bool)) (i : Int) : spec_l2Parts_B1 ((out, lists, seen, i, ()), ()) = bif (decide (i < (List.length lists : Int))) then (guardB (inb i (List.length seen)) (bif (List.getD seen (Int.toNat i) false) then (some (.inl ((out, lists, seen, (w64 (i + (1 : Int))), ()), ()))) else (match spec_l2Spread (lists, i, ()) () with | some ((r, ()), ()) => (match loopO spec_l2Parts_B0 ((out, lists, seen, i, ([] : (List Int)), r, (0 : Int), ()), ()) with | some ((out2, lists2, seen2, i2, part, ()), ()) => guardB (decide ((List.length out2 + List.length [part]) * 24 ≤ 70368744177664)) (some (.inl (((out2 ++ [part]), lists2, seen2, (w64 (i2 + (1 : Int))), ()), ()))) | none => none) | none => none))) else (some (.inr ((out, ()), ()))) := rfl
theorem impl_parts_B0_at (t0 : List (List (Int))) (t5 : List (List (Int))) (t6 : List (Bool)) (t8 : List (Int)) (t9 : Int) (t22 : Int) (t23 : Int) (t47 : List (Int)) (t48 : Int) (t49 : Int) : impl_parts_B0 ((t0, t5, t6, t8, t9, t22, t23, t47, t48, t49, ()), ()) = bif (decide (t49 < t48)) then (guardB (inb t49 (List.length t47)) (guardB (inb (List.getD t47 (Int.toNat t49) (0 : Int)) (List.length t6)) (bif (!(List.getD t6 (Int.toNat (List.getD t47 (Int.toNat t49) (0 : Int))) false)) then (guardB (inb (List.getD t47 (Int.toNat t49) (0 : Int)) (List.length t6)) (guardB (decide ((List.length t8 + List.length [(List.getD t47 (Int.toNat t49) (0 : Int))]) * 8 ≤ 70368744177664)) (some (.inl ((t0, t5, (List.set t6 (Int.toNat (List.getD t47 (Int.toNat t49) (0 : Int))) true), (t8 ++ [(List.getD t47 (Int.toNat t49) (0 : Int))]), t9, t22, t23, t47, t48, (w64 (t49 + (1 : Int))), ()), ()))))) else (some (.inl ((t0, t5, t6, t8, t9, t22, t23, t47, t48, (w64 (t49 + (1 : Int))), ()), ())))))) else (some (.inr ((t0, t5, t6, t8, t9, t22, t23, ()), ()))) := rfl
theorem impl_parts_B1_at (t0 : List (List (Int))) (t5 : List (List (Int))) (t6 : List (Bool)) (t8 : List (Int)) (t9 : Int) (t22 : Int) (t23 : Int) : impl_parts_B1 ((t0, t5, t6, t8, t9, t22, t23, ()), ()) = bif (decide (t9 < (List.length t8 : Int))) then (guardB (inb t9 (List.length t8)) (guardB (inb (List.getD t8 (Int.toNat t9) (0 : Int)) (List.length t0)) (match loopO impl_parts_B0 ((t0, t5, t6, t8, t9, t22, t23, (List.getD t0 (Int.toNat (List.getD t8 (Int.toNat t9) (0 : Int))) ([] : (List Int))), (List.length (List.getD t0 (Int.toNat (List.getD t8 (Int.toNat t9) (0 : Int))) ([] : (List Int))) : Int), (0 : Int), ()), ()) with | some ((t0_2, t5_2, t6_2, t8_2, t9_2, t22_2, t23_2, ()), ()) => some (.inl ((t0_2, t5_2, t6_2, t8_2, (w64 (t9_2 + (1 : Int))), t22_2, t23_2, ()), ())) | none => none))) else (some (.inr ((t0, t5, t6, t8, t22, t23, ()), ()))) := rfl
theorem impl_parts_B2_at (t0 : List (List (Int))) (t5 : List (List (Int))) (t6 : List (Bool)) (t22 : Int) (t23 : Int) : impl_parts_B2 ((t0, t5, t6, t22, t23, ()), ()) = bif (decide (t23 < t22)) then (guardB (inb t23 (List.length t6)) (bif (List.getD t6 (Int.toNat t23) false) then (some (.inl ((t0, t5, t6, t22, (w64 (t23 + (1 : Int))), ()), ()))) else (guardB (inb t23 (List.length t6)) (match loopO impl_parts_B1 ((t0, t5, (List.set t6 (Int.toNat t23) true), [t23], (0 : Int), t22, t23, ()), ()) with | some ((t0_2, t5_2, t6_2, t8, t22_2, t23_2, ()), ()) => (match slices_Sort_int_int () (t8, ()) with | some ((), (o, ())) => guardB (decide ((List.length t5_2 + List.length [o]) * 24 ≤ 70368744177664)) (some (.inl ((t0_2, (t5_2 ++ [o]), t6_2, t22_2, (w64 (t23_2 + (1 : Int))), ()), ()))) | none => none) | none => none)))) else (some (.inr ((t5, ()), ()))) := rfl
theorem impl_parts_D0_at (t0 : List (List (Int))) (t1 : Int) (t14 : Int) : impl_parts_D0 ((t0, t1, t14, ()), ()) = guardB (decide (0 ≤ t14) && decide (t14 ≤ t14) && decide (t14 * 1 ≤ 140737488355328)) (some ((t0, t1, ([] : (List (List Int))), (List.replicate (Int.toNat t14) false), ()), ())) := rfl
def msk (n : Nat) (old : List Bool) (d : List Int) : List Bool := rows n fun j => old.getD j false || decide (0 ≤ d.getD j 0)
theorem msk_len {n : Nat} {old : List Bool} {d : List Int} : (msk n old d).length = n := rows_len
theorem msk_get {n j : Nat} {old : List Bool} {d : List Int} (h : j < n) : (msk n old d).getD j false = (old.getD j false || decide (0 ≤ d.getD j 0)) := rows_get h _
theorem getB_at {l : List Bool} {i : Nat} (h : i < l.length) : l.getD i false = l[i] := by simp [List.getD, h]
/-- closed under steps -/
def Clo (n : Nat) (L : List (List Int)) (old : List Bool) : Prop := ∀ v w : Int, 0 ≤ v → v < n → 0 ≤ w → w < n → w ∈ L.getD v.toNat [] → old.getD v.toNat false = false → old.getD w.toNat false = false
def count (n : Nat) (L : List (List Int)) : Nat → Nat → List Bool → Nat → Nat
  | 0, _, _, c => c
  | d + 1, i, old, c => if old.getD i false = true then count n L d (i + 1) old c else count n L d (i + 1) (msk n old (far L (i : Int))) (c + 1)
theorem count_le {n : Nat} {L : List (List Int)} : ∀ (d i : Nat) (old : List Bool) (c : Nat), count n L d i old c ≤ c + d
  | 0, _, _, c => by simp [count]
  | d + 1, i, old, c => by
    unfold count
    split
    · have := count_le (n := n) (L := L) d (i + 1) old c; omega
    · have := count_le (n := n) (L := L) d (i + 1) (msk n old (far L (i : Int))) (c + 1); omega
theorem clo_msk {n : Nat} {L : List (List Int)} (hL : Rds n L) (hs : Symm L) {old : List Bool} (h : Clo n L old) {a : Int} (h0 : 0 ≤ a) (ha : a < n) : Clo n L (msk n old (far L a)) := by
  have hl := hL.1
  intro v w hv hv' hw hw' hin hf
  obtain ⟨f1, _⟩ := far_facts hL h0 ha
  rw [msk_get (by omega)] at hf ⊢
  simp only [Bool.or_eq_false_iff, decide_eq_false_iff_not] at hf ⊢
  refine ⟨h v w hv hv' hw hw' hin hf.1, fun e => hf.2 ?_⟩
  exact f1 w v hw hw' e (hs w v hw hv (by omega) (by omega) hin)
/-- the reference's -/
def prt (d : List Int) (k : Nat) : List Int := ((List.range k).filter fun j => decide (0 ≤ d.getD j 0)).map fun (j : Nat) => (j : Int)
theorem prt_snoc (d : List Int) (k : Nat) : prt d (k + 1) = prt d k ++ (if 0 ≤ d.getD k 0 then [(k : Int)] else []) := by
  unfold prt
  rw [List.range_succ, List.filter_append, List.map_append]
  by_cases h : 0 ≤ d.getD k 0
  · rw [if_pos h]; simp only [List.filter_cons, h, decide_true, if_true, List.filter_nil, List.map_cons, List.map_nil]
  · rw [if_neg h]; simp only [List.filter_cons, h, decide_false, Bool.false_eq_true, if_false, List.filter_nil, List.map_nil]
theorem prt_len (d : List Int) (k : Nat) : (prt d k).length ≤ k := by
  unfold prt
  rw [List.length_map]
  exact Nat.le_trans (List.length_filter_le _ _) (by simp)
def mskAt (n : Nat) (old : List Bool) (d : List Int) (k : Nat) : List Bool := rows n fun j => old.getD j false || (decide (j < k) && decide (0 ≤ d.getD j 0))
theorem parts_inner (out L : List (List Int)) (old : List Bool) (i : Int) {d : List Int} {n : Nat} (hn : n ≤ 1048576) (hd : d.length = n) (ho : old.length = n) :
    loopO spec_l2Parts_B0 ((out, L, old, i, ([] : List Int), d, 0, ()), ()) = some ((out, L, msk n old d, i, prt d n, ()), ()) := by
  have key := loop_count (B := spec_l2Parts_B0) (fun k => ((out, L, mskAt n old d k, i, prt d k, d, (k : Int), ()), ())) n ((out, L, mskAt n old d n, i, prt d n, ()), ()) ?_ ?_ 0 (Nat.zero_le _)
  · have e0 : mskAt n old d 0 = old := by
      apply List.ext_getElem
      · simp [mskAt, rows, ho]
      · intro j h1 h2; simp [mskAt, rows, h2]
    have e1 : mskAt n old d n = msk n old d := rows_congr fun j hj => by simp [hj]
    rw [e1] at key
    simpa [e0, prt] using key
  · intro k hk
    have hl : (mskAt n old d k).length = n := rows_len
    have hp := prt_len d k
    rw [spec_l2Parts_B0_at]
    simp only [bif_decide, Int.toNat_natCast, prt_snoc]
    rw [if_pos (by omega), guardB_true (by simp [inb] <;> omega)]
    by_cases h : 0 ≤ d.getD k 0
    · have e : (mskAt n old d k).set k true = mskAt n old d (k + 1) := by
        unfold mskAt
        rw [rows_set]
        refine rows_congr fun j hj => ?_
        by_cases e : j = k
        · subst e; simp only [if_true, Nat.lt_succ_self, h, decide_true, Bool.and_true, Bool.or_true]
        · rw [if_neg e, show decide (j < k + 1) = decide (j < k) by rw [decide_eq_decide]; omega]
      rw [if_pos h, if_pos h, guardB_true (by simp only [List.length_singleton, decide_eq_true_eq]; omega), guardB_true (by simp [inb] <;> omega), e, w64_succ (by omega)]
    · have e : mskAt n old d k = mskAt n old d (k + 1) := by
        refine rows_congr fun j hj => ?_
        by_cases e : j = k
        · subst e; simp only [h, decide_false, Bool.and_false]
        · rw [show decide (j < k + 1) = decide (j < k) by rw [decide_eq_decide]; omega]
      rw [if_neg h, if_neg h, List.append_nil, ← e, w64_succ (by omega)]
  · rw [spec_l2Parts_B0_at]
    simp only [bif_decide]
    rw [if_neg (by omega)]
theorem parts_spec {L : List (List Int)} {n : Nat} (hL : Rds n L) (hn : n ≤ 1048576) : ∀ (d i : Nat) (old : List Bool) (out : List (List Int)), i + d = n → old.length = n → out.length ≤ i → ∃ r : List (List Int), loopO spec_l2Parts_B1 ((out, L, old, (i : Int), ()), ()) = some ((r, ()), ()) ∧ r.length = count n L d i old out.length := by
  have hl := hL.1
  intro d
  induction d with
  | zero =>
    intro i old out hi ho hout
    refine ⟨out, loop_end ?_, rfl⟩
    rw [spec_l2Parts_B1_at]
    simp only [bif_decide]
    rw [if_neg (by omega)]
  | succ d ih =>
    intro i old out hi ho hout
    unfold count
    by_cases h : old.getD i false = true
    · rw [if_pos h]
      obtain ⟨r, r1, r2⟩ := ih (i + 1) old out (by omega) ho (by omega)
      refine ⟨r, loop_step ?_ r1, r2⟩
      rw [spec_l2Parts_B1_at]
      simp only [bif_decide, Int.toNat_natCast, h, cond_true]
      rw [if_pos (by omega), guardB_true (by simp [inb] <;> omega), w64_succ (by omega)]
    · rw [if_neg h]
      have h' : old.getD i false = false := by simpa using h
      have hfl := (far_bf hL (a := (i : Int)) (by omega) (by omega)).1
      obtain ⟨r, r1, r2⟩ := ih (i + 1) (msk n old (far L (i : Int))) (out ++ [prt (far L (i : Int)) n]) (by omega) msk_len (by simp; omega)
      refine ⟨r, loop_step ?_ r1, by rw [r2]; simp⟩
      rw [spec_l2Parts_B1_at]
      simp only [bif_decide, Int.toNat_natCast, h', cond_false]
      rw [if_pos (by omega), guardB_true (by simp [inb] <;> omega), spread_spec hL hn (by omega) (by omega)]
      simp only
      erw [parts_inner out L old (i : Int) hn hfl ho]
      simp only
      rw [guardB_true (by simp only [List.length_singleton, decide_eq_true_eq]; omega), w64_succ (by omega)]
/-- the program's -/
theorem parts_row (L out : List (List Int)) {n k : Nat} {old : List Bool} {s : List Int × List Int} {row : List Int} (t22 t23 : Int) (hB : Bf n s) (hk : k < s.2.length) (hr : ∀ w ∈ row, 0 ≤ w ∧ w < n) (hn : n ≤ 1048576) (hl : row.length ≤ 1048576) (hold : ∀ w ∈ row, old.getD w.toNat false = false) :
    loopO impl_parts_B0 ((L, out, msk n old s.1, s.2, (k : Int), t22, t23, row, (row.length : Int), 0, ()), ()) = some ((L, out, msk n old (vis (s.2.getD k 0) row s).1, (vis (s.2.getD k 0) row s).2, (k : Int), t22, t23, ()), ()) := by
  have key := loop_count (B := impl_parts_B0) (fun i => ((L, out, msk n old (vis (s.2.getD k 0) (row.take i) s).1, (vis (s.2.getD k 0) (row.take i) s).2, (k : Int), t22, t23, row, (row.length : Int), (i : Int), ()), ())) row.length ((L, out, msk n old (vis (s.2.getD k 0) row s).1, (vis (s.2.getD k 0) row s).2, (k : Int), t22, t23, ()), ()) ?_ ?_ 0 (Nat.zero_le _)
  · simpa [vis] using key
  · intro i hi
    obtain ⟨hB', t, ht⟩ := vis_bf (row.take i) hB (getD_in hk) (fun w hw => hr w (List.mem_of_mem_take hw))
    have hvin : s.2.getD k 0 ∈ (vis (s.2.getD k 0) (row.take i) s).2 := by rw [ht]; exact List.mem_append_left _ (getD_in hk)
    have hv0 := (hB'.2.1 _ hvin).2.2
    have hw := hr _ (getD_in hi)
    have hwo := hold _ (getD_in hi)
    obtain ⟨s', hs'⟩ : ∃ s', vis (s.2.getD k 0) (row.take i) s = s' := ⟨_, rfl⟩
    simp only [vis_snoc hi, hs'] at *
    obtain ⟨v, hve⟩ : ∃ v, s.2.getD k 0 = v := ⟨_, rfl⟩
    obtain ⟨w, hwe⟩ : ∃ w, row.getD i 0 = w := ⟨_, rfl⟩
    have few := hB'.few
    have hlen := hB'.1
    have hml : (msk n old s'.1).length = n := msk_len
    have hg := msk_get (n := n) (old := old) (d := s'.1) (show w.toNat < n by rw [hwe] at hw; omega)
    rw [impl_parts_B0_at]
    simp only [bif_decide, Int.toNat_natCast, vis1, hve, hwe] at *
    rw [hwo, Bool.false_or] at hg
    rw [if_pos (by omega), guardB_true (by simp [inb] <;> omega), guardB_true (inb_true hw.1 (by omega)), hg]
    by_cases hd : s'.1.getD w.toNat 0 < 0
    · have e : (msk n old s'.1).set w.toNat true = msk n old (s'.1.set w.toNat (s'.1.getD v.toNat 0 + 1)) := by
        unfold msk
        rw [rows_set]
        refine rows_congr fun j hj => ?_
        rw [getD_set (by omega)]
        by_cases e : j = w.toNat
        · subst e; rw [if_pos rfl, if_pos rfl, decide_eq_true (by omega), Bool.or_true]
        · rw [if_neg e, if_neg (fun h => e h.symm)]
      rw [if_pos hd, decide_eq_false (by omega)]
      simp only [Bool.not_false, cond_true]
      rw [guardB_true (inb_true hw.1 (by omega)), guardB_true (by simp only [List.length_singleton, decide_eq_true_eq]; omega), e, w64_succ (by omega)]
    · rw [if_neg hd, decide_eq_true (by omega)]
      simp only [Bool.not_true, cond_false]
      rw [w64_succ (by omega)]
  · rw [impl_parts_B0_at]; simp
theorem parts_out {L : List (List Int)} {n : Nat} (hL : Rds n L) (hn : n ≤ 1048576) {old : List Bool} (hC : Clo n L old) (out : List (List Int)) (t22 t23 : Int) : ∀ (f k : Nat) (s : List Int × List Int), Bf n s → (∀ v ∈ s.2, old.getD v.toNat false = false) → k ≤ s.2.length → n - k ≤ f →
    loopO impl_parts_B1 ((L, out, msk n old s.1, s.2, (k : Int), t22, t23, ()), ()) = some ((L, out, msk n old (bfs L f k s).1, (bfs L f k s).2, t22, t23, ()), ()) := by
  have hL1 := hL.1
  intro f
  induction f with
  | zero =>
    intro k s hB hO hk hf
    have := hB.few
    refine loop_end ?_
    rw [impl_parts_B1_at]
    simp only [bif_decide, bfs]
    rw [if_neg (by omega)]
  | succ f ih =>
    intro k s hB hO hk hf
    have few := hB.few
    unfold bfs
    split
    · rename_i hk'
      obtain ⟨h1, h2⟩ := bfs_step hL hB hk'
      have hvn := hB.2.1 _ (getD_in hk')
      have hrow := hL.2 (s.2.getD k 0).toNat (by omega)
      have hro : ∀ w ∈ L.getD (s.2.getD k 0).toNat [], old.getD w.toNat false = false := fun w hw => by
        have hw' := hrow.2 w hw
        exact hC _ w hvn.1 hvn.2.1 hw'.1 hw'.2 hw (hO _ (getD_in hk'))
      have key := parts_row L out (old := old) t22 t23 hB hk' hrow.2 hn hrow.1 hro
      have hO2 : ∀ v ∈ (vis (s.2.getD k 0) (L.getD (s.2.getD k 0).toNat []) s).2, old.getD v.toNat false = false := by
        have gen : ∀ (row : List Int) (s : List Int × List Int) (x : Int), (∀ v ∈ s.2, old.getD v.toNat false = false) → (∀ w ∈ row, old.getD w.toNat false = false) → ∀ v ∈ (vis x row s).2, old.getD v.toNat false = false := by
          intro row
          induction row with
          | nil => intro s x h _ v hv; exact h v hv
          | cons w row ih =>
            intro s x h hr v hv
            refine ih (vis1 x s w) x (fun u hu => ?_) (fun u hu => hr u (by simp [hu])) v hv
            unfold vis1 at hu
            split at hu
            · rcases List.mem_append.1 hu with hu | hu
              · exact h u hu
              · have : u = w := by simpa using hu
                rw [this]; exact hr w (by simp)
            · exact h u hu
        exact gen _ s _ hO hro
      refine loop_step ?_ (ih (k + 1) _ h1 hO2 h2 (by omega))
      rw [impl_parts_B1_at]
      simp only [bif_decide, Int.toNat_natCast]
      rw [if_pos (by omega), guardB_true (by simp [inb] <;> omega), guardB_true (inb_true hvn.1 (by omega))]
      erw [key]
      simp only [w64_succ (show k < 4611686018427387904 by omega)]
    · rename_i hk'
      refine loop_end ?_
      rw [impl_parts_B1_at]
      simp only [bif_decide]
      rw [if_neg (by omega)]
theorem parts_impl {L : List (List Int)} {n : Nat} (hL : Rds n L) (hs : Symm L) (hn : n ≤ 1048576) : ∀ (d i : Nat) (old : List Bool) (out : List (List Int)), i + d = n → old.length = n → Clo n L old → out.length ≤ i → ∃ r : List (List Int), loopO impl_parts_B2 ((L, out, old, (n : Int), (i : Int), ()), ()) = some ((r, ()), ()) ∧ r.length = count n L d i old out.length := by
  have hl := hL.1
  intro d
  induction d with
  | zero =>
    intro i old out hi ho hC hout
    refine ⟨out, loop_end ?_, rfl⟩
    rw [impl_parts_B2_at]
    simp only [bif_decide]
    rw [if_neg (by omega)]
  | succ d ih =>
    intro i old out hi ho hC hout
    unfold count
    by_cases h : old.getD i false = true
    · rw [if_pos h]
      obtain ⟨r, r1, r2⟩ := ih (i + 1) old out (by omega) ho hC (by omega)
      refine ⟨r, loop_step ?_ r1, r2⟩
      rw [impl_parts_B2_at]
      simp only [bif_decide, Int.toNat_natCast, h, cond_true]
      rw [if_pos (by omega), guardB_true (by simp [inb] <;> omega), w64_succ (by omega)]
    · rw [if_neg h]
      have h' : old.getD i false = false := by simpa using h
      have hb := far0_bf (n := n) (a := (i : Int)) (by omega) (by omega)
      have e0 : old.set i true = msk n old (far0 n (i : Int)).1 := by
        apply List.ext_getElem
        · simp [msk, rows, ho]
        · intro j h1 h2
          have hj : j < n := by simpa [msk, rows] using h2
          have e := msk_get (n := n) (old := old) (d := (far0 n (i : Int)).1) hj
          rw [getB_at (by rw [msk_len]; exact hj)] at e
          have eg : (far0 n (i : Int)).1.getD j 0 = if i = j then 0 else -1 := by
            simp only [far0, Int.toNat_natCast]
            rw [getD_set (by simp; omega)]
            by_cases hij : i = j
            · rw [if_pos hij, if_pos hij]
            · rw [if_neg hij, if_neg hij, getD_at (by simpa using hj)]; simp
          rw [e, List.getElem_set]
          simp only [eg]
          by_cases hij : i = j
          · simp [hij]
          · rw [if_neg hij, getB_at (by omega)]
            simp [hij]
      have hO : ∀ v ∈ (far0 n (i : Int)).2, old.getD v.toNat false = false := fun v hv => by
        have : v = (i : Int) := by simpa [far0] using hv
        rw [this, Int.toNat_natCast]; exact h'
      have key := parts_out hL hn hC out (n : Int) (i : Int) n 0 (far0 n (i : Int)) hb hO (Nat.zero_le _) (by omega)
      have ef : far L (i : Int) = (bfs L n 0 (far0 n (i : Int))).1 := by simp only [far, hl]
      have hq := (bfs_bf hL n 0 _ hb).few
      obtain ⟨q, hqe⟩ : ∃ q, (bfs L n 0 (far0 n (i : Int))).2 = q := ⟨_, rfl⟩
      rw [← ef, hqe] at key
      rw [hqe] at hq
      obtain ⟨r, r1, r2⟩ := ih (i + 1) (msk n old (far L (i : Int))) (out ++ [q.mergeSort fun a b => decide (a ≤ b)]) (by omega) msk_len (clo_msk hL hs hC (by omega) (by omega)) (by simp; omega)
      refine ⟨r, loop_step ?_ r1, by rw [r2]; simp⟩
      rw [impl_parts_B2_at]
      simp only [bif_decide, Int.toNat_natCast, h', cond_false, e0]
      rw [if_pos (by omega), guardB_true (by simp [inb] <;> omega), guardB_true (by simp [inb] <;> omega)]
      erw [key]
      simp only [slices_Sort_int_int, sortFn]
      rw [guardB_true (show decide (List.length q < 4611686018427387904) = true by simp only [decide_eq_true_eq]; omega)]
      simp only
      rw [guardB_true (by simp only [List.length_singleton, decide_eq_true_eq]; omega), w64_succ (by omega)]
def partsN (x : List (List Int) × List (Int × Int)) : Nat := count x.1.length (listsP x.2 x.1.length) x.1.length 0 (List.replicate x.1.length false) 0
theorem l2Parts_eq (x : List (List Int) × List (Int × Int)) (hS : StepsOk x.2 x.1.length) (hn : x.1.length ≤ 1048576) (hs : x.2.length ≤ 6000) : ∃ r : List (List Int), spec_l2Parts (x, ()) () = some ((r, ()), ()) ∧ r.length = partsN x := by
  have hL := rds_lists hS hs
  have hl := hL.1
  obtain ⟨r, r1, r2⟩ := parts_spec hL hn x.1.length 0 (List.replicate x.1.length false) [] (by omega) (by simp) (by simp)
  refine ⟨r, ?_, r2⟩
  simp only [spec_l2Parts, l2Lists_eq x hS hn (by omega), hl, Int.toNat_natCast]
  rw [guardB_true (by simp <;> omega)]
  erw [r1]
theorem parts_eq (x : List (List Int) × List (Int × Int)) (hS : StepsOk x.2 x.1.length) (hn : x.1.length ≤ 1048576) (hs : x.2.length ≤ 6000) : ∃ r : List (List Int), impl_parts (listsP x.2 x.1.length, -1, ()) () = some ((r, ()), ()) ∧ r.length = partsN x := by
  have hL := rds_lists hS hs
  have hl := hL.1
  obtain ⟨r, r1, r2⟩ := parts_impl hL (lists_symm hS) hn x.1.length 0 (List.replicate x.1.length false) [] (by omega) (by simp) (fun v w _ _ _ h4 _ _ => by rw [getB_at (by simp; omega)]; simp) (by simp)
  refine ⟨r, ?_, r2⟩
  have d0 : impl_parts_D0 ((listsP x.2 x.1.length, -1, (x.1.length : Int), ()), ()) = some ((listsP x.2 x.1.length, -1, ([] : List (List Int)), List.replicate x.1.length false, ()), ()) := by
    rw [impl_parts_D0_at, guardB_true (by simp <;> omega), Int.toNat_natCast]
  simp only [impl_parts, hl]
  erw [d0]
  simp only [bif_decide]
  rw [if_neg (show ¬ (0 : Int) ≤ -1 by omega)]
  simp only [hl]
  erw [r1]
theorem cntLt_mono {u : List Int} (hs : u.Pairwise (· < ·)) {a b : Int} (ha : a ∈ u) (h : a < b) : cntLt a u < cntLt b u := by
  obtain ⟨h1, h2⟩ := (cntLt_mem hs).1 ha
  exact (cntLt_split hs b _ h1).1 (by omega)
theorem indS_mem {u : List Int} {S : List (Int × Int)} {e : Int × Int} (h : e ∈ indS u S) : ∃ f ∈ S, f.1 ∈ u ∧ f.2 ∈ u ∧ e = (((cntLt f.1 u : Nat) : Int), ((cntLt f.2 u : Nat) : Int)) := by
  obtain ⟨f, hf, he⟩ := List.mem_flatMap.1 h
  unfold indE at he
  split at he
  · rename_i hu
    exact ⟨f, hf, hu.1, hu.2, by simpa using he⟩
  · simp at he
theorem edge_map {u : List Int} (hs : u.Pairwise (· < ·)) {e f : Int × Int} (he : e.1 ∈ u ∧ e.2 ∈ u) (hf : f.1 ∈ u ∧ f.2 ∈ u) (h : edgeB e f = true) : edgeB (((cntLt e.1 u : Nat) : Int), ((cntLt e.2 u : Nat) : Int)) (((cntLt f.1 u : Nat) : Int), ((cntLt f.2 u : Nat) : Int)) = true := by
  simp only [edgeB, Bool.or_eq_true, Bool.and_eq_true, decide_eq_true_eq] at h ⊢
  rcases h with h | ⟨h1, h2⟩
  · have := cntLt_mono hs he.1 h; left; omega
  · have := cntLt_mono hs he.2 h2
    right; rw [h1]; exact ⟨rfl, by omega⟩
theorem indS_pairwise {u : List Int} (hs : u.Pairwise (· < ·)) : ∀ S : List (Int × Int), (S.Pairwise fun a b => edgeB a b = true) → (indS u S).Pairwise fun a b => edgeB a b = true
  | [], _ => by simp [indS]
  | e :: S, h => by
    obtain ⟨h1, h2⟩ := List.pairwise_cons.1 h
    have : indS u (e :: S) = indE u e ++ indS u S := by simp [indS]
    rw [this, List.pairwise_append]
    refine ⟨?_, indS_pairwise hs S h2, fun a ha b hb => ?_⟩
    · unfold indE; split <;> simp
    · obtain ⟨f, hf, f1, f2, rfl⟩ := indS_mem hb
      unfold indE at ha
      split at ha
      · rename_i hu
        have : a = (((cntLt e.1 u : Nat) : Int), ((cntLt e.2 u : Nat) : Int)) := by simpa using ha
        rw [this]
        exact edge_map hs hu ⟨f1, f2⟩ (h1 f hf)
      · simp at ha
theorem pairsB_of {T : List (Int × Int)} {n : Nat} (h1 : ∀ e ∈ T, 0 ≤ e.1 ∧ e.1 < e.2 ∧ e.2 < n) (h2 : T.Pairwise fun a b => edgeB a b = true) : pairsB T n = true := by
  refine allUpto_iff.2 fun i hi => ?_
  have hm := h1 _ (List.getElem_mem hi)
  simp only [pairB, Bool.and_eq_true, Bool.or_eq_true, decide_eq_true_eq, getD_at hi]
  refine ⟨hm.1, hm.2.1, hm.2.2, ?_⟩
  by_cases h0 : i = 0
  · exact .inl h0
  · right
    rw [getD_at (show i - 1 < T.length by omega)]
    exact List.pairwise_iff_getElem.1 h2 (i - 1) i (by omega) hi (by omega)
theorem indS_pairs {u : List Int} (hs : u.Pairwise (· < ·)) {S : List (Int × Int)} {n : Nat} (hp : pairsB S n = true) : pairsB (indS u S) u.length = true := by
  refine pairsB_of (fun e he => ?_) (indS_pairwise hs S (steps_pairwise hp))
  obtain ⟨f, hf, f1, f2, rfl⟩ := indS_mem he
  have h1 := steps_mem (pairsB_ok hp) hf
  have h2 := cntLt_mono hs f1 h1.2.1
  have h3 := ((cntLt_mem hs).1 f2).1
  simp only
  omega
theorem indL_len (u : List Int) (L : List (List Int)) : (indL u L).length = u.length := by simp [indL]
theorem spec_MergeHeights_B0_at (heights : List (Int)) (x : (List (List (Int))) × (List ((Int) × (Int)))) (out : List (Int)) (before : Int) (h : Int) (here : Int) (i : Int) : spec_MergeHeights_B0 ((heights, x, out, before, h, here, i, ()), ()) = bif (decide (i < (List.length heights : Int))) then (guardB (inb i (List.length heights)) (bif ((List.getD heights (Int.toNat i) (0 : Int)) == h) then (some (.inl ((heights, x, out, before, h, (w64 (here + (1 : Int))), (w64 (i + (1 : Int))), ()), ()))) else (some (.inl ((heights, x, out, before, h, here, (w64 (i + (1 : Int))), ()), ()))))) else (some (.inr ((heights, x, out, before, h, here, ()), ()))) := rfl
theorem spec_MergeHeights_B1_at (heights : List (Int)) (x : (List (List (Int))) × (List ((Int) × (Int)))) (out : List (Int)) (h : Int) (now : Int) (n : Int) : spec_MergeHeights_B1 ((heights, x, out, h, now, n, ()), ()) = bif (decide ((0 : Int) < n)) then (guardB (decide ((List.length out + List.length [h]) * 8 ≤ 70368744177664)) (some (.inl ((heights, x, (out ++ [h]), h, now, (w64 (n - (1 : Int))), ()), ())))) else (some (.inr ((heights, x, out, h, now, ()), ()))) := rfl
theorem spec_MergeHeights_B2_at (heights : List (Int)) (x : (List (List (Int))) × (List ((Int) × (Int)))) (out : List (Int)) (before : Int) (h : Int) : spec_MergeHeights_B2 ((heights, x, out, before, h, ()), ()) = bif (decide (h ≤ (999 : Int))) then (match loopO spec_MergeHeights_B0 ((heights, x, out, before, h, (0 : Int), (0 : Int), ()), ()) with | some ((heights2, x2, out2, before2, h2, here, ()), ()) => (bif (here == (0 : Int)) then (some (.inl ((heights2, x2, out2, before2, (w64 (h2 + (1 : Int))), ()), ()))) else (match spec_l11Under (heights2, h2, ()) () with | some ((r, ()), ()) => (match spec_l2Induced (x2, r, ()) () with | some ((r2, ()), ()) => (match spec_l2Parts ((r2.1, r2.2), ()) () with | some ((r3, ()), ()) => (match loopO spec_MergeHeights_B1 ((heights2, x2, out2, h2, (List.length r3 : Int), (w64 ((w64 (before2 + here)) - (List.length r3 : Int))), ()), ()) with | some ((heights3, x3, out3, h3, now, ()), ()) => some (.inl ((heights3, x3, out3, now, (w64 (h3 + (1 : Int))), ()), ())) | none => none) | none => none) | none => none) | none => none)) | none => none) else (some (.inr ((out, ()), ()))) := rfl
theorem impl_MergeHeights_B0_at (heights : List (Int)) (x : (List (List (Int))) × (List ((Int) × (Int)))) (out : List (Int)) (before : Int) (h : Int) (many : Int) (t20 : Int) (t23 : List (Int)) (t24 : Int) (t25 : Int) : impl_MergeHeights_B0 ((heights, x, out, before, h, many, t20, t23, t24, t25, ()), ()) = bif (decide (t25 < t24)) then (guardB (inb t25 (List.length t23)) (bif ((List.getD t23 (Int.toNat t25) (0 : Int)) == h) then (some (.inl ((heights, x, out, before, h, (w64 (many + (1 : Int))), t20, t23, t24, (w64 (t25 + (1 : Int))), ()), ()))) else (some (.inl ((heights, x, out, before, h, many, t20, t23, t24, (w64 (t25 + (1 : Int))), ()), ()))))) else (some (.inr ((heights, x, out, before, h, many, t20, ()), ()))) := rfl
theorem impl_MergeHeights_B1_at (heights : List (Int)) (x : (List (List (Int))) × (List ((Int) × (Int)))) (out : List (Int)) (h : Int) (now : Int) (t20 : Int) (t53 : Int) (t54 : Int) : impl_MergeHeights_B1 ((heights, x, out, h, now, t20, t53, t54, ()), ()) = bif (decide (t54 < t53)) then (guardB (decide ((List.length out + List.length [h]) * 8 ≤ 70368744177664)) (some (.inl ((heights, x, (out ++ [h]), h, now, t20, t53, (w64 (t54 + (1 : Int))), ()), ())))) else (some (.inr ((heights, x, out, now, t20, ()), ()))) := rfl
theorem impl_MergeHeights_B2_at (heights : List (Int)) (x : (List (List (Int))) × (List ((Int) × (Int)))) (out : List (Int)) (before : Int) (t20 : Int) : impl_MergeHeights_B2 ((heights, x, out, before, t20, ()), ()) = bif (decide (t20 < (1000 : Int))) then (match loopO impl_MergeHeights_B0 ((heights, x, out, before, t20, (0 : Int), t20, heights, (List.length heights : Int), (0 : Int), ()), ()) with | some ((heights2, x2, out2, before2, h, many, t20_2, ()), ()) => (bif (many == (0 : Int)) then (some (.inl ((heights2, x2, out2, before2, (w64 (t20_2 + (1 : Int))), ()), ()))) else (match impl_MergeHeights_D0 ((heights2, x2, out2, before2, h, many, t20_2, x2, heights2, h, ()), ()) with | some ((heights3, x3, out3, before3, h2, many2, y, t20_3, ()), ()) => (match impl_Space_roads (y, ()) () with | some ((r, ()), ()) => (match impl_parts (r, (-1 : Int), ()) () with | some ((r2, ()), ()) => (match loopO impl_MergeHeights_B1 ((heights3, x3, out3, h2, (List.length r2 : Int), t20_3, (w64 ((w64 (before3 + many2)) - (List.length r2 : Int))), (0 : Int), ()), ()) with | some ((heights4, x4, out4, now, t20_4, ()), ()) => some (.inl ((heights4, x4, out4, now, (w64 (t20_4 + (1 : Int))), ()), ())) | none => none) | none => none) | none => none) | none => none)) | none => none) else (some (.inr ((out, ()), ()))) := rfl
theorem impl_MergeHeights_D0_at (heights : List (Int)) (x : (List (List (Int))) × (List ((Int) × (Int)))) (out : List (Int)) (before : Int) (h : Int) (many : Int) (t20 : Int) (t38 : (List (List (Int))) × (List ((Int) × (Int)))) (t39 : List (Int)) (t40 : Int) : impl_MergeHeights_D0 ((heights, x, out, before, h, many, t20, t38, t39, t40, ()), ()) = match impl_below (t39, t40, ()) () with | some ((r, ()), ()) => impl_MergeHeights_D1 ((heights, x, out, before, h, many, t20, t38, r, ()), ()) | none => none := rfl
theorem impl_MergeHeights_D1_at (heights : List (Int)) (x : (List (List (Int))) × (List ((Int) × (Int)))) (out : List (Int)) (before : Int) (h : Int) (many : Int) (t20 : Int) (t38 : (List (List (Int))) × (List ((Int) × (Int)))) (t41 : List (Int)) : impl_MergeHeights_D1 ((heights, x, out, before, h, many, t20, t38, t41, ()), ()) = match impl_InducedSpace (t38, t41, ()) () with | some ((r, r2, ()), ()) => some ((heights, x, out, before, h, many, (r.1, r.2), t20, ()), ()) | none => none := rfl
def hereN (h : Int) (l : List Int) : Nat := l.countP fun y => decide (y = h)
theorem hereN_snoc (h : Int) {l : List Int} {i : Nat} (hi : i < l.length) : hereN h (l.take (i + 1)) = hereN h (l.take i) + if l.getD i 0 = h then 1 else 0 := by
  unfold hereN
  rw [take_one hi 0, List.countP_append]
  by_cases e : l.getD i 0 = h
  · rw [if_pos e, List.countP_singleton]; simp only [e, decide_true, if_true]
  · rw [if_neg e, List.countP_singleton]; simp only [e, decide_false, Bool.false_eq_true, if_false]
theorem hereN_le (h : Int) (l : List Int) : hereN h l ≤ l.length := List.countP_le_length
def mh (x : List (List Int) × List (Int × Int)) (hs : List Int) : Nat → Nat → Nat → List Int → List Int
  | 0, _, _, out => out
  | d + 1, h, before, out => if hereN (h : Int) hs = 0 then mh x hs d (h + 1) before out else mh x hs d (h + 1) (partsN (induced (under (h : Int) hs) x)) (out ++ List.replicate (before + hereN (h : Int) hs - partsN (induced (under (h : Int) hs) x)) (h : Int))
theorem here_spec (hs : List Int) (x : List (List Int) × List (Int × Int)) (out : List Int) (before h : Int) (hl : hs.length ≤ 1048576) : loopO spec_MergeHeights_B0 ((hs, x, out, before, h, 0, 0, ()), ()) = some ((hs, x, out, before, h, ((hereN h hs : Nat) : Int), ()), ()) := by
  have key := loop_count (B := spec_MergeHeights_B0) (fun i => ((hs, x, out, before, h, ((hereN h (hs.take i) : Nat) : Int), (i : Int), ()), ())) hs.length ((hs, x, out, before, h, ((hereN h hs : Nat) : Int), ()), ()) ?_ ?_ 0 (Nat.zero_le _)
  · simpa [hereN] using key
  · intro i hi
    have hle := hereN_le h (hs.take i)
    have : (hs.take i).length = i := by simp; omega
    rw [spec_MergeHeights_B0_at]
    simp only [bif_decide, Int.toNat_natCast, hereN_snoc h hi]
    rw [if_pos (by omega), guardB_true (by simp [inb] <;> omega)]
    by_cases e : hs.getD i 0 = h
    · rw [beq_eq e, if_pos e, w64_succ (by omega), w64_succ (by omega)]; rfl
    · rw [beq_ne e, if_neg e]; simp only [cond_false, Nat.add_zero, w64_succ (show i < 4611686018427387904 by omega)]
  · rw [spec_MergeHeights_B0_at]; simp
theorem here_impl (hs : List Int) (x : List (List Int) × List (Int × Int)) (out : List Int) (before h t20 : Int) (hl : hs.length ≤ 1048576) : loopO impl_MergeHeights_B0 ((hs, x, out, before, h, 0, t20, hs, (hs.length : Int), 0, ()), ()) = some ((hs, x, out, before, h, ((hereN h hs : Nat) : Int), t20, ()), ()) := by
  have key := loop_count (B := impl_MergeHeights_B0) (fun i => ((hs, x, out, before, h, ((hereN h (hs.take i) : Nat) : Int), t20, hs, (hs.length : Int), (i : Int), ()), ())) hs.length ((hs, x, out, before, h, ((hereN h hs : Nat) : Int), t20, ()), ()) ?_ ?_ 0 (Nat.zero_le _)
  · simpa [hereN] using key
  · intro i hi
    have hle := hereN_le h (hs.take i)
    have : (hs.take i).length = i := by simp; omega
    rw [impl_MergeHeights_B0_at]
    simp only [bif_decide, Int.toNat_natCast, hereN_snoc h hi]
    rw [if_pos (by omega), guardB_true (by simp [inb] <;> omega)]
    by_cases e : hs.getD i 0 = h
    · rw [beq_eq e, if_pos e, w64_succ (by omega), w64_succ (by omega)]; rfl
    · rw [beq_ne e, if_neg e]; simp only [cond_false, Nat.add_zero, w64_succ (show i < 4611686018427387904 by omega)]
  · rw [impl_MergeHeights_B0_at]; simp
theorem more_spec (hs : List Int) (x : List (List Int) × List (Int × Int)) (h now : Int) : ∀ (m : Nat) (N : Int) (out : List Int), N.toNat = m → N ≤ 4194304 → -4194304 ≤ N → out.length + m ≤ 4398046511104 → loopO spec_MergeHeights_B1 ((hs, x, out, h, now, N, ()), ()) = some ((hs, x, out ++ List.replicate m h, h, now, ()), ()) := by
  intro m
  induction m with
  | zero =>
    intro N out h1 h2 h2' h3
    refine loop_end ?_
    rw [spec_MergeHeights_B1_at]
    simp only [bif_decide, List.replicate_zero, List.append_nil]
    rw [if_neg (by omega)]
  | succ m ih =>
    intro N out h1 h2 h2' h3
    have := ih (N - 1) (out ++ [h]) (by omega) (by omega) (by omega) (by simp; omega)
    refine loop_step ?_ (by rw [List.append_assoc] at this; exact this)
    rw [spec_MergeHeights_B1_at]
    simp only [bif_decide]
    rw [if_pos (by omega), guardB_true (by simp only [List.length_singleton, decide_eq_true_eq]; omega), w64_of (by omega) (by omega)]
theorem more_impl (hs : List Int) (x : List (List Int) × List (Int × Int)) (h now t20 N : Int) (out : List Int) (h2 : N ≤ 4194304) (h3 : out.length + N.toNat ≤ 4398046511104) : loopO impl_MergeHeights_B1 ((hs, x, out, h, now, t20, N, 0, ()), ()) = some ((hs, x, out ++ List.replicate N.toNat h, now, t20, ()), ()) := by
  have key := loop_count (B := impl_MergeHeights_B1) (fun i => ((hs, x, out ++ List.replicate i h, h, now, t20, N, (i : Int), ()), ())) N.toNat ((hs, x, out ++ List.replicate N.toNat h, now, t20, ()), ()) ?_ ?_ 0 (Nat.zero_le _)
  · simpa using key
  · intro i hi
    rw [impl_MergeHeights_B1_at]
    simp only [bif_decide]
    rw [if_pos (by omega), guardB_true (by simp only [List.length_append, List.length_replicate, List.length_singleton, decide_eq_true_eq]; omega), w64_succ (by omega), List.append_assoc, ← List.replicate_succ']
  · rw [impl_MergeHeights_B1_at]
    simp only [bif_decide]
    rw [if_neg (by omega)]
theorem partsN_le (u : List Int) (x : List (List Int) × List (Int × Int)) : partsN (induced u x) ≤ u.length := by
  have := count_le (n := (induced u x).1.length) (L := listsP (induced u x).2 (induced u x).1.length) (induced u x).1.length 0 (List.replicate (induced u x).1.length false) 0
  have e : (induced u x).1.length = u.length := indL_len u x.1
  unfold partsN
  omega
theorem mh_len (x : List (List Int) × List (Int × Int)) (hs : List Int) (hl : hs.length ≤ 1048576) : ∀ (d h before : Nat) (out : List Int), before ≤ 1048576 → (mh x hs d h before out).length ≤ out.length + 2097152 * d
  | 0, _, _, out, _ => by simp [mh]
  | d + 1, h, before, out, hb => by
    unfold mh
    have h1 := hereN_le (h : Int) hs
    have h2 := partsN_le (under (h : Int) hs) x
    have h3 := underFrom_len (h : Int) hs 0
    unfold under at *
    split
    · have := mh_len x hs hl d (h + 1) before out hb; omega
    · have := mh_len x hs hl d (h + 1) (partsN (induced (underFrom (h : Int) 0 hs) x)) (out ++ List.replicate (before + hereN (h : Int) hs - partsN (induced (underFrom (h : Int) 0 hs) x)) (h : Int)) (by omega)
      simp only [List.length_append, List.length_replicate] at this
      omega
theorem mh_both (x : List (List Int) × List (Int × Int)) (hF : Few x) (hsp : spaceB x = true) (hs : List Int) (hl : hs.length = x.1.length) :
    ∀ (d h before : Nat) (out : List Int), h + d = 1000 → before ≤ 1048576 → out.length ≤ 2097152 * h →
      loopO spec_MergeHeights_B2 ((hs, x, out, (before : Int), (h : Int), ()), ()) = some ((mh x hs d h before out, ()), ()) ∧
      loopO impl_MergeHeights_B2 ((hs, x, out, (before : Int), (h : Int), ()), ()) = some ((mh x hs d h before out, ()), ()) := by
  have hn := hF.states
  have hsp' := hsp
  simp only [spaceB, Bool.and_eq_true, decide_eq_true_eq] at hsp'
  obtain ⟨_, h6, _, hp⟩ := hsp'
  have hl' : hs.length ≤ 1048576 := by omega
  have hrow : ∀ i, (x.1.getD i []).length ≤ 1048576 := fun i => by
    by_cases hi : i < x.1.length
    · rw [getD_at hi]; exact hF.state _ (List.getElem_mem hi)
    · simp [List.getD, hi]
  intro d
  induction d with
  | zero =>
    intro h before out hh hb ho
    refine ⟨loop_end ?_, loop_end ?_⟩
    · rw [spec_MergeHeights_B2_at]; simp only [bif_decide]; rw [if_neg (by omega)]; rfl
    · rw [impl_MergeHeights_B2_at]; simp only [bif_decide]; rw [if_neg (by omega)]; rfl
  | succ d ih =>
    intro h before out hh hb ho
    have k1 := here_spec hs x out (before : Int) (h : Int) hl'
    have k2 := here_impl hs x out (before : Int) (h : Int) (h : Int) hl'
    have hle := hereN_le (h : Int) hs
    unfold mh
    by_cases e : hereN (h : Int) hs = 0
    · rw [if_pos e]
      obtain ⟨i1, i2⟩ := ih (h + 1) before out (by omega) hb (by omega)
      refine ⟨loop_step ?_ i1, loop_step ?_ i2⟩
      · rw [spec_MergeHeights_B2_at]
        simp only [bif_decide]
        rw [if_pos (by omega)]
        erw [k1]
        simp only [e]
        rw [w64_succ (by omega)]
        rfl
      · rw [impl_MergeHeights_B2_at]
        simp only [bif_decide]
        rw [if_pos (by omega)]
        erw [k2]
        simp only [e]
        rw [w64_succ (by omega)]
        rfl
    · rw [if_neg e]
      have hus := under_sorted (h : Int) hs
      have hul : (under (h : Int) hs).length ≤ 1048576 := by have := underFrom_len (h : Int) hs 0; unfold under; omega
      have hum : ∀ v ∈ under (h : Int) hs, 0 ≤ v ∧ v < x.1.length := fun v hv => by have := under_mem hv; omega
      have hpn := partsN_le (under (h : Int) hs) x
      have u1 := l11Under_eq hs (h : Int) hl'
      have u2 := below_eq hs (h : Int) hl'
      obtain ⟨u, hu⟩ : ∃ u, under (h : Int) hs = u := ⟨_, rfl⟩
      rw [hu] at hus hul hum hpn u1 u2 ⊢
      have v1 := l2Induced_eq x u hus hum (pairsB_ok hp) hn hF.steps hul hrow
      have v2 := InducedSpace_eq x hF hsp u hus hum hul hrow
      have y1 : (induced u x).1.length = u.length := indL_len u x.1
      have y2 : (induced u x).2.length ≤ 6000 := by have := indS_len u x.2; show (indS u x.2).length ≤ 6000; omega
      have y3 : pairsB (induced u x).2 ((induced u x).1.length : Int) = true := by rw [y1]; exact indS_pairs hus hp
      obtain ⟨y, hy⟩ : ∃ y, induced u x = y := ⟨_, rfl⟩
      rw [hy] at v1 v2 y1 y2 y3 hpn ⊢
      obtain ⟨r1, p1, p2⟩ := l2Parts_eq y (pairsB_ok y3) (by omega) y2
      obtain ⟨r2, q1, q2⟩ := parts_eq y (pairsB_ok y3) (by omega) y2
      have w1 := roads_eq y y3 (by omega) (by omega)
      have hN : w64 (w64 ((before : Int) + ((hereN (h : Int) hs : Nat) : Int)) - ((partsN y : Nat) : Int)) = (before : Int) + ((hereN (h : Int) hs : Nat) : Int) - ((partsN y : Nat) : Int) := by
        rw [w64_of (x := (before : Int) + ((hereN (h : Int) hs : Nat) : Int)) (by omega) (by omega), w64_of (by omega) (by omega)]
      have hNt : ((before : Int) + ((hereN (h : Int) hs : Nat) : Int) - ((partsN y : Nat) : Int)).toNat = before + hereN (h : Int) hs - partsN y := by omega
      obtain ⟨i1, i2⟩ := ih (h + 1) (partsN y) (out ++ List.replicate (before + hereN (h : Int) hs - partsN y) (h : Int)) (by omega) (by omega) (by simp; omega)
      have m1 := more_spec hs x (h : Int) ((partsN y : Nat) : Int) _ ((before : Int) + ((hereN (h : Int) hs : Nat) : Int) - ((partsN y : Nat) : Int)) out hNt (by omega) (by omega) (by omega)
      have m2 := more_impl hs x (h : Int) ((partsN y : Nat) : Int) (h : Int) ((before : Int) + ((hereN (h : Int) hs : Nat) : Int) - ((partsN y : Nat) : Int)) out (by omega) (by omega)
      rw [hNt] at m2
      have e' : ¬ ((hereN (h : Int) hs : Nat) : Int) = 0 := by omega
      refine ⟨loop_step ?_ i1, loop_step ?_ i2⟩
      · rw [spec_MergeHeights_B2_at]
        simp only [bif_decide]
        rw [if_pos (by omega)]
        erw [k1]
        simp only [beq_ne e', cond_false]
        rw [u1]
        simp only
        rw [v1]
        simp only
        erw [p1]
        simp only [p2, hN]
        erw [m1]
        simp only [w64_succ (show h < 4611686018427387904 by omega)]
      · rw [impl_MergeHeights_B2_at]
        simp only [bif_decide]
        rw [if_pos (by omega)]
        erw [k2]
        simp only [beq_ne e', cond_false]
        rw [impl_MergeHeights_D0_at, u2]
        simp only
        rw [impl_MergeHeights_D1_at, v2]
        simp only
        erw [w1]
        simp only
        rw [q1]
        simp only [q2, hN]
        erw [m2]
        simp only [w64_succ (show h < 4611686018427387904 by omega)]
theorem FnExactMergeHeights_true (x : List (List Int) × List (Int × Int)) (l : List Int) (hx : Sm (.prod (.list (.list I)) (.list (.prod I I))) x) (hl : Sm (.list I) l) : laws_FnExactMergeHeights (x, l, ()) () = some ((true, ()), ()) := by
  have hl := hl.1
  simp only [laws_FnExactMergeHeights, bif_decide]
  by_cases h1 : (1048576 : Int) < (l.length : Int)
  · rw [if_pos h1]
  rw [if_neg h1]
  have hl' : l.length ≤ 1048576 := by omega
  obtain ⟨r, e1, e2, e3, e4⟩ := szSpace_eq x 1048576 (by omega) (by omega) hx
  rw [e1]
  by_cases h2 : r < 0
  · simp only [if_pos h2]
  have hF := e3 (by omega)
  obtain ⟨r0, m1, m2, m3⟩ := markSpace_eq x 1 hF (by omega) (by omega)
  have m4 := markIntS_eq l r0 m2 (by omega)
  have main : ∃ (R : List Int) (b : Bool), spec_MergeHeights (x, l, ()) () = some ((R, b, ()), ()) ∧ impl_MergeHeights (x, l, ()) () = some ((R, b, ()), ()) ∧ R.length ≤ 2000000000000 := by
    simp only [spec_MergeHeights, impl_MergeHeights, spec_l11Heights, impl_isHigh, l2Space_eq x hF, IsSpace_eq x hF, l11Numbers_eq l x.1.length hl', areLoads_eq l x.1.length hl']
    cases hs : spaceB x
    · exact ⟨[], false, rfl, rfl, by simp⟩
    · cases hn : loadsB x.1.length l
      · exact ⟨[], false, rfl, rfl, by simp⟩
      · have hlen : l.length = x.1.length := by
          simp only [loadsB, Bool.and_eq_true, decide_eq_true_eq] at hn
          exact hn.1
        obtain ⟨b1, b2⟩ := mh_both x hF hs l hlen 1000 0 0 [] (by omega) (by omega) (by simp)
        have b3 := mh_len x l hl' 1000 0 0 [] (by omega)
        simp only [cond_true, Bool.not_true, cond_false]
        refine ⟨mh x l 1000 0 0 [], true, ?_, ?_, ?_⟩
        · erw [b1]
        · erw [b2]
        · simp only [List.length_nil] at b3; omega
  obtain ⟨R, b, s1, s2, s3⟩ := main
  have q1 := markIntS_eq R 1 (by omega) (by omega)
  have q2 := heldIntS_eq R.length 1 (by omega) (by omega)
  have q3 := eqIntS_gen R s3
  simp only [if_neg h2, toSpace_eq x hF, toIntS_eq l hl', s1, s2, eqSpace_eq x hF, eqIntS_eq l hl', laws_FnExactMergeHeights_D0, q3, Bool.not_true, cond_false, beq_self_eq_true, m1, m4]
  rw [if_neg (show ¬ (r0 + (l.length : Int)) < 0 by omega)]
  simp only [q1, q2, if_neg (show ¬ (1 + (R.length : Int)) < 0 by omega), bne_self_eq_false, cond_false]

end Go.Proofs.Ytolabkhcmcfnpaa.V
