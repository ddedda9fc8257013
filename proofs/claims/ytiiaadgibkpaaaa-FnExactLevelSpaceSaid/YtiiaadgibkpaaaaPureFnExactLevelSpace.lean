/-
  What the reference and the program compute agrees: plain lemmas over numbers and lists.
-/
import Derived.Test.YtiiaadgibkpaaaaTFnExactLevelSpace
import Derived.Test.YtiiaadgibkpaaaaE3
namespace Go.Proofs.Ytiiaadgibkpaaaa.V
open Go Go.Ve Go.Proofs
set_option linter.unusedVariables false
set_option linter.unusedSimpArgs false
theorem fold_len {n : Nat} (h : n ≤ 1048576) : (decide (0 ≤ (n : Int)) && decide ((n : Int) ≤ (n : Int)) && decide ((n : Int) * 8 ≤ 140737488355328)) = true ∧ (decide (0 ≤ (n : Int)) && decide ((n : Int) ≤ (n : Int)) && decide ((n : Int) * 24 ≤ 140737488355328)) = true ∧ (decide (0 ≤ (n : Int)) && decide ((n : Int) ≤ (n : Int)) && decide ((n : Int) * 16 ≤ 140737488355328)) = true := by
  refine ⟨?_, ?_, ?_⟩ <;> simp <;> omega

theorem toIntS_eq (l : List Int) (hl : l.length ≤ 1048576) : laws_toIntS (l, ()) () = some ((l, ()), ()) := by
  simp only [laws_toIntS, guardB_true (fold_len hl).1, Int.toNat_natCast]
  have key : loopO laws_toIntS_B0 ((l, fill (fun j => l.getD j 0) 0 l.length 0, ((0 : Nat) : Int), ()), ()) = some ((fill (fun j => l.getD j 0) 0 l.length l.length, ()), ()) := by
    refine loop_count (fun i => ((l, fill (fun j => l.getD j 0) 0 l.length i, (i : Int), ()), ())) l.length _ (fun i hi => ?_) ?_ 0 (Nat.zero_le _)
    · simp only [laws_toIntS_B0, bif_decide, if_pos (show (i : Int) < (l.length : Int) by omega), fill_len, guardB_true (inb_true (Int.natCast_nonneg i) (show (i : Int) < (l.length : Int) by omega)), Int.toNat_natCast, fill_set hi, w64_succ (show i < 4611686018427387904 by omega)]
    · simp only [laws_toIntS_B0, bif_decide, if_neg (show ¬ (l.length : Int) < (l.length : Int) by omega)]
  rw [fill_zero, fill_all, range_getD] at key
  erw [key]

theorem toIntSS_eq (l : List (List Int)) (hl : l.length ≤ 1048576) (h : ∀ x ∈ l, x.length ≤ 1048576) : laws_toIntSS (l, ()) () = some ((l, ()), ()) := by
  simp only [laws_toIntSS, guardB_true (fold_len hl).2.1, Int.toNat_natCast]
  have key : loopO laws_toIntSS_B0 ((l, fill (fun j => l.getD j []) [] l.length 0, ((0 : Nat) : Int), ()), ()) = some ((fill (fun j => l.getD j []) [] l.length l.length, ()), ()) := by
    refine loop_count (fun i => ((l, fill (fun j => l.getD j []) [] l.length i, (i : Int), ()), ())) l.length _ (fun i hi => ?_) ?_ 0 (Nat.zero_le _)
    · simp only [laws_toIntSS_B0, bif_decide, if_pos (show (i : Int) < (l.length : Int) by omega), fill_len, guardB_true (inb_true (Int.natCast_nonneg i) (show (i : Int) < (l.length : Int) by omega)), Int.toNat_natCast]
      rw [toIntS_eq (l.getD i []) (by rw [getD_at hi]; exact h _ (List.getElem_mem hi))]
      simp only [fill_set (f := fun j => l.getD j []) hi, w64_succ (show i < 4611686018427387904 by omega)]
    · simp only [laws_toIntSS_B0, bif_decide, if_neg (show ¬ (l.length : Int) < (l.length : Int) by omega)]
  rw [fill_zero, fill_all, range_getD] at key
  erw [key]

theorem toIntA2_eq (a : Int × Int) : laws_toIntA2 (a, ()) () = some ((a, ()), ()) := by
  obtain ⟨x, y⟩ := a
  have e0 : laws_toIntA2_B0 (((x, y), 0, ()), ((0, 0), (0, 0), ())) = some (.inl (((x, y), 1, ()), ((0, 0), (x, 0), ()))) := rfl
  have e1 : laws_toIntA2_B0 (((x, y), 1, ()), ((0, 0), (x, 0), ())) = some (.inl (((x, y), 2, ()), ((0, 0), (x, y), ()))) := rfl
  have e2 : laws_toIntA2_B0 (((x, y), 2, ()), ((0, 0), (x, y), ())) = some (.inr ((), ((0, 0), (x, y), ()))) := rfl
  simp only [laws_toIntA2, loop_step e0 (loop_step e1 (loop_end e2))]

theorem toIntA2S_eq (l : List (Int × Int)) (hl : l.length ≤ 1048576) : laws_toIntA2S (l, ()) () = some ((l, ()), ()) := by
  simp only [laws_toIntA2S, guardB_true (fold_len hl).2.2, Int.toNat_natCast]
  have key : loopO laws_toIntA2S_B0 ((l, fill (fun j => l.getD j (0, 0)) (0, 0) l.length 0, ((0 : Nat) : Int), ()), ()) = some ((fill (fun j => l.getD j (0, 0)) (0, 0) l.length l.length, ()), ()) := by
    refine loop_count (fun i => ((l, fill (fun j => l.getD j (0, 0)) (0, 0) l.length i, (i : Int), ()), ())) l.length _ (fun i hi => ?_) ?_ 0 (Nat.zero_le _)
    · simp only [laws_toIntA2S_B0, bif_decide, if_pos (show (i : Int) < (l.length : Int) by omega), fill_len, guardB_true (inb_true (Int.natCast_nonneg i) (show (i : Int) < (l.length : Int) by omega)), Int.toNat_natCast]
      rw [toIntA2_eq]
      simp only [fill_set (f := fun j => l.getD j (0, 0)) hi, w64_succ (show i < 4611686018427387904 by omega)]
    · simp only [laws_toIntA2S_B0, bif_decide, if_neg (show ¬ (l.length : Int) < (l.length : Int) by omega)]
  rw [fill_zero, fill_all, range_getD] at key
  erw [key]

theorem allUpto_true {n : Nat} : allUpto (fun _ => true) n = true := allUpto_iff.2 fun _ _ => rfl
theorem eqIntS_gen (l : List Int) (hl : l.length ≤ 2000000000000) : laws_eqIntS (l, l, ()) () = some ((true, ()), ()) := by
  have key := loop_all (B := laws_eqIntS_B0) (fun i => ((l, l, (i : Int), ()), ())) (fun _ => true) l.length (.inl ((false, ()), ())) (.inr ((), ())) (fun i hi _ => by
    simp [laws_eqIntS_B0, inb_nat, hi, guardB, w64_succ (show i < 4611686018427387904 by omega)]) (by simp [laws_eqIntS_B0])
  rw [allUpto_true] at key
  simp only [laws_eqIntS, bne_self_eq_false, cond_false]
  rw [show (0 : Int) = ((0 : Nat) : Int) from rfl, key]
  rfl
theorem eqIntS_eq (l : List Int) (hl : l.length ≤ 1048576) : laws_eqIntS (l, l, ()) () = some ((true, ()), ()) := eqIntS_gen l (by omega)
theorem eqIntSS_gen (l : List (List Int)) (hl : l.length ≤ 2000000000000) (h : ∀ x ∈ l, x.length ≤ 1048576) : laws_eqIntSS (l, l, ()) () = some ((true, ()), ()) := by
  have key := loop_all (B := laws_eqIntSS_B0) (fun i => ((l, l, (i : Int), ()), ())) (fun _ => true) l.length (.inl ((false, ()), ())) (.inr ((), ())) (fun i hi _ => by
    simp only [laws_eqIntSS_B0, bif_decide, if_pos (show (i : Int) < (l.length : Int) by omega), guardB_true (inb_true (Int.natCast_nonneg i) (show (i : Int) < (l.length : Int) by omega)), Int.toNat_natCast]
    rw [eqIntS_eq (l.getD i []) (by rw [getD_at hi]; exact h _ (List.getElem_mem hi))]
    simp [w64_succ (show i < 4611686018427387904 by omega)]) (by simp [laws_eqIntSS_B0])
  rw [allUpto_true] at key
  simp only [laws_eqIntSS, bne_self_eq_false, cond_false]
  rw [show (0 : Int) = ((0 : Nat) : Int) from rfl, key]
  rfl
theorem eqIntSS_eq (l : List (List Int)) (hl : l.length ≤ 1048576) (h : ∀ x ∈ l, x.length ≤ 1048576) : laws_eqIntSS (l, l, ()) () = some ((true, ()), ()) := eqIntSS_gen l (by omega) h
theorem eqIntA2_eq (a : Int × Int) : laws_eqIntA2 (a, a, ()) () = some ((true, ()), ()) := by
  obtain ⟨x, y⟩ := a
  have e0 : laws_eqIntA2_B0 (((x, y), (x, y), 0, ()), ()) = some (.inl (((x, y), (x, y), 1, ()), ())) := by
    simp [laws_eqIntA2_B0, guardB]; rfl
  have e1 : laws_eqIntA2_B0 (((x, y), (x, y), 1, ()), ()) = some (.inl (((x, y), (x, y), 2, ()), ())) := by
    simp [laws_eqIntA2_B0, guardB]; rfl
  have e2 : laws_eqIntA2_B0 (((x, y), (x, y), 2, ()), ()) = some (.inr (.inr ((), ()))) := rfl
  simp only [laws_eqIntA2, loop_step e0 (loop_step e1 (loop_end e2))]
theorem eqIntA2S_eq (l : List (Int × Int)) (hl : l.length ≤ 1048576) : laws_eqIntA2S (l, l, ()) () = some ((true, ()), ()) := by
  have key := loop_all (B := laws_eqIntA2S_B0) (fun i => ((l, l, (i : Int), ()), ())) (fun _ => true) l.length (.inl ((false, ()), ())) (.inr ((), ())) (fun i hi _ => by
    simp only [laws_eqIntA2S_B0, bif_decide, if_pos (show (i : Int) < (l.length : Int) by omega), guardB_true (inb_true (Int.natCast_nonneg i) (show (i : Int) < (l.length : Int) by omega)), Int.toNat_natCast]
    rw [eqIntA2_eq]
    simp [w64_succ (show i < 4611686018427387904 by omega)]) (by simp [laws_eqIntA2S_B0])
  rw [allUpto_true] at key
  simp only [laws_eqIntA2S, bne_self_eq_false, cond_false]
  rw [show (0 : Int) = ((0 : Nat) : Int) from rfl, key]
  rfl

/-- what is asked of a Space that is looked at: not too great -/
structure Few (x : List (List Int) × List (Int × Int)) : Prop where
  states : x.1.length ≤ 1048576
  state : ∀ s ∈ x.1, s.length ≤ 1048576
  steps : x.2.length ≤ 1048576
theorem szIntS_eq (l : List Int) (n : Int) (h0 : 0 ≤ n) (hn : n ≤ 1048576) (hl : l.length ≤ 140737488351232) : laws_szIntS (l, n, ()) () = some (((if (l.length : Int) ≤ n then n - l.length else -1), ()), ()) := by
  simp only [laws_szIntS, w64_of (x := n - (l.length : Int)) (by omega) (by omega), bif_decide]
  by_cases h : (l.length : Int) ≤ n
  · rw [if_neg (by omega), if_pos h]
  · rw [if_pos (by omega), if_neg h]
theorem szIntA2S_eq (l : List (Int × Int)) (n : Int) (h0 : 0 ≤ n) (hn : n ≤ 1048576) (hl : l.length ≤ 140737488351232) : laws_szIntA2S (l, n, ()) () = some (((if (l.length : Int) ≤ n then n - l.length else -1), ()), ()) := by
  simp only [laws_szIntA2S, w64_of (x := n - (l.length : Int)) (by omega) (by omega), bif_decide]
  by_cases h : (l.length : Int) ≤ n
  · rw [if_neg (by omega), if_pos h]
  · rw [if_pos (by omega), if_neg h]
theorem szIntSS_eq (l : List (List Int)) (n : Int) (h0 : 0 ≤ n) (hn : n ≤ 1048576) (hl : l.length ≤ 140737488351232) (hs : ∀ x ∈ l, x.length ≤ 140737488351232) :
    ∃ r : Int, laws_szIntSS (l, n, ()) () = some ((r, ()), ()) ∧ r ≤ 1048576 ∧ (0 ≤ r → (l.length : Int) ≤ n ∧ ∀ x ∈ l, (x.length : Int) ≤ n) ∧ (r < 0 → r = -1) := by
  simp only [laws_szIntSS, w64_of (x := n - (l.length : Int)) (by omega) (by omega), bif_decide]
  by_cases h : n - (l.length : Int) < 0
  · rw [if_pos h]; exact ⟨-1, rfl, by omega, fun h => by omega, fun _ => rfl⟩
  · rw [if_neg h]
    obtain ⟨q, h1, h2⟩ := loop_inv (B := laws_szIntSS_B0) (fun p => ∃ (m : Int) (i : Nat), p = ((l, m, (i : Int), ()), ()) ∧ 0 ≤ m ∧ m ≤ n ∧ i ≤ l.length ∧ ∀ j, j < i → ((l.getD j []).length : Int) ≤ n)
      (fun p => l.length - p.1.2.2.1.toNat) (fun q => match q with
        | .inl ((t, ()), ()) => (fun t : Int => t = -1) t
        | .inr ((m, ()), ()) => (fun m : Int => 0 ≤ m ∧ m ≤ n ∧ ∀ j, j < l.length → ((l.getD j []).length : Int) ≤ n) m) (by
      rintro p ⟨m, i, rfl, h3, h4, h5, h6⟩
      by_cases hi : i < l.length
      · simp only [laws_szIntSS_B0, bif_decide, if_pos (show (i : Int) < (l.length : Int) by omega), guardB_true (inb_true (Int.natCast_nonneg i) (show (i : Int) < (l.length : Int) by omega)), Int.toNat_natCast]
        rw [szIntS_eq (l.getD i []) m h3 (by omega) (by rw [getD_at hi]; exact hs _ (List.getElem_mem hi))]
        by_cases h7 : ((l.getD i []).length : Int) ≤ m
        · rw [if_pos h7]
          simp only [if_neg (show ¬ (m - ((l.getD i []).length : Int)) < 0 by omega), w64_succ (show i < 4611686018427387904 by omega)]
          refine .inl ⟨_, rfl, ⟨_, i + 1, rfl, by omega, by omega, by omega, fun j hj => ?_⟩, ?_⟩
          · rcases Nat.lt_or_ge j i with h | h
            · exact h6 j h
            · rw [show j = i by omega]; omega
          · simp only [Int.toNat_natCast]; omega
        · rw [if_neg h7]
          exact .inr ⟨_, rfl, rfl⟩
      · have hi : i = l.length := by omega
        subst hi
        simp only [laws_szIntSS_B0, bif_decide, if_neg (show ¬ (l.length : Int) < (l.length : Int) by omega)]
        exact .inr ⟨_, rfl, h3, h4, h6⟩) ((l, n - (l.length : Int), 0, ()), ()) ⟨n - (l.length : Int), 0, rfl, by omega, by omega, by omega, fun j hj => by omega⟩
    rw [h1]
    rcases q with ⟨⟨t, ⟨⟩⟩, ⟨⟩⟩ | ⟨⟨m, ⟨⟩⟩, ⟨⟩⟩
    · dsimp only at h2
      exact ⟨t, rfl, by omega, fun h => by omega, fun _ => h2⟩
    · dsimp only at h2
      refine ⟨m, rfl, by have := h2.2.1; omega, fun _ => ⟨by omega, fun x hx => ?_⟩, fun h => by have := h2.1; omega⟩
      obtain ⟨j, hj, rfl⟩ := List.getElem_of_mem hx
      have := h2.2.2 j hj
      rw [getD_at hj] at this
      exact this
theorem szSpace_eq (x : List (List Int) × List (Int × Int)) (n : Int) (h0 : 0 ≤ n) (hn : n ≤ 1048576) (hx : Sm (.prod (.list (.list I)) (.list (.prod I I))) x) :
    ∃ r : Int, laws_szSpace (x, n, ()) () = some ((r, ()), ()) ∧ r ≤ 1048576 ∧ (0 ≤ r → Few x) ∧ (r < 0 → r = -1) := by
  obtain ⟨a, b⟩ := x
  obtain ⟨⟨h1, h2⟩, h3, h4⟩ := hx
  obtain ⟨r, e1, e2, e3, e4⟩ := szIntSS_eq a n h0 hn h1 (fun x hx => (h2 x hx).1)
  simp only [laws_szSpace, e1, bif_decide]
  by_cases h : r < 0
  · rw [if_pos h]; exact ⟨-1, rfl, by omega, fun h => by omega, fun _ => rfl⟩
  · rw [if_neg h]
    have := e3 (by omega)
    rw [szIntA2S_eq b r (by omega) e2 h3]
    by_cases h5 : (b.length : Int) ≤ r
    · rw [if_pos h5]
      simp only [if_neg (show ¬ (r - (b.length : Int)) < 0 by omega)]
      exact ⟨_, rfl, by omega, fun _ => ⟨by show a.length ≤ _; omega, fun s hs => by have := this.2 s hs; omega, by show b.length ≤ _; omega⟩, fun h => by omega⟩
    · rw [if_neg h5]
      exact ⟨-1, rfl, by omega, fun h => by omega, fun _ => rfl⟩
theorem toSpace_eq (x : List (List Int) × List (Int × Int)) (h : Few x) : laws_toSpace (x, ()) () = some ((x, ()), ()) := by
  obtain ⟨a, b⟩ := x
  simp only [laws_toSpace, toIntSS_eq a h.states h.state, toIntA2S_eq b h.steps]
theorem eqSpace_eq (x : List (List Int) × List (Int × Int)) (h : Few x) : laws_eqSpace (x, x, ()) () = some ((true, ()), ()) := by
  obtain ⟨a, b⟩ := x
  simp only [laws_eqSpace, eqIntSS_eq a h.states h.state, eqIntA2S_eq b h.steps]
  rfl

def inR (x a b : Int) : Bool := decide (a ≤ x) && decide (x ≤ b)
theorem l1In_eq (x a b : Int) : spec_l1In (x, a, b, ()) () = some ((inR x a b, ()), ()) := by
  simp only [spec_l1In, inR]
  by_cases h : a ≤ x <;> simp [h]
theorem between_eq (x a b : Int) : impl_between (x, a, b, ()) () = some ((inR x a b, ()), ()) := by
  simp only [impl_between, inR]
  by_cases h : a ≤ x <;> simp [h]
theorem cmp_eq (x y : Int) : cmp_Compare_int (x, y, ()) () = some (((if x < y then -1 else if y < x then 1 else 0), ()), ()) := by
  simp only [cmp_Compare_int, cmp_isNaN_int, bne_self_eq_false, cond_false, bif_decide]
  split
  · rfl
  · split <;> rfl

def goodN (n : Int) : Bool := inR n (-99) 99
def goodState (s : List Int) : Bool := decide (s.length ≤ 24) && s.all goodN
theorem allUpto_getD {f : Int → Bool} {s : List Int} : allUpto (fun i => f (s.getD i 0)) s.length = s.all f := by
  rw [Bool.eq_iff_iff, allUpto_iff, List.all_eq_true]
  constructor
  · intro h x hx
    obtain ⟨i, hi, rfl⟩ := List.getElem_of_mem hx
    have := h i hi
    rwa [getD_at hi] at this
  · intro h i hi
    rw [getD_at hi]
    exact h _ (List.getElem_mem hi)
theorem l2State_eq (s : List Int) (hs : s.length ≤ 1048576) : spec_l2State (s, ()) () = some ((goodState s, ()), ()) := by
  have key := loop_all (B := spec_l2State_B0) (fun i => ((s, (i : Int), ()), ())) (fun i => goodN (s.getD i 0)) s.length (.inl ((false, ()), ())) (.inr ((s, ()), ())) (fun i hi _ => by
    simp only [spec_l2State_B0, bif_decide, if_pos (show (i : Int) < (s.length : Int) by omega), guardB_true (inb_true (Int.natCast_nonneg i) (show (i : Int) < (s.length : Int) by omega)), Int.toNat_natCast, l1In_eq _ _ _, w64_succ (show i < 4611686018427387904 by omega), goodN]
    cases inR (s.getD i 0) (-99) 99 <;> rfl) (by simp [spec_l2State_B0])
  rw [allUpto_getD] at key
  simp only [spec_l2State]
  erw [key]
  have e : decide ((s.length : Int) ≤ 24) = decide (s.length ≤ 24) := by rw [decide_eq_decide]; omega
  cases h : s.all goodN
  · simp [goodState, h]
  · simp [goodState, h, e]
/-- where is the first one? -/
def firstIdx (p : Nat → Bool) : Nat → Nat → Int
  | _, 0 => -1
  | k, d + 1 => if p k then k else firstIdx p (k + 1) d
theorem firstIdx_neg {p : Nat → Bool} : ∀ {d k : Nat}, (decide ((0 : Int) ≤ firstIdx p k d) = !(allUpto (fun i => !p (k + i)) d))
  | 0, k => by simp [firstIdx, allUpto]
  | d + 1, k => by
    by_cases h : p k
    · rw [show firstIdx p k (d + 1) = k by simp [firstIdx, h]]
      have : allUpto (fun i => !p (k + i)) (d + 1) = false := by
        cases e : allUpto (fun i => !p (k + i)) (d + 1)
        · rfl
        · have := allUpto_iff.1 e 0 (by omega); simp [h] at this
      rw [this]; simp
    · rw [show firstIdx p k (d + 1) = firstIdx p (k + 1) d by simp [firstIdx, h], firstIdx_neg]
      congr 1
      rw [Bool.eq_iff_iff, allUpto_iff, allUpto_iff]
      constructor
      · intro g i hi
        cases i with
        | zero => simpa using h
        | succ i => have := g i (by omega); rw [show k + 1 + i = k + (i + 1) by omega] at this; exact this
      · intro g i hi
        have := g (i + 1) (by omega)
        rw [show k + (i + 1) = k + 1 + i by omega] at this; exact this
theorem loop_idx {P Q : Type} {B : P → Option (P ⊕ Q)} (st : Nat → P) (p : Nat → Bool) (n : Nat) (found : Int → Q) (fin : Q) (step : ∀ i, i < n → B (st i) = some (bif p i then .inr (found i) else .inl (st (i + 1)))) (stop : B (st n) = some (.inr fin)) :
    loopO B (st 0) = some (if firstIdx p 0 n < 0 then fin else found (firstIdx p 0 n)) := by
  suffices h : ∀ d k, k + d = n → loopO B (st k) = some (if firstIdx p k d < 0 then fin else found (firstIdx p k d)) from h n 0 (by omega)
  intro d
  induction d with
  | zero => intro k hk; have : k = n := by omega
            subst this; simpa [firstIdx] using loop_end stop
  | succ d ih =>
    intro k hk
    have h := step k (by omega)
    cases e : p k
    · rw [e] at h; rw [show firstIdx p k (d + 1) = firstIdx p (k + 1) d by simp [firstIdx, e]]; exact loop_step h (ih (k + 1) (by omega))
    · rw [e] at h; rw [show firstIdx p k (d + 1) = k by simp [firstIdx, e], if_neg (by omega)]; exact loop_end h
theorem isState_eq (s : List Int) (hs : s.length ≤ 1048576) : impl_isState (s, ()) () = some ((goodState s, ()), ()) := by
  have k1 : ∀ n : Int, impl_isState_1 (n, ()) () = some (((!goodN n), ()), ()) := fun n => by simp only [impl_isState_1, between_eq _ _ _, goodN]
  have key := loop_idx (B := slices_IndexFunc_int_int_vf_impl_isState_1_B0) (fun i => ((s, (s.length : Int), (i : Int), ()), ())) (fun i => !goodN (s.getD i 0)) s.length (fun i => .inl ((i, ()), ())) (.inr ((), ())) (fun i hi => by
    simp only [slices_IndexFunc_int_int_vf_impl_isState_1_B0, bif_decide, if_pos (show (i : Int) < (s.length : Int) by omega), guardB_true (inb_true (Int.natCast_nonneg i) (show (i : Int) < (s.length : Int) by omega)), Int.toNat_natCast, k1, w64_succ (show i < 4611686018427387904 by omega)]
    cases goodN (s.getD i 0) <;> rfl) (by simp [slices_IndexFunc_int_int_vf_impl_isState_1_B0])
  have k2 : slices_IndexFunc_int_int_vf_impl_isState_1 (s, ()) () = some ((firstIdx (fun i => !goodN (s.getD i 0)) 0 s.length, ()), ()) := by
    simp only [slices_IndexFunc_int_int_vf_impl_isState_1]
    erw [key]
    by_cases h : firstIdx (fun i => !goodN (s.getD i 0)) 0 s.length < 0
    · rw [if_pos h]
      have : ∀ d k, firstIdx (fun i => !goodN (s.getD i 0)) k d < 0 → firstIdx (fun i => !goodN (s.getD i 0)) k d = -1 := by
        intro d
        induction d with
        | zero => intro k _; rfl
        | succ d ih =>
          intro k hk
          simp only [firstIdx] at hk ⊢
          split
          · rename_i h; rw [if_pos h] at hk; omega
          · rename_i h; rw [if_neg h] at hk; exact ih _ hk
      rw [this _ _ h]
    · rw [if_neg h]
  simp only [impl_isState, slices_ContainsFunc_int_int_vf_impl_isState_1, k2, firstIdx_neg, bif_decide]
  have e : allUpto (fun i => !!goodN (s.getD (0 + i) 0)) s.length = s.all goodN := by
    rw [← allUpto_getD]; congr 1; funext i; simp
  rw [e]
  by_cases h : s.length ≤ 24
  · rw [if_pos (by omega)]; simp [goodState, h]
  · rw [if_neg (by omega)]; simp [goodState, h]

def lexDiff : List Int → List Int → Option Bool
  | a :: l, b :: k => if a = b then lexDiff l k else some (decide (a < b))
  | _, _ => none
def lexLt (a b : List Int) : Bool := match lexDiff a b with
  | some t => t
  | none => decide (a.length < b.length)
def lexCmp : List Int → List Int → Int
  | a :: l, b :: k => if a < b then -1 else if b < a then 1 else lexCmp l k
  | [], [] => 0
  | [], _ :: _ => -1
  | _ :: _, [] => 1
theorem lexCmp_lt : ∀ (a b : List Int), decide ((0 : Int) ≤ lexCmp a b) = !lexLt a b
  | a :: l, b :: k => by
    by_cases h : a < b
    · simp [lexCmp, lexLt, lexDiff, h, show ¬ a = b by omega]
    · by_cases h2 : b < a
      · simp [lexCmp, lexLt, lexDiff, h, h2, show ¬ a = b by omega]
      · have e : a = b := by omega
        subst e
        rw [show lexCmp (a :: l) (a :: k) = lexCmp l k by simp [lexCmp], lexCmp_lt l k]
        simp only [lexLt, lexDiff, if_pos, List.length_cons]
        cases lexDiff l k <;> simp
  | [], [] => by simp [lexCmp, lexLt, lexDiff]
  | [], _ :: _ => by simp [lexCmp, lexLt, lexDiff]
  | _ :: _, [] => by simp [lexCmp, lexLt, lexDiff]
theorem l2Before_eq (a b : List Int) (ha : a.length ≤ 1048576) : spec_l2Before (a, b, ()) () = some ((lexLt a b, ()), ()) := by
  have key : ∀ d i, i + d = a.length → loopO spec_l2Before_B0 ((a, b, (i : Int), ()), ()) = some (match lexDiff (a.drop i) (b.drop i) with
      | some t => .inl ((t, ()), ())
      | none => .inr ((a, b, ()), ())) := by
    intro d
    induction d with
    | zero =>
      intro i hi
      have : i = a.length := by omega
      subst this
      refine loop_end ?_
      simp [spec_l2Before_B0, lexDiff]
    | succ d ih =>
      intro i hi
      have h1 : i < a.length := by omega
      by_cases h2 : i < b.length
      · rw [List.drop_eq_getElem_cons h1, List.drop_eq_getElem_cons h2]
        simp only [lexDiff]
        by_cases h3 : a[i] = b[i]
        · rw [if_pos h3]
          refine loop_step ?_ (ih (i + 1) (by omega))
          simp [spec_l2Before_B0, inb_nat, guardB, h1, h2, h3, w64_succ (show i < 4611686018427387904 by omega)]
        · rw [if_neg h3]
          refine loop_end ?_
          simp [spec_l2Before_B0, inb_nat, guardB, h1, h2, bne_ne h3]
      · have : lexDiff (a.drop i) (b.drop i) = none := by
          rw [List.drop_eq_nil_of_le (show b.length ≤ i by omega)]
          cases a.drop i <;> rfl
        rw [this]
        refine loop_end ?_
        simp [spec_l2Before_B0, inb_nat, guardB, h1, h2]
  simp only [spec_l2Before]
  erw [key a.length 0 (by omega)]
  simp only [List.drop_zero, lexLt]
  cases lexDiff a b <;> simp
theorem Compare_eq (a b : List Int) (ha : a.length ≤ 1048576) : slices_Compare_int_int (a, b, ()) () = some ((lexCmp a b, ()), ()) := by
  have key : ∀ d i, i + d = a.length → ∃ q, loopO slices_Compare_int_int_B0 ((a, b, a, (a.length : Int), (i : Int), ()), ()) = some q ∧ ((q = .inl ((lexCmp (a.drop i) (b.drop i), ()), ())) ∨ (q = .inr ((a, b, ()), ()) ∧ (i ≤ b.length → lexCmp (a.drop i) (b.drop i) = if a.length < b.length then -1 else 0))) := by
    intro d
    induction d with
    | zero =>
      intro i hi
      have : i = a.length := by omega
      subst this
      refine ⟨_, loop_end (q := .inr ((a, b, ()), ())) (by simp [slices_Compare_int_int_B0]), .inr ⟨rfl, fun hb => ?_⟩⟩
      rw [List.drop_length]
      by_cases h : a.length < b.length
      · rw [List.drop_eq_getElem_cons h, if_pos h]; rfl
      · rw [List.drop_eq_nil_of_le (by omega), if_neg h]; rfl
    | succ d ih =>
      intro i hi
      have h1 : i < a.length := by omega
      by_cases h2 : i < b.length
      · rw [List.drop_eq_getElem_cons h1, List.drop_eq_getElem_cons h2]
        simp only [lexCmp]
        have e : slices_Compare_int_int_B0 ((a, b, a, (a.length : Int), (i : Int), ()), ()) = some (if (if a[i] < b[i] then (-1 : Int) else if b[i] < a[i] then 1 else 0) = 0 then .inl ((a, b, a, (a.length : Int), ((i + 1 : Nat) : Int), ()), ()) else .inr (.inl (((if a[i] < b[i] then (-1 : Int) else if b[i] < a[i] then 1 else 0), ()), ()))) := by
          simp only [slices_Compare_int_int_B0, bif_decide, if_pos (show (i : Int) < (a.length : Int) by omega), if_neg (show ¬ (b.length : Int) ≤ (i : Int) by omega), guardB_true (inb_true (Int.natCast_nonneg i) (show (i : Int) < (a.length : Int) by omega)), guardB_true (inb_true (Int.natCast_nonneg i) (show (i : Int) < (b.length : Int) by omega)), Int.toNat_natCast, getD_at h1, getD_at h2, cmp_eq _ _, w64_succ (show i < 4611686018427387904 by omega)]
          by_cases h3 : a[i] < b[i]
          · simp [h3]
          · by_cases h4 : b[i] < a[i]
            · simp [h3, h4]
            · simp [h3, h4]
        by_cases h3 : a[i] < b[i]
        · simp only [if_pos h3] at e ⊢
          exact ⟨_, loop_end e, .inl rfl⟩
        · by_cases h4 : b[i] < a[i]
          · simp only [if_neg h3, if_pos h4] at e ⊢
            exact ⟨_, loop_end e, .inl rfl⟩
          · simp only [if_neg h3, if_neg h4, if_pos] at e ⊢
            obtain ⟨q, q1, q2⟩ := ih (i + 1) (by omega)
            refine ⟨q, loop_step e q1, q2.imp id fun ⟨r1, r2⟩ => ⟨r1, fun _ => r2 (by omega)⟩⟩
      · refine ⟨_, loop_end (q := .inl ((1, ()), ())) (by simp [slices_Compare_int_int_B0, inb_nat, guardB, h1, show b.length ≤ i by omega]), .inl ?_⟩
        rw [List.drop_eq_nil_of_le (show b.length ≤ i by omega), List.drop_eq_getElem_cons h1]
        rfl
  obtain ⟨q, q1, q2⟩ := key a.length 0 (by omega)
  simp only [slices_Compare_int_int]
  erw [q1]
  simp only [List.drop_zero] at q2
  rcases q2 with rfl | ⟨rfl, q2⟩
  · rfl
  · rw [q2 (Nat.zero_le _)]
    simp only [bif_decide, Int.ofNat_lt]
    split <;> rfl

def edgeB (a b : Int × Int) : Bool := decide (a.1 < b.1) || (decide (a.1 = b.1) && decide (a.2 < b.2))
theorem l2Edge_eq (a b : Int × Int) : spec_l2Edge (a, b, ()) () = some ((edgeB a b, ()), ()) := by
  simp only [spec_l2Edge, edgeB]
  by_cases h : a.1 < b.1
  · simp [h]
  · by_cases h2 : a.1 = b.1
    · simp [h, h2]
    · simp [h, h2, beq_ne h2]
theorem cmpOr_eq (x y : Int) : cmp_Or_int ([x, y], ()) () = some (((if x = 0 then y else x), ()), ()) := by
  simp only [cmp_Or_int]
  have e0 : cmp_Or_int_B0 ((0, [x, y], ([x, y].length : Int), 0, ()), ()) = some (if x = 0 then .inl ((0, [x, y], ([x, y].length : Int), 1, ()), ()) else .inr (.inl ((x, ()), ()))) := by
    by_cases h : x = 0
    · simp [cmp_Or_int_B0, inb, guardB, h]; rfl
    · simp [cmp_Or_int_B0, inb, guardB, h, bne_ne h]
  have e1 : cmp_Or_int_B0 ((0, [x, y], ([x, y].length : Int), 1, ()), ()) = some (if y = 0 then .inl ((0, [x, y], ([x, y].length : Int), 2, ()), ()) else .inr (.inl ((y, ()), ()))) := by
    by_cases h : y = 0
    · simp [cmp_Or_int_B0, inb, guardB, h]; rfl
    · simp [cmp_Or_int_B0, inb, guardB, h, bne_ne h]
  have e2 : cmp_Or_int_B0 ((0, [x, y], ([x, y].length : Int), 2, ()), ()) = some (.inr (.inr ((0, ()), ()))) := by
    simp [cmp_Or_int_B0]
  by_cases h : x = 0
  · rw [if_pos h] at e0 ⊢
    by_cases g : y = 0
    · rw [if_pos g] at e1
      rw [loop_step e0 (loop_step e1 (loop_end e2)), g]
    · rw [if_neg g] at e1
      rw [loop_step e0 (loop_end e1)]
  · rw [if_neg h] at e0 ⊢
    rw [loop_end e0]
theorem comparePairs_eq (a b : Int × Int) : ∃ r : Int, impl_comparePairs (a, b, ()) () = some ((r, ()), ()) ∧ (decide ((0 : Int) ≤ r) = !edgeB a b) ∧ (r = 0 ↔ a = b) := by
  obtain ⟨a1, a2⟩ := a
  obtain ⟨b1, b2⟩ := b
  simp only [impl_comparePairs, cmp_eq _ _, cmpOr_eq _ _]
  refine ⟨_, rfl, ?_, ?_⟩
  · simp only [edgeB]
    by_cases h : a1 < b1
    · simp [h]
    · by_cases h2 : b1 < a1
      · have : ¬ a1 = b1 := by omega
        simp [h, h2, this]
      · have : a1 = b1 := by omega
        subst this
        by_cases h3 : a2 < b2
        · simp [h3]
        · by_cases h4 : b2 < a2 <;> simp [h3, h4]
  · simp only [Prod.mk.injEq]
    by_cases h : a1 < b1
    · simp [h]; omega
    · by_cases h2 : b1 < a1
      · simp [h, h2]; omega
      · have : a1 = b1 := by omega
        subst this
        by_cases h3 : a2 < b2
        · simp [h3]; omega
        · by_cases h4 : b2 < a2
          · simp [h3, h4]; omega
          · simp [h3, h4]; omega
def pairB (l : List (Int × Int)) (n : Int) (i : Nat) : Bool :=
  decide (0 ≤ (l.getD i (0, 0)).1) && (decide ((l.getD i (0, 0)).1 < (l.getD i (0, 0)).2) && (decide ((l.getD i (0, 0)).2 < n) && (decide (i = 0) || edgeB (l.getD (i - 1) (0, 0)) (l.getD i (0, 0)))))
def pairsB (l : List (Int × Int)) (n : Int) : Bool := allUpto (pairB l n) l.length
theorem l2Pairs_eq (l : List (Int × Int)) (n : Int) (hl : l.length ≤ 1048576) (h0 : -1048576 ≤ n) (hn : n ≤ 1048576) : spec_l2Pairs (l, n, ()) () = some ((pairsB l n, ()), ()) := by
  have key := loop_all (B := spec_l2Pairs_B0) (fun i => ((l, n, (i : Int), ()), ())) (pairB l n) l.length (.inl ((false, ()), ())) (.inr ((), ())) (fun i hi _ => by
    obtain ⟨e, he⟩ : ∃ e : Int × Int, l.getD i (0, 0) = e := ⟨_, rfl⟩
    simp only [spec_l2Pairs_B0, bif_decide, if_pos (show (i : Int) < (l.length : Int) by omega), guardB_true (inb_true (Int.natCast_nonneg i) (show (i : Int) < (l.length : Int) by omega)), Int.toNat_natCast, l1In_eq _ _ _, w64_succ (show i < 4611686018427387904 by omega), w64_of (x := n - 1) (by omega) (by omega), pairB, inR, he]
    by_cases h1 : 0 ≤ e.1
    · by_cases h2 : e.1 ≤ n - 1
      · by_cases h3 : 0 ≤ e.2
        · by_cases h4 : e.2 ≤ n - 1
          · by_cases h5 : e.2 ≤ e.1
            · simp [h1, h2, h3, h4, h5, show ¬ e.1 < e.2 by omega]
            · by_cases h6 : i = 0
              · subst h6
                simp [h1, h2, h3, h4, h5, show e.1 < e.2 by omega, show e.2 < n by omega]
              · rw [w64_pred (by omega) (by omega), guardB_true (inb_true (Int.natCast_nonneg _) (show ((i - 1 : Nat) : Int) < (l.length : Int) by omega)), Int.toNat_natCast, l2Edge_eq]
                cases edgeB (l.getD (i - 1) (0, 0)) e <;> simp [h1, h2, h3, h4, h5, h6, show e.1 < e.2 by omega, show e.2 < n by omega, show 0 < i by omega]
          · simp [h1, h2, h3, h4, show ¬ e.2 < n by omega]
        · simp [h1, h2, h3, show ¬ e.1 < e.2 by omega]
      · simp only [h1, h2, decide_true, decide_false, Bool.and_false, Bool.not_false, cond_true, Bool.true_and]
        by_cases h3 : e.1 < e.2
        · simp [h3, show ¬ e.2 < n by omega]
        · simp [h3]
    · simp [h1]) (by simp [spec_l2Pairs_B0])
  simp only [spec_l2Pairs]
  erw [key]
  simp only [pairsB]
  cases allUpto (pairB l n) l.length <;> rfl
theorem isPairs_eq (l : List (Int × Int)) (n : Int) (hl : l.length ≤ 1048576) : impl_isPairs (l, n, ()) () = some ((pairsB l n, ()), ()) := by
  have key := loop_all (B := impl_isPairs_B0) (fun i => ((l, n, l, (l.length : Int), (i : Int), ()), ())) (pairB l n) l.length (.inl ((false, ()), ())) (.inr ((), ())) (fun i hi _ => by
    obtain ⟨e, he⟩ : ∃ e : Int × Int, l.getD i (0, 0) = e := ⟨_, rfl⟩
    simp only [impl_isPairs_B0, bif_decide, if_pos (show (i : Int) < (l.length : Int) by omega), guardB_true (inb_true (Int.natCast_nonneg i) (show (i : Int) < (l.length : Int) by omega)), Int.toNat_natCast, w64_succ (show i < 4611686018427387904 by omega), pairB, he]
    by_cases h1 : e.1 < 0
    · simp [h1, show ¬ 0 ≤ e.1 by omega]
    · by_cases h2 : e.2 ≤ e.1
      · simp [h1, h2, show ¬ e.1 < e.2 by omega]
      · by_cases h3 : n ≤ e.2
        · simp [h1, h2, h3, show ¬ e.2 < n by omega]
        · by_cases h6 : i = 0
          · subst h6
            simp [h1, h2, h3, show 0 ≤ e.1 by omega, show e.1 < e.2 by omega, show e.2 < n by omega]
          · obtain ⟨r, r1, r2, _⟩ := comparePairs_eq (l.getD (i - 1) (0, 0)) e
            rw [w64_pred (by omega) (by omega), guardB_true (inb_true (Int.natCast_nonneg _) (show ((i - 1 : Nat) : Int) < (l.length : Int) by omega)), Int.toNat_natCast, r1]
            simp only [if_neg h1, if_neg h2, if_neg h3, if_pos (show (0 : Int) < (i : Int) by omega), ← bif_decide, r2]
            cases edgeB (l.getD (i - 1) (0, 0)) e <;> simp [h6, show 0 ≤ e.1 by omega, show e.1 < e.2 by omega, show e.2 < n by omega]) (by simp [impl_isPairs_B0])
  simp only [impl_isPairs]
  erw [key]
  simp only [pairsB]
  cases allUpto (pairB l n) l.length <;> rfl

def stateB (L : List (List Int)) (i : Nat) : Bool := goodState (L.getD i []) && (decide (i = 0) || lexLt (L.getD (i - 1) []) (L.getD i []))
def spaceB (x : List (List Int) × List (Int × Int)) : Bool := decide (x.1.length ≤ 300) && (decide (x.2.length ≤ 6000) && (allUpto (stateB x.1) x.1.length && pairsB x.2 x.1.length))
theorem l2Space_eq (x : List (List Int) × List (Int × Int)) (hx : Few x) : spec_l2Space (x, ()) () = some ((spaceB x, ()), ()) := by
  obtain ⟨L, S⟩ := x
  have hL := hx.states
  have hs := hx.state
  have hS := hx.steps
  dsimp only at hL hs hS
  have hlen : ∀ i, i < L.length → (L.getD i []).length ≤ 1048576 := fun i hi => by rw [getD_at hi]; exact hs _ (List.getElem_mem hi)
  have key := loop_all (B := spec_l2Space_B0) (fun i => (((L, S), (i : Int), ()), ())) (stateB L) L.length (.inl ((false, ()), ())) (.inr (((L, S), ()), ())) (fun i hi _ => by
    simp only [spec_l2Space_B0, bif_decide, if_pos (show (i : Int) < (L.length : Int) by omega), guardB_true (inb_true (Int.natCast_nonneg i) (show (i : Int) < (L.length : Int) by omega)), Int.toNat_natCast, l2State_eq _ (hlen i hi), w64_succ (show i < 4611686018427387904 by omega), stateB]
    by_cases h6 : i = 0
    · subst h6
      cases goodState (L.getD 0 []) <;> simp
    · rw [w64_pred (by omega) (by omega), guardB_true (inb_true (Int.natCast_nonneg _) (show ((i - 1 : Nat) : Int) < (L.length : Int) by omega)), Int.toNat_natCast, l2Before_eq _ _ (hlen (i - 1) (by omega))]
      cases goodState (L.getD i []) <;> cases lexLt (L.getD (i - 1) []) (L.getD i []) <;> simp [h6, show 0 < i by omega]) (by simp [spec_l2Space_B0])
  simp only [spec_l2Space, bif_decide, spaceB]
  by_cases h1 : L.length ≤ 300
  · rw [if_neg (by omega)]
    by_cases h2 : S.length ≤ 6000
    · rw [if_neg (by omega)]
      erw [key]
      simp only [h1, h2, decide_true, Bool.true_and]
      cases h3 : allUpto (stateB L) L.length
      · rfl
      · simp only [cond_true, l2Pairs_eq S (L.length : Int) hS (by omega) (by omega), Bool.true_and]
    · rw [if_pos (by omega)]; simp [h2]
  · rw [if_pos (by omega)]; simp [h1]
theorem IsSpace_eq (x : List (List Int) × List (Int × Int)) (hx : Few x) : impl_IsSpace (x, ()) () = some ((spaceB x, ()), ()) := by
  obtain ⟨L, S⟩ := x
  have hL := hx.states
  have hs := hx.state
  have hS := hx.steps
  dsimp only at hL hs hS
  have hlen : ∀ i, i < L.length → (L.getD i []).length ≤ 1048576 := fun i hi => by rw [getD_at hi]; exact hs _ (List.getElem_mem hi)
  have key := loop_all (B := impl_IsSpace_B0) (fun i => (((L, S), L, (L.length : Int), (i : Int), ()), ())) (stateB L) L.length (.inl ((false, ()), ())) (.inr (((L, S), ()), ())) (fun i hi _ => by
    simp only [impl_IsSpace_B0, if_pos (show (i : Int) < (L.length : Int) by omega), guardB_true (inb_true (Int.natCast_nonneg i) (show (i : Int) < (L.length : Int) by omega)), Int.toNat_natCast, isState_eq _ (hlen i hi), w64_succ (show i < 4611686018427387904 by omega), stateB]
    by_cases h6 : i = 0
    · subst h6
      cases goodState (L.getD 0 []) <;> simp [hi]
    · rw [w64_pred (by omega) (by omega), guardB_true (inb_true (Int.natCast_nonneg _) (show ((i - 1 : Nat) : Int) < (L.length : Int) by omega)), Int.toNat_natCast, Compare_eq _ _ (hlen (i - 1) (by omega))]
      simp only [lexCmp_lt]
      cases goodState (L.getD i []) <;> cases lexLt (L.getD (i - 1) []) (L.getD i []) <;> simp [h6, hi, show 0 < i by omega]) (by simp [impl_IsSpace_B0])
  simp only [impl_IsSpace, bif_decide, spaceB]
  by_cases h1 : L.length ≤ 300
  · rw [if_neg (by omega)]
    by_cases h2 : S.length ≤ 6000
    · rw [if_neg (by omega)]
      erw [key]
      simp only [h1, h2, decide_true, Bool.true_and]
      cases h3 : allUpto (stateB L) L.length
      · rfl
      · simp only [cond_true, isPairs_eq S (L.length : Int) hS, Bool.true_and]
    · rw [if_pos (by omega)]; simp [h2]
  · rw [if_pos (by omega)]; simp [h1]

theorem firstIdx_range {p : Nat → Bool} : ∀ (d k : Nat), firstIdx p k d < 0 → firstIdx p k d = -1
  | 0, k, _ => rfl
  | d + 1, k, h => by
    simp only [firstIdx] at h ⊢
    split
    · rename_i g; rw [if_pos g] at h; omega
    · rename_i g; rw [if_neg g] at h; exact firstIdx_range d (k + 1) h
def rows {α : Type} (n : Nat) (F : Nat → α) : List α := (List.range n).map F
theorem rows_len {α : Type} {n : Nat} {F : Nat → α} : (rows n F).length = n := by simp [rows]
theorem rows_get {α : Type} {n i : Nat} {F : Nat → α} (h : i < n) (d : α) : (rows n F).getD i d = F i := by simp [rows, List.getD, h]
theorem rows_set {α : Type} {n i : Nat} {F : Nat → α} (v : α) : (rows n F).set i v = rows n (fun j => if j = i then v else F j) := by
  apply List.ext_getElem
  · simp [rows]
  · intro j h1 h2
    simp only [rows, List.getElem_set, List.getElem_map, List.getElem_range]
    by_cases h : i = j
    · subst h; simp
    · rw [if_neg h, if_neg (fun e => h e.symm)]
theorem rows_congr {α : Type} {n : Nat} {F G : Nat → α} (h : ∀ j, j < n → F j = G j) : rows n F = rows n G := by
  apply List.map_congr_left
  intro j hj
  exact h j (by simpa using hj)
theorem rows_rep {α : Type} {n : Nat} (d : α) : List.replicate n d = rows n (fun _ => d) := by
  apply List.ext_getElem
  · simp [rows]
  · intro j h1 h2; simp [rows]
theorem take_one {α : Type} {l : List α} {i : Nat} (h : i < l.length) (d : α) : l.take (i + 1) = l.take i ++ [l.getD i d] := by
  rw [getD_at h, List.take_succ_eq_append_getElem h]
/-- steps: pairs of places -/
def StepsOk (S : List (Int × Int)) (n : Nat) : Prop := ∀ i, i < S.length → ∃ a b : Nat, S.getD i (0, 0) = ((a : Int), (b : Int)) ∧ a < b ∧ b < n
theorem pairsB_at {S : List (Int × Int)} {n : Nat} (h : pairsB S n = true) (i : Nat) (hi : i < S.length) : pairB S n i = true := allUpto_iff.1 h i hi
theorem pairsB_ok {S : List (Int × Int)} {n : Nat} (h : pairsB S n = true) : StepsOk S n := by
  intro i hi
  have := pairsB_at h i hi
  simp only [pairB, Bool.and_eq_true, decide_eq_true_eq] at this
  obtain ⟨h1, h2, h3, _⟩ := this
  generalize S.getD i (0, 0) = e at h1 h2 h3
  obtain ⟨a, b⟩ := e
  simp only at h1 h2 h3
  exact ⟨a.toNat, b.toNat, by rw [Int.toNat_of_nonneg h1, Int.toNat_of_nonneg (by omega)], by omega, by omega⟩
def cntLt (n : Int) : List Int → Nat
  | [] => 0
  | x :: l => if x < n then cntLt n l + 1 else 0
theorem cntLt_le (n : Int) : ∀ l : List Int, cntLt n l ≤ l.length
  | [] => Nat.le_refl _
  | x :: l => by
    simp only [cntLt, List.length_cons]
    have := cntLt_le n l
    split <;> omega
theorem cntLt_lt (n : Int) : ∀ (l : List Int) (i : Nat), i < cntLt n l → l.getD i 0 < n
  | [], i, h => by simp [cntLt] at h
  | x :: l, i, h => by
    simp only [cntLt] at h
    split at h
    · rename_i hx
      cases i with
      | zero => simpa using hx
      | succ i => simpa using cntLt_lt n l i (by omega)
    · omega
theorem cntLt_ge (n : Int) : ∀ (l : List Int), cntLt n l < l.length → ¬ l.getD (cntLt n l) 0 < n
  | [], h => by simp at h
  | x :: l, h => by
    simp only [cntLt, List.length_cons] at h ⊢
    split
    · rename_i hx
      rw [if_pos hx] at h
      simpa using cntLt_ge n l (by omega)
    · rename_i hx; simpa using hx
theorem l1Own_eq (l : List Int) (hl : l.length ≤ 1048576) : spec_l1Own (l, ()) () = some ((l, ()), ()) := by
  simp only [spec_l1Own, List.nil_append]
  rw [guardB_true (by simp; omega)]

theorem flatMap_len {α β : Type} (f : α → List β) (m : Nat) : ∀ l : List α, (∀ x, (f x).length ≤ m) → (l.flatMap f).length ≤ l.length * m
  | [], _ => by simp
  | x :: l, h => by
    rw [List.flatMap_cons, List.length_append, List.length_cons, Nat.add_mul, Nat.one_mul]
    have := flatMap_len f m l h
    have := h x
    omega
def iota (k : Int) (n : Nat) : List Int := rows n fun i => k + (i : Int)
def tot : List (List Int) → Nat
  | [] => 0
  | l :: L => l.length + tot L
def iotas (k : Int) : List (List Int) → List (List Int)
  | [] => []
  | l :: L => iota k l.length :: iotas (k + (l.length : Int)) L
theorem tot_snoc : ∀ (L : List (List Int)) (l : List Int), tot (L ++ [l]) = tot L + l.length
  | [], l => by simp [tot]
  | x :: L, l => by simp only [List.cons_append, tot, tot_snoc L l]; omega
theorem iotas_snoc : ∀ (L : List (List Int)) (l : List Int) (k : Int), iotas k (L ++ [l]) = iotas k L ++ [iota (k + (tot L : Int)) l.length]
  | [], l, k => by simp [iotas, tot]
  | x :: L, l, k => by
    simp only [List.cons_append, iotas, tot, iotas_snoc L l]
    rw [show k + (x.length : Int) + (tot L : Int) = k + ((x.length + tot L : Nat) : Int) by omega]
theorem iotas_len : ∀ (L : List (List Int)) (k : Int), (iotas k L).length = L.length
  | [], k => rfl
  | x :: L, k => by simp [iotas, iotas_len L]
theorem tot_take (L : List (List Int)) : ∀ i, tot (L.take i) ≤ tot L
  | 0 => by simp [tot]
  | i + 1 => by
    cases L with
    | nil => simp [tot]
    | cons x L =>
      simp only [List.take_succ_cons, tot]
      have := tot_take L i
      omega
theorem tot_bound {m : Nat} : ∀ (L : List (List Int)), (∀ l ∈ L, l.length ≤ m) → tot L ≤ L.length * m
  | [], _ => by simp [tot]
  | x :: L, h => by
    simp only [tot, List.length_cons, Nat.add_mul, Nat.one_mul]
    have := tot_bound L fun l hl => h l (by simp [hl])
    have := h x (by simp)
    omega
theorem w64_nat {x : Int} (h0 : 0 ≤ x) (h : x ≤ 4611686018427387904) : w64 (x + 1) = x + 1 := w64_of (by omega) (by omega)
theorem markIntS_eq (l : List Int) (k : Int) (h0 : 0 ≤ k) (hk : k + (l.length : Int) ≤ 4611686018427387000) : laws_markIntS_e0v_ls (k, ()) (l, ()) = some ((k + (l.length : Int), ()), (iota k l.length, ())) := by
  have key := loop_count (B := laws_markIntS_e0v_ls_B0) (fun i => ((k + (i : Int), (i : Int), ()), (rows l.length (fun j => if j < i then k + (j : Int) else l.getD j 0), ()))) l.length ((k + (l.length : Int), ()), (rows l.length (fun j => if j < l.length then k + (j : Int) else l.getD j 0), ())) (fun i hi => by
    simp only [laws_markIntS_e0v_ls_B0, rows_len, bif_decide, if_pos (show (i : Int) < (l.length : Int) by omega), guardB_true (inb_true (Int.natCast_nonneg i) (show (i : Int) < (l.length : Int) by omega)), Int.toNat_natCast, w64_succ (show i < 4611686018427387904 by omega), w64_nat (x := k + (i : Int)) (by omega) (by omega), rows_set]
    have : rows l.length (fun j => if j = i then k + (i : Int) else if j < i then k + (j : Int) else l.getD j 0) = rows l.length (fun j => if j < i + 1 then k + (j : Int) else l.getD j 0) := rows_congr fun j _ => by
      by_cases h : j = i
      · subst h; rw [if_pos rfl, if_pos (by omega)]
      · by_cases h2 : j < i
        · rw [if_neg h, if_pos h2, if_pos (by omega)]
        · rw [if_neg h, if_neg h2, if_neg (by omega)]
    rw [this, show k + (i : Int) + 1 = k + ((i + 1 : Nat) : Int) by omega]) (by simp only [laws_markIntS_e0v_ls_B0, rows_len, bif_decide, if_neg (show ¬ (l.length : Int) < (l.length : Int) by omega)]) 0 (Nat.zero_le _)
  have z0 : rows l.length (fun j => if j < 0 then k + (j : Int) else l.getD j 0) = l := by
    rw [show rows l.length (fun j => if j < 0 then k + (j : Int) else l.getD j 0) = rows l.length (fun j => l.getD j 0) from rows_congr fun j _ => by simp]
    exact range_getD l 0
  have z1 : rows l.length (fun j => if j < l.length then k + (j : Int) else l.getD j 0) = iota k l.length := rows_congr fun j hj => by simp [hj]
  rw [z0, z1] at key
  simp only [laws_markIntS_e0v_ls]
  rw [show k + ((0 : Nat) : Int) = k by omega] at key
  erw [key]
theorem heldIntS_eq (n : Nat) (k : Int) (h0 : 0 ≤ k) (hk : k + (n : Int) ≤ 4611686018427387000) : laws_heldIntS (iota k n, k, ()) () = some ((k + (n : Int), ()), ()) := by
  have key := loop_count (B := laws_heldIntS_B0) (fun i => ((iota k n, k + (i : Int), (i : Int), ()), ())) n (.inr ((k + (n : Int), ()), ())) (fun i hi => by
    simp only [laws_heldIntS_B0, iota, rows_len, bif_decide, if_pos (show (i : Int) < (n : Int) by omega), guardB_true (inb_true (Int.natCast_nonneg i) (show (i : Int) < (n : Int) by omega)), Int.toNat_natCast, w64_succ (show i < 4611686018427387904 by omega), w64_nat (x := k + (i : Int)) (by omega) (by omega), rows_get hi]
    rw [bne_eq rfl, show k + (i : Int) + 1 = k + ((i + 1 : Nat) : Int) by omega]
    rfl) (by simp only [laws_heldIntS_B0, iota, rows_len, bif_decide, if_neg (show ¬ (n : Int) < (n : Int) by omega)]) 0 (Nat.zero_le _)
  simp only [laws_heldIntS]
  rw [show k + ((0 : Nat) : Int) = k by omega] at key
  erw [key]
theorem set_mid {α : Type} (A B : List α) (x y : α) : (A ++ x :: B).set A.length y = A ++ y :: B := by simp
theorem markIntSS_eq (L : List (List Int)) (k : Int) (h0 : 0 ≤ k) (hk : k + (tot L : Int) ≤ 4611686018427386000) (hL : L.length ≤ 2000000000000) : laws_markIntSS_e0v_l1 (k, ()) (L, ()) = some ((k + (tot L : Int), ()), (iotas k L, ())) := by
  have key := loop_count (B := laws_markIntSS_e0v_l1_B0) (fun i => ((k + (tot (L.take i) : Int), (i : Int), ()), (iotas k (L.take i) ++ L.drop i, ()))) L.length ((k + (tot (L.take L.length) : Int), ()), (iotas k (L.take L.length) ++ L.drop L.length, ())) (fun i hi => by
    have hlen : (iotas k (L.take i) ++ L.drop i).length = L.length := by simp only [List.length_append, iotas_len, List.length_take, List.length_drop]; omega
    have hli : (iotas k (L.take i)).length = i := by simp only [iotas_len, List.length_take]; omega
    have hget : (iotas k (L.take i) ++ L.drop i).getD i [] = L.getD i [] := by
      rw [getD_at hi, getD_at (by omega), List.getElem_append_right (by omega)]
      simp [hli]
    have ht := tot_take L (i + 1)
    rw [take_one hi [], tot_snoc] at ht
    simp only [laws_markIntSS_e0v_l1_B0, hlen, bif_decide, if_pos (show (i : Int) < (L.length : Int) by omega), guardB_true (inb_true (Int.natCast_nonneg i) (show (i : Int) < (L.length : Int) by omega)), Int.toNat_natCast, hget]
    rw [markIntS_eq _ _ (by omega) (by omega)]
    simp only [w64_succ (show i < 4611686018427387904 by omega)]
    have hset : (iotas k (L.take i) ++ L.drop i).set i (iota (k + (tot (L.take i) : Int)) (L.getD i []).length) = iotas k (L.take (i + 1)) ++ L.drop (i + 1) := by
      rw [List.drop_eq_getElem_cons hi, take_one hi [], iotas_snoc, List.append_assoc]
      have := set_mid (iotas k (L.take i)) (L.drop (i + 1)) L[i] (iota (k + (tot (L.take i) : Int)) (L.getD i []).length)
      rw [hli] at this
      rw [this]
      rfl
    rw [hset, take_one hi [], tot_snoc, show k + (tot (L.take i) : Int) + ((L.getD i []).length : Int) = k + ((tot (L.take i) + (L.getD i []).length : Nat) : Int) by omega]) (by
      have hlen : (iotas k (L.take L.length) ++ L.drop L.length).length = L.length := by simp only [List.length_append, iotas_len, List.length_take, List.length_drop]; omega
      simp only [laws_markIntSS_e0v_l1_B0, hlen, bif_decide, if_neg (show ¬ (L.length : Int) < (L.length : Int) by omega)]) 0 (Nat.zero_le _)
  simp only [List.take_length, List.drop_length, List.append_nil, List.take_zero, List.drop_zero, iotas, List.nil_append, tot] at key
  rw [show k + ((0 : Nat) : Int) = k by omega] at key
  simp only [laws_markIntSS_e0v_l1]
  erw [key]
theorem iotas_get : ∀ (L : List (List Int)) (k : Int) (i : Nat), i < L.length → (iotas k L).getD i [] = iota (k + (tot (L.take i) : Int)) (L.getD i []).length
  | [], k, i, h => by simp at h
  | x :: L, k, 0, h => by simp [iotas, tot]
  | x :: L, k, i + 1, h => by
    have := iotas_get L (k + (x.length : Int)) i (by simpa using h)
    simp only [iotas, List.getD_cons_succ, List.take_succ_cons, tot, this]
    rw [show k + (x.length : Int) + (tot (L.take i) : Int) = k + ((x.length + tot (L.take i) : Nat) : Int) by omega]
theorem heldIntSS_eq (L : List (List Int)) (k : Int) (h0 : 0 ≤ k) (hk : k + (tot L : Int) ≤ 4611686018427386000) (hL : L.length ≤ 2000000000000) : laws_heldIntSS (iotas k L, k, ()) () = some ((k + (tot L : Int), ()), ()) := by
  have key := loop_count (B := laws_heldIntSS_B0) (fun i => ((iotas k L, k + (tot (L.take i) : Int), (i : Int), ()), ())) L.length (.inr ((k + (tot (L.take L.length) : Int), ()), ())) (fun i hi => by
    have ht := tot_take L (i + 1)
    rw [take_one hi [], tot_snoc] at ht
    simp only [laws_heldIntSS_B0, iotas_len, bif_decide, if_pos (show (i : Int) < (L.length : Int) by omega), guardB_true (inb_true (Int.natCast_nonneg i) (show (i : Int) < (L.length : Int) by omega)), Int.toNat_natCast, iotas_get L k i hi]
    rw [heldIntS_eq _ _ (by omega) (by omega)]
    simp only [w64_succ (show i < 4611686018427387904 by omega), if_neg (show ¬ (k + (tot (L.take i) : Int) + ((L.getD i []).length : Int)) < 0 by omega)]
    rw [take_one hi [], tot_snoc, show k + (tot (L.take i) : Int) + ((L.getD i []).length : Int) = k + ((tot (L.take i) + (L.getD i []).length : Nat) : Int) by omega]) (by
      simp only [laws_heldIntSS_B0, iotas_len, bif_decide, if_neg (show ¬ (L.length : Int) < (L.length : Int) by omega)]) 0 (Nat.zero_le _)
  simp only [List.take_length, List.take_zero, tot] at key
  rw [show k + ((0 : Nat) : Int) = k by omega] at key
  simp only [laws_heldIntSS]
  erw [key]
theorem wrapU {x : Int} (h0 : 0 ≤ x) (h : x < 18446744073709551616) : IntKind.wrap .u64 x = x := by
  simp only [IntKind.wrap, IntKind.bits, IntKind.signed]
  simp
  omega
theorem getD_in {l : List Int} {k : Nat} (h : k < l.length) : l.getD k 0 ∈ l := by rw [getD_at h]; exact List.getElem_mem h
theorem spec_l11Numbers_B0_at (list : List (Int)) (n : Int) (i : Int) : spec_l11Numbers_B0 ((list, n, i, ()), ()) = bif (decide (i < (List.length list : Int))) then (guardB (inb i (List.length list)) (match spec_l1In ((List.getD list (Int.toNat i) (0 : Int)), (0 : Int), (999 : Int), ()) () with | some ((r, ()), ()) => (bif (!r) then (some (.inr (.inl ((false, ()), ())))) else (some (.inl ((list, n, (w64 (i + (1 : Int))), ()), ())))) | none => none)) else (some (.inr (.inr ((list, n, ()), ())))) := rfl
theorem slices_IndexFunc_int_int_vf_impl_areLoads_1_B0_at (s : List (Int)) (t7 : Int) (t8 : Int) : slices_IndexFunc_int_int_vf_impl_areLoads_1_B0 ((s, t7, t8, ()), ()) = bif (decide (t8 < t7)) then (guardB (inb t8 (List.length s)) (match impl_areLoads_1 ((List.getD s (Int.toNat t8) (0 : Int)), ()) () with | some ((r, ()), ()) => (bif r then (some (.inr (.inl ((t8, ()), ())))) else (some (.inl ((s, t7, (w64 (t8 + (1 : Int))), ()), ())))) | none => none)) else (some (.inr (.inr ((), ())))) := rfl
theorem spec_l11Under_B0_at (heights : List (Int)) (level : Int) (out : List (Int)) (i : Int) : spec_l11Under_B0 ((heights, level, out, i, ()), ()) = bif (decide (i < (List.length heights : Int))) then (guardB (inb i (List.length heights)) (bif (decide ((List.getD heights (Int.toNat i) (0 : Int)) ≤ level)) then (guardB (decide ((List.length out + List.length [i]) * 8 ≤ 70368744177664)) (some (.inl ((heights, level, (out ++ [i]), (w64 (i + (1 : Int))), ()), ())))) else (some (.inl ((heights, level, out, (w64 (i + (1 : Int))), ()), ()))))) else (some (.inr ((out, ()), ()))) := rfl
theorem impl_below_B0_at (level : Int) (out : List (Int)) (t9 : List (Int)) (t10 : Int) (t11 : Int) : impl_below_B0 ((level, out, t9, t10, t11, ()), ()) = bif (decide (t11 < t10)) then (guardB (inb t11 (List.length t9)) (bif (decide ((List.getD t9 (Int.toNat t11) (0 : Int)) ≤ level)) then (guardB (decide ((List.length out + List.length [t11]) * 8 ≤ 70368744177664)) (some (.inl ((level, (out ++ [t11]), t9, t10, (w64 (t11 + (1 : Int))), ()), ())))) else (some (.inl ((level, out, t9, t10, (w64 (t11 + (1 : Int))), ()), ()))))) else (some (.inr ((out, ()), ()))) := rfl
def loadB (n : Int) : Bool := inR n 0 999
def loadsB (m : Nat) (l : List Int) : Bool := decide (l.length = m) && l.all loadB
theorem l11Numbers_eq (l : List Int) (m : Nat) (hl : l.length ≤ 1048576) : spec_l11Numbers (l, (m : Int), ()) () = some ((loadsB m l, ()), ()) := by
  have key := loop_all (B := spec_l11Numbers_B0) (fun i => ((l, (m : Int), (i : Int), ()), ())) (fun i => loadB (l.getD i 0)) l.length (.inl ((false, ()), ())) (.inr ((l, (m : Int), ()), ())) (fun i hi _ => by
    rw [spec_l11Numbers_B0_at]
    simp only [bif_decide, if_pos (show (i : Int) < (l.length : Int) by omega), guardB_true (inb_true (Int.natCast_nonneg i) (show (i : Int) < (l.length : Int) by omega)), Int.toNat_natCast, l1In_eq _ _ _, w64_succ (show i < 4611686018427387904 by omega), loadB]
    cases inR (l.getD i 0) 0 999 <;> rfl) (by rw [spec_l11Numbers_B0_at]; simp)
  rw [allUpto_getD] at key
  simp only [spec_l11Numbers]
  erw [key]
  have e : ((l.length : Int) == (m : Int)) = decide (l.length = m) := by
    by_cases h : l.length = m
    · simp [h]
    · rw [beq_ne (by omega), decide_eq_false h]
  cases h : l.all loadB
  · simp [loadsB, h]
  · simp [loadsB, h, e]
theorem areLoads_eq (l : List Int) (m : Nat) (hl : l.length ≤ 1048576) : impl_areLoads (l, (m : Int), ()) () = some ((loadsB m l, ()), ()) := by
  have k1 : ∀ n : Int, impl_areLoads_1 (n, ()) () = some (((!loadB n), ()), ()) := fun n => by simp only [impl_areLoads_1, between_eq _ _ _, loadB]
  have key := loop_idx (B := slices_IndexFunc_int_int_vf_impl_areLoads_1_B0) (fun i => ((l, (l.length : Int), (i : Int), ()), ())) (fun i => !loadB (l.getD i 0)) l.length (fun i => .inl ((i, ()), ())) (.inr ((), ())) (fun i hi => by
    rw [slices_IndexFunc_int_int_vf_impl_areLoads_1_B0_at]
    simp only [bif_decide, if_pos (show (i : Int) < (l.length : Int) by omega), guardB_true (inb_true (Int.natCast_nonneg i) (show (i : Int) < (l.length : Int) by omega)), Int.toNat_natCast, k1, w64_succ (show i < 4611686018427387904 by omega)]
    cases loadB (l.getD i 0) <;> rfl) (by rw [slices_IndexFunc_int_int_vf_impl_areLoads_1_B0_at]; simp)
  have k2 : slices_IndexFunc_int_int_vf_impl_areLoads_1 (l, ()) () = some ((firstIdx (fun i => !loadB (l.getD i 0)) 0 l.length, ()), ()) := by
    simp only [slices_IndexFunc_int_int_vf_impl_areLoads_1]
    erw [key]
    by_cases h : firstIdx (fun i => !loadB (l.getD i 0)) 0 l.length < 0
    · rw [if_pos h, firstIdx_range _ _ h]
    · rw [if_neg h]
  have e : allUpto (fun i => !!loadB (l.getD (0 + i) 0)) l.length = l.all loadB := by
    rw [← allUpto_getD]; congr 1; funext i; simp
  simp only [impl_areLoads, slices_ContainsFunc_int_int_vf_impl_areLoads_1, k2, firstIdx_neg, e]
  by_cases h : l.length = m
  · rw [show ((l.length : Int) == (m : Int)) = true by simp [h]]; simp [loadsB, h]
  · rw [show ((l.length : Int) == (m : Int)) = false from beq_ne (by omega)]; simp [loadsB, h]
def underFrom (t : Int) (k : Nat) : List Int → List Int
  | [] => []
  | h :: l => if h ≤ t then (k : Int) :: underFrom t (k + 1) l else underFrom t (k + 1) l
def under (t : Int) (l : List Int) : List Int := underFrom t 0 l
theorem underFrom_snoc (t x : Int) : ∀ (l : List Int) (k : Nat), underFrom t k (l ++ [x]) = underFrom t k l ++ (if x ≤ t then [((k + l.length : Nat) : Int)] else [])
  | [], k => by by_cases h : x ≤ t <;> simp [underFrom, h]
  | y :: l, k => by
    simp only [List.cons_append, underFrom, underFrom_snoc t x l (k + 1), List.length_cons, show k + 1 + l.length = k + (l.length + 1) by omega]
    by_cases h : y ≤ t
    · rw [if_pos h, if_pos h]; rfl
    · rw [if_neg h, if_neg h]
theorem underFrom_len (t : Int) : ∀ (l : List Int) (k : Nat), (underFrom t k l).length ≤ l.length
  | [], k => by simp [underFrom]
  | y :: l, k => by
    have := underFrom_len t l (k + 1)
    simp only [underFrom, List.length_cons]
    split <;> simp <;> omega
theorem underFrom_mem {t : Int} {x : Int} : ∀ {l : List Int} {k : Nat}, x ∈ underFrom t k l → (k : Int) ≤ x ∧ x < k + l.length
  | [], k, h => by simp [underFrom] at h
  | y :: l, k, h => by
    simp only [underFrom] at h
    simp only [List.length_cons]
    split at h
    · rcases List.mem_cons.1 h with h | h
      · omega
      · have := underFrom_mem h; omega
    · have := underFrom_mem h; omega
theorem underFrom_sorted (t : Int) : ∀ (l : List Int) (k : Nat), (underFrom t k l).Pairwise (· < ·)
  | [], k => by simp [underFrom]
  | y :: l, k => by
    simp only [underFrom]
    split
    · refine List.pairwise_cons.2 ⟨fun x hx => ?_, underFrom_sorted t l (k + 1)⟩
      have := underFrom_mem hx; omega
    · exact underFrom_sorted t l (k + 1)
theorem under_sorted (t : Int) (l : List Int) : (under t l).Pairwise (· < ·) := underFrom_sorted t l 0
theorem under_mem {t x : Int} {l : List Int} (h : x ∈ under t l) : 0 ≤ x ∧ x < l.length := by have := underFrom_mem h; omega
theorem l11Under_eq (l : List Int) (t : Int) (hl : l.length ≤ 1048576) : spec_l11Under (l, t, ()) () = some ((under t l, ()), ()) := by
  have key := loop_count (B := spec_l11Under_B0) (fun i => ((l, t, under t (l.take i), (i : Int), ()), ())) l.length ((under t l, ()), ()) (fun i hi => by
    have hs : under t (l.take (i + 1)) = under t (l.take i) ++ (if l.getD i 0 ≤ t then [(i : Int)] else []) := by
      rw [take_one hi 0, under, underFrom_snoc]; simp [under, Nat.min_eq_left (Nat.le_of_lt hi)]
    have hle : (under t (l.take i)).length ≤ 1048576 := by have := underFrom_len t (l.take i) 0; simp only [List.length_take] at this; unfold under; omega
    rw [spec_l11Under_B0_at]
    simp only [bif_decide, if_pos (show (i : Int) < (l.length : Int) by omega), guardB_true (inb_true (Int.natCast_nonneg i) (show (i : Int) < (l.length : Int) by omega)), Int.toNat_natCast, w64_succ (show i < 4611686018427387904 by omega), hs]
    by_cases h : l.getD i 0 ≤ t
    · rw [if_pos h, if_pos h, guardB_true (by simp only [List.length_singleton, decide_eq_true_eq]; omega)]
    · rw [if_neg h, if_neg h, List.append_nil]) (by rw [spec_l11Under_B0_at]; simp) 0 (Nat.zero_le _)
  simp only [spec_l11Under]
  erw [key]
theorem below_eq (l : List Int) (t : Int) (hl : l.length ≤ 1048576) : impl_below (l, t, ()) () = some ((under t l, ()), ()) := by
  have key := loop_count (B := impl_below_B0) (fun i => ((t, under t (l.take i), l, (l.length : Int), (i : Int), ()), ())) l.length ((under t l, ()), ()) (fun i hi => by
    have hs : under t (l.take (i + 1)) = under t (l.take i) ++ (if l.getD i 0 ≤ t then [(i : Int)] else []) := by
      rw [take_one hi 0, under, underFrom_snoc]; simp [under, Nat.min_eq_left (Nat.le_of_lt hi)]
    have hle : (under t (l.take i)).length ≤ 1048576 := by have := underFrom_len t (l.take i) 0; simp only [List.length_take] at this; unfold under; omega
    rw [impl_below_B0_at]
    simp only [bif_decide, if_pos (show (i : Int) < (l.length : Int) by omega), guardB_true (inb_true (Int.natCast_nonneg i) (show (i : Int) < (l.length : Int) by omega)), Int.toNat_natCast, w64_succ (show i < 4611686018427387904 by omega), hs]
    by_cases h : l.getD i 0 ≤ t
    · rw [if_pos h, if_pos h, guardB_true (by simp only [List.length_singleton, decide_eq_true_eq]; omega)]
    · rw [if_neg h, if_neg h, List.append_nil]) (by rw [impl_below_B0_at]; simp) 0 (Nat.zero_le _)
  simp only [impl_below]
  erw [key]

theorem slices_BinarySearch_int_int_B0_at (x : List (Int)) (target : Int) (n : Int) (i : Int) (j : Int) : slices_BinarySearch_int_int_B0 ((x, target, n, i, j, ()), ()) = bif (decide (i < j)) then (guardB (inb (w64 (Int.fdiv (IntKind.wrap .u64 (w64 (i + j))) (2 ^ (min 1 64)))) (List.length x)) (match cmp_Less_int ((List.getD x (Int.toNat (w64 (Int.fdiv (IntKind.wrap .u64 (w64 (i + j))) (2 ^ (min 1 64))))) (0 : Int)), target, ()) () with | some ((r, ()), ()) => (bif r then (some (.inl ((x, target, n, (w64 ((w64 (Int.fdiv (IntKind.wrap .u64 (w64 (i + j))) (2 ^ (min 1 64)))) + (1 : Int))), j, ()), ()))) else (some (.inl ((x, target, n, i, (w64 (Int.fdiv (IntKind.wrap .u64 (w64 (i + j))) (2 ^ (min 1 64)))), ()), ())))) | none => none)) else (some (.inr ((x, target, n, i, ()), ()))) := rfl
theorem isNaN_cmp (x : Int) : cmp_isNaN_int (x, ()) () = some ((false, ()), ()) := by simp [cmp_isNaN_int]
theorem isNaN_sl (x : Int) : slices_isNaN_int (x, ()) () = some ((false, ()), ()) := by simp [slices_isNaN_int]
theorem Less_eq (x y : Int) : cmp_Less_int (x, y, ()) () = some ((decide (x < y), ()), ()) := by
  simp only [cmp_Less_int, isNaN_cmp x]
  rfl
theorem cntLt_split {l : List Int} (hs : l.Pairwise (· < ·)) (t : Int) : ∀ i, i < l.length → (l.getD i 0 < t ↔ i < cntLt t l) := by
  intro i hi
  constructor
  · intro h
    refine Classical.byContradiction fun hn => ?_
    have hc : cntLt t l < l.length := by omega
    have h1 := cntLt_ge t l hc
    have : l.getD (cntLt t l) 0 ≤ l.getD i 0 := by
      rw [getD_at hc, getD_at hi]
      by_cases he : cntLt t l = i
      · simp [he]
      · have := List.pairwise_iff_getElem.1 hs (cntLt t l) i hc hi (by omega)
        omega
    omega
  · exact cntLt_lt t l i
theorem half_eq {i j : Nat} (h : i + j < 4611686018427387904) : w64 (Int.fdiv (IntKind.wrap .u64 (w64 ((i : Int) + (j : Int)))) (2 ^ (min 1 64))) = (((i + j) / 2 : Nat) : Int) := by
  rw [w64_of (x := (i : Int) + (j : Int)) (by omega) (by omega), wrapU (by omega) (by omega), show (2 : Int) ^ (min 1 64) = 2 by decide, Int.fdiv_eq_ediv_of_nonneg _ (by decide), w64_of (by omega) (by omega)]
  omega
theorem search_loop {l : List Int} (hs : l.Pairwise (· < ·)) (hl : l.length ≤ 1048576) (t : Int) : ∀ (d i j : Nat), j - i ≤ d → i ≤ cntLt t l → cntLt t l ≤ j → j ≤ l.length → loopO slices_BinarySearch_int_int_B0 ((l, t, (l.length : Int), (i : Int), (j : Int), ()), ()) = some ((l, t, (l.length : Int), ((cntLt t l : Nat) : Int), ()), ()) := by
  intro d
  induction d with
  | zero =>
    intro i j hd h1 h2 h3
    refine loop_end ?_
    rw [slices_BinarySearch_int_int_B0_at]
    simp only [bif_decide]
    rw [if_neg (by omega), show i = cntLt t l by omega]
  | succ d ih =>
    intro i j hd h1 h2 h3
    by_cases hij : i < j
    · have hh : (i + j) / 2 < l.length := by omega
      have hp := cntLt_split hs t ((i + j) / 2) hh
      have step : slices_BinarySearch_int_int_B0 ((l, t, (l.length : Int), (i : Int), (j : Int), ()), ()) = some (.inl (if l.getD ((i + j) / 2) 0 < t then ((l, t, (l.length : Int), (((i + j) / 2 + 1 : Nat) : Int), (j : Int), ()), ()) else ((l, t, (l.length : Int), (i : Int), (((i + j) / 2 : Nat) : Int), ()), ()))) := by
        rw [slices_BinarySearch_int_int_B0_at]
        simp only [bif_decide, half_eq (show i + j < 4611686018427387904 by omega), Int.toNat_natCast, w64_succ (show (i + j) / 2 < 4611686018427387904 by omega)]
        rw [if_pos (by omega), guardB_true (by simp [inb] <;> omega)]
        by_cases h : l.getD ((i + j) / 2) 0 < t
        · rw [if_pos h, Less_eq, decide_eq_true h]; rfl
        · rw [if_neg h, Less_eq, decide_eq_false h]; rfl
      by_cases h : l.getD ((i + j) / 2) 0 < t
      · rw [if_pos h] at step
        exact loop_step step (ih _ _ (by omega) (by have := hp.1 h; omega) h2 h3)
      · rw [if_neg h] at step
        exact loop_step step (ih _ _ (by omega) h1 (by have := fun e => h (hp.2 e); omega) (by omega))
    · refine loop_end ?_
      rw [slices_BinarySearch_int_int_B0_at]
      simp only [bif_decide]
      rw [if_neg (by omega), show i = cntLt t l by omega]
theorem cntLt_mem {l : List Int} (hs : l.Pairwise (· < ·)) {t : Int} : t ∈ l ↔ cntLt t l < l.length ∧ l.getD (cntLt t l) 0 = t := by
  constructor
  · intro h
    obtain ⟨i, hi, rfl⟩ := List.getElem_of_mem h
    have h1 := cntLt_split hs l[i] i hi
    rw [getD_at hi] at h1
    have h2 : cntLt l[i] l ≤ i := by have := fun e => Int.lt_irrefl _ (h1.2 e); omega
    have h3 : ¬ cntLt l[i] l < i := by
      intro h4
      have h5 := List.pairwise_iff_getElem.1 hs (cntLt l[i] l) i (by omega) hi h4
      have h6 := cntLt_ge l[i] l (by omega)
      rw [getD_at (by omega)] at h6
      omega
    have h4 : cntLt l[i] l = i := by omega
    rw [h4]
    exact ⟨hi, getD_at hi 0⟩
  · rintro ⟨h1, h2⟩
    rw [← h2]
    exact getD_in h1
theorem BinarySearch_eq {l : List Int} (hs : l.Pairwise (· < ·)) (hl : l.length ≤ 1048576) (t : Int) : slices_BinarySearch_int_int (l, t, ()) () = some ((((cntLt t l : Nat) : Int), decide (t ∈ l), ()), ()) := by
  have key := search_loop hs hl t l.length 0 l.length (by omega) (Nat.zero_le _) (cntLt_le t l) (Nat.le_refl _)
  simp only [slices_BinarySearch_int_int]
  erw [key]
  have hm := cntLt_mem hs (t := t)
  by_cases h : cntLt t l < l.length
  · simp only [bif_decide, Int.toNat_natCast]
    rw [if_pos (show ((cntLt t l : Nat) : Int) < (l.length : Int) by omega), guardB_true (by simp [inb] <;> omega)]
    by_cases h2 : l.getD (cntLt t l) 0 = t
    · rw [decide_eq_true (hm.2 ⟨h, h2⟩)]
      show (bif l.getD (cntLt t l) 0 == t then _ else _) = _
      rw [beq_eq h2]; rfl
    · rw [decide_eq_false (fun e => h2 (hm.1 e).2)]
      show (bif l.getD (cntLt t l) 0 == t then _ else _) = _
      rw [beq_ne h2, guardB_true (by simp [inb] <;> omega), isNaN_sl]; rfl
  · rw [decide_eq_false (fun e => h (hm.1 e).1)]
    simp only [bif_decide]
    rw [if_neg (show ¬ ((cntLt t l : Nat) : Int) < (l.length : Int) by omega)]

theorem impl_isRising_B0_at (list : List (Int)) (below : Int) (t7 : List (Int)) (t8 : Int) (t9 : Int) : impl_isRising_B0 ((list, below, t7, t8, t9, ()), ()) = bif (decide (t9 < t8)) then (guardB (inb t9 (List.length t7)) (match impl_between ((List.getD t7 (Int.toNat t9) (0 : Int)), (0 : Int), (w64 (below - (1 : Int))), ()) () with | some ((r, ()), ()) => (bif (!r) then (some (.inr (.inl ((false, ()), ())))) else (bif (decide ((0 : Int) < t9)) then (guardB (inb (w64 (t9 - (1 : Int))) (List.length list)) (bif (decide ((List.getD t7 (Int.toNat t9) (0 : Int)) ≤ (List.getD list (Int.toNat (w64 (t9 - (1 : Int)))) (0 : Int)))) then (some (.inr (.inl ((false, ()), ())))) else (some (.inl ((list, below, t7, t8, (w64 (t9 + (1 : Int))), ()), ()))))) else (some (.inl ((list, below, t7, t8, (w64 (t9 + (1 : Int))), ()), ()))))) | none => none)) else (some (.inr (.inr ((), ())))) := rfl
theorem spec_l2Induced_B0_at (t1 : List (Int)) (t2 : (List (List (Int))) × (List ((Int) × (Int)))) (t6 : List (Int)) (t7 : Int) (t4 : (List (List (Int))) × (List ((Int) × (Int)))) (t5 : (List (List (Int))) × (List ((Int) × (Int)))) : spec_l2Induced_B0 ((t1, t2, t6, t7, ()), (t4, t5, ())) = bif (decide (t7 < (List.length t6 : Int))) then (guardB (inb t7 (List.length t6)) (some (.inl ((t1, t2, (List.set t6 (Int.toNat t7) (-1 : Int)), (w64 (t7 + (1 : Int))), ()), (t4, t5, ()))))) else (some (.inr ((t1, t2, t6, ()), (t4, t5, ())))) := rfl
theorem spec_l2Induced_B1_at (t1 : List (Int)) (t2 : (List (List (Int))) × (List ((Int) × (Int)))) (t6 : List (Int)) (t8 : Int) (t4 : (List (List (Int))) × (List ((Int) × (Int)))) (t5 : (List (List (Int))) × (List ((Int) × (Int)))) : spec_l2Induced_B1 ((t1, t2, t6, t8, ()), (t4, t5, ())) = bif (decide (t8 < (List.length t1 : Int))) then (guardB (inb t8 (List.length t1)) (guardB (inb (List.getD t1 (Int.toNat t8) (0 : Int)) (List.length t6)) (guardB (inb t8 (List.length t1)) (guardB (inb (List.getD t1 (Int.toNat t8) (0 : Int)) (List.length t2.1)) (match spec_l2Induced_D12 ((t1, t2, (List.set t6 (Int.toNat (List.getD t1 (Int.toNat t8) (0 : Int))) t8), t8, (List.getD t2.1 (Int.toNat (List.getD t1 (Int.toNat t8) (0 : Int))) ([] : (List Int))), ()), (t4, t5, ())) with | some ((t1_2, t2_2, t6_2, t8_2, ()), (t4_2, t5_2, ())) => some (.inl ((t1_2, t2_2, t6_2, (w64 (t8_2 + (1 : Int))), ()), (t4_2, t5_2, ()))) | none => none))))) else (some (.inr ((t2, t6, ()), (t4, t5, ())))) := rfl
theorem spec_l2Induced_B2_at (t2 : (List (List (Int))) × (List ((Int) × (Int)))) (t6 : List (Int)) (t9 : Int) (t4 : (List (List (Int))) × (List ((Int) × (Int)))) (t5 : (List (List (Int))) × (List ((Int) × (Int)))) : spec_l2Induced_B2 ((t2, t6, t9, ()), (t4, t5, ())) = bif (decide (t9 < (List.length t2.2 : Int))) then (guardB (inb t9 (List.length t2.2)) (guardB (inb ((List.getD t2.2 (Int.toNat t9) ((0 : Int), (0 : Int))).1) (List.length t6)) (guardB (inb t9 (List.length t2.2)) (guardB (inb ((List.getD t2.2 (Int.toNat t9) ((0 : Int), (0 : Int))).2) (List.length t6)) (bif (decide ((0 : Int) ≤ (List.getD t6 (Int.toNat ((List.getD t2.2 (Int.toNat t9) ((0 : Int), (0 : Int))).1)) (0 : Int)))) then (bif (decide ((0 : Int) ≤ (List.getD t6 (Int.toNat ((List.getD t2.2 (Int.toNat t9) ((0 : Int), (0 : Int))).2)) (0 : Int)))) then (guardB (decide ((List.length t5.2 + List.length [((List.getD t6 (Int.toNat ((List.getD t2.2 (Int.toNat t9) ((0 : Int), (0 : Int))).1)) (0 : Int)), (List.getD t6 (Int.toNat ((List.getD t2.2 (Int.toNat t9) ((0 : Int), (0 : Int))).2)) (0 : Int)))]) * 16 ≤ 70368744177664)) (some (.inl ((t2, t6, (w64 (t9 + (1 : Int))), ()), (t4, (t5.1, (t5.2 ++ [((List.getD t6 (Int.toNat ((List.getD t2.2 (Int.toNat t9) ((0 : Int), (0 : Int))).1)) (0 : Int)), (List.getD t6 (Int.toNat ((List.getD t2.2 (Int.toNat t9) ((0 : Int), (0 : Int))).2)) (0 : Int)))])), ()))))) else (some (.inl ((t2, t6, (w64 (t9 + (1 : Int))), ()), (t4, t5, ()))))) else (some (.inl ((t2, t6, (w64 (t9 + (1 : Int))), ()), (t4, t5, ()))))))))) else (some (.inr ((), (t4, t5, ())))) := rfl
theorem spec_l2Induced_D12_at (t1 : List (Int)) (t2 : (List (List (Int))) × (List ((Int) × (Int)))) (t6 : List (Int)) (t8 : Int) (t50 : List (Int)) (t4 : (List (List (Int))) × (List ((Int) × (Int)))) (t5 : (List (List (Int))) × (List ((Int) × (Int)))) : spec_l2Induced_D12 ((t1, t2, t6, t8, t50, ()), (t4, t5, ())) = match spec_l1Own (t50, ()) () with | some ((r, ()), ()) => guardB (decide ((List.length t5.1 + List.length [r]) * 24 ≤ 70368744177664)) (some ((t1, t2, t6, t8, ()), (t4, ((t5.1 ++ [r]), t5.2), ()))) | none => none := rfl
theorem spec_l2Induced_D0_at (t1 : List (Int)) (t2 : (List (List (Int))) × (List ((Int) × (Int)))) (t17 : Int) (t4 : (List (List (Int))) × (List ((Int) × (Int)))) : spec_l2Induced_D0 ((t1, t2, t17, ()), (t4, ())) = spec_l2Induced_D1 ((t1, t2, ([] : (List (List Int))), t17, ()), (t4, ())) := rfl
theorem impl_InducedSpace_B0_at (t1 : List (Int)) (t2 : (List (List (Int))) × (List ((Int) × (Int)))) (t28 : List (Int)) (t29 : Int) (t30 : Int) (t4 : (List (List (Int))) × (List ((Int) × (Int)))) (t6 : (List (List (Int))) × (List ((Int) × (Int)))) : impl_InducedSpace_B0 ((t1, t2, t28, t29, t30, ()), (t4, t6, ())) = bif (decide (t30 < t29)) then (guardB (inb t30 (List.length t28)) (guardB (inb (List.getD t28 (Int.toNat t30) (0 : Int)) (List.length t2.1)) (match impl_InducedSpace_D0 ((t1, t2, t28, t29, t30, (List.getD t2.1 (Int.toNat (List.getD t28 (Int.toNat t30) (0 : Int))) ([] : (List Int))), ()), (t4, t6, ())) with | some ((t1_2, t2_2, t28_2, t29_2, t30_2, ()), (t4_2, t6_2, ())) => some (.inl ((t1_2, t2_2, t28_2, t29_2, (w64 (t30_2 + (1 : Int))), ()), (t4_2, t6_2, ()))) | none => none))) else (some (.inr ((t1, t2, ()), (t4, t6, ())))) := rfl
theorem impl_InducedSpace_B1_at (t1 : List (Int)) (t47 : List ((Int) × (Int))) (t48 : Int) (t49 : Int) (t4 : (List (List (Int))) × (List ((Int) × (Int)))) (t6 : (List (List (Int))) × (List ((Int) × (Int)))) : impl_InducedSpace_B1 ((t1, t47, t48, t49, ()), (t4, t6, ())) = bif (decide (t49 < t48)) then (guardB (inb t49 (List.length t47)) (match slices_BinarySearch_int_int (t1, (List.getD t47 (Int.toNat t49) ((0 : Int), (0 : Int))).1, ()) () with | some ((r, r2, ()), ()) => (match slices_BinarySearch_int_int (t1, (List.getD t47 (Int.toNat t49) ((0 : Int), (0 : Int))).2, ()) () with | some ((r3, r4, ()), ()) => (bif r2 then (bif r4 then (guardB (decide ((List.length t6.2 + List.length [(r, r3)]) * 16 ≤ 70368744177664)) (some (.inl ((t1, t47, t48, (w64 (t49 + (1 : Int))), ()), (t4, (t6.1, (t6.2 ++ [(r, r3)])), ()))))) else (some (.inl ((t1, t47, t48, (w64 (t49 + (1 : Int))), ()), (t4, t6, ()))))) else (some (.inl ((t1, t47, t48, (w64 (t49 + (1 : Int))), ()), (t4, t6, ()))))) | none => none) | none => none)) else (some (.inr ((), (t4, t6, ())))) := rfl
theorem impl_InducedSpace_D0_at (t1 : List (Int)) (t2 : (List (List (Int))) × (List ((Int) × (Int)))) (t28 : List (Int)) (t29 : Int) (t30 : Int) (t40 : List (Int)) (t4 : (List (List (Int))) × (List ((Int) × (Int)))) (t6 : (List (List (Int))) × (List ((Int) × (Int)))) : impl_InducedSpace_D0 ((t1, t2, t28, t29, t30, t40, ()), (t4, t6, ())) = match slices_Clone_int_int (t40, ()) () with | some ((r, ()), ()) => guardB (decide ((List.length t6.1 + List.length [r]) * 24 ≤ 70368744177664)) (some ((t1, t2, t28, t29, t30, ()), (t4, ((t6.1 ++ [r]), t6.2), ()))) | none => none := rfl
theorem spec_l2Induced_D1_at (t1 : List (Int)) (t2 : (List (List (Int))) × (List ((Int) × (Int)))) (t12 : List (List (Int))) (t17 : Int) (t4 : (List (List (Int))) × (List ((Int) × (Int)))) : spec_l2Induced_D1 ((t1, t2, t12, t17, ()), (t4, ())) = spec_l2Induced_D2 ((t1, t2, t12, ([] : (List (Int × Int))), ((), ()), t17, ()), (t4, ())) := rfl
theorem cntLt_get {l : List Int} (hs : l.Pairwise (· < ·)) {i : Nat} (hi : i < l.length) : cntLt (l.getD i 0) l = i := by
  have h1 := cntLt_split hs (l.getD i 0) i hi
  have h2 : cntLt (l.getD i 0) l ≤ i := by have := fun e => Int.lt_irrefl _ (h1.2 e); omega
  have h3 : ¬ cntLt (l.getD i 0) l < i := by
    intro h4
    have h5 := List.pairwise_iff_getElem.1 hs (cntLt (l.getD i 0) l) i (by omega) hi h4
    have h6 := cntLt_ge (l.getD i 0) l (by omega)
    rw [← getD_at (show cntLt (l.getD i 0) l < l.length by omega) 0, ← getD_at hi 0] at h5
    omega
  omega
def posOf (u : List Int) (v : Int) : Int := if v ∈ u then ((cntLt v u : Nat) : Int) else -1
def indE (u : List Int) (e : Int × Int) : List (Int × Int) := if e.1 ∈ u ∧ e.2 ∈ u then [(((cntLt e.1 u : Nat) : Int), ((cntLt e.2 u : Nat) : Int))] else []
def indS (u : List Int) (S : List (Int × Int)) : List (Int × Int) := S.flatMap (indE u)
def indL (u : List Int) (L : List (List Int)) : List (List Int) := u.map fun v => L.getD v.toNat []
def induced (u : List Int) (x : List (List Int) × List (Int × Int)) : List (List Int) × List (Int × Int) := (indL u x.1, indS u x.2)
theorem indS_snoc (u : List Int) {S : List (Int × Int)} {i : Nat} (h : i < S.length) : indS u (S.take (i + 1)) = indS u (S.take i) ++ indE u (S.getD i (0, 0)) := by
  rw [take_one h (0, 0)]; simp [indS]
theorem indE_len (u : List Int) (e : Int × Int) : (indE u e).length ≤ 1 := by unfold indE; split <;> simp
theorem indS_len (u : List Int) (S : List (Int × Int)) : (indS u S).length ≤ S.length := by
  have := flatMap_len (indE u) 1 S (fun e => indE_len u e)
  unfold indS; omega
theorem posOf_mem {u : List Int} {v : Int} : 0 ≤ posOf u v ↔ v ∈ u := by
  unfold posOf; split
  · rename_i h; exact ⟨fun _ => h, fun _ => by omega⟩
  · rename_i h; exact ⟨fun e => by omega, fun e => absurd e h⟩
def tabAt (n : Nat) (u : List Int) (i : Nat) : List Int := rows n fun v => if (v : Int) ∈ u.take i then ((cntLt (v : Int) u : Nat) : Int) else -1
theorem tabAt_zero (n : Nat) (u : List Int) : tabAt n u 0 = List.replicate n (-1) := by
  rw [rows_rep]; exact rows_congr fun j hj => by simp
theorem tabAt_set {n : Nat} {u : List Int} (hs : u.Pairwise (· < ·)) {i : Nat} (hi : i < u.length) (h0 : 0 ≤ u.getD i 0) : (tabAt n u i).set (u.getD i 0).toNat (i : Int) = tabAt n u (i + 1) := by
  unfold tabAt
  rw [rows_set, take_one hi 0]
  refine rows_congr fun j hj => ?_
  by_cases h : j = (u.getD i 0).toNat
  · rw [if_pos h]
    have e : (j : Int) = u.getD i 0 := by omega
    rw [e, if_pos (by simp), cntLt_get hs hi]
  · rw [if_neg h]
    have e : ¬ (j : Int) = u.getD i 0 := by omega
    simp only [List.mem_append, List.mem_singleton, e, or_false]
theorem l2Induced_eq (x : List (List Int) × List (Int × Int)) (u : List Int) (hs : u.Pairwise (· < ·)) (hr : ∀ v ∈ u, 0 ≤ v ∧ v < x.1.length) (hS : StepsOk x.2 x.1.length) (hn : x.1.length ≤ 1048576) (h2 : x.2.length ≤ 1048576) (hu : u.length ≤ 1048576) (hrow : ∀ i, (x.1.getD i []).length ≤ 1048576) :
    spec_l2Induced (x, u, ()) () = some ((induced u x, ()), ()) := by
  have d0 : spec_l2Induced_D0 ((u, x, (x.1.length : Int), ()), ((([] : (List (List Int))), ([] : (List (Int × Int)))), ())) = some ((u, x, List.replicate x.1.length 0, ()), ((([] : (List (List Int))), ([] : (List (Int × Int)))), (([] : (List (List Int))), ([] : (List (Int × Int)))), ())) := by
    rw [spec_l2Induced_D0_at, spec_l2Induced_D1_at]
    show guardB (decide (0 ≤ (x.1.length : Int)) && decide ((x.1.length : Int) ≤ (x.1.length : Int)) && decide ((x.1.length : Int) * 8 ≤ 140737488355328)) (some ((u, x, List.replicate (Int.toNat (x.1.length : Int)) 0, ()), ((([] : (List (List Int))), ([] : (List (Int × Int)))), (([] : (List (List Int))), ([] : (List (Int × Int)))), ()))) = _
    rw [guardB_true (by simp <;> omega), Int.toNat_natCast]
  have b0 : ∀ t4 t5 : List (List Int) × List (Int × Int), loopO spec_l2Induced_B0 ((u, x, List.replicate x.1.length 0, 0, ()), (t4, t5, ())) = some ((u, x, tabAt x.1.length u 0, ()), (t4, t5, ())) := by
    intro t4 t5
    have := loop_count (B := spec_l2Induced_B0) (fun i => ((u, x, fill (fun _ => (-1 : Int)) 0 x.1.length i, (i : Int), ()), (t4, t5, ()))) x.1.length ((u, x, fill (fun _ => (-1 : Int)) 0 x.1.length x.1.length, ()), (t4, t5, ())) ?_ ?_ 0 (Nat.zero_le _)
    · rw [fill_all] at this
      rw [tabAt_zero, rows_rep (-1 : Int)]
      simpa [fill_zero, rows] using this
    · intro i hi
      rw [spec_l2Induced_B0_at]
      simp only [bif_decide, fill_len, Int.toNat_natCast]
      rw [if_pos (by omega), guardB_true (by simp [inb] <;> omega), fill_set hi, w64_succ (by omega)]
    · rw [spec_l2Induced_B0_at]; simp [fill_len]
  have b1 : ∀ t4 : List (List Int) × List (Int × Int), loopO spec_l2Induced_B1 ((u, x, tabAt x.1.length u 0, 0, ()), (t4, (([] : (List (List Int))), ([] : (List (Int × Int)))), ())) = some ((x, tabAt x.1.length u u.length, ()), (t4, (indL u x.1, ([] : (List (Int × Int)))), ())) := by
    intro t4
    have := loop_count (B := spec_l2Induced_B1) (fun i => ((u, x, tabAt x.1.length u i, (i : Int), ()), (t4, (indL (u.take i) x.1, ([] : (List (Int × Int)))), ()))) u.length ((x, tabAt x.1.length u u.length, ()), (t4, (indL u x.1, ([] : (List (Int × Int)))), ())) ?_ ?_ 0 (Nat.zero_le _)
    · simpa [indL] using this
    · intro i hi
      have hv := hr _ (getD_in hi)
      have hlen : (indL (u.take i) x.1).length ≤ 1048576 := by simp [indL]; omega
      have hsn : indL (u.take (i + 1)) x.1 = indL (u.take i) x.1 ++ [x.1.getD (u.getD i 0).toNat []] := by rw [take_one hi 0]; simp [indL]
      have htl : (tabAt x.1.length u i).length = x.1.length := rows_len
      rw [spec_l2Induced_B1_at]
      simp only [bif_decide, Int.toNat_natCast]
      rw [if_pos (by omega), guardB_true (by simp [inb] <;> omega), guardB_true (inb_true hv.1 (by omega)), guardB_true (by simp [inb] <;> omega), guardB_true (inb_true hv.1 (by omega)), spec_l2Induced_D12_at, l1Own_eq _ (hrow _)]
      simp only
      rw [guardB_true (by simp only [List.length_singleton, decide_eq_true_eq]; omega), tabAt_set hs hi hv.1, hsn]
      simp only [w64_succ (show i < 4611686018427387904 by omega)]
    · rw [spec_l2Induced_B1_at]; simp
  have b2 : ∀ t4 : List (List Int) × List (Int × Int), loopO spec_l2Induced_B2 ((x, tabAt x.1.length u u.length, 0, ()), (t4, (indL u x.1, ([] : (List (Int × Int)))), ())) = some ((), (t4, (indL u x.1, indS u x.2), ())) := by
    intro t4
    have := loop_count (B := spec_l2Induced_B2) (fun i => ((x, tabAt x.1.length u u.length, (i : Int), ()), (t4, (indL u x.1, indS u (x.2.take i)), ()))) x.2.length ((), (t4, (indL u x.1, indS u x.2), ())) ?_ ?_ 0 (Nat.zero_le _)
    · simpa [indS] using this
    · intro i hi
      obtain ⟨a, b, hab, h3, h4⟩ := hS i hi
      have htl : (tabAt x.1.length u u.length).length = x.1.length := rows_len
      have hg : ∀ c : Nat, c < x.1.length → (tabAt x.1.length u u.length).getD c 0 = posOf u c := fun c hc => by
        unfold tabAt posOf; rw [rows_get hc, List.take_length]
      have hlen : (indS u (x.2.take i)).length ≤ 1048576 := by have := indS_len u (x.2.take i); simp only [List.length_take] at this; omega
      have ga := hg a (by omega)
      have gb := hg b h4
      have ma := posOf_mem (u := u) (v := (a : Int))
      have mb := posOf_mem (u := u) (v := (b : Int))
      rw [spec_l2Induced_B2_at]
      simp only [bif_decide, Int.toNat_natCast, hab, indS_snoc u hi]
      rw [if_pos (by omega), guardB_true (by simp [inb] <;> omega), guardB_true (inb_true (by omega) (by omega)), guardB_true (by simp [inb] <;> omega), guardB_true (inb_true (by omega) (by omega)), ga, gb]
      by_cases h5 : (a : Int) ∈ u
      · rw [if_pos (ma.2 h5)]
        by_cases h6 : (b : Int) ∈ u
        · rw [if_pos (mb.2 h6), guardB_true (by simp only [List.length_singleton, decide_eq_true_eq]; omega), w64_succ (by omega)]
          simp only [indE, posOf, h5, h6, and_self, if_true]
        · rw [if_neg (fun e => h6 (mb.1 e)), w64_succ (by omega)]
          simp only [indE, h5, h6, and_false, if_false, List.append_nil]
      · rw [if_neg (fun e => h5 (ma.1 e)), w64_succ (by omega)]
        simp only [indE, h5, false_and, if_false, List.append_nil]
    · rw [spec_l2Induced_B2_at]; simp
  simp only [spec_l2Induced]
  erw [d0]
  simp only
  erw [b0]
  simp only
  erw [b1]
  simp only
  erw [b2]
  rfl
theorem isRising_true {u : List Int} {n : Nat} (hs : u.Pairwise (· < ·)) (hr : ∀ v ∈ u, 0 ≤ v ∧ v < n) (hn : n ≤ 1048576) (hu : u.length ≤ 1048576) : impl_isRising (u, (n : Int), ()) () = some ((true, ()), ()) := by
  have := loop_count (B := impl_isRising_B0) (fun i => ((u, (n : Int), u, (u.length : Int), (i : Int), ()), ())) u.length (.inr ((), ())) ?_ ?_ 0 (Nat.zero_le _)
  · simp only [impl_isRising]
    erw [this]
  · intro i hi
    have hv := hr _ (getD_in hi)
    rw [impl_isRising_B0_at]
    simp only [bif_decide, Int.toNat_natCast, w64_of (x := (n : Int) - 1) (by omega) (by omega), between_eq _ _ _]
    rw [if_pos (by omega), guardB_true (by simp [inb] <;> omega), show inR (u.getD i 0) 0 ((n : Int) - 1) = true by simp only [inR, Bool.and_eq_true, decide_eq_true_eq]; omega]
    simp only [Bool.not_true, cond_false]
    by_cases h0 : 0 < i
    · have h5 := List.pairwise_iff_getElem.1 hs (i - 1) i (by omega) hi (by omega)
      rw [← getD_at (show i - 1 < u.length by omega) 0, ← getD_at hi 0] at h5
      rw [if_pos (by omega), w64_pred (by omega) h0, guardB_true (by simp [inb] <;> omega), Int.toNat_natCast, if_neg (by omega), w64_succ (by omega)]
    · rw [if_neg (by omega), w64_succ (by omega)]
  · rw [impl_isRising_B0_at]; simp
theorem InducedSpace_eq (x : List (List Int) × List (Int × Int)) (hF : Few x) (hsp : spaceB x = true) (u : List Int) (hs : u.Pairwise (· < ·)) (hr : ∀ v ∈ u, 0 ≤ v ∧ v < x.1.length) (hu : u.length ≤ 1048576) (hrow : ∀ i, (x.1.getD i []).length ≤ 1048576) :
    impl_InducedSpace (x, u, ()) () = some ((induced u x, true, ()), ()) := by
  have hn := hF.states
  have h2 := hF.steps
  have b0 : ∀ t4 : List (List Int) × List (Int × Int), loopO impl_InducedSpace_B0 ((u, x, u, (u.length : Int), 0, ()), (t4, (([] : (List (List Int))), ([] : (List (Int × Int)))), ())) = some ((u, x, ()), (t4, (indL u x.1, ([] : (List (Int × Int)))), ())) := by
    intro t4
    have := loop_count (B := impl_InducedSpace_B0) (fun i => ((u, x, u, (u.length : Int), (i : Int), ()), (t4, (indL (u.take i) x.1, ([] : (List (Int × Int)))), ()))) u.length ((u, x, ()), (t4, (indL u x.1, ([] : (List (Int × Int)))), ())) ?_ ?_ 0 (Nat.zero_le _)
    · simpa [indL] using this
    · intro i hi
      have hv := hr _ (getD_in hi)
      have hlen : (indL (u.take i) x.1).length ≤ 1048576 := by simp [indL]; omega
      have hsn : indL (u.take (i + 1)) x.1 = indL (u.take i) x.1 ++ [x.1.getD (u.getD i 0).toNat []] := by rw [take_one hi 0]; simp [indL]
      have hc : slices_Clone_int_int (x.1.getD (u.getD i 0).toNat [], ()) () = some ((x.1.getD (u.getD i 0).toNat [], ()), ()) := by
        have := hrow (u.getD i 0).toNat
        simp only [slices_Clone_int_int, cloneFn]
        rw [guardB_true (by simp only [decide_eq_true_eq]; omega)]
      rw [impl_InducedSpace_B0_at]
      simp only [bif_decide, Int.toNat_natCast]
      rw [if_pos (by omega), guardB_true (by simp [inb] <;> omega), guardB_true (inb_true hv.1 (by omega)), impl_InducedSpace_D0_at, hc]
      simp only
      rw [guardB_true (by simp only [List.length_singleton, decide_eq_true_eq]; omega), hsn]
      simp only [w64_succ (show i < 4611686018427387904 by omega)]
    · rw [impl_InducedSpace_B0_at]; simp
  have b1 : ∀ t4 : List (List Int) × List (Int × Int), loopO impl_InducedSpace_B1 ((u, x.2, (x.2.length : Int), 0, ()), (t4, (indL u x.1, ([] : (List (Int × Int)))), ())) = some ((), (t4, (indL u x.1, indS u x.2), ())) := by
    intro t4
    have := loop_count (B := impl_InducedSpace_B1) (fun i => ((u, x.2, (x.2.length : Int), (i : Int), ()), (t4, (indL u x.1, indS u (x.2.take i)), ()))) x.2.length ((), (t4, (indL u x.1, indS u x.2), ())) ?_ ?_ 0 (Nat.zero_le _)
    · simpa [indS] using this
    · intro i hi
      have hlen : (indS u (x.2.take i)).length ≤ 1048576 := by have := indS_len u (x.2.take i); simp only [List.length_take] at this; omega
      rw [impl_InducedSpace_B1_at]
      simp only [bif_decide, Int.toNat_natCast, indS_snoc u hi, BinarySearch_eq hs hu _]
      rw [if_pos (by omega), guardB_true (by simp [inb] <;> omega)]
      by_cases h5 : (x.2.getD i (0, 0)).1 ∈ u
      · by_cases h6 : (x.2.getD i (0, 0)).2 ∈ u
        · rw [if_pos h5, if_pos h6, w64_succ (by omega), guardB_true (by simp only [List.length_singleton, decide_eq_true_eq]; omega)]
          simp only [indE, h5, h6, and_self, if_true]
        · rw [if_pos h5, if_neg h6, w64_succ (by omega)]
          simp only [indE, h6, and_false, if_false, List.append_nil]
      · rw [if_neg h5, w64_succ (by omega)]
        simp only [indE, h5, false_and, if_false, List.append_nil]
    · rw [impl_InducedSpace_B1_at]; simp
  simp only [impl_InducedSpace, IsSpace_eq x hF, hsp, isRising_true hs hr hn hu, Bool.not_true, cond_false]
  erw [b0]
  simp only
  erw [b1]
  rfl

theorem laws_heldIntA2S_B0_at (a : List ((Int) × (Int))) (k : Int) (i : Int) (j : Int) : laws_heldIntA2S_B0 ((a, k, i, j, ()), ()) = bif (decide (j < (2 : Int))) then (guardB (inb i (List.length a)) (guardB (decide (0 ≤ j) && decide (j < 2)) (bif ((bif Nat.beq (Int.toNat j) 0 then (List.getD a (Int.toNat i) ((0 : Int), (0 : Int))).1 else (List.getD a (Int.toNat i) ((0 : Int), (0 : Int))).2) != k) then (some (.inr (.inl (((-1 : Int), ()), ())))) else (some (.inl ((a, (w64 (k + (1 : Int))), i, (w64 (j + (1 : Int))), ()), ())))))) else (some (.inr (.inr ((a, k, i, ()), ())))) := rfl
theorem laws_heldIntA2S_B1_at (a : List ((Int) × (Int))) (k : Int) (i : Int) : laws_heldIntA2S_B1 ((a, k, i, ()), ()) = bif (decide (i < (List.length a : Int))) then (match loopO laws_heldIntA2S_B0 ((a, k, i, (0 : Int), ()), ()) with | some (.inl ((t4, ()), ())) => some (.inr (.inl ((t4, ()), ()))) | some (.inr ((a2, k2, i2, ()), ())) => some (.inl ((a2, k2, (w64 (i2 + (1 : Int))), ()), ())) | none => none) else (some (.inr (.inr ((k, ()), ())))) := rfl
theorem laws_markIntA2S_e0v_ls_B0_at (k : Int) (i : Int) (j : Int) (o0 : List ((Int) × (Int))) : laws_markIntA2S_e0v_ls_B0 ((k, i, j, ()), (o0, ())) = bif (decide (j < (2 : Int))) then (guardB (inb i (List.length o0)) (guardB (decide (0 ≤ j) && decide (j < 2)) (some (.inl (((w64 (k + (1 : Int))), i, (w64 (j + (1 : Int))), ()), ((List.set o0 (Int.toNat i) (bif Nat.beq (Int.toNat j) 0 then (k, (List.getD o0 (Int.toNat i) ((0 : Int), (0 : Int))).2) else ((List.getD o0 (Int.toNat i) ((0 : Int), (0 : Int))).1, k))), ())))))) else (some (.inr ((k, i, ()), (o0, ())))) := rfl
theorem laws_markIntA2S_e0v_ls_B1_at (k : Int) (i : Int) (o0 : List ((Int) × (Int))) : laws_markIntA2S_e0v_ls_B1 ((k, i, ()), (o0, ())) = bif (decide (i < (List.length o0 : Int))) then (match loopO laws_markIntA2S_e0v_ls_B0 ((k, i, (0 : Int), ()), (o0, ())) with | some ((k2, i2, ()), (o0_2, ())) => some (.inl ((k2, (w64 (i2 + (1 : Int))), ()), (o0_2, ()))) | none => none) else (some (.inr ((k, ()), (o0, ())))) := rfl
def pm (k : Int) (n : Nat) : List (Int × Int) := (List.range n).map fun (i : Nat) => (k + 2 * (i : Int), k + 2 * (i : Int) + 1)
theorem pm_len (k : Int) (n : Nat) : (pm k n).length = n := by simp [pm]
theorem pm_snoc (k : Int) (n : Nat) : pm k (n + 1) = pm k n ++ [(k + 2 * (n : Int), k + 2 * (n : Int) + 1)] := by simp [pm, List.range_succ]
theorem pm_get {k : Int} {n i : Nat} (h : i < n) : (pm k n).getD i (0, 0) = (k + 2 * (i : Int), k + 2 * (i : Int) + 1) := by simp [pm, List.getD, h]
theorem markA2S_to (l : List (Int × Int)) (k : Int) (h0 : 0 ≤ k) (hk : k ≤ 4611686018000000000) (hl : l.length ≤ 1048576) : laws_markIntA2S_e0v_ls (k, ()) (l, ()) = some ((k + 2 * (l.length : Int), ()), (pm k l.length, ())) := by
  have key := loop_count (B := laws_markIntA2S_e0v_ls_B1) (fun i => ((k + 2 * (i : Int), (i : Int), ()), (pm k i ++ l.drop i, ()))) l.length ((k + 2 * (l.length : Int), ()), (pm k l.length, ())) ?_ ?_ 0 (Nat.zero_le _)
  · simp only [laws_markIntA2S_e0v_ls]
    have e : pm k 0 ++ l.drop 0 = l := by simp [pm]
    simp only [e] at key
    rw [show k + 2 * ((0 : Nat) : Int) = k by omega] at key
    erw [key]
  · intro i hi
    have hlen : (pm k i ++ l.drop i).length = l.length := by simp [pm_len]; omega
    have hset : ∀ z : Int × Int, (pm k i ++ l.drop i).set i z = pm k i ++ z :: l.drop (i + 1) := fun z => by
      rw [List.drop_eq_getElem_cons hi, List.set_append_right _ _ (by rw [pm_len]; exact Nat.le_refl _), pm_len, Nat.sub_self, List.set_cons_zero]
    have hget : ∀ z : Int × Int, (pm k i ++ z :: l.drop (i + 1)).getD i (0, 0) = z := fun z => by
      simp [List.getD, List.getElem?_append_right, pm_len]
    have hlen2 : ∀ z : Int × Int, (pm k i ++ z :: l.drop (i + 1)).length = l.length := fun z => by simp [pm_len]; omega
    have hset2 : ∀ z z' : Int × Int, (pm k i ++ z :: l.drop (i + 1)).set i z' = pm k i ++ z' :: l.drop (i + 1) := fun z z' => by
      rw [List.set_append_right _ _ (by rw [pm_len]; exact Nat.le_refl _), pm_len, Nat.sub_self, List.set_cons_zero]
    have e0 : laws_markIntA2S_e0v_ls_B0 ((k + 2 * (i : Int), (i : Int), 0, ()), (pm k i ++ l.drop i, ())) = some (.inl ((k + 2 * (i : Int) + 1, (i : Int), 1, ()), (pm k i ++ (k + 2 * (i : Int), ((pm k i ++ l.drop i).getD i (0, 0)).2) :: l.drop (i + 1), ()))) := by
      rw [laws_markIntA2S_e0v_ls_B0_at, guardB_true (by rw [hlen]; exact inb_true (by omega) (by omega)), Int.toNat_natCast, ← hset, w64_of (by omega) (by omega)]
      rfl
    have e1 : ∀ z, laws_markIntA2S_e0v_ls_B0 ((k + 2 * (i : Int) + 1, (i : Int), 1, ()), (pm k i ++ (k + 2 * (i : Int), z) :: l.drop (i + 1), ())) = some (.inl ((k + 2 * ((i + 1 : Nat) : Int), (i : Int), 2, ()), (pm k (i + 1) ++ l.drop (i + 1), ()))) := by
      intro z
      rw [laws_markIntA2S_e0v_ls_B0_at, guardB_true (by rw [hlen2]; exact inb_true (by omega) (by omega)), Int.toNat_natCast, w64_of (by omega) (by omega)]
      simp only [hget]
      have : pm k (i + 1) ++ l.drop (i + 1) = (pm k i ++ (k + 2 * (i : Int), z) :: l.drop (i + 1)).set i (k + 2 * (i : Int), k + 2 * (i : Int) + 1) := by
        rw [hset2, pm_snoc, List.append_assoc]; rfl
      rw [this, show k + 2 * ((i + 1 : Nat) : Int) = k + 2 * (i : Int) + 1 + 1 by omega]
      rfl
    have e2 : laws_markIntA2S_e0v_ls_B0 ((k + 2 * ((i + 1 : Nat) : Int), (i : Int), 2, ()), (pm k (i + 1) ++ l.drop (i + 1), ())) = some (.inr ((k + 2 * ((i + 1 : Nat) : Int), (i : Int), ()), (pm k (i + 1) ++ l.drop (i + 1), ()))) := by
      rw [laws_markIntA2S_e0v_ls_B0_at]; rfl
    rw [laws_markIntA2S_e0v_ls_B1_at]
    simp only [bif_decide, hlen]
    rw [if_pos (by omega)]
    erw [loop_step e0 (loop_step (e1 _) (loop_end e2))]
    simp only [w64_succ (show i < 4611686018427387904 by omega)]
  · rw [laws_markIntA2S_e0v_ls_B1_at]
    simp only [bif_decide, List.drop_length, List.append_nil, pm_len]
    rw [if_neg (by omega)]

theorem heldA2S_to (n : Nat) (k : Int) (h0 : 0 ≤ k) (hk : k ≤ 4611686018000000000) (hn : n ≤ 1048576) : laws_heldIntA2S (pm k n, k, ()) () = some ((k + 2 * (n : Int), ()), ()) := by
  have key := loop_count (B := laws_heldIntA2S_B1) (fun i => ((pm k n, k + 2 * (i : Int), (i : Int), ()), ())) n (.inr ((k + 2 * (n : Int), ()), ())) ?_ ?_ 0 (Nat.zero_le _)
  · rw [show k + 2 * ((0 : Nat) : Int) = k by omega] at key
    simp only [laws_heldIntA2S]
    erw [key]
  · intro i hi
    have hb : inb (i : Int) (pm k n).length = true := by rw [pm_len]; exact inb_true (by omega) (by omega)
    have e0 : laws_heldIntA2S_B0 ((pm k n, k + 2 * (i : Int), (i : Int), 0, ()), ()) = some (.inl ((pm k n, k + 2 * (i : Int) + 1, (i : Int), 1, ()), ())) := by
      rw [laws_heldIntA2S_B0_at, guardB_true hb, Int.toNat_natCast, pm_get hi, w64_of (by omega) (by omega)]
      show (bif (k + 2 * (i : Int)) != (k + 2 * (i : Int)) then _ else _) = _
      rw [bne_eq rfl]; rfl
    have e1 : laws_heldIntA2S_B0 ((pm k n, k + 2 * (i : Int) + 1, (i : Int), 1, ()), ()) = some (.inl ((pm k n, k + 2 * ((i + 1 : Nat) : Int), (i : Int), 2, ()), ())) := by
      rw [laws_heldIntA2S_B0_at, guardB_true hb, Int.toNat_natCast, pm_get hi, w64_of (by omega) (by omega), show k + 2 * ((i + 1 : Nat) : Int) = k + 2 * (i : Int) + 1 + 1 by omega]
      show (bif (k + 2 * (i : Int) + 1) != (k + 2 * (i : Int) + 1) then _ else _) = _
      rw [bne_eq rfl]; rfl
    have e2 : laws_heldIntA2S_B0 ((pm k n, k + 2 * ((i + 1 : Nat) : Int), (i : Int), 2, ()), ()) = some (.inr (.inr ((pm k n, k + 2 * ((i + 1 : Nat) : Int), (i : Int), ()), ()))) := by
      rw [laws_heldIntA2S_B0_at]; rfl
    rw [laws_heldIntA2S_B1_at]
    simp only [bif_decide, pm_len]
    rw [if_pos (by omega)]
    erw [loop_step e0 (loop_step e1 (loop_end e2))]
    simp only [w64_succ (show i < 4611686018427387904 by omega)]
  · rw [laws_heldIntA2S_B1_at]
    simp only [bif_decide, pm_len]
    rw [if_neg (by omega)]
theorem markSpaceT_eq (x : List (List Int) × List (Int × Int)) (k : Int) (h : Few x) (h0 : 0 ≤ k) (hk : k ≤ 1000) : laws_markSpace_tp0f0sv_bp21 (((), ()), k, ()) (x, ()) = some ((k + (tot x.1 : Int) + 2 * (x.2.length : Int), ()), ((iotas k x.1, pm (k + (tot x.1 : Int)) x.2.length), ())) := by
  have ht : tot x.1 ≤ 1048576 * 1048576 := Nat.le_trans (tot_bound x.1 h.state) (Nat.mul_le_mul_right _ h.states)
  have h2 := h.steps
  have hs := h.states
  simp only [laws_markSpace_tp0f0sv_bp21]
  rw [markIntSS_eq x.1 k h0 (by omega) (by omega)]
  simp only
  rw [markA2S_to x.2 (k + (tot x.1 : Int)) (by omega) (by omega) h2]
theorem heldSpaceT_eq (x : List (List Int) × List (Int × Int)) (k : Int) (h : Few x) (h0 : 0 ≤ k) (hk : k ≤ 1000) : laws_heldSpace ((iotas k x.1, pm (k + (tot x.1 : Int)) x.2.length), k, ()) () = some ((k + (tot x.1 : Int) + 2 * (x.2.length : Int), ()), ()) := by
  have ht : tot x.1 ≤ 1048576 * 1048576 := Nat.le_trans (tot_bound x.1 h.state) (Nat.mul_le_mul_right _ h.states)
  have h2 := h.steps
  have hs := h.states
  simp only [laws_heldSpace, heldIntSS_eq x.1 k h0 (by omega) (by omega), heldA2S_to x.2.length (k + (tot x.1 : Int)) (by omega) (by omega) h2, bif_decide]
  rw [if_neg (show ¬ (k + (tot x.1 : Int)) < 0 by omega), if_neg (show ¬ (k + (tot x.1 : Int) + 2 * (x.2.length : Int)) < 0 by omega)]
theorem Few.nil : Few (([] : List (List Int)), ([] : List (Int × Int))) := ⟨by simp, by simp, by simp⟩
theorem induced_few {x : List (List Int) × List (Int × Int)} (hF : Few x) {u : List Int} (hu : u.length ≤ 1048576) (hrow : ∀ i, (x.1.getD i []).length ≤ 1048576) : Few (induced u x) := by
  refine ⟨by simp only [induced, indL, List.length_map]; exact hu, fun s hs => ?_, Nat.le_trans (indS_len u x.2) hF.steps⟩
  simp only [induced, indL, List.mem_map] at hs
  obtain ⟨v, _, rfl⟩ := hs
  exact hrow _
theorem level_both (x : List (List Int) × List (Int × Int)) (hF : Few x) (l : List Int) (hl : l.length ≤ 1048576) (lev : Int) : ∃ (R : List (List Int) × List (Int × Int)) (b : Bool), spec_LevelSpace (x, l, lev, ()) () = some ((R, b, ()), ()) ∧ impl_LevelSpace (x, l, lev, ()) () = some ((R, b, ()), ()) ∧ Few R := by
  simp only [spec_LevelSpace, impl_LevelSpace, spec_l11Heights, impl_isHigh, l2Space_eq x hF, IsSpace_eq x hF, l11Numbers_eq l x.1.length hl, areLoads_eq l x.1.length hl, l1In_eq _ _ _, between_eq _ _ _]
  cases hs : spaceB x
  · exact ⟨([], []), false, rfl, rfl, Few.nil⟩
  · cases hn : loadsB x.1.length l
    · exact ⟨([], []), false, rfl, rfl, Few.nil⟩
    · cases hi : inR lev 0 999
      · exact ⟨([], []), false, rfl, rfl, Few.nil⟩
      · have hlen : l.length = x.1.length := by
          simp only [loadsB, Bool.and_eq_true, decide_eq_true_eq] at hn
          exact hn.1
        have hp : pairsB x.2 x.1.length = true := by
          simp only [spaceB, Bool.and_eq_true, decide_eq_true_eq] at hs
          exact hs.2.2.2
        have hu := under_sorted lev l
        have hr : ∀ v ∈ under lev l, 0 ≤ v ∧ v < x.1.length := fun v hv => by have := under_mem hv; omega
        have hul : (under lev l).length ≤ 1048576 := by have := underFrom_len lev l 0; unfold under; omega
        have hrow : ∀ i, (x.1.getD i []).length ≤ 1048576 := fun i => by
          by_cases h : i < x.1.length
          · rw [getD_at h]; exact hF.state _ (List.getElem_mem h)
          · simp [List.getD, List.getElem?_eq_none (show x.1.length ≤ i by omega)]
        simp only [cond_true, Bool.not_true, cond_false, l11Under_eq l lev hl, below_eq l lev hl, l2Induced_eq x _ hu hr (pairsB_ok hp) hF.states hF.steps hul hrow, InducedSpace_eq x hF hs _ hu hr hul hrow]
        exact ⟨_, _, rfl, rfl, induced_few hF hul hrow⟩
theorem FnExactLevelSpace_true (x : List (List Int) × List (Int × Int)) (l : List Int) (lev : Int) (hx : Sm (.prod (.list (.list I)) (.list (.prod I I))) x) (hl : Sm (.list I) l) (_ : Sm I lev) : laws_FnExactLevelSpace (x, l, lev, ()) () = some ((true, ()), ()) := by
  have hl := hl.1
  simp only [laws_FnExactLevelSpace, bif_decide]
  by_cases h1 : (1048576 : Int) < (l.length : Int)
  · rw [if_pos h1]
  rw [if_neg h1]
  have hl' : l.length ≤ 1048576 := by omega
  obtain ⟨r, e1, e2, e3, e4⟩ := szSpace_eq x 1048576 (by omega) (by omega) hx
  rw [e1]
  by_cases h2 : r < 0
  · simp only [if_pos h2]
  have hF := e3 (by omega)
  have ht : tot x.1 ≤ 1048576 * 1048576 := Nat.le_trans (tot_bound x.1 hF.state) (Nat.mul_le_mul_right _ hF.states)
  have hst := hF.steps
  have m1 := markSpaceT_eq x 1 hF (by omega) (by omega)
  have m4 := markIntS_eq l (1 + (tot x.1 : Int) + 2 * (x.2.length : Int)) (by omega) (by omega)
  obtain ⟨R, b, s1, s2, s3⟩ := level_both x hF l hl' lev
  have q1 := markSpaceT_eq R 1 s3 (by omega) (by omega)
  have q2 := heldSpaceT_eq R 1 s3 (by omega) (by omega)
  have q3 := eqSpace_eq R s3
  simp only [if_neg h2, toSpace_eq x hF, toIntS_eq l hl', s1, s2, eqSpace_eq x hF, eqIntS_eq l hl', laws_FnExactLevelSpace_D0, q3, Bool.not_true, cond_false, beq_self_eq_true, m1, m4]
  rw [if_neg (show ¬ (1 + (tot x.1 : Int) + 2 * (x.2.length : Int) + (l.length : Int)) < 0 by omega)]
  simp only [q1, q2, if_neg (show ¬ (1 + (tot R.1 : Int) + 2 * (R.2.length : Int)) < 0 by omega), bne_self_eq_false, cond_false]

end Go.Proofs.Ytiiaadgibkpaaaa.V
