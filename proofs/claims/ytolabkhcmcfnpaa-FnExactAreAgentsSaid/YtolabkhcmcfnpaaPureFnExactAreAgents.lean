/-
  What the reference and the program compute agrees: plain lemmas over numbers and lists.
-/
import Derived.Test.YtolabkhcmcfnpaaTFnExactAreAgents
import Derived.Test.YtolabkhcmcfnpaaE3
namespace Go.Proofs.Ytolabkhcmcfnpaa.V
open Go Go.Ve Go.Proofs
set_option linter.unusedVariables false
set_option linter.unusedSimpArgs false
/-! ### copies -/
theorem fold_len {n : Nat} (h : n ≤ 1048576) : (decide (0 ≤ (n : Int)) && decide ((n : Int) ≤ (n : Int)) && decide ((n : Int) * 8 ≤ 140737488355328)) = true ∧ (decide (0 ≤ (n : Int)) && decide ((n : Int) ≤ (n : Int)) && decide ((n : Int) * 24 ≤ 140737488355328)) = true ∧ (decide (0 ≤ (n : Int)) && decide ((n : Int) ≤ (n : Int)) && decide ((n : Int) * 16 ≤ 140737488355328)) = true := by
  refine ⟨?_, ?_, ?_⟩ <;> simp <;> omega

theorem toIntS_eq (l : List Int) (hl : l.length ≤ 1048576) : laws_toIntS (l, ()) () = some ((l, ()), ()) := by
  simp only [laws_toIntS, guardB_true (fold_len hl).1, Int.toNat_natCast]
  have key : loopO laws_toIntS_B0 ((l, fill (fun j => l.getD j 0) 0 l.length 0, ((0 : Nat) : Int), ()), ()) = some ((fill (fun j => l.getD j 0) 0 l.length l.length, ()), ()) := by
    refine loop_count (fun i => ((l, fill (fun j => l.getD j 0) 0 l.length i, (i : Int), ()), ())) l.length _ (fun i hi => ?_) ?_ 0 (Nat.zero_le _)
    · simp only [laws_toIntS_B0, bif_decide, if_pos (show (i : Int) < (l.length : Int) by omega), fill_len, guardB_true (inb_true (Int.natCast_nonneg i) (show (i : Int) < (l.length : Int) by omega)), Int.toNat_natCast, fill_set hi, w64_succ (show i < 4611686018427387904 by omega)]
    · simp only [laws_toIntS_B0, bif_decide, if_neg (show ¬ (l.length : Int) < (l.length : Int) by omega)]
  rw [fill_zero, fill_all, range_getD] at key
  erw [key]

theorem toIntSS_eq (l : List (List Int)) (hl : l.length ≤ 1048576) (h : ∀ x ∈ l, x.length ≤ 1048576) : laws_toIntSS (l, ()) () = some ((l, ()), ()) := by
  simp only [laws_toIntSS, guardB_true (fold_len hl).2.1, Int.toNat_natCast]
  have key : loopO laws_toIntSS_B0 ((l, fill (fun j => l.getD j []) [] l.length 0, ((0 : Nat) : Int), ()), ()) = some ((fill (fun j => l.getD j []) [] l.length l.length, ()), ()) := by
    refine loop_count (fun i => ((l, fill (fun j => l.getD j []) [] l.length i, (i : Int), ()), ())) l.length _ (fun i hi => ?_) ?_ 0 (Nat.zero_le _)
    · simp only [laws_toIntSS_B0, bif_decide, if_pos (show (i : Int) < (l.length : Int) by omega), fill_len, guardB_true (inb_true (Int.natCast_nonneg i) (show (i : Int) < (l.length : Int) by omega)), Int.toNat_natCast]
      rw [toIntS_eq (l.getD i []) (by rw [getD_at hi]; exact h _ (List.getElem_mem hi))]
      simp only [fill_set (f := fun j => l.getD j []) hi, w64_succ (show i < 4611686018427387904 by omega)]
    · simp only [laws_toIntSS_B0, bif_decide, if_neg (show ¬ (l.length : Int) < (l.length : Int) by omega)]
  rw [fill_zero, fill_all, range_getD] at key
  erw [key]

theorem toIntA2_eq (a : Int × Int) : laws_toIntA2 (a, ()) () = some ((a, ()), ()) := by
  obtain ⟨x, y⟩ := a
  have e0 : laws_toIntA2_B0 (((x, y), 0, ()), ((0, 0), (0, 0), ())) = some (.inl (((x, y), 1, ()), ((0, 0), (x, 0), ()))) := rfl
  have e1 : laws_toIntA2_B0 (((x, y), 1, ()), ((0, 0), (x, 0), ())) = some (.inl (((x, y), 2, ()), ((0, 0), (x, y), ()))) := rfl
  have e2 : laws_toIntA2_B0 (((x, y), 2, ()), ((0, 0), (x, y), ())) = some (.inr ((), ((0, 0), (x, y), ()))) := rfl
  simp only [laws_toIntA2, loop_step e0 (loop_step e1 (loop_end e2))]

theorem toIntA2S_eq (l : List (Int × Int)) (hl : l.length ≤ 1048576) : laws_toIntA2S (l, ()) () = some ((l, ()), ()) := by
  simp only [laws_toIntA2S, guardB_true (fold_len hl).2.2, Int.toNat_natCast]
  have key : loopO laws_toIntA2S_B0 ((l, fill (fun j => l.getD j (0, 0)) (0, 0) l.length 0, ((0 : Nat) : Int), ()), ()) = some ((fill (fun j => l.getD j (0, 0)) (0, 0) l.length l.length, ()), ()) := by
    refine loop_count (fun i => ((l, fill (fun j => l.getD j (0, 0)) (0, 0) l.length i, (i : Int), ()), ())) l.length _ (fun i hi => ?_) ?_ 0 (Nat.zero_le _)
    · simp only [laws_toIntA2S_B0, bif_decide, if_pos (show (i : Int) < (l.length : Int) by omega), fill_len, guardB_true (inb_true (Int.natCast_nonneg i) (show (i : Int) < (l.length : Int) by omega)), Int.toNat_natCast]
      rw [toIntA2_eq]
      simp only [fill_set (f := fun j => l.getD j (0, 0)) hi, w64_succ (show i < 4611686018427387904 by omega)]
    · simp only [laws_toIntA2S_B0, bif_decide, if_neg (show ¬ (l.length : Int) < (l.length : Int) by omega)]
  rw [fill_zero, fill_all, range_getD] at key
  erw [key]

/-! ### copies are equal -/
theorem allUpto_true {n : Nat} : allUpto (fun _ => true) n = true := allUpto_iff.2 fun _ _ => rfl
theorem eqIntS_eq (l : List Int) (hl : l.length ≤ 1048576) : laws_eqIntS (l, l, ()) () = some ((true, ()), ()) := by
  have key := loop_all (B := laws_eqIntS_B0) (fun i => ((l, l, (i : Int), ()), ())) (fun _ => true) l.length (.inl ((false, ()), ())) (.inr ((), ())) (fun i hi _ => by
    simp [laws_eqIntS_B0, inb_nat, hi, guardB, w64_succ (show i < 4611686018427387904 by omega)]) (by simp [laws_eqIntS_B0])
  rw [allUpto_true] at key
  simp only [laws_eqIntS, bne_self_eq_false, cond_false]
  rw [show (0 : Int) = ((0 : Nat) : Int) from rfl, key]
  rfl
theorem eqIntSS_eq (l : List (List Int)) (hl : l.length ≤ 1048576) (h : ∀ x ∈ l, x.length ≤ 1048576) : laws_eqIntSS (l, l, ()) () = some ((true, ()), ()) := by
  have key := loop_all (B := laws_eqIntSS_B0) (fun i => ((l, l, (i : Int), ()), ())) (fun _ => true) l.length (.inl ((false, ()), ())) (.inr ((), ())) (fun i hi _ => by
    simp only [laws_eqIntSS_B0, bif_decide, if_pos (show (i : Int) < (l.length : Int) by omega), guardB_true (inb_true (Int.natCast_nonneg i) (show (i : Int) < (l.length : Int) by omega)), Int.toNat_natCast]
    rw [eqIntS_eq (l.getD i []) (by rw [getD_at hi]; exact h _ (List.getElem_mem hi))]
    simp [w64_succ (show i < 4611686018427387904 by omega)]) (by simp [laws_eqIntSS_B0])
  rw [allUpto_true] at key
  simp only [laws_eqIntSS, bne_self_eq_false, cond_false]
  rw [show (0 : Int) = ((0 : Nat) : Int) from rfl, key]
  rfl
theorem eqIntA2_eq (a : Int × Int) : laws_eqIntA2 (a, a, ()) () = some ((true, ()), ()) := by
  obtain ⟨x, y⟩ := a
  have e0 : laws_eqIntA2_B0 (((x, y), (x, y), 0, ()), ()) = some (.inl (((x, y), (x, y), 1, ()), ())) := by
    simp [laws_eqIntA2_B0, guardB]; rfl
  have e1 : laws_eqIntA2_B0 (((x, y), (x, y), 1, ()), ()) = some (.inl (((x, y), (x, y), 2, ()), ())) := by
    simp [laws_eqIntA2_B0, guardB]; rfl
  have e2 : laws_eqIntA2_B0 (((x, y), (x, y), 2, ()), ()) = some (.inr (.inr ((), ()))) := rfl
  simp only [laws_eqIntA2, loop_step e0 (loop_step e1 (loop_end e2))]
theorem eqIntA2S_eq (l : List (Int × Int)) (hl : l.length ≤ 1048576) : laws_eqIntA2S (l, l, ()) () = some ((true, ()), ()) := by
  have key := loop_all (B := laws_eqIntA2S_B0) (fun i => ((l, l, (i : Int), ()), ())) (fun _ => true) l.length (.inl ((false, ()), ())) (.inr ((), ())) (fun i hi _ => by
    simp only [laws_eqIntA2S_B0, bif_decide, if_pos (show (i : Int) < (l.length : Int) by omega), guardB_true (inb_true (Int.natCast_nonneg i) (show (i : Int) < (l.length : Int) by omega)), Int.toNat_natCast]
    rw [eqIntA2_eq]
    simp [w64_succ (show i < 4611686018427387904 by omega)]) (by simp [laws_eqIntA2S_B0])
  rw [allUpto_true] at key
  simp only [laws_eqIntA2S, bne_self_eq_false, cond_false]
  rw [show (0 : Int) = ((0 : Nat) : Int) from rfl, key]
  rfl

/-! ### sizes -/
/-- what is asked of a Space that is looked at: not too great -/
structure Few (x : List (List Int) × List (Int × Int)) : Prop where
  states : x.1.length ≤ 1048576
  state : ∀ s ∈ x.1, s.length ≤ 1048576
  steps : x.2.length ≤ 1048576
theorem szIntS_eq (l : List Int) (n : Int) (h0 : 0 ≤ n) (hn : n ≤ 1048576) (hl : l.length ≤ 140737488351232) : laws_szIntS (l, n, ()) () = some (((if (l.length : Int) ≤ n then n - l.length else -1), ()), ()) := by
  simp only [laws_szIntS, w64_of (x := n - (l.length : Int)) (by omega) (by omega), bif_decide]
  by_cases h : (l.length : Int) ≤ n
  · rw [if_neg (by omega), if_pos h]
  · rw [if_pos (by omega), if_neg h]
theorem szIntA2S_eq (l : List (Int × Int)) (n : Int) (h0 : 0 ≤ n) (hn : n ≤ 1048576) (hl : l.length ≤ 140737488351232) : laws_szIntA2S (l, n, ()) () = some (((if (l.length : Int) ≤ n then n - l.length else -1), ()), ()) := by
  simp only [laws_szIntA2S, w64_of (x := n - (l.length : Int)) (by omega) (by omega), bif_decide]
  by_cases h : (l.length : Int) ≤ n
  · rw [if_neg (by omega), if_pos h]
  · rw [if_pos (by omega), if_neg h]
theorem szIntSS_eq (l : List (List Int)) (n : Int) (h0 : 0 ≤ n) (hn : n ≤ 1048576) (hl : l.length ≤ 140737488351232) (hs : ∀ x ∈ l, x.length ≤ 140737488351232) :
    ∃ r : Int, laws_szIntSS (l, n, ()) () = some ((r, ()), ()) ∧ r ≤ 1048576 ∧ (0 ≤ r → (l.length : Int) ≤ n ∧ ∀ x ∈ l, (x.length : Int) ≤ n) ∧ (r < 0 → r = -1) := by
  simp only [laws_szIntSS, w64_of (x := n - (l.length : Int)) (by omega) (by omega), bif_decide]
  by_cases h : n - (l.length : Int) < 0
  · rw [if_pos h]; exact ⟨-1, rfl, by omega, fun h => by omega, fun _ => rfl⟩
  · rw [if_neg h]
    obtain ⟨q, h1, h2⟩ := loop_inv (B := laws_szIntSS_B0) (fun p => ∃ (m : Int) (i : Nat), p = ((l, m, (i : Int), ()), ()) ∧ 0 ≤ m ∧ m ≤ n ∧ i ≤ l.length ∧ ∀ j, j < i → ((l.getD j []).length : Int) ≤ n)
      (fun p => l.length - p.1.2.2.1.toNat) (fun q => match q with
        | .inl ((t, ()), ()) => (fun t : Int => t = -1) t
        | .inr ((m, ()), ()) => (fun m : Int => 0 ≤ m ∧ m ≤ n ∧ ∀ j, j < l.length → ((l.getD j []).length : Int) ≤ n) m) (by
      rintro p ⟨m, i, rfl, h3, h4, h5, h6⟩
      by_cases hi : i < l.length
      · simp only [laws_szIntSS_B0, bif_decide, if_pos (show (i : Int) < (l.length : Int) by omega), guardB_true (inb_true (Int.natCast_nonneg i) (show (i : Int) < (l.length : Int) by omega)), Int.toNat_natCast]
        rw [szIntS_eq (l.getD i []) m h3 (by omega) (by rw [getD_at hi]; exact hs _ (List.getElem_mem hi))]
        by_cases h7 : ((l.getD i []).length : Int) ≤ m
        · rw [if_pos h7]
          simp only [if_neg (show ¬ (m - ((l.getD i []).length : Int)) < 0 by omega), w64_succ (show i < 4611686018427387904 by omega)]
          refine .inl ⟨_, rfl, ⟨_, i + 1, rfl, by omega, by omega, by omega, fun j hj => ?_⟩, ?_⟩
          · rcases Nat.lt_or_ge j i with h | h
            · exact h6 j h
            · rw [show j = i by omega]; omega
          · simp only [Int.toNat_natCast]; omega
        · rw [if_neg h7]
          exact .inr ⟨_, rfl, rfl⟩
      · have hi : i = l.length := by omega
        subst hi
        simp only [laws_szIntSS_B0, bif_decide, if_neg (show ¬ (l.length : Int) < (l.length : Int) by omega)]
        exact .inr ⟨_, rfl, h3, h4, h6⟩) ((l, n - (l.length : Int), 0, ()), ()) ⟨n - (l.length : Int), 0, rfl, by omega, by omega, by omega, fun j hj => by omega⟩
    rw [h1]
    rcases q with ⟨⟨t, ⟨⟩⟩, ⟨⟩⟩ | ⟨⟨m, ⟨⟩⟩, ⟨⟩⟩
    · dsimp only at h2
      exact ⟨t, rfl, by omega, fun h => by omega, fun _ => h2⟩
    · dsimp only at h2
      refine ⟨m, rfl, by have := h2.2.1; omega, fun _ => ⟨by omega, fun x hx => ?_⟩, fun h => by have := h2.1; omega⟩
      obtain ⟨j, hj, rfl⟩ := List.getElem_of_mem hx
      have := h2.2.2 j hj
      rw [getD_at hj] at this
      exact this
theorem szSpace_eq (x : List (List Int) × List (Int × Int)) (n : Int) (h0 : 0 ≤ n) (hn : n ≤ 1048576) (hx : Sm (.prod (.list (.list I)) (.list (.prod I I))) x) :
    ∃ r : Int, laws_szSpace (x, n, ()) () = some ((r, ()), ()) ∧ r ≤ 1048576 ∧ (0 ≤ r → Few x) ∧ (r < 0 → r = -1) := by
  obtain ⟨a, b⟩ := x
  obtain ⟨⟨h1, h2⟩, h3, h4⟩ := hx
  obtain ⟨r, e1, e2, e3, e4⟩ := szIntSS_eq a n h0 hn h1 (fun x hx => (h2 x hx).1)
  simp only [laws_szSpace, e1, bif_decide]
  by_cases h : r < 0
  · rw [if_pos h]; exact ⟨-1, rfl, by omega, fun h => by omega, fun _ => rfl⟩
  · rw [if_neg h]
    have := e3 (by omega)
    rw [szIntA2S_eq b r (by omega) e2 h3]
    by_cases h5 : (b.length : Int) ≤ r
    · rw [if_pos h5]
      simp only [if_neg (show ¬ (r - (b.length : Int)) < 0 by omega)]
      exact ⟨_, rfl, by omega, fun _ => ⟨by show a.length ≤ _; omega, fun s hs => by have := this.2 s hs; omega, by show b.length ≤ _; omega⟩, fun h => by omega⟩
    · rw [if_neg h5]
      exact ⟨-1, rfl, by omega, fun h => by omega, fun _ => rfl⟩
theorem toSpace_eq (x : List (List Int) × List (Int × Int)) (h : Few x) : laws_toSpace (x, ()) () = some ((x, ()), ()) := by
  obtain ⟨a, b⟩ := x
  simp only [laws_toSpace, toIntSS_eq a h.states h.state, toIntA2S_eq b h.steps]
theorem eqSpace_eq (x : List (List Int) × List (Int × Int)) (h : Few x) : laws_eqSpace (x, x, ()) () = some ((true, ()), ()) := by
  obtain ⟨a, b⟩ := x
  simp only [laws_eqSpace, eqIntSS_eq a h.states h.state, eqIntA2S_eq b h.steps]
  rfl
/-! ### numbers within bounds -/
def inR (x a b : Int) : Bool := decide (a ≤ x) && decide (x ≤ b)
theorem l1In_eq (x a b : Int) : spec_l1In (x, a, b, ()) () = some ((inR x a b, ()), ()) := by
  simp only [spec_l1In, inR]
  by_cases h : a ≤ x <;> simp [h]
theorem between_eq (x a b : Int) : impl_between (x, a, b, ()) () = some ((inR x a b, ()), ()) := by
  simp only [impl_between, inR]
  by_cases h : a ≤ x <;> simp [h]
theorem cmp_eq (x y : Int) : cmp_Compare_int (x, y, ()) () = some (((if x < y then -1 else if y < x then 1 else 0), ()), ()) := by
  simp only [cmp_Compare_int, cmp_isNaN_int, bne_self_eq_false, cond_false, bif_decide]
  split
  · rfl
  · split <;> rfl

/-! ### states -/
def goodN (n : Int) : Bool := inR n (-99) 99
def goodState (s : List Int) : Bool := decide (s.length ≤ 24) && s.all goodN
theorem allUpto_getD {f : Int → Bool} {s : List Int} : allUpto (fun i => f (s.getD i 0)) s.length = s.all f := by
  rw [Bool.eq_iff_iff, allUpto_iff, List.all_eq_true]
  constructor
  · intro h x hx
    obtain ⟨i, hi, rfl⟩ := List.getElem_of_mem hx
    have := h i hi
    rwa [getD_at hi] at this
  · intro h i hi
    rw [getD_at hi]
    exact h _ (List.getElem_mem hi)
theorem l2State_eq (s : List Int) (hs : s.length ≤ 1048576) : spec_l2State (s, ()) () = some ((goodState s, ()), ()) := by
  have key := loop_all (B := spec_l2State_B0) (fun i => ((s, (i : Int), ()), ())) (fun i => goodN (s.getD i 0)) s.length (.inl ((false, ()), ())) (.inr ((s, ()), ())) (fun i hi _ => by
    simp only [spec_l2State_B0, bif_decide, if_pos (show (i : Int) < (s.length : Int) by omega), guardB_true (inb_true (Int.natCast_nonneg i) (show (i : Int) < (s.length : Int) by omega)), Int.toNat_natCast, l1In_eq _ _ _, w64_succ (show i < 4611686018427387904 by omega), goodN]
    cases inR (s.getD i 0) (-99) 99 <;> rfl) (by simp [spec_l2State_B0])
  rw [allUpto_getD] at key
  simp only [spec_l2State]
  erw [key]
  have e : decide ((s.length : Int) ≤ 24) = decide (s.length ≤ 24) := by rw [decide_eq_decide]; omega
  cases h : s.all goodN
  · simp [goodState, h]
  · simp [goodState, h, e]
/-- where is the first one? -/
def firstIdx (p : Nat → Bool) : Nat → Nat → Int
  | _, 0 => -1
  | k, d + 1 => if p k then k else firstIdx p (k + 1) d
theorem firstIdx_neg {p : Nat → Bool} : ∀ {d k : Nat}, (decide ((0 : Int) ≤ firstIdx p k d) = !(allUpto (fun i => !p (k + i)) d))
  | 0, k => by simp [firstIdx, allUpto]
  | d + 1, k => by
    by_cases h : p k
    · rw [show firstIdx p k (d + 1) = k by simp [firstIdx, h]]
      have : allUpto (fun i => !p (k + i)) (d + 1) = false := by
        cases e : allUpto (fun i => !p (k + i)) (d + 1)
        · rfl
        · have := allUpto_iff.1 e 0 (by omega); simp [h] at this
      rw [this]; simp
    · rw [show firstIdx p k (d + 1) = firstIdx p (k + 1) d by simp [firstIdx, h], firstIdx_neg]
      congr 1
      rw [Bool.eq_iff_iff, allUpto_iff, allUpto_iff]
      constructor
      · intro g i hi
        cases i with
        | zero => simpa using h
        | succ i => have := g i (by omega); rw [show k + 1 + i = k + (i + 1) by omega] at this; exact this
      · intro g i hi
        have := g (i + 1) (by omega)
        rw [show k + (i + 1) = k + 1 + i by omega] at this; exact this
theorem loop_idx {P Q : Type} {B : P → Option (P ⊕ Q)} (st : Nat → P) (p : Nat → Bool) (n : Nat) (found : Int → Q) (fin : Q) (step : ∀ i, i < n → B (st i) = some (bif p i then .inr (found i) else .inl (st (i + 1)))) (stop : B (st n) = some (.inr fin)) :
    loopO B (st 0) = some (if firstIdx p 0 n < 0 then fin else found (firstIdx p 0 n)) := by
  suffices h : ∀ d k, k + d = n → loopO B (st k) = some (if firstIdx p k d < 0 then fin else found (firstIdx p k d)) from h n 0 (by omega)
  intro d
  induction d with
  | zero => intro k hk; have : k = n := by omega
            subst this; simpa [firstIdx] using loop_end stop
  | succ d ih =>
    intro k hk
    have h := step k (by omega)
    cases e : p k
    · rw [e] at h; rw [show firstIdx p k (d + 1) = firstIdx p (k + 1) d by simp [firstIdx, e]]; exact loop_step h (ih (k + 1) (by omega))
    · rw [e] at h; rw [show firstIdx p k (d + 1) = k by simp [firstIdx, e], if_neg (by omega)]; exact loop_end h
theorem isState_eq (s : List Int) (hs : s.length ≤ 1048576) : impl_isState (s, ()) () = some ((goodState s, ()), ()) := by
  have k1 : ∀ n : Int, impl_isState_1 (n, ()) () = some (((!goodN n), ()), ()) := fun n => by simp only [impl_isState_1, between_eq _ _ _, goodN]
  have key := loop_idx (B := slices_IndexFunc_int_int_2_vf_impl_isState_1_B0) (fun i => ((s, (s.length : Int), (i : Int), ()), ())) (fun i => !goodN (s.getD i 0)) s.length (fun i => .inl ((i, ()), ())) (.inr ((), ())) (fun i hi => by
    simp only [slices_IndexFunc_int_int_2_vf_impl_isState_1_B0, bif_decide, if_pos (show (i : Int) < (s.length : Int) by omega), guardB_true (inb_true (Int.natCast_nonneg i) (show (i : Int) < (s.length : Int) by omega)), Int.toNat_natCast, k1, w64_succ (show i < 4611686018427387904 by omega)]
    cases goodN (s.getD i 0) <;> rfl) (by simp [slices_IndexFunc_int_int_2_vf_impl_isState_1_B0])
  have k2 : slices_IndexFunc_int_int_2_vf_impl_isState_1 (s, ()) () = some ((firstIdx (fun i => !goodN (s.getD i 0)) 0 s.length, ()), ()) := by
    simp only [slices_IndexFunc_int_int_2_vf_impl_isState_1]
    erw [key]
    by_cases h : firstIdx (fun i => !goodN (s.getD i 0)) 0 s.length < 0
    · rw [if_pos h]
      have : ∀ d k, firstIdx (fun i => !goodN (s.getD i 0)) k d < 0 → firstIdx (fun i => !goodN (s.getD i 0)) k d = -1 := by
        intro d
        induction d with
        | zero => intro k _; rfl
        | succ d ih =>
          intro k hk
          simp only [firstIdx] at hk ⊢
          split
          · rename_i h; rw [if_pos h] at hk; omega
          · rename_i h; rw [if_neg h] at hk; exact ih _ hk
      rw [this _ _ h]
    · rw [if_neg h]
  simp only [impl_isState, slices_ContainsFunc_int_int_2_vf_impl_isState_1, k2, firstIdx_neg, bif_decide]
  have e : allUpto (fun i => !!goodN (s.getD (0 + i) 0)) s.length = s.all goodN := by
    rw [← allUpto_getD]; congr 1; funext i; simp
  rw [e]
  by_cases h : s.length ≤ 24
  · rw [if_pos (by omega)]; simp [goodState, h]
  · rw [if_neg (by omega)]; simp [goodState, h]

/-! ### the order of lists -/
def lexDiff : List Int → List Int → Option Bool
  | a :: l, b :: k => if a = b then lexDiff l k else some (decide (a < b))
  | _, _ => none
def lexLt (a b : List Int) : Bool := match lexDiff a b with
  | some t => t
  | none => decide (a.length < b.length)
def lexCmp : List Int → List Int → Int
  | a :: l, b :: k => if a < b then -1 else if b < a then 1 else lexCmp l k
  | [], [] => 0
  | [], _ :: _ => -1
  | _ :: _, [] => 1
theorem lexCmp_lt : ∀ (a b : List Int), decide ((0 : Int) ≤ lexCmp a b) = !lexLt a b
  | a :: l, b :: k => by
    by_cases h : a < b
    · simp [lexCmp, lexLt, lexDiff, h, show ¬ a = b by omega]
    · by_cases h2 : b < a
      · simp [lexCmp, lexLt, lexDiff, h, h2, show ¬ a = b by omega]
      · have e : a = b := by omega
        subst e
        rw [show lexCmp (a :: l) (a :: k) = lexCmp l k by simp [lexCmp], lexCmp_lt l k]
        simp only [lexLt, lexDiff, if_pos, List.length_cons]
        cases lexDiff l k <;> simp
  | [], [] => by simp [lexCmp, lexLt, lexDiff]
  | [], _ :: _ => by simp [lexCmp, lexLt, lexDiff]
  | _ :: _, [] => by simp [lexCmp, lexLt, lexDiff]
theorem l2Before_eq (a b : List Int) (ha : a.length ≤ 1048576) : spec_l2Before (a, b, ()) () = some ((lexLt a b, ()), ()) := by
  have key : ∀ d i, i + d = a.length → loopO spec_l2Before_B0 ((a, b, (i : Int), ()), ()) = some (match lexDiff (a.drop i) (b.drop i) with
      | some t => .inl ((t, ()), ())
      | none => .inr ((a, b, ()), ())) := by
    intro d
    induction d with
    | zero =>
      intro i hi
      have : i = a.length := by omega
      subst this
      refine loop_end ?_
      simp [spec_l2Before_B0, lexDiff]
    | succ d ih =>
      intro i hi
      have h1 : i < a.length := by omega
      by_cases h2 : i < b.length
      · rw [List.drop_eq_getElem_cons h1, List.drop_eq_getElem_cons h2]
        simp only [lexDiff]
        by_cases h3 : a[i] = b[i]
        · rw [if_pos h3]
          refine loop_step ?_ (ih (i + 1) (by omega))
          simp [spec_l2Before_B0, inb_nat, guardB, h1, h2, h3, w64_succ (show i < 4611686018427387904 by omega)]
        · rw [if_neg h3]
          refine loop_end ?_
          simp [spec_l2Before_B0, inb_nat, guardB, h1, h2, bne_ne h3]
      · have : lexDiff (a.drop i) (b.drop i) = none := by
          rw [List.drop_eq_nil_of_le (show b.length ≤ i by omega)]
          cases a.drop i <;> rfl
        rw [this]
        refine loop_end ?_
        simp [spec_l2Before_B0, inb_nat, guardB, h1, h2]
  simp only [spec_l2Before]
  erw [key a.length 0 (by omega)]
  simp only [List.drop_zero, lexLt]
  cases lexDiff a b <;> simp
theorem Compare_eq (a b : List Int) (ha : a.length ≤ 1048576) : slices_Compare_int_int (a, b, ()) () = some ((lexCmp a b, ()), ()) := by
  have key : ∀ d i, i + d = a.length → ∃ q, loopO slices_Compare_int_int_B0 ((a, b, a, (a.length : Int), (i : Int), ()), ()) = some q ∧ ((q = .inl ((lexCmp (a.drop i) (b.drop i), ()), ())) ∨ (q = .inr ((a, b, ()), ()) ∧ (i ≤ b.length → lexCmp (a.drop i) (b.drop i) = if a.length < b.length then -1 else 0))) := by
    intro d
    induction d with
    | zero =>
      intro i hi
      have : i = a.length := by omega
      subst this
      refine ⟨_, loop_end (q := .inr ((a, b, ()), ())) (by simp [slices_Compare_int_int_B0]), .inr ⟨rfl, fun hb => ?_⟩⟩
      rw [List.drop_length]
      by_cases h : a.length < b.length
      · rw [List.drop_eq_getElem_cons h, if_pos h]; rfl
      · rw [List.drop_eq_nil_of_le (by omega), if_neg h]; rfl
    | succ d ih =>
      intro i hi
      have h1 : i < a.length := by omega
      by_cases h2 : i < b.length
      · rw [List.drop_eq_getElem_cons h1, List.drop_eq_getElem_cons h2]
        simp only [lexCmp]
        have e : slices_Compare_int_int_B0 ((a, b, a, (a.length : Int), (i : Int), ()), ()) = some (if (if a[i] < b[i] then (-1 : Int) else if b[i] < a[i] then 1 else 0) = 0 then .inl ((a, b, a, (a.length : Int), ((i + 1 : Nat) : Int), ()), ()) else .inr (.inl (((if a[i] < b[i] then (-1 : Int) else if b[i] < a[i] then 1 else 0), ()), ()))) := by
          simp only [slices_Compare_int_int_B0, bif_decide, if_pos (show (i : Int) < (a.length : Int) by omega), if_neg (show ¬ (b.length : Int) ≤ (i : Int) by omega), guardB_true (inb_true (Int.natCast_nonneg i) (show (i : Int) < (a.length : Int) by omega)), guardB_true (inb_true (Int.natCast_nonneg i) (show (i : Int) < (b.length : Int) by omega)), Int.toNat_natCast, getD_at h1, getD_at h2, cmp_eq _ _, w64_succ (show i < 4611686018427387904 by omega)]
          by_cases h3 : a[i] < b[i]
          · simp [h3]
          · by_cases h4 : b[i] < a[i]
            · simp [h3, h4]
            · simp [h3, h4]
        by_cases h3 : a[i] < b[i]
        · simp only [if_pos h3] at e ⊢
          exact ⟨_, loop_end e, .inl rfl⟩
        · by_cases h4 : b[i] < a[i]
          · simp only [if_neg h3, if_pos h4] at e ⊢
            exact ⟨_, loop_end e, .inl rfl⟩
          · simp only [if_neg h3, if_neg h4, if_pos] at e ⊢
            obtain ⟨q, q1, q2⟩ := ih (i + 1) (by omega)
            refine ⟨q, loop_step e q1, q2.imp id fun ⟨r1, r2⟩ => ⟨r1, fun _ => r2 (by omega)⟩⟩
      · refine ⟨_, loop_end (q := .inl ((1, ()), ())) (by simp [slices_Compare_int_int_B0, inb_nat, guardB, h1, show b.length ≤ i by omega]), .inl ?_⟩
        rw [List.drop_eq_nil_of_le (show b.length ≤ i by omega), List.drop_eq_getElem_cons h1]
        rfl
  obtain ⟨q, q1, q2⟩ := key a.length 0 (by omega)
  simp only [slices_Compare_int_int]
  erw [q1]
  simp only [List.drop_zero] at q2
  rcases q2 with rfl | ⟨rfl, q2⟩
  · rfl
  · rw [q2 (Nat.zero_le _)]
    simp only [bif_decide, Int.ofNat_lt]
    split <;> rfl

/-! ### pairs -/
def edgeB (a b : Int × Int) : Bool := decide (a.1 < b.1) || (decide (a.1 = b.1) && decide (a.2 < b.2))
theorem l2Edge_eq (a b : Int × Int) : spec_l2Edge (a, b, ()) () = some ((edgeB a b, ()), ()) := by
  simp only [spec_l2Edge, edgeB]
  by_cases h : a.1 < b.1
  · simp [h]
  · by_cases h2 : a.1 = b.1
    · simp [h, h2]
    · simp [h, h2, beq_ne h2]
theorem cmpOr_eq (x y : Int) : cmp_Or_int ([x, y], ()) () = some (((if x = 0 then y else x), ()), ()) := by
  simp only [cmp_Or_int]
  have e0 : cmp_Or_int_B0 ((0, [x, y], ([x, y].length : Int), 0, ()), ()) = some (if x = 0 then .inl ((0, [x, y], ([x, y].length : Int), 1, ()), ()) else .inr (.inl ((x, ()), ()))) := by
    by_cases h : x = 0
    · simp [cmp_Or_int_B0, inb, guardB, h]; rfl
    · simp [cmp_Or_int_B0, inb, guardB, h, bne_ne h]
  have e1 : cmp_Or_int_B0 ((0, [x, y], ([x, y].length : Int), 1, ()), ()) = some (if y = 0 then .inl ((0, [x, y], ([x, y].length : Int), 2, ()), ()) else .inr (.inl ((y, ()), ()))) := by
    by_cases h : y = 0
    · simp [cmp_Or_int_B0, inb, guardB, h]; rfl
    · simp [cmp_Or_int_B0, inb, guardB, h, bne_ne h]
  have e2 : cmp_Or_int_B0 ((0, [x, y], ([x, y].length : Int), 2, ()), ()) = some (.inr (.inr ((0, ()), ()))) := by
    simp [cmp_Or_int_B0]
  by_cases h : x = 0
  · rw [if_pos h] at e0 ⊢
    by_cases g : y = 0
    · rw [if_pos g] at e1
      rw [loop_step e0 (loop_step e1 (loop_end e2)), g]
    · rw [if_neg g] at e1
      rw [loop_step e0 (loop_end e1)]
  · rw [if_neg h] at e0 ⊢
    rw [loop_end e0]
theorem comparePairs_eq (a b : Int × Int) : ∃ r : Int, impl_comparePairs (a, b, ()) () = some ((r, ()), ()) ∧ (decide ((0 : Int) ≤ r) = !edgeB a b) ∧ (r = 0 ↔ a = b) := by
  obtain ⟨a1, a2⟩ := a
  obtain ⟨b1, b2⟩ := b
  simp only [impl_comparePairs, cmp_eq _ _, cmpOr_eq _ _]
  refine ⟨_, rfl, ?_, ?_⟩
  · simp only [edgeB]
    by_cases h : a1 < b1
    · simp [h]
    · by_cases h2 : b1 < a1
      · have : ¬ a1 = b1 := by omega
        simp [h, h2, this]
      · have : a1 = b1 := by omega
        subst this
        by_cases h3 : a2 < b2
        · simp [h3]
        · by_cases h4 : b2 < a2 <;> simp [h3, h4]
  · simp only [Prod.mk.injEq]
    by_cases h : a1 < b1
    · simp [h]; omega
    · by_cases h2 : b1 < a1
      · simp [h, h2]; omega
      · have : a1 = b1 := by omega
        subst this
        by_cases h3 : a2 < b2
        · simp [h3]; omega
        · by_cases h4 : b2 < a2
          · simp [h3, h4]; omega
          · simp [h3, h4]; omega
def pairB (l : List (Int × Int)) (n : Int) (i : Nat) : Bool :=
  decide (0 ≤ (l.getD i (0, 0)).1) && (decide ((l.getD i (0, 0)).1 < (l.getD i (0, 0)).2) && (decide ((l.getD i (0, 0)).2 < n) && (decide (i = 0) || edgeB (l.getD (i - 1) (0, 0)) (l.getD i (0, 0)))))
def pairsB (l : List (Int × Int)) (n : Int) : Bool := allUpto (pairB l n) l.length
theorem l2Pairs_eq (l : List (Int × Int)) (n : Int) (hl : l.length ≤ 1048576) (h0 : -1048576 ≤ n) (hn : n ≤ 1048576) : spec_l2Pairs (l, n, ()) () = some ((pairsB l n, ()), ()) := by
  have key := loop_all (B := spec_l2Pairs_B0) (fun i => ((l, n, (i : Int), ()), ())) (pairB l n) l.length (.inl ((false, ()), ())) (.inr ((), ())) (fun i hi _ => by
    obtain ⟨e, he⟩ : ∃ e : Int × Int, l.getD i (0, 0) = e := ⟨_, rfl⟩
    simp only [spec_l2Pairs_B0, bif_decide, if_pos (show (i : Int) < (l.length : Int) by omega), guardB_true (inb_true (Int.natCast_nonneg i) (show (i : Int) < (l.length : Int) by omega)), Int.toNat_natCast, l1In_eq _ _ _, w64_succ (show i < 4611686018427387904 by omega), w64_of (x := n - 1) (by omega) (by omega), pairB, inR, he]
    by_cases h1 : 0 ≤ e.1
    · by_cases h2 : e.1 ≤ n - 1
      · by_cases h3 : 0 ≤ e.2
        · by_cases h4 : e.2 ≤ n - 1
          · by_cases h5 : e.2 ≤ e.1
            · simp [h1, h2, h3, h4, h5, show ¬ e.1 < e.2 by omega]
            · by_cases h6 : i = 0
              · subst h6
                simp [h1, h2, h3, h4, h5, show e.1 < e.2 by omega, show e.2 < n by omega]
              · rw [w64_pred (by omega) (by omega), guardB_true (inb_true (Int.natCast_nonneg _) (show ((i - 1 : Nat) : Int) < (l.length : Int) by omega)), Int.toNat_natCast, l2Edge_eq]
                cases edgeB (l.getD (i - 1) (0, 0)) e <;> simp [h1, h2, h3, h4, h5, h6, show e.1 < e.2 by omega, show e.2 < n by omega, show 0 < i by omega]
          · simp [h1, h2, h3, h4, show ¬ e.2 < n by omega]
        · simp [h1, h2, h3, show ¬ e.1 < e.2 by omega]
      · simp only [h1, h2, decide_true, decide_false, Bool.and_false, Bool.not_false, cond_true, Bool.true_and]
        by_cases h3 : e.1 < e.2
        · simp [h3, show ¬ e.2 < n by omega]
        · simp [h3]
    · simp [h1]) (by simp [spec_l2Pairs_B0])
  simp only [spec_l2Pairs]
  erw [key]
  simp only [pairsB]
  cases allUpto (pairB l n) l.length <;> rfl
theorem isPairs_eq (l : List (Int × Int)) (n : Int) (hl : l.length ≤ 1048576) : impl_isPairs (l, n, ()) () = some ((pairsB l n, ()), ()) := by
  have key := loop_all (B := impl_isPairs_B0) (fun i => ((l, n, l, (l.length : Int), (i : Int), ()), ())) (pairB l n) l.length (.inl ((false, ()), ())) (.inr ((), ())) (fun i hi _ => by
    obtain ⟨e, he⟩ : ∃ e : Int × Int, l.getD i (0, 0) = e := ⟨_, rfl⟩
    simp only [impl_isPairs_B0, bif_decide, if_pos (show (i : Int) < (l.length : Int) by omega), guardB_true (inb_true (Int.natCast_nonneg i) (show (i : Int) < (l.length : Int) by omega)), Int.toNat_natCast, w64_succ (show i < 4611686018427387904 by omega), pairB, he]
    by_cases h1 : e.1 < 0
    · simp [h1, show ¬ 0 ≤ e.1 by omega]
    · by_cases h2 : e.2 ≤ e.1
      · simp [h1, h2, show ¬ e.1 < e.2 by omega]
      · by_cases h3 : n ≤ e.2
        · simp [h1, h2, h3, show ¬ e.2 < n by omega]
        · by_cases h6 : i = 0
          · subst h6
            simp [h1, h2, h3, show 0 ≤ e.1 by omega, show e.1 < e.2 by omega, show e.2 < n by omega]
          · obtain ⟨r, r1, r2, _⟩ := comparePairs_eq (l.getD (i - 1) (0, 0)) e
            rw [w64_pred (by omega) (by omega), guardB_true (inb_true (Int.natCast_nonneg _) (show ((i - 1 : Nat) : Int) < (l.length : Int) by omega)), Int.toNat_natCast, r1]
            simp only [if_neg h1, if_neg h2, if_neg h3, if_pos (show (0 : Int) < (i : Int) by omega), ← bif_decide, r2]
            cases edgeB (l.getD (i - 1) (0, 0)) e <;> simp [h6, show 0 ≤ e.1 by omega, show e.1 < e.2 by omega, show e.2 < n by omega]) (by simp [impl_isPairs_B0])
  simp only [impl_isPairs]
  erw [key]
  simp only [pairsB]
  cases allUpto (pairB l n) l.length <;> rfl

/-! ### spaces -/
def stateB (L : List (List Int)) (i : Nat) : Bool := goodState (L.getD i []) && (decide (i = 0) || lexLt (L.getD (i - 1) []) (L.getD i []))
def spaceB (x : List (List Int) × List (Int × Int)) : Bool := decide (x.1.length ≤ 300) && (decide (x.2.length ≤ 6000) && (allUpto (stateB x.1) x.1.length && pairsB x.2 x.1.length))
theorem l2Space_eq (x : List (List Int) × List (Int × Int)) (hx : Few x) : spec_l2Space (x, ()) () = some ((spaceB x, ()), ()) := by
  obtain ⟨L, S⟩ := x
  have hL := hx.states
  have hs := hx.state
  have hS := hx.steps
  dsimp only at hL hs hS
  have hlen : ∀ i, i < L.length → (L.getD i []).length ≤ 1048576 := fun i hi => by rw [getD_at hi]; exact hs _ (List.getElem_mem hi)
  have key := loop_all (B := spec_l2Space_B0) (fun i => (((L, S), (i : Int), ()), ())) (stateB L) L.length (.inl ((false, ()), ())) (.inr (((L, S), ()), ())) (fun i hi _ => by
    simp only [spec_l2Space_B0, bif_decide, if_pos (show (i : Int) < (L.length : Int) by omega), guardB_true (inb_true (Int.natCast_nonneg i) (show (i : Int) < (L.length : Int) by omega)), Int.toNat_natCast, l2State_eq _ (hlen i hi), w64_succ (show i < 4611686018427387904 by omega), stateB]
    by_cases h6 : i = 0
    · subst h6
      cases goodState (L.getD 0 []) <;> simp
    · rw [w64_pred (by omega) (by omega), guardB_true (inb_true (Int.natCast_nonneg _) (show ((i - 1 : Nat) : Int) < (L.length : Int) by omega)), Int.toNat_natCast, l2Before_eq _ _ (hlen (i - 1) (by omega))]
      cases goodState (L.getD i []) <;> cases lexLt (L.getD (i - 1) []) (L.getD i []) <;> simp [h6, show 0 < i by omega]) (by simp [spec_l2Space_B0])
  simp only [spec_l2Space, bif_decide, spaceB]
  by_cases h1 : L.length ≤ 300
  · rw [if_neg (by omega)]
    by_cases h2 : S.length ≤ 6000
    · rw [if_neg (by omega)]
      erw [key]
      simp only [h1, h2, decide_true, Bool.true_and]
      cases h3 : allUpto (stateB L) L.length
      · rfl
      · simp only [cond_true, l2Pairs_eq S (L.length : Int) hS (by omega) (by omega), Bool.true_and]
    · rw [if_pos (by omega)]; simp [h2]
  · rw [if_pos (by omega)]; simp [h1]
theorem IsSpace_eq (x : List (List Int) × List (Int × Int)) (hx : Few x) : impl_IsSpace (x, ()) () = some ((spaceB x, ()), ()) := by
  obtain ⟨L, S⟩ := x
  have hL := hx.states
  have hs := hx.state
  have hS := hx.steps
  dsimp only at hL hs hS
  have hlen : ∀ i, i < L.length → (L.getD i []).length ≤ 1048576 := fun i hi => by rw [getD_at hi]; exact hs _ (List.getElem_mem hi)
  have key := loop_all (B := impl_IsSpace_B0) (fun i => (((L, S), L, (L.length : Int), (i : Int), ()), ())) (stateB L) L.length (.inl ((false, ()), ())) (.inr (((L, S), ()), ())) (fun i hi _ => by
    simp only [impl_IsSpace_B0, if_pos (show (i : Int) < (L.length : Int) by omega), guardB_true (inb_true (Int.natCast_nonneg i) (show (i : Int) < (L.length : Int) by omega)), Int.toNat_natCast, isState_eq _ (hlen i hi), w64_succ (show i < 4611686018427387904 by omega), stateB]
    by_cases h6 : i = 0
    · subst h6
      cases goodState (L.getD 0 []) <;> simp [hi]
    · rw [w64_pred (by omega) (by omega), guardB_true (inb_true (Int.natCast_nonneg _) (show ((i - 1 : Nat) : Int) < (L.length : Int) by omega)), Int.toNat_natCast, Compare_eq _ _ (hlen (i - 1) (by omega))]
      simp only [lexCmp_lt]
      cases goodState (L.getD i []) <;> cases lexLt (L.getD (i - 1) []) (L.getD i []) <;> simp [h6, hi, show 0 < i by omega]) (by simp [impl_IsSpace_B0])
  simp only [impl_IsSpace, bif_decide, spaceB]
  by_cases h1 : L.length ≤ 300
  · rw [if_neg (by omega)]
    by_cases h2 : S.length ≤ 6000
    · rw [if_neg (by omega)]
      erw [key]
      simp only [h1, h2, decide_true, Bool.true_and]
      cases h3 : allUpto (stateB L) L.length
      · rfl
      · simp only [cond_true, isPairs_eq S (L.length : Int) hS, Bool.true_and]
    · rw [if_pos (by omega)]; simp [h2]
  · rw [if_pos (by omega)]; simp [h1]
/-! ### agents -/
theorem l1Has_eq (l : List Int) (n : Int) (hl : l.length ≤ 1048576) : spec_l1Has (l, n, ()) () = some ((decide (n ∈ l), ()), ()) := by
  have key := loop_all (B := spec_l1Has_B0) (fun i => ((l, n, (i : Int), ()), ())) (fun i => !decide (l.getD i 0 = n)) l.length (.inl ((true, ()), ())) (.inr ((), ())) (fun i hi _ => by
    simp only [spec_l1Has_B0, bif_decide, if_pos (show (i : Int) < (l.length : Int) by omega), guardB_true (inb_true (Int.natCast_nonneg i) (show (i : Int) < (l.length : Int) by omega)), Int.toNat_natCast, w64_succ (show i < 4611686018427387904 by omega)]
    by_cases h : l.getD i 0 = n
    · rw [beq_eq h, decide_eq_true h]; rfl
    · rw [beq_ne h, decide_eq_false h]; rfl) (by simp [spec_l1Has_B0])
  have e : decide (n ∈ l) = !allUpto (fun i => !decide (l.getD i 0 = n)) l.length := by
    rw [Bool.eq_iff_iff, decide_eq_true_iff, Bool.not_eq_true', ← Bool.not_eq_true, allUpto_iff]
    constructor
    · intro h g
      obtain ⟨i, hi, rfl⟩ := List.getElem_of_mem h
      have := g i hi
      rw [getD_at hi] at this
      simp at this
    · intro h
      refine Classical.byContradiction fun g => h fun i hi => ?_
      rw [getD_at hi]
      simp only [Bool.not_eq_true', decide_eq_false_iff_not]
      intro e
      exact g (e ▸ List.getElem_mem hi)
  simp only [spec_l1Has]
  erw [key]
  rw [e]
  cases allUpto (fun i => !decide (l.getD i 0 = n)) l.length <;> rfl
def agentsB (n : Nat) (l : List Int) : Bool := inR l.length 1 3 && (decide l.Nodup && l.all fun i => inR i 0 ((n : Int) - 1))
theorem take_mem_nodup : ∀ (l : List Int), (∀ i, i < l.length → l.getD i 0 ∉ l.take i) ↔ l.Nodup
  | l => by
    rw [List.nodup_iff_pairwise_ne, List.pairwise_iff_getElem]
    constructor
    · intro h i j hi hj hij e
      refine h j hj ?_
      rw [getD_at hj, ← e]
      exact List.mem_take_iff_getElem.2 ⟨i, by omega, rfl⟩
    · intro h i hi hm
      rw [getD_at hi] at hm
      obtain ⟨k, hk, e⟩ := List.mem_take_iff_getElem.1 hm
      exact h k i (by omega) hi (by omega) e
theorem l11Agents_eq (x : List (List Int) × List (Int × Int)) (l : List Int) (hx : x.1.length ≤ 1048576) (hl : l.length ≤ 1048576) : spec_l11Agents (x, l, ()) () = some ((agentsB x.1.length l, ()), ()) := by
  have key := loop_all (B := spec_l11Agents_B0) (fun i => ((l, x, (i : Int), ()), ())) (fun i => inR (l.getD i 0) 0 ((x.1.length : Int) - 1) && !decide (l.getD i 0 ∈ l.take i)) l.length (.inl ((false, ()), ())) (.inr ((l, ()), ())) (fun i hi _ => by
    simp only [spec_l11Agents_B0, bif_decide, if_pos (show (i : Int) < (l.length : Int) by omega), guardB_true (inb_true (Int.natCast_nonneg i) (show (i : Int) < (l.length : Int) by omega)), Int.toNat_natCast, w64_succ (show i < 4611686018427387904 by omega), w64_of (x := (x.1.length : Int) - 1) (by omega) (by omega), l1In_eq _ _ _, l1Has_eq (l.take i) (l.getD i 0) (by simp; omega)]
    rw [guardB_true (by simp; omega)]
    cases inR (l.getD i 0) 0 ((x.1.length : Int) - 1)
    · rfl
    · by_cases h : l.getD i 0 ∈ l.take i
      · simp only [decide_eq_true h, if_pos h]; rfl
      · simp only [decide_eq_false h, if_neg h]; rfl) (by simp [spec_l11Agents_B0])
  simp only [spec_l11Agents]
  erw [key]
  have e : allUpto (fun i => inR (l.getD i 0) 0 ((x.1.length : Int) - 1) && !decide (l.getD i 0 ∈ l.take i)) l.length = (decide l.Nodup && l.all fun i => inR i 0 ((x.1.length : Int) - 1)) := by
    rw [Bool.eq_iff_iff, allUpto_iff]
    simp only [Bool.and_eq_true, Bool.not_eq_true', decide_eq_false_iff_not, decide_eq_true_iff, ← take_mem_nodup, List.all_eq_true]
    constructor
    · intro h
      refine ⟨fun i hi => (h i hi).2, fun y hy => ?_⟩
      obtain ⟨i, hi, rfl⟩ := List.getElem_of_mem hy
      have := (h i hi).1
      rwa [getD_at hi] at this
    · rintro ⟨h1, h2⟩ i hi
      exact ⟨by rw [getD_at hi]; exact h2 _ (List.getElem_mem hi), h1 i hi⟩
  rw [e]
  simp only [agentsB]
  cases h : (decide l.Nodup && l.all fun i => inR i 0 ((x.1.length : Int) - 1))
  · simp
  · simp only [cond_true, l1In_eq _ _ _, Bool.and_true]
theorem compact_nodup (zs : List Int) (hs : zs.Pairwise (· ≤ ·)) : (Lib.compact zs).length = zs.length ↔ zs.Nodup := by
  have e : (Lib.compact zs).length = ((List.range zs.length).filter (Lib.keeps zs.toArray)).length := by simp [Lib.compact, Lib.compactUpTo]
  rw [e]
  have e2 : zs.length = (List.range zs.length).length := by simp
  conv => lhs; rhs; rw [e2]
  rw [List.length_filter_eq_length_iff]
  constructor
  · intro h
    rw [List.nodup_iff_pairwise_ne, List.pairwise_iff_getElem]
    rw [List.pairwise_iff_getElem] at hs
    intro i j hi hj hij e
    have hk := h (i + 1) (by simp; omega)
    have h1 : zs[i] ≤ zs[i + 1] := hs i (i + 1) hi (by omega) (by omega)
    have h2 : zs[i + 1] ≤ zs[j] := by
      rcases Nat.lt_or_ge (i + 1) j with g | g
      · exact hs (i + 1) j (by omega) hj g
      · have : j = i + 1 := by omega
        subst this; exact Int.le_refl _
    have h3 : zs[i + 1] = zs[i] := by omega
    simp [Lib.keeps, h3, hi, show i + 1 < zs.length by omega] at hk
  · intro h i hi
    rw [List.nodup_iff_pairwise_ne, List.pairwise_iff_getElem] at h
    have hi : i < zs.length := by simpa using hi
    rcases Nat.eq_zero_or_pos i with g | g
    · subst g; simp [Lib.keeps]
    · have := h (i - 1) i (by omega) hi (by omega)
      simp [Lib.keeps, hi, show i - 1 < zs.length by omega]
      exact .inr fun e => this e.symm
theorem sort_sorted (l : List Int) : (l.mergeSort fun a b => decide (a ≤ b)).Pairwise (· ≤ ·) := by
  have := List.pairwise_mergeSort (le := fun a b : Int => decide (a ≤ b)) (fun a b c h1 h2 => by simp at *; omega) (fun a b => by simp; omega) l
  exact this.imp fun h => by simpa using h
theorem sort_compact (l : List Int) : ((Lib.compact (l.mergeSort fun a b => decide (a ≤ b))).length = l.length) ↔ l.Nodup := by
  have h := compact_nodup _ (sort_sorted l)
  rw [List.length_mergeSort] at h
  rw [h, (List.mergeSort_perm l _).nodup_iff]
theorem isPlace_eq (x : List (List Int) × List (Int × Int)) (i : Int) (hx : x.1.length ≤ 1048576) : impl_Space_isPlace (x, i, ()) () = some ((inR i 0 ((x.1.length : Int) - 1), ()), ()) := by
  simp only [impl_Space_isPlace, between_eq _ _ _, w64_of (x := (x.1.length : Int) - 1) (by omega) (by omega)]
theorem firstIdx_range {p : Nat → Bool} : ∀ (d k : Nat), firstIdx p k d < 0 → firstIdx p k d = -1
  | 0, k, _ => rfl
  | d + 1, k, h => by
    simp only [firstIdx] at h ⊢
    split
    · rename_i g; rw [if_pos g] at h; omega
    · rename_i g; rw [if_neg g] at h; exact firstIdx_range d (k + 1) h
theorem areAgents_eq (x : List (List Int) × List (Int × Int)) (l : List Int) (hx : x.1.length ≤ 1048576) (hl : l.length ≤ 1048576) : impl_Space_areAgents (x, l, ()) () = some ((agentsB x.1.length l, ()), ()) := by
  have k1 : ∀ i : Int, impl_Space_areAgents_1_vc (i, x, ()) () = some (((!inR i 0 ((x.1.length : Int) - 1)), ()), ()) := fun i => by simp only [impl_Space_areAgents_1_vc, isPlace_eq x i hx]
  have key := loop_idx (B := slices_IndexFunc_int_int_2_vf_impl_Space_areAgents_1_0__bs_B0) (fun i => ((l, (l.length : Int), (i : Int), ()), (x, ()))) (fun i => !inR (l.getD i 0) 0 ((x.1.length : Int) - 1)) l.length (fun i => .inl ((i, ()), (x, ()))) (.inr ((), (x, ()))) (fun i hi => by
    simp only [slices_IndexFunc_int_int_2_vf_impl_Space_areAgents_1_0__bs_B0, bif_decide, if_pos (show (i : Int) < (l.length : Int) by omega), guardB_true (inb_true (Int.natCast_nonneg i) (show (i : Int) < (l.length : Int) by omega)), Int.toNat_natCast, k1 _, w64_succ (show i < 4611686018427387904 by omega)]
    cases inR (l.getD i 0) 0 ((x.1.length : Int) - 1) <;> rfl) (by simp [slices_IndexFunc_int_int_2_vf_impl_Space_areAgents_1_0__bs_B0])
  have k2 : slices_IndexFunc_int_int_2_vf_impl_Space_areAgents_1_0__bs (l, ()) (x, ()) = some ((firstIdx (fun i => !inR (l.getD i 0) 0 ((x.1.length : Int) - 1)) 0 l.length, ()), (x, ())) := by
    simp only [slices_IndexFunc_int_int_2_vf_impl_Space_areAgents_1_0__bs]
    erw [key]
    by_cases h : firstIdx (fun i => !inR (l.getD i 0) 0 ((x.1.length : Int) - 1)) 0 l.length < 0
    · rw [if_pos h, firstIdx_range _ _ h]
    · rw [if_neg h]
  have e : allUpto (fun i => inR (l.getD (0 + i) 0) 0 ((x.1.length : Int) - 1)) l.length = l.all fun i => inR i 0 ((x.1.length : Int) - 1) := by
    rw [← allUpto_getD]; congr 1; funext i; simp
  simp only [impl_Space_areAgents, between_eq _ _ _, agentsB, slices_Sorted_int, slices_Compact_int_int, sortedFn, compactFn]
  cases h1 : inR (l.length : Int) 1 3
  · rfl
  · rw [guardB_true (by simp; omega)]
    simp only [cond_true, slices_ContainsFunc_int_int_2_vf_impl_Space_areAgents_1_0__bs, k2, firstIdx_neg, e, Bool.not_not, Bool.true_and]
    by_cases h2 : l.Nodup
    · have h3 := (sort_compact l).2 h2
      rw [beq_eq (by rw [h3])]
      simp [h2]
    · rw [beq_ne (fun h3 => h2 ((sort_compact l).1 (Int.ofNat_inj.1 h3)))]
      simp [h2]
theorem FnExactAreAgents_true (x : List (List Int) × List (Int × Int)) (l : List Int) (hx : Sm (.prod (.list (.list I)) (.list (.prod I I))) x) (hl : Sm (.list I) l) : laws_FnExactAreAgents (x, l, ()) () = some ((true, ()), ()) := by
  have hl := hl.1
  simp only [laws_FnExactAreAgents, bif_decide]
  by_cases h1 : (1048576 : Int) < (l.length : Int)
  · rw [if_pos h1]
  rw [if_neg h1]
  have hl' : l.length ≤ 1048576 := by omega
  obtain ⟨r, e1, e2, e3, e4⟩ := szSpace_eq x 1048576 (by omega) (by omega) hx
  rw [e1]
  by_cases h2 : r < 0
  · simp only [if_pos h2]
  have hF := e3 (by omega)
  simp only [if_neg h2, toSpace_eq x hF, toIntS_eq l hl', spec_AreAgents, impl_AreAgents, l2Space_eq x hF, IsSpace_eq x hF, l11Agents_eq x l hF.states hl', areAgents_eq x l hF.states hl', eqSpace_eq x hF, eqIntS_eq l hl']
  cases spaceB x
  · rfl
  · cases agentsB x.1.length l <;> rfl
end Go.Proofs.Ytolabkhcmcfnpaa.V
