/-
  What the reference and the program compute agrees: plain lemmas over numbers and lists.
-/
import Derived.Test.YtolabkhcmcfnpaaTFnExactLeastPeak
import Derived.Test.YtolabkhcmcfnpaaE3
namespace Go.Proofs.Ytolabkhcmcfnpaa.V
open Go Go.Ve Go.Proofs
set_option linter.unusedVariables false
set_option linter.unusedSimpArgs false
theorem fold_len {n : Nat} (h : n ≤ 1048576) : (decide (0 ≤ (n : Int)) && decide ((n : Int) ≤ (n : Int)) && decide ((n : Int) * 8 ≤ 140737488355328)) = true ∧ (decide (0 ≤ (n : Int)) && decide ((n : Int) ≤ (n : Int)) && decide ((n : Int) * 24 ≤ 140737488355328)) = true ∧ (decide (0 ≤ (n : Int)) && decide ((n : Int) ≤ (n : Int)) && decide ((n : Int) * 16 ≤ 140737488355328)) = true := by
  refine ⟨?_, ?_, ?_⟩ <;> simp <;> omega

theorem toIntS_eq (l : List Int) (hl : l.length ≤ 1048576) : laws_toIntS (l, ()) () = some ((l, ()), ()) := by
  simp only [laws_toIntS, guardB_true (fold_len hl).1, Int.toNat_natCast]
  have key : loopO laws_toIntS_B0 ((l, fill (fun j => l.getD j 0) 0 l.length 0, ((0 : Nat) : Int), ()), ()) = some ((fill (fun j => l.getD j 0) 0 l.length l.length, ()), ()) := by
    refine loop_count (fun i => ((l, fill (fun j => l.getD j 0) 0 l.length i, (i : Int), ()), ())) l.length _ (fun i hi => ?_) ?_ 0 (Nat.zero_le _)
    · simp only [laws_toIntS_B0, bif_decide, if_pos (show (i : Int) < (l.length : Int) by omega), fill_len, guardB_true (inb_true (Int.natCast_nonneg i) (show (i : Int) < (l.length : Int) by omega)), Int.toNat_natCast, fill_set hi, w64_succ (show i < 4611686018427387904 by omega)]
    · simp only [laws_toIntS_B0, bif_decide, if_neg (show ¬ (l.length : Int) < (l.length : Int) by omega)]
  rw [fill_zero, fill_all, range_getD] at key
  erw [key]

theorem toIntSS_eq (l : List (List Int)) (hl : l.length ≤ 1048576) (h : ∀ x ∈ l, x.length ≤ 1048576) : laws_toIntSS (l, ()) () = some ((l, ()), ()) := by
  simp only [laws_toIntSS, guardB_true (fold_len hl).2.1, Int.toNat_natCast]
  have key : loopO laws_toIntSS_B0 ((l, fill (fun j => l.getD j []) [] l.length 0, ((0 : Nat) : Int), ()), ()) = some ((fill (fun j => l.getD j []) [] l.length l.length, ()), ()) := by
    refine loop_count (fun i => ((l, fill (fun j => l.getD j []) [] l.length i, (i : Int), ()), ())) l.length _ (fun i hi => ?_) ?_ 0 (Nat.zero_le _)
    · simp only [laws_toIntSS_B0, bif_decide, if_pos (show (i : Int) < (l.length : Int) by omega), fill_len, guardB_true (inb_true (Int.natCast_nonneg i) (show (i : Int) < (l.length : Int) by omega)), Int.toNat_natCast]
      rw [toIntS_eq (l.getD i []) (by rw [getD_at hi]; exact h _ (List.getElem_mem hi))]
      simp only [fill_set (f := fun j => l.getD j []) hi, w64_succ (show i < 4611686018427387904 by omega)]
    · simp only [laws_toIntSS_B0, bif_decide, if_neg (show ¬ (l.length : Int) < (l.length : Int) by omega)]
  rw [fill_zero, fill_all, range_getD] at key
  erw [key]

theorem toIntA2_eq (a : Int × Int) : laws_toIntA2 (a, ()) () = some ((a, ()), ()) := by
  obtain ⟨x, y⟩ := a
  have e0 : laws_toIntA2_B0 (((x, y), 0, ()), ((0, 0), (0, 0), ())) = some (.inl (((x, y), 1, ()), ((0, 0), (x, 0), ()))) := rfl
  have e1 : laws_toIntA2_B0 (((x, y), 1, ()), ((0, 0), (x, 0), ())) = some (.inl (((x, y), 2, ()), ((0, 0), (x, y), ()))) := rfl
  have e2 : laws_toIntA2_B0 (((x, y), 2, ()), ((0, 0), (x, y), ())) = some (.inr ((), ((0, 0), (x, y), ()))) := rfl
  simp only [laws_toIntA2, loop_step e0 (loop_step e1 (loop_end e2))]

theorem toIntA2S_eq (l : List (Int × Int)) (hl : l.length ≤ 1048576) : laws_toIntA2S (l, ()) () = some ((l, ()), ()) := by
  simp only [laws_toIntA2S, guardB_true (fold_len hl).2.2, Int.toNat_natCast]
  have key : loopO laws_toIntA2S_B0 ((l, fill (fun j => l.getD j (0, 0)) (0, 0) l.length 0, ((0 : Nat) : Int), ()), ()) = some ((fill (fun j => l.getD j (0, 0)) (0, 0) l.length l.length, ()), ()) := by
    refine loop_count (fun i => ((l, fill (fun j => l.getD j (0, 0)) (0, 0) l.length i, (i : Int), ()), ())) l.length _ (fun i hi => ?_) ?_ 0 (Nat.zero_le _)
    · simp only [laws_toIntA2S_B0, bif_decide, if_pos (show (i : Int) < (l.length : Int) by omega), fill_len, guardB_true (inb_true (Int.natCast_nonneg i) (show (i : Int) < (l.length : Int) by omega)), Int.toNat_natCast]
      rw [toIntA2_eq]
      simp only [fill_set (f := fun j => l.getD j (0, 0)) hi, w64_succ (show i < 4611686018427387904 by omega)]
    · simp only [laws_toIntA2S_B0, bif_decide, if_neg (show ¬ (l.length : Int) < (l.length : Int) by omega)]
  rw [fill_zero, fill_all, range_getD] at key
  erw [key]

theorem allUpto_true {n : Nat} : allUpto (fun _ => true) n = true := allUpto_iff.2 fun _ _ => rfl
theorem eqIntS_gen (l : List Int) (hl : l.length ≤ 2000000000000) : laws_eqIntS (l, l, ()) () = some ((true, ()), ()) := by
  have key := loop_all (B := laws_eqIntS_B0) (fun i => ((l, l, (i : Int), ()), ())) (fun _ => true) l.length (.inl ((false, ()), ())) (.inr ((), ())) (fun i hi _ => by
    simp [laws_eqIntS_B0, inb_nat, hi, guardB, w64_succ (show i < 4611686018427387904 by omega)]) (by simp [laws_eqIntS_B0])
  rw [allUpto_true] at key
  simp only [laws_eqIntS, bne_self_eq_false, cond_false]
  rw [show (0 : Int) = ((0 : Nat) : Int) from rfl, key]
  rfl
theorem eqIntS_eq (l : List Int) (hl : l.length ≤ 1048576) : laws_eqIntS (l, l, ()) () = some ((true, ()), ()) := eqIntS_gen l (by omega)
theorem eqIntSS_gen (l : List (List Int)) (hl : l.length ≤ 2000000000000) (h : ∀ x ∈ l, x.length ≤ 1048576) : laws_eqIntSS (l, l, ()) () = some ((true, ()), ()) := by
  have key := loop_all (B := laws_eqIntSS_B0) (fun i => ((l, l, (i : Int), ()), ())) (fun _ => true) l.length (.inl ((false, ()), ())) (.inr ((), ())) (fun i hi _ => by
    simp only [laws_eqIntSS_B0, bif_decide, if_pos (show (i : Int) < (l.length : Int) by omega), guardB_true (inb_true (Int.natCast_nonneg i) (show (i : Int) < (l.length : Int) by omega)), Int.toNat_natCast]
    rw [eqIntS_eq (l.getD i []) (by rw [getD_at hi]; exact h _ (List.getElem_mem hi))]
    simp [w64_succ (show i < 4611686018427387904 by omega)]) (by simp [laws_eqIntSS_B0])
  rw [allUpto_true] at key
  simp only [laws_eqIntSS, bne_self_eq_false, cond_false]
  rw [show (0 : Int) = ((0 : Nat) : Int) from rfl, key]
  rfl
theorem eqIntSS_eq (l : List (List Int)) (hl : l.length ≤ 1048576) (h : ∀ x ∈ l, x.length ≤ 1048576) : laws_eqIntSS (l, l, ()) () = some ((true, ()), ()) := eqIntSS_gen l (by omega) h
theorem eqIntA2_eq (a : Int × Int) : laws_eqIntA2 (a, a, ()) () = some ((true, ()), ()) := by
  obtain ⟨x, y⟩ := a
  have e0 : laws_eqIntA2_B0 (((x, y), (x, y), 0, ()), ()) = some (.inl (((x, y), (x, y), 1, ()), ())) := by
    simp [laws_eqIntA2_B0, guardB]; rfl
  have e1 : laws_eqIntA2_B0 (((x, y), (x, y), 1, ()), ()) = some (.inl (((x, y), (x, y), 2, ()), ())) := by
    simp [laws_eqIntA2_B0, guardB]; rfl
  have e2 : laws_eqIntA2_B0 (((x, y), (x, y), 2, ()), ()) = some (.inr (.inr ((), ()))) := rfl
  simp only [laws_eqIntA2, loop_step e0 (loop_step e1 (loop_end e2))]
theorem eqIntA2S_eq (l : List (Int × Int)) (hl : l.length ≤ 1048576) : laws_eqIntA2S (l, l, ()) () = some ((true, ()), ()) := by
  have key := loop_all (B := laws_eqIntA2S_B0) (fun i => ((l, l, (i : Int), ()), ())) (fun _ => true) l.length (.inl ((false, ()), ())) (.inr ((), ())) (fun i hi _ => by
    simp only [laws_eqIntA2S_B0, bif_decide, if_pos (show (i : Int) < (l.length : Int) by omega), guardB_true (inb_true (Int.natCast_nonneg i) (show (i : Int) < (l.length : Int) by omega)), Int.toNat_natCast]
    rw [eqIntA2_eq]
    simp [w64_succ (show i < 4611686018427387904 by omega)]) (by simp [laws_eqIntA2S_B0])
  rw [allUpto_true] at key
  simp only [laws_eqIntA2S, bne_self_eq_false, cond_false]
  rw [show (0 : Int) = ((0 : Nat) : Int) from rfl, key]
  rfl

/-- what is asked of a Space that is looked at: not too great -/
structure Few (x : List (List Int) × List (Int × Int)) : Prop where
  states : x.1.length ≤ 1048576
  state : ∀ s ∈ x.1, s.length ≤ 1048576
  steps : x.2.length ≤ 1048576
theorem szIntS_eq (l : List Int) (n : Int) (h0 : 0 ≤ n) (hn : n ≤ 1048576) (hl : l.length ≤ 140737488351232) : laws_szIntS (l, n, ()) () = some (((if (l.length : Int) ≤ n then n - l.length else -1), ()), ()) := by
  simp only [laws_szIntS, w64_of (x := n - (l.length : Int)) (by omega) (by omega), bif_decide]
  by_cases h : (l.length : Int) ≤ n
  · rw [if_neg (by omega), if_pos h]
  · rw [if_pos (by omega), if_neg h]
theorem szIntA2S_eq (l : List (Int × Int)) (n : Int) (h0 : 0 ≤ n) (hn : n ≤ 1048576) (hl : l.length ≤ 140737488351232) : laws_szIntA2S (l, n, ()) () = some (((if (l.length : Int) ≤ n then n - l.length else -1), ()), ()) := by
  simp only [laws_szIntA2S, w64_of (x := n - (l.length : Int)) (by omega) (by omega), bif_decide]
  by_cases h : (l.length : Int) ≤ n
  · rw [if_neg (by omega), if_pos h]
  · rw [if_pos (by omega), if_neg h]
theorem szIntSS_eq (l : List (List Int)) (n : Int) (h0 : 0 ≤ n) (hn : n ≤ 1048576) (hl : l.length ≤ 140737488351232) (hs : ∀ x ∈ l, x.length ≤ 140737488351232) :
    ∃ r : Int, laws_szIntSS (l, n, ()) () = some ((r, ()), ()) ∧ r ≤ 1048576 ∧ (0 ≤ r → (l.length : Int) ≤ n ∧ ∀ x ∈ l, (x.length : Int) ≤ n) ∧ (r < 0 → r = -1) := by
  simp only [laws_szIntSS, w64_of (x := n - (l.length : Int)) (by omega) (by omega), bif_decide]
  by_cases h : n - (l.length : Int) < 0
  · rw [if_pos h]; exact ⟨-1, rfl, by omega, fun h => by omega, fun _ => rfl⟩
  · rw [if_neg h]
    obtain ⟨q, h1, h2⟩ := loop_inv (B := laws_szIntSS_B0) (fun p => ∃ (m : Int) (i : Nat), p = ((l, m, (i : Int), ()), ()) ∧ 0 ≤ m ∧ m ≤ n ∧ i ≤ l.length ∧ ∀ j, j < i → ((l.getD j []).length : Int) ≤ n)
      (fun p => l.length - p.1.2.2.1.toNat) (fun q => match q with
        | .inl ((t, ()), ()) => (fun t : Int => t = -1) t
        | .inr ((m, ()), ()) => (fun m : Int => 0 ≤ m ∧ m ≤ n ∧ ∀ j, j < l.length → ((l.getD j []).length : Int) ≤ n) m) (by
      rintro p ⟨m, i, rfl, h3, h4, h5, h6⟩
      by_cases hi : i < l.length
      · simp only [laws_szIntSS_B0, bif_decide, if_pos (show (i : Int) < (l.length : Int) by omega), guardB_true (inb_true (Int.natCast_nonneg i) (show (i : Int) < (l.length : Int) by omega)), Int.toNat_natCast]
        rw [szIntS_eq (l.getD i []) m h3 (by omega) (by rw [getD_at hi]; exact hs _ (List.getElem_mem hi))]
        by_cases h7 : ((l.getD i []).length : Int) ≤ m
        · rw [if_pos h7]
          simp only [if_neg (show ¬ (m - ((l.getD i []).length : Int)) < 0 by omega), w64_succ (show i < 4611686018427387904 by omega)]
          refine .inl ⟨_, rfl, ⟨_, i + 1, rfl, by omega, by omega, by omega, fun j hj => ?_⟩, ?_⟩
          · rcases Nat.lt_or_ge j i with h | h
            · exact h6 j h
            · rw [show j = i by omega]; omega
          · simp only [Int.toNat_natCast]; omega
        · rw [if_neg h7]
          exact .inr ⟨_, rfl, rfl⟩
      · have hi : i = l.length := by omega
        subst hi
        simp only [laws_szIntSS_B0, bif_decide, if_neg (show ¬ (l.length : Int) < (l.length : Int) by omega)]
        exact .inr ⟨_, rfl, h3, h4, h6⟩) ((l, n - (l.length : Int), 0, ()), ()) ⟨n - (l.length : Int), 0, rfl, by omega, by omega, by omega, fun j hj => by omega⟩
    rw [h1]
    rcases q with ⟨⟨t, ⟨⟩⟩, ⟨⟩⟩ | ⟨⟨m, ⟨⟩⟩, ⟨⟩⟩
    · dsimp only at h2
      exact ⟨t, rfl, by omega, fun h => by omega, fun _ => h2⟩
    · dsimp only at h2
      refine ⟨m, rfl, by have := h2.2.1; omega, fun _ => ⟨by omega, fun x hx => ?_⟩, fun h => by have := h2.1; omega⟩
      obtain ⟨j, hj, rfl⟩ := List.getElem_of_mem hx
      have := h2.2.2 j hj
      rw [getD_at hj] at this
      exact this
theorem szSpace_eq (x : List (List Int) × List (Int × Int)) (n : Int) (h0 : 0 ≤ n) (hn : n ≤ 1048576) (hx : Sm (.prod (.list (.list I)) (.list (.prod I I))) x) :
    ∃ r : Int, laws_szSpace (x, n, ()) () = some ((r, ()), ()) ∧ r ≤ 1048576 ∧ (0 ≤ r → Few x) ∧ (r < 0 → r = -1) := by
  obtain ⟨a, b⟩ := x
  obtain ⟨⟨h1, h2⟩, h3, h4⟩ := hx
  obtain ⟨r, e1, e2, e3, e4⟩ := szIntSS_eq a n h0 hn h1 (fun x hx => (h2 x hx).1)
  simp only [laws_szSpace, e1, bif_decide]
  by_cases h : r < 0
  · rw [if_pos h]; exact ⟨-1, rfl, by omega, fun h => by omega, fun _ => rfl⟩
  · rw [if_neg h]
    have := e3 (by omega)
    rw [szIntA2S_eq b r (by omega) e2 h3]
    by_cases h5 : (b.length : Int) ≤ r
    · rw [if_pos h5]
      simp only [if_neg (show ¬ (r - (b.length : Int)) < 0 by omega)]
      exact ⟨_, rfl, by omega, fun _ => ⟨by show a.length ≤ _; omega, fun s hs => by have := this.2 s hs; omega, by show b.length ≤ _; omega⟩, fun h => by omega⟩
    · rw [if_neg h5]
      exact ⟨-1, rfl, by omega, fun h => by omega, fun _ => rfl⟩
theorem toSpace_eq (x : List (List Int) × List (Int × Int)) (h : Few x) : laws_toSpace (x, ()) () = some ((x, ()), ()) := by
  obtain ⟨a, b⟩ := x
  simp only [laws_toSpace, toIntSS_eq a h.states h.state, toIntA2S_eq b h.steps]
theorem eqSpace_eq (x : List (List Int) × List (Int × Int)) (h : Few x) : laws_eqSpace (x, x, ()) () = some ((true, ()), ()) := by
  obtain ⟨a, b⟩ := x
  simp only [laws_eqSpace, eqIntSS_eq a h.states h.state, eqIntA2S_eq b h.steps]
  rfl
def inR (x a b : Int) : Bool := decide (a ≤ x) && decide (x ≤ b)
theorem l1In_eq (x a b : Int) : spec_l1In (x, a, b, ()) () = some ((inR x a b, ()), ()) := by
  simp only [spec_l1In, inR]
  by_cases h : a ≤ x <;> simp [h]
theorem between_eq (x a b : Int) : impl_between (x, a, b, ()) () = some ((inR x a b, ()), ()) := by
  simp only [impl_between, inR]
  by_cases h : a ≤ x <;> simp [h]
theorem cmp_eq (x y : Int) : cmp_Compare_int (x, y, ()) () = some (((if x < y then -1 else if y < x then 1 else 0), ()), ()) := by
  simp only [cmp_Compare_int, cmp_isNaN_int, bne_self_eq_false, cond_false, bif_decide]
  split
  · rfl
  · split <;> rfl

def goodN (n : Int) : Bool := inR n (-99) 99
def goodState (s : List Int) : Bool := decide (s.length ≤ 24) && s.all goodN
theorem allUpto_getD {f : Int → Bool} {s : List Int} : allUpto (fun i => f (s.getD i 0)) s.length = s.all f := by
  rw [Bool.eq_iff_iff, allUpto_iff, List.all_eq_true]
  constructor
  · intro h x hx
    obtain ⟨i, hi, rfl⟩ := List.getElem_of_mem hx
    have := h i hi
    rwa [getD_at hi] at this
  · intro h i hi
    rw [getD_at hi]
    exact h _ (List.getElem_mem hi)
theorem l2State_eq (s : List Int) (hs : s.length ≤ 1048576) : spec_l2State (s, ()) () = some ((goodState s, ()), ()) := by
  have key := loop_all (B := spec_l2State_B0) (fun i => ((s, (i : Int), ()), ())) (fun i => goodN (s.getD i 0)) s.length (.inl ((false, ()), ())) (.inr ((s, ()), ())) (fun i hi _ => by
    simp only [spec_l2State_B0, bif_decide, if_pos (show (i : Int) < (s.length : Int) by omega), guardB_true (inb_true (Int.natCast_nonneg i) (show (i : Int) < (s.length : Int) by omega)), Int.toNat_natCast, l1In_eq _ _ _, w64_succ (show i < 4611686018427387904 by omega), goodN]
    cases inR (s.getD i 0) (-99) 99 <;> rfl) (by simp [spec_l2State_B0])
  rw [allUpto_getD] at key
  simp only [spec_l2State]
  erw [key]
  have e : decide ((s.length : Int) ≤ 24) = decide (s.length ≤ 24) := by rw [decide_eq_decide]; omega
  cases h : s.all goodN
  · simp [goodState, h]
  · simp [goodState, h, e]
/-- where is the first one? -/
def firstIdx (p : Nat → Bool) : Nat → Nat → Int
  | _, 0 => -1
  | k, d + 1 => if p k then k else firstIdx p (k + 1) d
theorem firstIdx_neg {p : Nat → Bool} : ∀ {d k : Nat}, (decide ((0 : Int) ≤ firstIdx p k d) = !(allUpto (fun i => !p (k + i)) d))
  | 0, k => by simp [firstIdx, allUpto]
  | d + 1, k => by
    by_cases h : p k
    · rw [show firstIdx p k (d + 1) = k by simp [firstIdx, h]]
      have : allUpto (fun i => !p (k + i)) (d + 1) = false := by
        cases e : allUpto (fun i => !p (k + i)) (d + 1)
        · rfl
        · have := allUpto_iff.1 e 0 (by omega); simp [h] at this
      rw [this]; simp
    · rw [show firstIdx p k (d + 1) = firstIdx p (k + 1) d by simp [firstIdx, h], firstIdx_neg]
      congr 1
      rw [Bool.eq_iff_iff, allUpto_iff, allUpto_iff]
      constructor
      · intro g i hi
        cases i with
        | zero => simpa using h
        | succ i => have := g i (by omega); rw [show k + 1 + i = k + (i + 1) by omega] at this; exact this
      · intro g i hi
        have := g (i + 1) (by omega)
        rw [show k + (i + 1) = k + 1 + i by omega] at this; exact this
theorem loop_idx {P Q : Type} {B : P → Option (P ⊕ Q)} (st : Nat → P) (p : Nat → Bool) (n : Nat) (found : Int → Q) (fin : Q) (step : ∀ i, i < n → B (st i) = some (bif p i then .inr (found i) else .inl (st (i + 1)))) (stop : B (st n) = some (.inr fin)) :
    loopO B (st 0) = some (if firstIdx p 0 n < 0 then fin else found (firstIdx p 0 n)) := by
  suffices h : ∀ d k, k + d = n → loopO B (st k) = some (if firstIdx p k d < 0 then fin else found (firstIdx p k d)) from h n 0 (by omega)
  intro d
  induction d with
  | zero => intro k hk; have : k = n := by omega
            subst this; simpa [firstIdx] using loop_end stop
  | succ d ih =>
    intro k hk
    have h := step k (by omega)
    cases e : p k
    · rw [e] at h; rw [show firstIdx p k (d + 1) = firstIdx p (k + 1) d by simp [firstIdx, e]]; exact loop_step h (ih (k + 1) (by omega))
    · rw [e] at h; rw [show firstIdx p k (d + 1) = k by simp [firstIdx, e], if_neg (by omega)]; exact loop_end h
theorem isState_eq (s : List Int) (hs : s.length ≤ 1048576) : impl_isState (s, ()) () = some ((goodState s, ()), ()) := by
  have k1 : ∀ n : Int, impl_isState_1 (n, ()) () = some (((!goodN n), ()), ()) := fun n => by simp only [impl_isState_1, between_eq _ _ _, goodN]
  have key := loop_idx (B := slices_IndexFunc_int_int_2_vf_impl_isState_1_B0) (fun i => ((s, (s.length : Int), (i : Int), ()), ())) (fun i => !goodN (s.getD i 0)) s.length (fun i => .inl ((i, ()), ())) (.inr ((), ())) (fun i hi => by
    simp only [slices_IndexFunc_int_int_2_vf_impl_isState_1_B0, bif_decide, if_pos (show (i : Int) < (s.length : Int) by omega), guardB_true (inb_true (Int.natCast_nonneg i) (show (i : Int) < (s.length : Int) by omega)), Int.toNat_natCast, k1, w64_succ (show i < 4611686018427387904 by omega)]
    cases goodN (s.getD i 0) <;> rfl) (by simp [slices_IndexFunc_int_int_2_vf_impl_isState_1_B0])
  have k2 : slices_IndexFunc_int_int_2_vf_impl_isState_1 (s, ()) () = some ((firstIdx (fun i => !goodN (s.getD i 0)) 0 s.length, ()), ()) := by
    simp only [slices_IndexFunc_int_int_2_vf_impl_isState_1]
    erw [key]
    by_cases h : firstIdx (fun i => !goodN (s.getD i 0)) 0 s.length < 0
    · rw [if_pos h]
      have : ∀ d k, firstIdx (fun i => !goodN (s.getD i 0)) k d < 0 → firstIdx (fun i => !goodN (s.getD i 0)) k d = -1 := by
        intro d
        induction d with
        | zero => intro k _; rfl
        | succ d ih =>
          intro k hk
          simp only [firstIdx] at hk ⊢
          split
          · rename_i h; rw [if_pos h] at hk; omega
          · rename_i h; rw [if_neg h] at hk; exact ih _ hk
      rw [this _ _ h]
    · rw [if_neg h]
  simp only [impl_isState, slices_ContainsFunc_int_int_2_vf_impl_isState_1, k2, firstIdx_neg, bif_decide]
  have e : allUpto (fun i => !!goodN (s.getD (0 + i) 0)) s.length = s.all goodN := by
    rw [← allUpto_getD]; congr 1; funext i; simp
  rw [e]
  by_cases h : s.length ≤ 24
  · rw [if_pos (by omega)]; simp [goodState, h]
  · rw [if_neg (by omega)]; simp [goodState, h]

def lexDiff : List Int → List Int → Option Bool
  | a :: l, b :: k => if a = b then lexDiff l k else some (decide (a < b))
  | _, _ => none
def lexLt (a b : List Int) : Bool := match lexDiff a b with
  | some t => t
  | none => decide (a.length < b.length)
def lexCmp : List Int → List Int → Int
  | a :: l, b :: k => if a < b then -1 else if b < a then 1 else lexCmp l k
  | [], [] => 0
  | [], _ :: _ => -1
  | _ :: _, [] => 1
theorem lexCmp_lt : ∀ (a b : List Int), decide ((0 : Int) ≤ lexCmp a b) = !lexLt a b
  | a :: l, b :: k => by
    by_cases h : a < b
    · simp [lexCmp, lexLt, lexDiff, h, show ¬ a = b by omega]
    · by_cases h2 : b < a
      · simp [lexCmp, lexLt, lexDiff, h, h2, show ¬ a = b by omega]
      · have e : a = b := by omega
        subst e
        rw [show lexCmp (a :: l) (a :: k) = lexCmp l k by simp [lexCmp], lexCmp_lt l k]
        simp only [lexLt, lexDiff, if_pos, List.length_cons]
        cases lexDiff l k <;> simp
  | [], [] => by simp [lexCmp, lexLt, lexDiff]
  | [], _ :: _ => by simp [lexCmp, lexLt, lexDiff]
  | _ :: _, [] => by simp [lexCmp, lexLt, lexDiff]
theorem l2Before_eq (a b : List Int) (ha : a.length ≤ 1048576) : spec_l2Before (a, b, ()) () = some ((lexLt a b, ()), ()) := by
  have key : ∀ d i, i + d = a.length → loopO spec_l2Before_B0 ((a, b, (i : Int), ()), ()) = some (match lexDiff (a.drop i) (b.drop i) with
      | some t => .inl ((t, ()), ())
      | none => .inr ((a, b, ()), ())) := by
    intro d
    induction d with
    | zero =>
      intro i hi
      have : i = a.length := by omega
      subst this
      refine loop_end ?_
      simp [spec_l2Before_B0, lexDiff]
    | succ d ih =>
      intro i hi
      have h1 : i < a.length := by omega
      by_cases h2 : i < b.length
      · rw [List.drop_eq_getElem_cons h1, List.drop_eq_getElem_cons h2]
        simp only [lexDiff]
        by_cases h3 : a[i] = b[i]
        · rw [if_pos h3]
          refine loop_step ?_ (ih (i + 1) (by omega))
          simp [spec_l2Before_B0, inb_nat, guardB, h1, h2, h3, w64_succ (show i < 4611686018427387904 by omega)]
        · rw [if_neg h3]
          refine loop_end ?_
          simp [spec_l2Before_B0, inb_nat, guardB, h1, h2, bne_ne h3]
      · have : lexDiff (a.drop i) (b.drop i) = none := by
          rw [List.drop_eq_nil_of_le (show b.length ≤ i by omega)]
          cases a.drop i <;> rfl
        rw [this]
        refine loop_end ?_
        simp [spec_l2Before_B0, inb_nat, guardB, h1, h2]
  simp only [spec_l2Before]
  erw [key a.length 0 (by omega)]
  simp only [List.drop_zero, lexLt]
  cases lexDiff a b <;> simp
theorem Compare_eq (a b : List Int) (ha : a.length ≤ 1048576) : slices_Compare_int_int (a, b, ()) () = some ((lexCmp a b, ()), ()) := by
  have key : ∀ d i, i + d = a.length → ∃ q, loopO slices_Compare_int_int_B0 ((a, b, a, (a.length : Int), (i : Int), ()), ()) = some q ∧ ((q = .inl ((lexCmp (a.drop i) (b.drop i), ()), ())) ∨ (q = .inr ((a, b, ()), ()) ∧ (i ≤ b.length → lexCmp (a.drop i) (b.drop i) = if a.length < b.length then -1 else 0))) := by
    intro d
    induction d with
    | zero =>
      intro i hi
      have : i = a.length := by omega
      subst this
      refine ⟨_, loop_end (q := .inr ((a, b, ()), ())) (by simp [slices_Compare_int_int_B0]), .inr ⟨rfl, fun hb => ?_⟩⟩
      rw [List.drop_length]
      by_cases h : a.length < b.length
      · rw [List.drop_eq_getElem_cons h, if_pos h]; rfl
      · rw [List.drop_eq_nil_of_le (by omega), if_neg h]; rfl
    | succ d ih =>
      intro i hi
      have h1 : i < a.length := by omega
      by_cases h2 : i < b.length
      · rw [List.drop_eq_getElem_cons h1, List.drop_eq_getElem_cons h2]
        simp only [lexCmp]
        have e : slices_Compare_int_int_B0 ((a, b, a, (a.length : Int), (i : Int), ()), ()) = some (if (if a[i] < b[i] then (-1 : Int) else if b[i] < a[i] then 1 else 0) = 0 then .inl ((a, b, a, (a.length : Int), ((i + 1 : Nat) : Int), ()), ()) else .inr (.inl (((if a[i] < b[i] then (-1 : Int) else if b[i] < a[i] then 1 else 0), ()), ()))) := by
          simp only [slices_Compare_int_int_B0, bif_decide, if_pos (show (i : Int) < (a.length : Int) by omega), if_neg (show ¬ (b.length : Int) ≤ (i : Int) by omega), guardB_true (inb_true (Int.natCast_nonneg i) (show (i : Int) < (a.length : Int) by omega)), guardB_true (inb_true (Int.natCast_nonneg i) (show (i : Int) < (b.length : Int) by omega)), Int.toNat_natCast, getD_at h1, getD_at h2, cmp_eq _ _, w64_succ (show i < 4611686018427387904 by omega)]
          by_cases h3 : a[i] < b[i]
          · simp [h3]
          · by_cases h4 : b[i] < a[i]
            · simp [h3, h4]
            · simp [h3, h4]
        by_cases h3 : a[i] < b[i]
        · simp only [if_pos h3] at e ⊢
          exact ⟨_, loop_end e, .inl rfl⟩
        · by_cases h4 : b[i] < a[i]
          · simp only [if_neg h3, if_pos h4] at e ⊢
            exact ⟨_, loop_end e, .inl rfl⟩
          · simp only [if_neg h3, if_neg h4, if_pos] at e ⊢
            obtain ⟨q, q1, q2⟩ := ih (i + 1) (by omega)
            refine ⟨q, loop_step e q1, q2.imp id fun ⟨r1, r2⟩ => ⟨r1, fun _ => r2 (by omega)⟩⟩
      · refine ⟨_, loop_end (q := .inl ((1, ()), ())) (by simp [slices_Compare_int_int_B0, inb_nat, guardB, h1, show b.length ≤ i by omega]), .inl ?_⟩
        rw [List.drop_eq_nil_of_le (show b.length ≤ i by omega), List.drop_eq_getElem_cons h1]
        rfl
  obtain ⟨q, q1, q2⟩ := key a.length 0 (by omega)
  simp only [slices_Compare_int_int]
  erw [q1]
  simp only [List.drop_zero] at q2
  rcases q2 with rfl | ⟨rfl, q2⟩
  · rfl
  · rw [q2 (Nat.zero_le _)]
    simp only [bif_decide, Int.ofNat_lt]
    split <;> rfl

def edgeB (a b : Int × Int) : Bool := decide (a.1 < b.1) || (decide (a.1 = b.1) && decide (a.2 < b.2))
theorem l2Edge_eq (a b : Int × Int) : spec_l2Edge (a, b, ()) () = some ((edgeB a b, ()), ()) := by
  simp only [spec_l2Edge, edgeB]
  by_cases h : a.1 < b.1
  · simp [h]
  · by_cases h2 : a.1 = b.1
    · simp [h, h2]
    · simp [h, h2, beq_ne h2]
theorem cmpOr_eq (x y : Int) : cmp_Or_int ([x, y], ()) () = some (((if x = 0 then y else x), ()), ()) := by
  simp only [cmp_Or_int]
  have e0 : cmp_Or_int_B0 ((0, [x, y], ([x, y].length : Int), 0, ()), ()) = some (if x = 0 then .inl ((0, [x, y], ([x, y].length : Int), 1, ()), ()) else .inr (.inl ((x, ()), ()))) := by
    by_cases h : x = 0
    · simp [cmp_Or_int_B0, inb, guardB, h]; rfl
    · simp [cmp_Or_int_B0, inb, guardB, h, bne_ne h]
  have e1 : cmp_Or_int_B0 ((0, [x, y], ([x, y].length : Int), 1, ()), ()) = some (if y = 0 then .inl ((0, [x, y], ([x, y].length : Int), 2, ()), ()) else .inr (.inl ((y, ()), ()))) := by
    by_cases h : y = 0
    · simp [cmp_Or_int_B0, inb, guardB, h]; rfl
    · simp [cmp_Or_int_B0, inb, guardB, h, bne_ne h]
  have e2 : cmp_Or_int_B0 ((0, [x, y], ([x, y].length : Int), 2, ()), ()) = some (.inr (.inr ((0, ()), ()))) := by
    simp [cmp_Or_int_B0]
  by_cases h : x = 0
  · rw [if_pos h] at e0 ⊢
    by_cases g : y = 0
    · rw [if_pos g] at e1
      rw [loop_step e0 (loop_step e1 (loop_end e2)), g]
    · rw [if_neg g] at e1
      rw [loop_step e0 (loop_end e1)]
  · rw [if_neg h] at e0 ⊢
    rw [loop_end e0]
theorem comparePairs_eq (a b : Int × Int) : ∃ r : Int, impl_comparePairs (a, b, ()) () = some ((r, ()), ()) ∧ (decide ((0 : Int) ≤ r) = !edgeB a b) ∧ (r = 0 ↔ a = b) := by
  obtain ⟨a1, a2⟩ := a
  obtain ⟨b1, b2⟩ := b
  simp only [impl_comparePairs, cmp_eq _ _, cmpOr_eq _ _]
  refine ⟨_, rfl, ?_, ?_⟩
  · simp only [edgeB]
    by_cases h : a1 < b1
    · simp [h]
    · by_cases h2 : b1 < a1
      · have : ¬ a1 = b1 := by omega
        simp [h, h2, this]
      · have : a1 = b1 := by omega
        subst this
        by_cases h3 : a2 < b2
        · simp [h3]
        · by_cases h4 : b2 < a2 <;> simp [h3, h4]
  · simp only [Prod.mk.injEq]
    by_cases h : a1 < b1
    · simp [h]; omega
    · by_cases h2 : b1 < a1
      · simp [h, h2]; omega
      · have : a1 = b1 := by omega
        subst this
        by_cases h3 : a2 < b2
        · simp [h3]; omega
        · by_cases h4 : b2 < a2
          · simp [h3, h4]; omega
          · simp [h3, h4]; omega
def pairB (l : List (Int × Int)) (n : Int) (i : Nat) : Bool :=
  decide (0 ≤ (l.getD i (0, 0)).1) && (decide ((l.getD i (0, 0)).1 < (l.getD i (0, 0)).2) && (decide ((l.getD i (0, 0)).2 < n) && (decide (i = 0) || edgeB (l.getD (i - 1) (0, 0)) (l.getD i (0, 0)))))
def pairsB (l : List (Int × Int)) (n : Int) : Bool := allUpto (pairB l n) l.length
theorem l2Pairs_eq (l : List (Int × Int)) (n : Int) (hl : l.length ≤ 1048576) (h0 : -1048576 ≤ n) (hn : n ≤ 1048576) : spec_l2Pairs (l, n, ()) () = some ((pairsB l n, ()), ()) := by
  have key := loop_all (B := spec_l2Pairs_B0) (fun i => ((l, n, (i : Int), ()), ())) (pairB l n) l.length (.inl ((false, ()), ())) (.inr ((), ())) (fun i hi _ => by
    obtain ⟨e, he⟩ : ∃ e : Int × Int, l.getD i (0, 0) = e := ⟨_, rfl⟩
    simp only [spec_l2Pairs_B0, bif_decide, if_pos (show (i : Int) < (l.length : Int) by omega), guardB_true (inb_true (Int.natCast_nonneg i) (show (i : Int) < (l.length : Int) by omega)), Int.toNat_natCast, l1In_eq _ _ _, w64_succ (show i < 4611686018427387904 by omega), w64_of (x := n - 1) (by omega) (by omega), pairB, inR, he]
    by_cases h1 : 0 ≤ e.1
    · by_cases h2 : e.1 ≤ n - 1
      · by_cases h3 : 0 ≤ e.2
        · by_cases h4 : e.2 ≤ n - 1
          · by_cases h5 : e.2 ≤ e.1
            · simp [h1, h2, h3, h4, h5, show ¬ e.1 < e.2 by omega]
            · by_cases h6 : i = 0
              · subst h6
                simp [h1, h2, h3, h4, h5, show e.1 < e.2 by omega, show e.2 < n by omega]
              · rw [w64_pred (by omega) (by omega), guardB_true (inb_true (Int.natCast_nonneg _) (show ((i - 1 : Nat) : Int) < (l.length : Int) by omega)), Int.toNat_natCast, l2Edge_eq]
                cases edgeB (l.getD (i - 1) (0, 0)) e <;> simp [h1, h2, h3, h4, h5, h6, show e.1 < e.2 by omega, show e.2 < n by omega, show 0 < i by omega]
          · simp [h1, h2, h3, h4, show ¬ e.2 < n by omega]
        · simp [h1, h2, h3, show ¬ e.1 < e.2 by omega]
      · simp only [h1, h2, decide_true, decide_false, Bool.and_false, Bool.not_false, cond_true, Bool.true_and]
        by_cases h3 : e.1 < e.2
        · simp [h3, show ¬ e.2 < n by omega]
        · simp [h3]
    · simp [h1]) (by simp [spec_l2Pairs_B0])
  simp only [spec_l2Pairs]
  erw [key]
  simp only [pairsB]
  cases allUpto (pairB l n) l.length <;> rfl
theorem isPairs_eq (l : List (Int × Int)) (n : Int) (hl : l.length ≤ 1048576) : impl_isPairs (l, n, ()) () = some ((pairsB l n, ()), ()) := by
  have key := loop_all (B := impl_isPairs_B0) (fun i => ((l, n, l, (l.length : Int), (i : Int), ()), ())) (pairB l n) l.length (.inl ((false, ()), ())) (.inr ((), ())) (fun i hi _ => by
    obtain ⟨e, he⟩ : ∃ e : Int × Int, l.getD i (0, 0) = e := ⟨_, rfl⟩
    simp only [impl_isPairs_B0, bif_decide, if_pos (show (i : Int) < (l.length : Int) by omega), guardB_true (inb_true (Int.natCast_nonneg i) (show (i : Int) < (l.length : Int) by omega)), Int.toNat_natCast, w64_succ (show i < 4611686018427387904 by omega), pairB, he]
    by_cases h1 : e.1 < 0
    · simp [h1, show ¬ 0 ≤ e.1 by omega]
    · by_cases h2 : e.2 ≤ e.1
      · simp [h1, h2, show ¬ e.1 < e.2 by omega]
      · by_cases h3 : n ≤ e.2
        · simp [h1, h2, h3, show ¬ e.2 < n by omega]
        · by_cases h6 : i = 0
          · subst h6
            simp [h1, h2, h3, show 0 ≤ e.1 by omega, show e.1 < e.2 by omega, show e.2 < n by omega]
          · obtain ⟨r, r1, r2, _⟩ := comparePairs_eq (l.getD (i - 1) (0, 0)) e
            rw [w64_pred (by omega) (by omega), guardB_true (inb_true (Int.natCast_nonneg _) (show ((i - 1 : Nat) : Int) < (l.length : Int) by omega)), Int.toNat_natCast, r1]
            simp only [if_neg h1, if_neg h2, if_neg h3, if_pos (show (0 : Int) < (i : Int) by omega), ← bif_decide, r2]
            cases edgeB (l.getD (i - 1) (0, 0)) e <;> simp [h6, show 0 ≤ e.1 by omega, show e.1 < e.2 by omega, show e.2 < n by omega]) (by simp [impl_isPairs_B0])
  simp only [impl_isPairs]
  erw [key]
  simp only [pairsB]
  cases allUpto (pairB l n) l.length <;> rfl

def stateB (L : List (List Int)) (i : Nat) : Bool := goodState (L.getD i []) && (decide (i = 0) || lexLt (L.getD (i - 1) []) (L.getD i []))
def spaceB (x : List (List Int) × List (Int × Int)) : Bool := decide (x.1.length ≤ 300) && (decide (x.2.length ≤ 6000) && (allUpto (stateB x.1) x.1.length && pairsB x.2 x.1.length))
theorem l2Space_eq (x : List (List Int) × List (Int × Int)) (hx : Few x) : spec_l2Space (x, ()) () = some ((spaceB x, ()), ()) := by
  obtain ⟨L, S⟩ := x
  have hL := hx.states
  have hs := hx.state
  have hS := hx.steps
  dsimp only at hL hs hS
  have hlen : ∀ i, i < L.length → (L.getD i []).length ≤ 1048576 := fun i hi => by rw [getD_at hi]; exact hs _ (List.getElem_mem hi)
  have key := loop_all (B := spec_l2Space_B0) (fun i => (((L, S), (i : Int), ()), ())) (stateB L) L.length (.inl ((false, ()), ())) (.inr (((L, S), ()), ())) (fun i hi _ => by
    simp only [spec_l2Space_B0, bif_decide, if_pos (show (i : Int) < (L.length : Int) by omega), guardB_true (inb_true (Int.natCast_nonneg i) (show (i : Int) < (L.length : Int) by omega)), Int.toNat_natCast, l2State_eq _ (hlen i hi), w64_succ (show i < 4611686018427387904 by omega), stateB]
    by_cases h6 : i = 0
    · subst h6
      cases goodState (L.getD 0 []) <;> simp
    · rw [w64_pred (by omega) (by omega), guardB_true (inb_true (Int.natCast_nonneg _) (show ((i - 1 : Nat) : Int) < (L.length : Int) by omega)), Int.toNat_natCast, l2Before_eq _ _ (hlen (i - 1) (by omega))]
      cases goodState (L.getD i []) <;> cases lexLt (L.getD (i - 1) []) (L.getD i []) <;> simp [h6, show 0 < i by omega]) (by simp [spec_l2Space_B0])
  simp only [spec_l2Space, bif_decide, spaceB]
  by_cases h1 : L.length ≤ 300
  · rw [if_neg (by omega)]
    by_cases h2 : S.length ≤ 6000
    · rw [if_neg (by omega)]
      erw [key]
      simp only [h1, h2, decide_true, Bool.true_and]
      cases h3 : allUpto (stateB L) L.length
      · rfl
      · simp only [cond_true, l2Pairs_eq S (L.length : Int) hS (by omega) (by omega), Bool.true_and]
    · rw [if_pos (by omega)]; simp [h2]
  · rw [if_pos (by omega)]; simp [h1]
theorem IsSpace_eq (x : List (List Int) × List (Int × Int)) (hx : Few x) : impl_IsSpace (x, ()) () = some ((spaceB x, ()), ()) := by
  obtain ⟨L, S⟩ := x
  have hL := hx.states
  have hs := hx.state
  have hS := hx.steps
  dsimp only at hL hs hS
  have hlen : ∀ i, i < L.length → (L.getD i []).length ≤ 1048576 := fun i hi => by rw [getD_at hi]; exact hs _ (List.getElem_mem hi)
  have key := loop_all (B := impl_IsSpace_B0) (fun i => (((L, S), L, (L.length : Int), (i : Int), ()), ())) (stateB L) L.length (.inl ((false, ()), ())) (.inr (((L, S), ()), ())) (fun i hi _ => by
    simp only [impl_IsSpace_B0, if_pos (show (i : Int) < (L.length : Int) by omega), guardB_true (inb_true (Int.natCast_nonneg i) (show (i : Int) < (L.length : Int) by omega)), Int.toNat_natCast, isState_eq _ (hlen i hi), w64_succ (show i < 4611686018427387904 by omega), stateB]
    by_cases h6 : i = 0
    · subst h6
      cases goodState (L.getD 0 []) <;> simp [hi]
    · rw [w64_pred (by omega) (by omega), guardB_true (inb_true (Int.natCast_nonneg _) (show ((i - 1 : Nat) : Int) < (L.length : Int) by omega)), Int.toNat_natCast, Compare_eq _ _ (hlen (i - 1) (by omega))]
      simp only [lexCmp_lt]
      cases goodState (L.getD i []) <;> cases lexLt (L.getD (i - 1) []) (L.getD i []) <;> simp [h6, hi, show 0 < i by omega]) (by simp [impl_IsSpace_B0])
  simp only [impl_IsSpace, bif_decide, spaceB]
  by_cases h1 : L.length ≤ 300
  · rw [if_neg (by omega)]
    by_cases h2 : S.length ≤ 6000
    · rw [if_neg (by omega)]
      erw [key]
      simp only [h1, h2, decide_true, Bool.true_and]
      cases h3 : allUpto (stateB L) L.length
      · rfl
      · simp only [cond_true, isPairs_eq S (L.length : Int) hS, Bool.true_and]
    · rw [if_pos (by omega)]; simp [h2]
  · rw [if_pos (by omega)]; simp [h1]
theorem sort_sorted (l : List Int) : (l.mergeSort fun a b => decide (a ≤ b)).Pairwise (· ≤ ·) := by
  have := List.pairwise_mergeSort (le := fun a b : Int => decide (a ≤ b)) (fun a b c h1 h2 => by simp at *; omega) (fun a b => by simp; omega) l
  exact this.imp fun h => by simpa using h
theorem isPlace_eq (x : List (List Int) × List (Int × Int)) (i : Int) (hx : x.1.length ≤ 1048576) : impl_Space_isPlace (x, i, ()) () = some ((inR i 0 ((x.1.length : Int) - 1), ()), ()) := by
  simp only [impl_Space_isPlace, between_eq _ _ _, w64_of (x := (x.1.length : Int) - 1) (by omega) (by omega)]
theorem firstIdx_range {p : Nat → Bool} : ∀ (d k : Nat), firstIdx p k d < 0 → firstIdx p k d = -1
  | 0, k, _ => rfl
  | d + 1, k, h => by
    simp only [firstIdx] at h ⊢
    split
    · rename_i g; rw [if_pos g] at h; omega
    · rename_i g; rw [if_neg g] at h; exact firstIdx_range d (k + 1) h
def rows {α : Type} (n : Nat) (F : Nat → α) : List α := (List.range n).map F
theorem rows_len {α : Type} {n : Nat} {F : Nat → α} : (rows n F).length = n := by simp [rows]
theorem rows_get {α : Type} {n i : Nat} {F : Nat → α} (h : i < n) (d : α) : (rows n F).getD i d = F i := by simp [rows, List.getD, h]
theorem rows_set {α : Type} {n i : Nat} {F : Nat → α} (v : α) : (rows n F).set i v = rows n (fun j => if j = i then v else F j) := by
  apply List.ext_getElem
  · simp [rows]
  · intro j h1 h2
    simp only [rows, List.getElem_set, List.getElem_map, List.getElem_range]
    by_cases h : i = j
    · subst h; simp
    · rw [if_neg h, if_neg (fun e => h e.symm)]
theorem rows_congr {α : Type} {n : Nat} {F G : Nat → α} (h : ∀ j, j < n → F j = G j) : rows n F = rows n G := by
  apply List.map_congr_left
  intro j hj
  exact h j (by simpa using hj)
theorem rows_rep {α : Type} {n : Nat} (d : α) : List.replicate n d = rows n (fun _ => d) := by
  apply List.ext_getElem
  · simp [rows]
  · intro j h1 h2; simp [rows]
theorem take_one {α : Type} {l : List α} {i : Nat} (h : i < l.length) (d : α) : l.take (i + 1) = l.take i ++ [l.getD i d] := by
  rw [getD_at h, List.take_succ_eq_append_getElem h]
def inc (S : List (Int × Int)) (j : Nat) : List Int := (S.filter fun e => decide (e.2 = (j : Int))).map (·.1)
def outg (S : List (Int × Int)) (j : Nat) : List Int := (S.filter fun e => decide (e.1 = (j : Int))).map (·.2)
def nbr (S : List (Int × Int)) (j : Nat) : List Int := inc S j ++ outg S j
def listsP (S : List (Int × Int)) (n : Nat) : List (List Int) := rows n (nbr S)
theorem inc_snoc (T : List (Int × Int)) (a b j : Nat) : inc (T ++ [((a : Int), (b : Int))]) j = if j = b then inc T j ++ [(a : Int)] else inc T j := by
  simp only [inc, List.filter_append, List.map_append]
  by_cases h : j = b
  · subst h; simp
  · rw [if_neg h]; simp [show ¬ (b : Int) = (j : Int) by omega]
theorem outg_snoc (T : List (Int × Int)) (a b j : Nat) : outg (T ++ [((a : Int), (b : Int))]) j = if j = a then outg T j ++ [(b : Int)] else outg T j := by
  simp only [outg, List.filter_append, List.map_append]
  by_cases h : j = a
  · subst h; simp
  · rw [if_neg h]; simp [show ¬ (a : Int) = (j : Int) by omega]
theorem inc_len (T : List (Int × Int)) (j : Nat) : (inc T j).length ≤ T.length := by simp only [inc, List.length_map]; exact List.length_filter_le _ _
theorem outg_len (T : List (Int × Int)) (j : Nat) : (outg T j).length ≤ T.length := by simp only [outg, List.length_map]; exact List.length_filter_le _ _
/-- steps: pairs of places -/
def StepsOk (S : List (Int × Int)) (n : Nat) : Prop := ∀ i, i < S.length → ∃ a b : Nat, S.getD i (0, 0) = ((a : Int), (b : Int)) ∧ a < b ∧ b < n
theorem pairsB_at {S : List (Int × Int)} {n : Nat} (h : pairsB S n = true) (i : Nat) (hi : i < S.length) : pairB S n i = true := allUpto_iff.1 h i hi
theorem pairsB_ok {S : List (Int × Int)} {n : Nat} (h : pairsB S n = true) : StepsOk S n := by
  intro i hi
  have := pairsB_at h i hi
  simp only [pairB, Bool.and_eq_true, decide_eq_true_eq] at this
  obtain ⟨h1, h2, h3, _⟩ := this
  generalize S.getD i (0, 0) = e at h1 h2 h3
  obtain ⟨a, b⟩ := e
  simp only at h1 h2 h3
  exact ⟨a.toNat, b.toNat, by rw [Int.toNat_of_nonneg h1, Int.toNat_of_nonneg (by omega)], by omega, by omega⟩
theorem edge_lt {S : List (Int × Int)} {n : Nat} (h : pairsB S n = true) : ∀ d i, i + 1 + d < S.length → edgeB (S.getD i (0, 0)) (S.getD (i + 1 + d) (0, 0)) = true := by
  have one : ∀ i, i + 1 < S.length → edgeB (S.getD i (0, 0)) (S.getD (i + 1) (0, 0)) = true := by
    intro i hi
    have := pairsB_at h (i + 1) hi
    simp only [pairB, Bool.and_eq_true, Bool.or_eq_true, decide_eq_true_eq] at this
    rcases this.2.2.2 with h0 | h0
    · omega
    · simpa using h0
  have tr : ∀ a b c : Int × Int, edgeB a b = true → edgeB b c = true → edgeB a c = true := by
    intro a b c h1 h2
    simp only [edgeB, Bool.or_eq_true, Bool.and_eq_true, decide_eq_true_eq] at *
    omega
  intro d
  induction d with
  | zero => intro i hi; exact one i hi
  | succ d ih => intro i hi; exact tr _ _ _ (ih i (by omega)) (one (i + 1 + d) hi)
theorem steps_pairwise {S : List (Int × Int)} {n : Nat} (h : pairsB S n = true) : S.Pairwise fun a b => edgeB a b = true := by
  rw [List.pairwise_iff_getElem]
  intro i j hi hj hij
  have := edge_lt h (j - i - 1) i (by omega)
  rw [show i + 1 + (j - i - 1) = j by omega, getD_at hi, getD_at hj] at this
  exact this
theorem steps_mem {S : List (Int × Int)} {n : Nat} (h : StepsOk S n) {e : Int × Int} (he : e ∈ S) : 0 ≤ e.1 ∧ e.1 < e.2 ∧ e.2 < n := by
  obtain ⟨i, hi, rfl⟩ := List.getElem_of_mem he
  obtain ⟨a, b, h1, h2, h3⟩ := h i hi
  rw [getD_at hi] at h1
  rw [h1]
  simp only
  omega
theorem nbr_sorted {S : List (Int × Int)} {n : Nat} (h : pairsB S n = true) (j : Nat) : (nbr S j).Pairwise (· < ·) := by
  have hp := steps_pairwise h
  have hok := pairsB_ok h
  rw [nbr, List.pairwise_append]
  refine ⟨?_, ?_, ?_⟩
  · rw [inc, List.pairwise_map]
    refine ((hp.sublist List.filter_sublist).imp_of_mem fun {a b} ha hb hab => ?_)
    simp only [List.mem_filter, decide_eq_true_eq] at ha hb
    simp only [edgeB, Bool.or_eq_true, Bool.and_eq_true, decide_eq_true_eq] at hab
    omega
  · rw [outg, List.pairwise_map]
    refine ((hp.sublist List.filter_sublist).imp_of_mem fun {a b} ha hb hab => ?_)
    simp only [List.mem_filter, decide_eq_true_eq] at ha hb
    simp only [edgeB, Bool.or_eq_true, Bool.and_eq_true, decide_eq_true_eq] at hab
    omega
  · intro a ha b hb
    simp only [inc, outg, List.mem_map, List.mem_filter, decide_eq_true_eq] at ha hb
    obtain ⟨e, ⟨he, e1⟩, rfl⟩ := ha
    obtain ⟨f, ⟨hf, f1⟩, rfl⟩ := hb
    have := steps_mem hok he
    have := steps_mem hok hf
    omega
theorem l2Lists_eq (x : List (List Int) × List (Int × Int)) (hS : StepsOk x.2 x.1.length) (hn : x.1.length ≤ 1048576) (hs : x.2.length ≤ 1048576) : spec_l2Lists (x, ()) () = some ((listsP x.2 x.1.length, ()), ()) := by
  obtain ⟨L, S⟩ := x
  simp only at hS hn hs
  simp only [spec_l2Lists, guardB_true (fold_len hn).2.1, Int.toNat_natCast]
  have k0 : loopO spec_l2Lists_B0 (((L, S), rows L.length (inc (S.take 0)), ((0 : Nat) : Int), ()), ()) = some (((L, S), rows L.length (inc (S.take S.length)), ()), ()) := by
    refine loop_count (fun i => (((L, S), rows L.length (inc (S.take i)), (i : Int), ()), ())) S.length _ (fun i hi => ?_) ?_ 0 (Nat.zero_le _)
    · obtain ⟨a, b, he, hab, hb⟩ := hS i hi
      have hg : guardB (decide ((List.length (inc (S.take i) b) + List.length [(a : Int)]) * 8 ≤ 70368744177664)) = (id : Option (spec_l2Lists_J0.P ⊕ spec_l2Lists_O0.P) → _) := by
        funext z
        refine guardB_true ?_
        have := inc_len (S.take i) b
        simp only [List.length_take] at this
        simp only [List.length_singleton, decide_eq_true_eq]
        omega
      simp only [spec_l2Lists_B0, bif_decide, if_pos (show (i : Int) < (S.length : Int) by omega), guardB_true (inb_true (Int.natCast_nonneg i) (show (i : Int) < (S.length : Int) by omega)), Int.toNat_natCast, he, rows_len, guardB_true (inb_true (Int.natCast_nonneg b) (show (b : Int) < (L.length : Int) by omega)), rows_get (show b < L.length by omega), Nat.beq_refl, Bool.and_self, guardB_true rfl, w64_succ (show i < 4611686018427387904 by omega), rows_set]
      rw [hg]
      simp only [id]
      rw [take_one hi (0, 0), he]
      have : rows L.length (fun j => if j = b then inc (S.take i) b ++ [(a : Int)] else inc (S.take i) j) = rows L.length (inc (S.take i ++ [((a : Int), (b : Int))])) := rows_congr fun j _ => by
        rw [inc_snoc]
        by_cases h : j = b
        · subst h; rfl
        · simp only [if_neg h]
      rw [this]
    · simp only [spec_l2Lists_B0, bif_decide, if_neg (show ¬ (S.length : Int) < (S.length : Int) by omega)]
  have k1 : loopO spec_l2Lists_B1 (((L, S), rows L.length (fun j => inc S j ++ outg (S.take 0) j), ((0 : Nat) : Int), ()), ()) = some ((rows L.length (fun j => inc S j ++ outg (S.take S.length) j), ()), ()) := by
    refine loop_count (fun i => (((L, S), rows L.length (fun j => inc S j ++ outg (S.take i) j), (i : Int), ()), ())) S.length _ (fun i hi => ?_) ?_ 0 (Nat.zero_le _)
    · obtain ⟨a, b, he, hab, hb⟩ := hS i hi
      have hg : guardB (decide ((List.length (inc S a ++ outg (S.take i) a) + List.length [(b : Int)]) * 8 ≤ 70368744177664)) = (id : Option (spec_l2Lists_J2.P ⊕ spec_l2Lists_O1.P) → _) := by
        funext z
        refine guardB_true ?_
        have := inc_len S a
        have := outg_len (S.take i) a
        simp only [List.length_take] at this
        simp only [List.length_singleton, List.length_append, decide_eq_true_eq]
        omega
      simp only [spec_l2Lists_B1, bif_decide, if_pos (show (i : Int) < (S.length : Int) by omega), guardB_true (inb_true (Int.natCast_nonneg i) (show (i : Int) < (S.length : Int) by omega)), Int.toNat_natCast, he, rows_len, guardB_true (inb_true (Int.natCast_nonneg a) (show (a : Int) < (L.length : Int) by omega)), rows_get (show a < L.length by omega), Nat.beq_refl, Bool.and_self, guardB_true rfl, w64_succ (show i < 4611686018427387904 by omega), rows_set]
      rw [hg]
      simp only [id]
      rw [take_one hi (0, 0), he]
      have : rows L.length (fun j => if j = a then (inc S a ++ outg (S.take i) a) ++ [(b : Int)] else inc S j ++ outg (S.take i) j) = rows L.length (fun j => inc S j ++ outg (S.take i ++ [((a : Int), (b : Int))]) j) := rows_congr fun j _ => by
        rw [outg_snoc]
        by_cases h : j = a
        · subst h; simp
        · simp only [if_neg h]
      rw [this]
    · simp only [spec_l2Lists_B1, bif_decide, if_neg (show ¬ (S.length : Int) < (S.length : Int) by omega)]
  rw [List.take_length] at k0 k1
  have z0 : rows L.length (inc (S.take 0)) = List.replicate L.length [] := by rw [rows_rep]; exact rows_congr fun j _ => rfl
  have z1 : rows L.length (fun j => inc S j ++ outg (S.take 0) j) = rows L.length (inc S) := rows_congr fun j _ => by simp [outg]
  rw [z0] at k0
  rw [z1] at k1
  erw [k0]
  simp only
  erw [k1]
  rfl
def raw (S : List (Int × Int)) (j : Nat) : List Int := S.flatMap fun e => (if e.1 = (j : Int) then [e.2] else []) ++ (if e.2 = (j : Int) then [e.1] else [])
theorem raw_perm : ∀ (S : List (Int × Int)) (j : Nat), (raw S j).Perm (nbr S j)
  | [], j => by simp [raw, nbr, inc, outg]
  | e :: S, j => by
    have ih := raw_perm S j
    simp only [raw, List.flatMap_cons] at ih ⊢
    simp only [nbr, inc, outg, List.filter_cons] at ih ⊢
    by_cases h1 : e.1 = (j : Int)
    · by_cases h2 : e.2 = (j : Int)
      · simp only [h1, h2, if_true, decide_true, List.map_cons, List.cons_append, List.nil_append]
        exact ((ih.cons (j : Int)).cons (j : Int)).trans (List.perm_middle.symm.cons _)
      · simp only [h1, h2, if_true, if_false, decide_true, decide_false, List.map_cons, List.cons_append, List.nil_append, List.append_nil, Bool.false_eq_true]
        exact (ih.cons _).trans List.perm_middle.symm
    · by_cases h2 : e.2 = (j : Int)
      · simp only [h1, h2, if_true, if_false, decide_true, decide_false, List.map_cons, List.cons_append, List.nil_append, List.append_nil, Bool.false_eq_true]
        exact ih.cons _
      · simp only [h1, h2, if_false, decide_false, List.nil_append, Bool.false_eq_true]
        exact ih
theorem sort_of_perm {l k : List Int} (h : l.Perm k) (hk : k.Pairwise (· < ·)) : l.mergeSort (fun a b => decide (a ≤ b)) = k := by
  refine List.Perm.eq_of_pairwise (le := (· ≤ ·)) ?_ (sort_sorted l) (hk.imp fun h => Int.le_of_lt h) ((List.mergeSort_perm l _).trans h)
  intro a b _ _ h1 h2
  omega
theorem raw_snoc (T : List (Int × Int)) (a b j : Nat) (hab : a < b) : raw (T ++ [((a : Int), (b : Int))]) j = if j = b then raw T j ++ [(a : Int)] else if j = a then raw T j ++ [(b : Int)] else raw T j := by
  simp only [raw, List.flatMap_append, List.flatMap_cons, List.flatMap_nil, List.append_nil]
  by_cases h : j = b
  · subst h; simp [show ¬ (a : Int) = (j : Int) by omega]
  · by_cases h2 : j = a
    · subst h2; simp [show ¬ (b : Int) = (j : Int) by omega, h]
    · simp [h, h2, show ¬ (b : Int) = (j : Int) by omega, show ¬ (a : Int) = (j : Int) by omega]
theorem raw_len (T : List (Int × Int)) (j : Nat) : (raw T j).length ≤ 2 * T.length := by
  rw [(raw_perm T j).length_eq, nbr, List.length_append]
  have := inc_len T j
  have := outg_len T j
  omega
theorem roads_eq (x : List (List Int) × List (Int × Int)) (hp : pairsB x.2 x.1.length = true) (hn : x.1.length ≤ 1048576) (hs : x.2.length ≤ 1048576) : impl_Space_roads (x, ()) () = some ((listsP x.2 x.1.length, ()), ()) := by
  obtain ⟨L, S⟩ := x
  simp only at hp hn hs
  have hS := pairsB_ok hp
  simp only [impl_Space_roads, guardB_true (fold_len hn).2.1, Int.toNat_natCast]
  have k0 : loopO impl_Space_roads_B0 ((rows L.length (raw (S.take 0)), S, (S.length : Int), ((0 : Nat) : Int), ()), ()) = some ((rows L.length (raw (S.take S.length)), ()), ()) := by
    refine loop_count (fun i => ((rows L.length (raw (S.take i)), S, (S.length : Int), (i : Int), ()), ())) S.length _ (fun i hi => ?_) ?_ 0 (Nat.zero_le _)
    · obtain ⟨a, b, he, hab, hb⟩ := hS i hi
      have hl := fun j => raw_len (S.take i) j
      simp only [List.length_take] at hl
      have g1 : decide ((List.length (raw (S.take i) a) + List.length [(b : Int)]) * 8 ≤ 70368744177664) = true := by
        have := hl a
        simp only [List.length_singleton, decide_eq_true_eq]
        omega
      have g2 : decide ((List.length (raw (S.take i) b) + List.length [(a : Int)]) * 8 ≤ 70368744177664) = true := by
        have := hl b
        simp only [List.length_singleton, decide_eq_true_eq]
        omega
      simp only [impl_Space_roads_B0, bif_decide, if_pos (show (i : Int) < (S.length : Int) by omega), guardB_true (inb_true (Int.natCast_nonneg i) (show (i : Int) < (S.length : Int) by omega)), Int.toNat_natCast, he, rows_len, guardB_true (inb_true (Int.natCast_nonneg a) (show (a : Int) < (L.length : Int) by omega)), guardB_true (inb_true (Int.natCast_nonneg b) (show (b : Int) < (L.length : Int) by omega)), rows_get (show a < L.length by omega), rows_get (show b < L.length by omega), Nat.beq_refl, Bool.and_self, guardB_true rfl, w64_succ (show i < 4611686018427387904 by omega), rows_set, if_neg (show ¬ b = a by omega), guardB_true g1, guardB_true g2]
      rw [take_one hi (0, 0), he]
      have : rows L.length (fun j => if j = b then raw (S.take i) b ++ [(a : Int)] else if j = a then raw (S.take i) a ++ [(b : Int)] else raw (S.take i) j) = rows L.length (raw (S.take i ++ [((a : Int), (b : Int))])) := rows_congr fun j _ => by
        rw [raw_snoc _ _ _ _ hab]
        by_cases h : j = b
        · subst h; rw [if_pos rfl, if_pos rfl]
        · by_cases h2 : j = a
          · subst h2; simp [h]
          · simp only [if_neg h, if_neg h2]
      rw [this]
    · simp only [impl_Space_roads_B0, bif_decide, if_neg (show ¬ (S.length : Int) < (S.length : Int) by omega)]
  have k1 : loopO impl_Space_roads_B1 ((rows L.length (fun j => if j < 0 then nbr S j else raw S j), (L.length : Int), ((0 : Nat) : Int), ()), ()) = some ((rows L.length (fun j => if j < L.length then nbr S j else raw S j), ()), ()) := by
    refine loop_count (fun i => ((rows L.length (fun j => if j < i then nbr S j else raw S j), (L.length : Int), (i : Int), ()), ())) L.length _ (fun i hi => ?_) ?_ 0 (Nat.zero_le _)
    · have hl := raw_len S i
      simp only [impl_Space_roads_B1, bif_decide, if_pos (show (i : Int) < (L.length : Int) by omega), rows_len, guardB_true (inb_true (Int.natCast_nonneg i) (show (i : Int) < (L.length : Int) by omega)), Int.toNat_natCast, rows_get hi, if_neg (show ¬ i < i by omega), slices_Sort_int_int, sortFn]
      rw [guardB_true (by simp only [decide_eq_true_eq]; omega)]
      simp only [sort_of_perm (raw_perm S i) (nbr_sorted hp i), rows_set, w64_succ (show i < 4611686018427387904 by omega)]
      have : rows L.length (fun j => if j = i then nbr S i else if j < i then nbr S j else raw S j) = rows L.length (fun j => if j < i + 1 then nbr S j else raw S j) := rows_congr fun j _ => by
        by_cases h : j = i
        · subst h; rw [if_pos rfl, if_pos (by omega)]
        · by_cases h2 : j < i
          · rw [if_neg h, if_pos h2, if_pos (by omega)]
          · rw [if_neg h, if_neg h2, if_neg (by omega)]
      rw [this]
    · simp only [impl_Space_roads_B1, bif_decide, if_neg (show ¬ (L.length : Int) < (L.length : Int) by omega)]
  rw [List.take_length] at k0
  have z0 : rows L.length (raw (S.take 0)) = List.replicate L.length [] := by rw [rows_rep]; exact rows_congr fun j _ => rfl
  have z1 : rows L.length (fun j => if j < 0 then nbr S j else raw S j) = rows L.length (raw S) := rows_congr fun j _ => by simp
  have z2 : rows L.length (fun j => if j < L.length then nbr S j else raw S j) = rows L.length (nbr S) := rows_congr fun j hj => by simp [hj]
  rw [z0] at k0
  rw [z1, z2] at k1
  erw [k0]
  simp only [rows_len]
  erw [k1]
  rfl
def cntLt (n : Int) : List Int → Nat
  | [] => 0
  | x :: l => if x < n then cntLt n l + 1 else 0
theorem cntLt_le (n : Int) : ∀ l : List Int, cntLt n l ≤ l.length
  | [] => Nat.le_refl _
  | x :: l => by
    simp only [cntLt, List.length_cons]
    have := cntLt_le n l
    split <;> omega
theorem cntLt_lt (n : Int) : ∀ (l : List Int) (i : Nat), i < cntLt n l → l.getD i 0 < n
  | [], i, h => by simp [cntLt] at h
  | x :: l, i, h => by
    simp only [cntLt] at h
    split at h
    · rename_i hx
      cases i with
      | zero => simpa using hx
      | succ i => simpa using cntLt_lt n l i (by omega)
    · omega
theorem cntLt_ge (n : Int) : ∀ (l : List Int), cntLt n l < l.length → ¬ l.getD (cntLt n l) 0 < n
  | [], h => by simp at h
  | x :: l, h => by
    simp only [cntLt, List.length_cons] at h ⊢
    split
    · rename_i hx
      rw [if_pos hx] at h
      simpa using cntLt_ge n l (by omega)
    · rename_i hx; simpa using hx
theorem l1Own_eq (l : List Int) (hl : l.length ≤ 1048576) : spec_l1Own (l, ()) () = some ((l, ()), ()) := by
  simp only [spec_l1Own, List.nil_append]
  rw [guardB_true (by simp; omega)]
theorem nbr_len {S : List (Int × Int)} (hs : S.length ≤ 6000) (j : Nat) : (nbr S j).length ≤ 12000 := by
  rw [nbr, List.length_append]
  have := inc_len S j
  have := outg_len S j
  omega
theorem flatMap_len {α β : Type} (f : α → List β) (m : Nat) : ∀ l : List α, (∀ x, (f x).length ≤ m) → (l.flatMap f).length ≤ l.length * m
  | [], _ => by simp
  | x :: l, h => by
    rw [List.flatMap_cons, List.length_append, List.length_cons, Nat.add_mul, Nat.one_mul]
    have := flatMap_len f m l h
    have := h x
    omega
theorem set_mid {α : Type} (A B : List α) (x y : α) : (A ++ x :: B).set A.length y = A ++ y :: B := by simp
theorem and_low {x : Int} (h0 : 0 ≤ x) (h : x < 4294967296) : (BitVec.ofInt 64 x &&& BitVec.ofInt 64 (4294967295 : Int)).toNat = x.toNat := by
  obtain ⟨m, rfl⟩ : ∃ m : Nat, x = m := ⟨x.toNat, by omega⟩
  have hm : m < 2 ^ 32 := by omega
  have e : (BitVec.ofInt 64 (m : Int)) = BitVec.ofNat 64 m := by simp
  rw [e, show BitVec.ofInt 64 (4294967295 : Int) = BitVec.ofNat 64 (2 ^ 32 - 1) by decide, BitVec.toNat_and, BitVec.toNat_ofNat, BitVec.toNat_ofNat]
  rw [Nat.mod_eq_of_lt (show m < 2 ^ 64 by omega), Nat.mod_eq_of_lt (show 2 ^ 32 - 1 < 2 ^ 64 by decide), Nat.and_two_pow_sub_one_eq_mod, Nat.mod_eq_of_lt hm]
  simp
theorem wrapU {x : Int} (h0 : 0 ≤ x) (h : x < 18446744073709551616) : IntKind.wrap .u64 x = x := by
  simp only [IntKind.wrap, IntKind.bits, IntKind.signed]
  simp
  omega
theorem Mul_small (x y : Int) (hx : 0 ≤ x) (hx' : x < 2097152) (hy : 0 ≤ y) (hy' : y < 2097152) : bits_Mul (x, y, ()) () = some ((0, x * y, ()), ()) := by
  have e1 : Int.fdiv x (2 ^ (min 32 64)) = 0 := by
    rw [show (2 : Int) ^ (min 32 64) = 4294967296 by decide, Int.fdiv_eq_ediv_of_nonneg _ (by decide)]; omega
  have e2 : Int.fdiv y (2 ^ (min 32 64)) = 0 := by
    rw [show (2 : Int) ^ (min 32 64) = 4294967296 by decide, Int.fdiv_eq_ediv_of_nonneg _ (by decide)]; omega
  have hxy0 : 0 ≤ x * y := Int.mul_nonneg hx hy
  have hxy : x * y ≤ 2097152 * 2097152 := Int.mul_le_mul (by omega) (by omega) hy (by decide)
  have a1 := and_low hx (by omega)
  have a2 := and_low hy (by omega)
  have z : IntKind.wrap .u64 0 = 0 := wrapU (by decide) (by decide)
  have q1 : IntKind.wrap .u64 (x.toNat : Int) = x := by rw [wrapU (by omega) (by omega)]; omega
  have q2 : IntKind.wrap .u64 (y.toNat : Int) = y := by rw [wrapU (by omega) (by omega)]; omega
  have q3 : IntKind.wrap .u64 (x * y) = x * y := wrapU hxy0 (by omega)
  have hd0 : 0 ≤ Int.fdiv (x * y) (2 ^ (min 32 64)) ∧ Int.fdiv (x * y) (2 ^ (min 32 64)) < 4294967296 := by
    rw [show (2 : Int) ^ (min 32 64) = 4294967296 by decide, Int.fdiv_eq_ediv_of_nonneg _ (by decide)]; omega
  obtain ⟨D, hD⟩ : ∃ D : Int, Int.fdiv (x * y) (2 ^ (min 32 64)) = D := ⟨_, rfl⟩
  rw [hD] at hd0
  have q4 : IntKind.wrap .u64 D = D := wrapU hd0.1 (by omega)
  have a3 := and_low hd0.1 hd0.2
  have q5 : IntKind.wrap .u64 (D.toNat : Int) = D := by rw [wrapU (by omega) (by omega)]; omega
  have e3 : Int.fdiv D (2 ^ (min 32 64)) = 0 := by
    rw [show (2 : Int) ^ (min 32 64) = 4294967296 by decide, Int.fdiv_eq_ediv_of_nonneg _ (by decide)]; omega
  simp only [bits_Mul, bits_Mul64, e1, e2, a1, a2, q1, q2, q3, hD, Int.zero_mul, Int.mul_zero, z, Int.zero_add, Int.add_zero, q4, a3, q5, e3]
theorem rep_take {α : Type} (n m : Nat) (v z : α) (h : m ≤ n) : (List.replicate m v ++ List.replicate (n - m) z).length = n := by simp; omega
theorem rep_step (n m : Nat) (v z : Int) (h0 : 0 < m) (h : m < n) :
    (List.take m (List.replicate m v ++ List.replicate (n - m) z) ++ List.take (min (List.length (List.drop 0 (List.take m (List.replicate m v ++ List.replicate (n - m) z)))) (n - m)) (List.drop 0 (List.take m (List.replicate m v ++ List.replicate (n - m) z))) ++ List.drop (m + (min (List.length (List.drop 0 (List.take m (List.replicate m v ++ List.replicate (n - m) z)))) (n - m))) (List.replicate m v ++ List.replicate (n - m) z))
      = List.replicate (m + min m (n - m)) v ++ List.replicate (n - (m + min m (n - m))) z := by
  have ht : List.take m (List.replicate m v ++ List.replicate (n - m) z) = List.replicate m v := by
    rw [List.take_append_of_le_length (by simp)]; simp
  rw [ht, List.drop_zero, List.length_replicate, List.take_replicate, show min (min m (n - m)) m = min m (n - m) by omega, List.drop_append, List.drop_replicate, List.drop_replicate, List.length_replicate, show m - (m + min m (n - m)) = 0 by omega, show m + min m (n - m) - m = min m (n - m) by omega, show n - m - min m (n - m) = n - (m + min m (n - m)) by omega, List.replicate_append_replicate]
  simp
theorem Rep_B0 (newslice : List Int) (n : Int) : slices_Repeat_int_int_B0 ((newslice, n, ()), ()) = bif (decide (n < (List.length newslice : Int))) then (guardB (decide (0 ≤ n) && decide (n ≤ (List.length newslice : Int)) && decide ((List.length newslice : Int) ≤ (List.length newslice : Int))) (guardB (decide (0 ≤ (0 : Int)) && decide ((0 : Int) ≤ n) && decide (n ≤ (List.length newslice : Int))) (guardB (decide ((Int.toNat n) ≤ (Int.toNat (List.length newslice : Int))) && decide ((Int.toNat (List.length newslice : Int)) ≤ List.length newslice)) (some (.inl (((List.take (Int.toNat n) newslice ++ List.take (min (List.length (List.drop 0 (List.take (Int.toNat n) newslice))) ((Int.toNat (List.length newslice : Int)) - (Int.toNat n))) (List.drop 0 (List.take (Int.toNat n) newslice)) ++ List.drop ((Int.toNat n) + (min (List.length (List.drop 0 (List.take (Int.toNat n) newslice))) ((Int.toNat (List.length newslice : Int)) - (Int.toNat n)))) newslice), (w64 (n + (((min (List.length (List.drop 0 (List.take (Int.toNat n) newslice))) ((Int.toNat (List.length newslice : Int)) - (Int.toNat n))) : Nat) : Int))), ()), ())))))) else (some (.inr ((newslice, ()), ()))) := rfl
theorem Repeat_eq (v : Int) (n : Nat) (hn : n ≤ 1048576) : slices_Repeat_int_int ([v], (n : Int), ()) () = some ((List.replicate n v, ()), ()) := by
  have hw : w64 (n : Int) = n := w64_of (by omega) (by omega)
  have hm : bits_Mul ((1 : Int), (n : Int), ()) () = some ((0, 1 * (n : Int), ()), ()) := Mul_small 1 n (by decide) (by decide) (by omega) (by omega)
  have u1 : IntKind.wrap .u64 ((List.length [v] : Nat) : Int) = 1 := wrapU (by simp) (by simp)
  have u2 : IntKind.wrap .u64 (n : Int) = n := wrapU (by omega) (by omega)
  simp only [slices_Repeat_int_int, u1, u2, hm, Int.one_mul, hw, bif_decide, Int.toNat_natCast, List.length_replicate]
  rw [if_neg (show ¬ ((n : Int) < 0) by omega), if_neg (show ¬ ((0 : Int) < 0) by omega), if_neg (show ¬ ((9223372036854775807 : Int) < n) by omega), guardB_true (by simp <;> omega), guardB_true (by simp)]
  have key : ∀ (d m : Nat), n - m ≤ d → m ≤ n → 0 < m → loopO slices_Repeat_int_int_B0 ((List.replicate m v ++ List.replicate (n - m) 0, (m : Int), ()), ()) = some ((List.replicate n v, ()), ()) := by
    intro d
    induction d with
    | zero =>
      intro m hd hm h0
      refine loop_end ?_
      have : m = n := by omega
      subst this
      rw [Rep_B0]; simp
    | succ d ih =>
      intro m hd hm h0
      by_cases hmn : m = n
      · subst hmn
        refine loop_end ?_
        rw [Rep_B0]; simp
      · have hl := rep_take n m v (0 : Int) hm
        refine loop_step (p' := ((List.replicate (m + min m (n - m)) v ++ List.replicate (n - (m + min m (n - m))) 0, ((m + min m (n - m) : Nat) : Int), ()), ())) ?_ (ih (m + min m (n - m)) (by omega) (by omega) (by omega))
        rw [Rep_B0]
        simp only [hl, bif_decide, Int.toNat_natCast]
        rw [if_pos (by omega), guardB_true (by simp <;> omega), guardB_true (by simp <;> omega), guardB_true (by simp <;> omega), rep_step n m v 0 h0 (by omega)]
        have hmin : min (List.length (List.drop 0 (List.take m (List.replicate m v ++ List.replicate (n - m) (0 : Int))))) (n - m) = min m (n - m) := by simp <;> omega
        rw [hmin, w64_of (by omega) (by omega)]
        simp
  by_cases hz : n = 0
  · subst hz
    have : loopO slices_Repeat_int_int_B0 (([], 0, ()), ()) = some (([], ()), ()) := loop_end (by rw [Rep_B0]; simp)
    simp [this]
  · have hs : (List.take 0 (List.replicate n (0 : Int)) ++ List.take (min (List.length [v]) (n - 0)) [v] ++ List.drop (0 + min (List.length [v]) (n - 0)) (List.replicate n 0)) = List.replicate 1 v ++ List.replicate (n - 1) 0 := by
      have : min (List.length [v]) (n - 0) = 1 := by simp; omega
      rw [this]
      simp
    have hc : ((min (List.length [v]) (n - 0) : Nat) : Int) = ((1 : Nat) : Int) := by
      have : min (List.length [v]) (n - 0) = 1 := by simp; omega
      rw [this]
    rw [hs, hc, key n 1 (by omega) (by omega) (by omega)]
theorem spec_l2Spread_B0_at (t0 : List (List (Int))) (t1 : Int) (t5 : List (Int)) (t6 : Int) : spec_l2Spread_B0 ((t0, t1, t5, t6, ()), ()) = bif (decide (t6 < (List.length t5 : Int))) then (guardB (inb t6 (List.length t5)) (some (.inl ((t0, t1, (List.set t5 (Int.toNat t6) (-1 : Int)), (w64 (t6 + (1 : Int))), ()), ())))) else (some (.inr ((t0, t1, t5, ()), ()))) := rfl
theorem spec_l2Spread_B1_at (t0 : List (List (Int))) (t5 : List (Int)) (t7 : List (Int)) (t8 : Int) (t9 : List (Int)) (t10 : Int) : spec_l2Spread_B1 ((t0, t5, t7, t8, t9, t10, ()), ()) = bif (decide (t10 < (List.length t9 : Int))) then (guardB (inb t10 (List.length t9)) (guardB (inb (List.getD t9 (Int.toNat t10) (0 : Int)) (List.length t5)) (bif (decide ((List.getD t5 (Int.toNat (List.getD t9 (Int.toNat t10) (0 : Int))) (0 : Int)) < (0 : Int))) then (guardB (inb t10 (List.length t9)) (guardB (inb t8 (List.length t7)) (guardB (inb (List.getD t7 (Int.toNat t8) (0 : Int)) (List.length t5)) (guardB (inb (List.getD t9 (Int.toNat t10) (0 : Int)) (List.length t5)) (guardB (inb t10 (List.length t9)) (guardB (decide ((List.length t7 + List.length [(List.getD t9 (Int.toNat t10) (0 : Int))]) * 8 ≤ 70368744177664)) (some (.inl ((t0, (List.set t5 (Int.toNat (List.getD t9 (Int.toNat t10) (0 : Int))) (w64 ((List.getD t5 (Int.toNat (List.getD t7 (Int.toNat t8) (0 : Int))) (0 : Int)) + (1 : Int)))), (t7 ++ [(List.getD t9 (Int.toNat t10) (0 : Int))]), t8, t9, (w64 (t10 + (1 : Int))), ()), ()))))))))) else (some (.inl ((t0, t5, t7, t8, t9, (w64 (t10 + (1 : Int))), ()), ())))))) else (some (.inr ((t0, t5, t7, t8, ()), ()))) := rfl
theorem spec_l2Spread_B2_at (t0 : List (List (Int))) (t5 : List (Int)) (t7 : List (Int)) (t8 : Int) : spec_l2Spread_B2 ((t0, t5, t7, t8, ()), ()) = bif (decide (t8 < (List.length t7 : Int))) then (guardB (inb t8 (List.length t7)) (guardB (inb (List.getD t7 (Int.toNat t8) (0 : Int)) (List.length t0)) (match loopO spec_l2Spread_B1 ((t0, t5, t7, t8, (List.getD t0 (Int.toNat (List.getD t7 (Int.toNat t8) (0 : Int))) ([] : (List Int))), (0 : Int), ()), ()) with | some ((t0_2, t5_2, t7_2, t8_2, ()), ()) => some (.inl ((t0_2, t5_2, t7_2, (w64 (t8_2 + (1 : Int))), ()), ())) | none => none))) else (some (.inr ((t5, ()), ()))) := rfl
theorem impl_spread_B0_at (roads : List (List (Int))) (out : List (Int)) (queue : List (Int)) (i : Int) (t30 : List (Int)) (t31 : Int) (t32 : Int) : impl_spread_B0 ((roads, out, queue, i, t30, t31, t32, ()), ()) = bif (decide (t32 < t31)) then (guardB (inb t32 (List.length t30)) (guardB (inb (List.getD t30 (Int.toNat t32) (0 : Int)) (List.length out)) (bif (decide ((List.getD out (Int.toNat (List.getD t30 (Int.toNat t32) (0 : Int))) (0 : Int)) < (0 : Int))) then (guardB (inb i (List.length out)) (guardB (inb (List.getD t30 (Int.toNat t32) (0 : Int)) (List.length out)) (guardB (decide ((List.length queue + List.length [(List.getD t30 (Int.toNat t32) (0 : Int))]) * 8 ≤ 70368744177664)) (some (.inl ((roads, (List.set out (Int.toNat (List.getD t30 (Int.toNat t32) (0 : Int))) (w64 ((List.getD out (Int.toNat i) (0 : Int)) + (1 : Int)))), (queue ++ [(List.getD t30 (Int.toNat t32) (0 : Int))]), i, t30, t31, (w64 (t32 + (1 : Int))), ()), ())))))) else (some (.inl ((roads, out, queue, i, t30, t31, (w64 (t32 + (1 : Int))), ()), ())))))) else (some (.inr ((roads, out, queue, ()), ()))) := rfl
theorem impl_spread_B1_at (roads : List (List (Int))) (out : List (Int)) (queue : List (Int)) : impl_spread_B1 ((roads, out, queue, ()), ()) = bif (decide ((0 : Int) < (List.length queue : Int))) then (guardB (inb (0 : Int) (List.length queue)) (guardB (decide (0 ≤ (1 : Int)) && decide ((1 : Int) ≤ (List.length queue : Int)) && decide ((List.length queue : Int) ≤ (List.length queue : Int))) (guardB (inb (List.getD queue 0 (0 : Int)) (List.length roads)) (match loopO impl_spread_B0 ((roads, out, (List.drop 1 (List.take (Int.toNat (List.length queue : Int)) queue)), (List.getD queue 0 (0 : Int)), (List.getD roads (Int.toNat (List.getD queue 0 (0 : Int))) ([] : (List Int))), (List.length (List.getD roads (Int.toNat (List.getD queue 0 (0 : Int))) ([] : (List Int))) : Int), (0 : Int), ()), ()) with | some ((roads2, out2, queue2, ()), ()) => some (.inl ((roads2, out2, queue2, ()), ())) | none => none)))) else (some (.inr ((out, ()), ()))) := rfl
theorem getD_set {l : List Int} {i j : Nat} {a d : Int} (h : i < l.length) : (l.set i a).getD j d = if i = j then a else l.getD j d := by
  simp only [List.getD, List.getElem?_set, h, if_true]
  split <;> simp
def vis1 (v : Int) (s : List Int × List Int) (w : Int) : List Int × List Int := if s.1.getD w.toNat 0 < 0 then (s.1.set w.toNat (s.1.getD v.toNat 0 + 1), s.2 ++ [w]) else s
def vis (v : Int) (row : List Int) (s : List Int × List Int) : List Int × List Int := row.foldl (vis1 v) s
def Bf (n : Nat) (s : List Int × List Int) : Prop := s.1.length = n ∧ (∀ w ∈ s.2, 0 ≤ w ∧ w < n ∧ 0 ≤ s.1.getD w.toNat 0) ∧ s.2.length + s.1.countP (fun d => decide (d < 0)) = n ∧ (∀ j, -1 ≤ s.1.getD j 0 ∧ s.1.getD j 0 < s.2.length)
theorem vis1_bf {n : Nat} {v w : Int} {s : List Int × List Int} (h : Bf n s) (hv : v ∈ s.2) (hw : 0 ≤ w ∧ w < n) : Bf n (vis1 v s w) ∧ ∃ t, (vis1 v s w).2 = s.2 ++ t := by
  unfold vis1
  by_cases hd : s.1.getD w.toNat 0 < 0
  · rw [if_pos hd]
    refine ⟨?_, _, rfl⟩
    obtain ⟨h1, h2, h3, h4⟩ := h
    have hl : w.toNat < s.1.length := by omega
    have hv2 := h2 v hv
    refine ⟨by simp [h1], ?_, ?_, ?_⟩
    · intro u hu
      simp only
      rw [getD_set hl]
      rcases List.mem_append.1 hu with hu | hu
      · have := h2 u hu
        refine ⟨this.1, this.2.1, ?_⟩
        split
        · omega
        · exact this.2.2
      · have : u = w := by simpa using hu
        subst this
        refine ⟨hw.1, hw.2, ?_⟩
        rw [if_pos rfl]; omega
    · simp only [List.length_append, List.length_singleton]
      rw [List.countP_set hl]
      have e1 : decide (s.1[w.toNat] < 0) = true := by rw [← getD_at hl 0]; simpa using hd
      have e2 : decide (s.1.getD v.toNat 0 + 1 < 0) = false := by simp only [decide_eq_false_iff_not]; omega
      have e3 : 0 < s.1.countP (fun d => decide (d < 0)) := List.countP_pos_iff.2 ⟨_, List.getElem_mem hl, e1⟩
      simp only [e1, e2, if_true, Bool.false_eq_true, if_false]
      omega
    · intro j
      simp only [List.length_append, List.length_singleton]
      rw [getD_set hl]
      have a1 := h4 j
      have a2 := h4 v.toNat
      split
      · omega
      · omega
  · rw [if_neg hd]
    exact ⟨h, [], by simp⟩
theorem vis_bf {n : Nat} {v : Int} : ∀ (row : List Int) {s : List Int × List Int}, Bf n s → v ∈ s.2 → (∀ w ∈ row, 0 ≤ w ∧ w < n) → Bf n (vis v row s) ∧ ∃ t, (vis v row s).2 = s.2 ++ t
  | [], s, h, hv, hr => ⟨h, [], by simp [vis]⟩
  | w :: row, s, h, hv, hr => by
    obtain ⟨h1, t1, e1⟩ := vis1_bf h hv (hr w (by simp))
    obtain ⟨h2, t2, e2⟩ := vis_bf row h1 (by rw [e1]; exact List.mem_append_left _ hv) (fun u hu => hr u (by simp [hu]))
    exact ⟨h2, t1 ++ t2, by show (vis v row (vis1 v s w)).2 = _; rw [e2, e1, List.append_assoc]⟩
theorem vis_snoc {v : Int} {row : List Int} {i : Nat} (h : i < row.length) (s : List Int × List Int) : vis v (row.take (i + 1)) s = vis1 v (vis v (row.take i) s) (row.getD i 0) := by
  rw [take_one h 0]; simp [vis, List.foldl_append]
theorem Bf.few {n : Nat} {s : List Int × List Int} (h : Bf n s) : s.2.length ≤ n := by have := h.2.2.1; omega
theorem getD_app {l t : List Int} {k : Nat} (h : k < l.length) : (l ++ t).getD k 0 = l.getD k 0 := by
  rw [getD_at h, getD_at (by simp <;> omega), List.getElem_append_left h]
theorem getD_in {l : List Int} {k : Nat} (h : k < l.length) : l.getD k 0 ∈ l := by rw [getD_at h]; exact List.getElem_mem h
theorem spread_row (L : List (List Int)) {n k : Nat} {s : List Int × List Int} {row : List Int} (hB : Bf n s) (hk : k < s.2.length) (hr : ∀ w ∈ row, 0 ≤ w ∧ w < n) (hn : n ≤ 1048576) (hl : row.length ≤ 1048576) :
    loopO spec_l2Spread_B1 ((L, s.1, s.2, (k : Int), row, 0, ()), ()) = some ((L, (vis (s.2.getD k 0) row s).1, (vis (s.2.getD k 0) row s).2, (k : Int), ()), ()) := by
  have key := loop_count (B := spec_l2Spread_B1) (fun i => ((L, (vis (s.2.getD k 0) (row.take i) s).1, (vis (s.2.getD k 0) (row.take i) s).2, (k : Int), row, (i : Int), ()), ())) row.length ((L, (vis (s.2.getD k 0) row s).1, (vis (s.2.getD k 0) row s).2, (k : Int), ()), ()) ?_ ?_ 0 (Nat.zero_le _)
  · simpa [vis] using key
  · intro i hi
    obtain ⟨hB', t, ht⟩ := vis_bf (row.take i) hB (getD_in hk) (fun w hw => hr w (List.mem_of_mem_take hw))
    have hv : (vis (s.2.getD k 0) (row.take i) s).2.getD k 0 = s.2.getD k 0 := by rw [ht]; exact getD_app hk
    have hk' : k < (vis (s.2.getD k 0) (row.take i) s).2.length := by rw [ht, List.length_append]; omega
    have hvn := hB.2.1 _ (getD_in hk)
    have hw := hr _ (getD_in hi)
    obtain ⟨s', hs'⟩ : ∃ s', vis (s.2.getD k 0) (row.take i) s = s' := ⟨_, rfl⟩
    simp only [vis_snoc hi, hs'] at *
    obtain ⟨v, hve⟩ : ∃ v, s.2.getD k 0 = v := ⟨_, rfl⟩
    obtain ⟨w, hwe⟩ : ∃ w, row.getD i 0 = w := ⟨_, rfl⟩
    have few := hB'.few
    have hlen := hB'.1
    have hb := hB'.2.2.2 v.toNat
    rw [spec_l2Spread_B1_at]
    simp only [bif_decide, Int.toNat_natCast, vis1, hve, hwe] at *
    rw [if_pos (by omega), guardB_true (by simp [inb] <;> omega), guardB_true (inb_true hw.1 (by omega)), hv]
    by_cases hd : s'.1.getD w.toNat 0 < 0
    · rw [if_pos hd, if_pos hd, guardB_true (by simp [inb] <;> omega), guardB_true (by simp [inb] <;> omega), guardB_true (inb_true hvn.1 (by omega)), guardB_true (inb_true hw.1 (by omega)), guardB_true (by simp [inb] <;> omega), guardB_true (by simp only [List.length_singleton, decide_eq_true_eq]; omega), w64_succ (by omega), w64_of (by omega) (by omega)]
    · rw [if_neg hd, if_neg hd, w64_succ (by omega)]
  · rw [spec_l2Spread_B1_at]; simp
theorem spread_row' (L : List (List Int)) {n k : Nat} {s : List Int × List Int} {row : List Int} (hB : Bf n s) (hk : k < s.2.length) (hr : ∀ w ∈ row, 0 ≤ w ∧ w < n) (hn : n ≤ 1048576) (hl : row.length ≤ 1048576) :
    loopO impl_spread_B0 ((L, s.1, s.2.drop (k + 1), s.2.getD k 0, row, (row.length : Int), 0, ()), ()) = some ((L, (vis (s.2.getD k 0) row s).1, (vis (s.2.getD k 0) row s).2.drop (k + 1), ()), ()) := by
  have key := loop_count (B := impl_spread_B0) (fun i => ((L, (vis (s.2.getD k 0) (row.take i) s).1, (vis (s.2.getD k 0) (row.take i) s).2.drop (k + 1), s.2.getD k 0, row, (row.length : Int), (i : Int), ()), ())) row.length ((L, (vis (s.2.getD k 0) row s).1, (vis (s.2.getD k 0) row s).2.drop (k + 1), ()), ()) ?_ ?_ 0 (Nat.zero_le _)
  · simpa [vis] using key
  · intro i hi
    obtain ⟨hB', t, ht⟩ := vis_bf (row.take i) hB (getD_in hk) (fun w hw => hr w (List.mem_of_mem_take hw))
    have hk' : k < (vis (s.2.getD k 0) (row.take i) s).2.length := by rw [ht, List.length_append]; omega
    have hvn := hB.2.1 _ (getD_in hk)
    have hw := hr _ (getD_in hi)
    obtain ⟨s', hs'⟩ : ∃ s', vis (s.2.getD k 0) (row.take i) s = s' := ⟨_, rfl⟩
    simp only [vis_snoc hi, hs'] at *
    obtain ⟨v, hve⟩ : ∃ v, s.2.getD k 0 = v := ⟨_, rfl⟩
    obtain ⟨w, hwe⟩ : ∃ w, row.getD i 0 = w := ⟨_, rfl⟩
    have few := hB'.few
    have hlen := hB'.1
    have hb := hB'.2.2.2 v.toNat
    rw [impl_spread_B0_at]
    simp only [bif_decide, Int.toNat_natCast, vis1, hve, hwe] at *
    rw [if_pos (by omega), guardB_true (by simp [inb] <;> omega), guardB_true (inb_true hw.1 (by omega))]
    by_cases hd : s'.1.getD w.toNat 0 < 0
    · have hdr : (s'.2 ++ [w]).drop (k + 1) = s'.2.drop (k + 1) ++ [w] := by rw [List.drop_append_of_le_length (by omega)]
      rw [if_pos hd, if_pos hd, guardB_true (inb_true hvn.1 (by omega)), guardB_true (by simp [inb] <;> omega), guardB_true (by simp only [List.length_singleton, List.length_drop, decide_eq_true_eq]; omega), w64_succ (by omega), w64_of (by omega) (by omega), hdr]
    · rw [if_neg hd, if_neg hd, w64_succ (by omega)]
  · rw [impl_spread_B0_at]; simp
def Rds (n : Nat) (L : List (List Int)) : Prop := L.length = n ∧ ∀ i, i < n → (L.getD i []).length ≤ 1048576 ∧ ∀ w ∈ L.getD i [], 0 ≤ w ∧ w < n
def bfs (L : List (List Int)) : Nat → Nat → List Int × List Int → List Int × List Int
  | 0, _, s => s
  | f + 1, k, s => if k < s.2.length then bfs L f (k + 1) (vis (s.2.getD k 0) (L.getD (s.2.getD k 0).toNat []) s) else s
theorem bfs_step {L : List (List Int)} {n k : Nat} {s : List Int × List Int} (hL : Rds n L) (hB : Bf n s) (hk : k < s.2.length) : Bf n (vis (s.2.getD k 0) (L.getD (s.2.getD k 0).toNat []) s) ∧ k + 1 ≤ (vis (s.2.getD k 0) (L.getD (s.2.getD k 0).toNat []) s).2.length := by
  have hvn := hB.2.1 _ (getD_in hk)
  obtain ⟨h1, t, ht⟩ := vis_bf (L.getD (s.2.getD k 0).toNat []) hB (getD_in hk) (hL.2 _ (by omega)).2
  exact ⟨h1, by rw [ht, List.length_append]; omega⟩
theorem bfs_bf {L : List (List Int)} {n : Nat} (hL : Rds n L) : ∀ (f k : Nat) (s : List Int × List Int), Bf n s → Bf n (bfs L f k s)
  | 0, _, s, h => h
  | f + 1, k, s, h => by
    unfold bfs
    split
    · rename_i hk
      exact bfs_bf hL f (k + 1) _ (bfs_step hL h hk).1
    · exact h
theorem spread_out {L : List (List Int)} {n : Nat} (hL : Rds n L) (hn : n ≤ 1048576) : ∀ (f k : Nat) (s : List Int × List Int), Bf n s → k ≤ s.2.length → n - k ≤ f → loopO spec_l2Spread_B2 ((L, s.1, s.2, (k : Int), ()), ()) = some (((bfs L f k s).1, ()), ()) := by
  intro f
  induction f with
  | zero =>
    intro k s hB hk hf
    have := hB.few
    refine loop_end ?_
    rw [spec_l2Spread_B2_at]
    simp only [bif_decide, bfs]
    rw [if_neg (by omega)]
  | succ f ih =>
    intro k s hB hk hf
    have few := hB.few
    unfold bfs
    split
    · rename_i hk'
      obtain ⟨h1, h2⟩ := bfs_step hL hB hk'
      have hvn := hB.2.1 _ (getD_in hk')
      have hrow := hL.2 (s.2.getD k 0).toNat (by omega)
      have key := spread_row L hB hk' hrow.2 hn hrow.1
      refine loop_step ?_ (ih (k + 1) _ h1 h2 (by omega))
      have hL1 := hL.1
      rw [spec_l2Spread_B2_at]
      simp only [bif_decide, Int.toNat_natCast]
      rw [if_pos (by omega), guardB_true (by simp [inb] <;> omega), guardB_true (inb_true hvn.1 (by omega))]
      erw [key]
      simp only [w64_succ (show k < 4611686018427387904 by omega)]
    · rename_i hk'
      refine loop_end ?_
      rw [spec_l2Spread_B2_at]
      simp only [bif_decide]
      rw [if_neg (by omega)]
theorem spread_out' {L : List (List Int)} {n : Nat} (hL : Rds n L) (hn : n ≤ 1048576) : ∀ (f k : Nat) (s : List Int × List Int), Bf n s → k ≤ s.2.length → n - k ≤ f → loopO impl_spread_B1 ((L, s.1, s.2.drop k, ()), ()) = some (((bfs L f k s).1, ()), ()) := by
  intro f
  induction f with
  | zero =>
    intro k s hB hk hf
    have := hB.few
    refine loop_end ?_
    rw [impl_spread_B1_at]
    simp only [bif_decide, bfs, List.length_drop]
    rw [if_neg (by omega)]
  | succ f ih =>
    intro k s hB hk hf
    have few := hB.few
    unfold bfs
    split
    · rename_i hk'
      obtain ⟨h1, h2⟩ := bfs_step hL hB hk'
      have hvn := hB.2.1 _ (getD_in hk')
      have hrow := hL.2 (s.2.getD k 0).toNat (by omega)
      have key := spread_row' L hB hk' hrow.2 hn hrow.1
      refine loop_step ?_ (ih (k + 1) _ h1 h2 (by omega))
      have hL1 := hL.1
      have hd0 : (s.2.drop k).getD 0 0 = s.2.getD k 0 := by rw [getD_at (by simp <;> omega), getD_at hk']; simp
      have hd1 : List.drop 1 (List.take (s.2.drop k).length (s.2.drop k)) = s.2.drop (k + 1) := by rw [List.take_length, List.drop_drop]
      rw [impl_spread_B1_at]
      simp only [bif_decide, Int.toNat_natCast, hd0, hd1]
      rw [if_pos (by simp <;> omega), guardB_true (by simp [inb] <;> omega), guardB_true (by simp <;> omega), guardB_true (inb_true hvn.1 (by omega))]
      erw [key]
    · rename_i hk'
      refine loop_end ?_
      rw [impl_spread_B1_at]
      simp only [bif_decide, List.length_drop]
      rw [if_neg (by omega)]
def far0 (n : Nat) (a : Int) : List Int × List Int := ((List.replicate n (-1 : Int)).set a.toNat 0, [a])
def far (L : List (List Int)) (a : Int) : List Int := (bfs L L.length 0 (far0 L.length a)).1
theorem far0_bf {n : Nat} {a : Int} (h0 : 0 ≤ a) (h : a < n) : Bf n (far0 n a) := by
  have hl : a.toNat < (List.replicate n (-1 : Int)).length := by simp; omega
  refine ⟨by simp [far0], ?_, ?_, ?_⟩
  · intro w hw
    have : w = a := by simpa [far0] using hw
    subst this
    refine ⟨h0, h, ?_⟩
    simp only [far0]
    rw [getD_set hl, if_pos rfl]
    exact Int.le_refl 0
  · simp only [far0]
    rw [List.countP_set hl]
    have e : (List.replicate n (-1 : Int)).countP (fun d => decide (d < 0)) = n := by rw [List.countP_replicate]; simp
    simp only [e, List.getElem_replicate, List.length_singleton]
    simp
    omega
  · intro j
    simp only [far0]
    rw [getD_set hl, List.length_singleton]
    split
    · omega
    · by_cases hj : j < n
      · rw [getD_at (by simpa using hj)]; simp
      · simp [List.getD, hj]
theorem far_bf {L : List (List Int)} {n : Nat} (hL : Rds n L) {a : Int} (h0 : 0 ≤ a) (h : a < n) : (far L a).length = n ∧ ∀ j, -1 ≤ (far L a).getD j 0 ∧ (far L a).getD j 0 < n := by
  have hB := bfs_bf hL L.length 0 _ (far0_bf (n := n) h0 h)
  have few := hB.few
  unfold far
  rw [hL.1] at hB ⊢
  refine ⟨hB.1, fun j => ?_⟩
  have := hB.2.2.2 j
  rw [hL.1] at few
  omega
theorem spread_spec {L : List (List Int)} {n : Nat} (hL : Rds n L) (hn : n ≤ 1048576) {a : Int} (h0 : 0 ≤ a) (h : a < n) : spec_l2Spread (L, a, ()) () = some ((far L a, ()), ()) := by
  have hl := hL.1
  have key1 : loopO spec_l2Spread_B0 ((L, a, List.replicate n 0, 0, ()), ()) = some ((L, a, List.replicate n (-1), ()), ()) := by
    have := loop_count (B := spec_l2Spread_B0) (fun i => ((L, a, fill (fun _ => (-1 : Int)) 0 n i, (i : Int), ()), ())) n ((L, a, fill (fun _ => (-1 : Int)) 0 n n, ()), ()) ?_ ?_ 0 (Nat.zero_le _)
    · rw [fill_all] at this
      rw [rows_rep (-1 : Int)]
      simpa [fill_zero, rows] using this
    · intro i hi
      rw [spec_l2Spread_B0_at]
      simp only [bif_decide, fill_len, Int.toNat_natCast]
      rw [if_pos (by omega), guardB_true (by simp [inb] <;> omega), fill_set hi, w64_succ (by omega)]
    · rw [spec_l2Spread_B0_at]; simp [fill_len]
  have key2 := spread_out hL hn n 0 (far0 n a) (far0_bf h0 h) (Nat.zero_le _) (by omega)
  simp only [spec_l2Spread, hl, Int.toNat_natCast]
  rw [guardB_true (by simp <;> omega)]
  erw [key1]
  simp only
  rw [guardB_true (inb_true h0 (by simp <;> omega))]
  have : far L a = (bfs L n 0 (far0 n a)).1 := by simp only [far, hl]
  rw [this]
  erw [key2]
theorem spread_impl {L : List (List Int)} {n : Nat} (hL : Rds n L) (hn : n ≤ 1048576) {a : Int} (h0 : 0 ≤ a) (h : a < n) : impl_spread (L, a, ()) () = some ((far L a, ()), ()) := by
  have hl := hL.1
  have key2 := spread_out' hL hn n 0 (far0 n a) (far0_bf h0 h) (Nat.zero_le _) (by omega)
  simp only [impl_spread, hl, Repeat_eq (-1) n hn]
  rw [guardB_true (inb_true h0 (by simp <;> omega))]
  have : far L a = (bfs L n 0 (far0 n a)).1 := by simp only [far, hl]
  rw [this]
  erw [key2]
theorem rds_lists {S : List (Int × Int)} {n : Nat} (h : StepsOk S n) (hs : S.length ≤ 6000) : Rds n (listsP S n) := by
  refine ⟨rows_len, fun i hi => ?_⟩
  rw [show (listsP S n).getD i [] = nbr S i from rows_get hi _]
  refine ⟨by have := nbr_len hs i; omega, fun w hw => ?_⟩
  simp only [nbr, inc, outg, List.mem_append, List.mem_map, List.mem_filter] at hw
  rcases hw with ⟨e, ⟨he, _⟩, rfl⟩ | ⟨e, ⟨he, _⟩, rfl⟩
  · have := steps_mem h he; omega
  · have := steps_mem h he; omega
theorem spec_l11Numbers_B0_at (list : List (Int)) (n : Int) (i : Int) : spec_l11Numbers_B0 ((list, n, i, ()), ()) = bif (decide (i < (List.length list : Int))) then (guardB (inb i (List.length list)) (match spec_l1In ((List.getD list (Int.toNat i) (0 : Int)), (0 : Int), (999 : Int), ()) () with | some ((r, ()), ()) => (bif (!r) then (some (.inr (.inl ((false, ()), ())))) else (some (.inl ((list, n, (w64 (i + (1 : Int))), ()), ())))) | none => none)) else (some (.inr (.inr ((list, n, ()), ())))) := rfl
theorem slices_IndexFunc_int_int_2_vf_impl_areLoads_1_B0_at (s : List (Int)) (t7 : Int) (t8 : Int) : slices_IndexFunc_int_int_2_vf_impl_areLoads_1_B0 ((s, t7, t8, ()), ()) = bif (decide (t8 < t7)) then (guardB (inb t8 (List.length s)) (match impl_areLoads_1 ((List.getD s (Int.toNat t8) (0 : Int)), ()) () with | some ((r, ()), ()) => (bif r then (some (.inr (.inl ((t8, ()), ())))) else (some (.inl ((s, t7, (w64 (t8 + (1 : Int))), ()), ())))) | none => none)) else (some (.inr (.inr ((), ())))) := rfl
theorem spec_l11Under_B0_at (heights : List (Int)) (level : Int) (out : List (Int)) (i : Int) : spec_l11Under_B0 ((heights, level, out, i, ()), ()) = bif (decide (i < (List.length heights : Int))) then (guardB (inb i (List.length heights)) (bif (decide ((List.getD heights (Int.toNat i) (0 : Int)) ≤ level)) then (guardB (decide ((List.length out + List.length [i]) * 8 ≤ 70368744177664)) (some (.inl ((heights, level, (out ++ [i]), (w64 (i + (1 : Int))), ()), ())))) else (some (.inl ((heights, level, out, (w64 (i + (1 : Int))), ()), ()))))) else (some (.inr ((out, ()), ()))) := rfl
theorem impl_below_B0_at (level : Int) (out : List (Int)) (t9 : List (Int)) (t10 : Int) (t11 : Int) : impl_below_B0 ((level, out, t9, t10, t11, ()), ()) = bif (decide (t11 < t10)) then (guardB (inb t11 (List.length t9)) (bif (decide ((List.getD t9 (Int.toNat t11) (0 : Int)) ≤ level)) then (guardB (decide ((List.length out + List.length [t11]) * 8 ≤ 70368744177664)) (some (.inl ((level, (out ++ [t11]), t9, t10, (w64 (t11 + (1 : Int))), ()), ())))) else (some (.inl ((level, out, t9, t10, (w64 (t11 + (1 : Int))), ()), ()))))) else (some (.inr ((out, ()), ()))) := rfl
def loadB (n : Int) : Bool := inR n 0 999
def loadsB (m : Nat) (l : List Int) : Bool := decide (l.length = m) && l.all loadB
theorem l11Numbers_eq (l : List Int) (m : Nat) (hl : l.length ≤ 1048576) : spec_l11Numbers (l, (m : Int), ()) () = some ((loadsB m l, ()), ()) := by
  have key := loop_all (B := spec_l11Numbers_B0) (fun i => ((l, (m : Int), (i : Int), ()), ())) (fun i => loadB (l.getD i 0)) l.length (.inl ((false, ()), ())) (.inr ((l, (m : Int), ()), ())) (fun i hi _ => by
    rw [spec_l11Numbers_B0_at]
    simp only [bif_decide, if_pos (show (i : Int) < (l.length : Int) by omega), guardB_true (inb_true (Int.natCast_nonneg i) (show (i : Int) < (l.length : Int) by omega)), Int.toNat_natCast, l1In_eq _ _ _, w64_succ (show i < 4611686018427387904 by omega), loadB]
    cases inR (l.getD i 0) 0 999 <;> rfl) (by rw [spec_l11Numbers_B0_at]; simp)
  rw [allUpto_getD] at key
  simp only [spec_l11Numbers]
  erw [key]
  have e : ((l.length : Int) == (m : Int)) = decide (l.length = m) := by
    by_cases h : l.length = m
    · simp [h]
    · rw [beq_ne (by omega), decide_eq_false h]
  cases h : l.all loadB
  · simp [loadsB, h]
  · simp [loadsB, h, e]
theorem areLoads_eq (l : List Int) (m : Nat) (hl : l.length ≤ 1048576) : impl_areLoads (l, (m : Int), ()) () = some ((loadsB m l, ()), ()) := by
  have k1 : ∀ n : Int, impl_areLoads_1 (n, ()) () = some (((!loadB n), ()), ()) := fun n => by simp only [impl_areLoads_1, between_eq _ _ _, loadB]
  have key := loop_idx (B := slices_IndexFunc_int_int_2_vf_impl_areLoads_1_B0) (fun i => ((l, (l.length : Int), (i : Int), ()), ())) (fun i => !loadB (l.getD i 0)) l.length (fun i => .inl ((i, ()), ())) (.inr ((), ())) (fun i hi => by
    rw [slices_IndexFunc_int_int_2_vf_impl_areLoads_1_B0_at]
    simp only [bif_decide, if_pos (show (i : Int) < (l.length : Int) by omega), guardB_true (inb_true (Int.natCast_nonneg i) (show (i : Int) < (l.length : Int) by omega)), Int.toNat_natCast, k1, w64_succ (show i < 4611686018427387904 by omega)]
    cases loadB (l.getD i 0) <;> rfl) (by rw [slices_IndexFunc_int_int_2_vf_impl_areLoads_1_B0_at]; simp)
  have k2 : slices_IndexFunc_int_int_2_vf_impl_areLoads_1 (l, ()) () = some ((firstIdx (fun i => !loadB (l.getD i 0)) 0 l.length, ()), ()) := by
    simp only [slices_IndexFunc_int_int_2_vf_impl_areLoads_1]
    erw [key]
    by_cases h : firstIdx (fun i => !loadB (l.getD i 0)) 0 l.length < 0
    · rw [if_pos h, firstIdx_range _ _ h]
    · rw [if_neg h]
  have e : allUpto (fun i => !!loadB (l.getD (0 + i) 0)) l.length = l.all loadB := by
    rw [← allUpto_getD]; congr 1; funext i; simp
  simp only [impl_areLoads, slices_ContainsFunc_int_int_2_vf_impl_areLoads_1, k2, firstIdx_neg, e]
  by_cases h : l.length = m
  · rw [show ((l.length : Int) == (m : Int)) = true by simp [h]]; simp [loadsB, h]
  · rw [show ((l.length : Int) == (m : Int)) = false from beq_ne (by omega)]; simp [loadsB, h]
def underFrom (t : Int) (k : Nat) : List Int → List Int
  | [] => []
  | h :: l => if h ≤ t then (k : Int) :: underFrom t (k + 1) l else underFrom t (k + 1) l
def under (t : Int) (l : List Int) : List Int := underFrom t 0 l
theorem underFrom_snoc (t x : Int) : ∀ (l : List Int) (k : Nat), underFrom t k (l ++ [x]) = underFrom t k l ++ (if x ≤ t then [((k + l.length : Nat) : Int)] else [])
  | [], k => by by_cases h : x ≤ t <;> simp [underFrom, h]
  | y :: l, k => by
    simp only [List.cons_append, underFrom, underFrom_snoc t x l (k + 1), List.length_cons, show k + 1 + l.length = k + (l.length + 1) by omega]
    by_cases h : y ≤ t
    · rw [if_pos h, if_pos h]; rfl
    · rw [if_neg h, if_neg h]
theorem underFrom_len (t : Int) : ∀ (l : List Int) (k : Nat), (underFrom t k l).length ≤ l.length
  | [], k => by simp [underFrom]
  | y :: l, k => by
    have := underFrom_len t l (k + 1)
    simp only [underFrom, List.length_cons]
    split <;> simp <;> omega
theorem underFrom_mem {t : Int} {x : Int} : ∀ {l : List Int} {k : Nat}, x ∈ underFrom t k l → (k : Int) ≤ x ∧ x < k + l.length
  | [], k, h => by simp [underFrom] at h
  | y :: l, k, h => by
    simp only [underFrom] at h
    simp only [List.length_cons]
    split at h
    · rcases List.mem_cons.1 h with h | h
      · omega
      · have := underFrom_mem h; omega
    · have := underFrom_mem h; omega
theorem underFrom_sorted (t : Int) : ∀ (l : List Int) (k : Nat), (underFrom t k l).Pairwise (· < ·)
  | [], k => by simp [underFrom]
  | y :: l, k => by
    simp only [underFrom]
    split
    · refine List.pairwise_cons.2 ⟨fun x hx => ?_, underFrom_sorted t l (k + 1)⟩
      have := underFrom_mem hx; omega
    · exact underFrom_sorted t l (k + 1)
theorem under_sorted (t : Int) (l : List Int) : (under t l).Pairwise (· < ·) := underFrom_sorted t l 0
theorem under_mem {t x : Int} {l : List Int} (h : x ∈ under t l) : 0 ≤ x ∧ x < l.length := by have := underFrom_mem h; omega
theorem l11Under_eq (l : List Int) (t : Int) (hl : l.length ≤ 1048576) : spec_l11Under (l, t, ()) () = some ((under t l, ()), ()) := by
  have key := loop_count (B := spec_l11Under_B0) (fun i => ((l, t, under t (l.take i), (i : Int), ()), ())) l.length ((under t l, ()), ()) (fun i hi => by
    have hs : under t (l.take (i + 1)) = under t (l.take i) ++ (if l.getD i 0 ≤ t then [(i : Int)] else []) := by
      rw [take_one hi 0, under, underFrom_snoc]; simp [under, Nat.min_eq_left (Nat.le_of_lt hi)]
    have hle : (under t (l.take i)).length ≤ 1048576 := by have := underFrom_len t (l.take i) 0; simp only [List.length_take] at this; unfold under; omega
    rw [spec_l11Under_B0_at]
    simp only [bif_decide, if_pos (show (i : Int) < (l.length : Int) by omega), guardB_true (inb_true (Int.natCast_nonneg i) (show (i : Int) < (l.length : Int) by omega)), Int.toNat_natCast, w64_succ (show i < 4611686018427387904 by omega), hs]
    by_cases h : l.getD i 0 ≤ t
    · rw [if_pos h, if_pos h, guardB_true (by simp only [List.length_singleton, decide_eq_true_eq]; omega)]
    · rw [if_neg h, if_neg h, List.append_nil]) (by rw [spec_l11Under_B0_at]; simp) 0 (Nat.zero_le _)
  simp only [spec_l11Under]
  erw [key]
theorem below_eq (l : List Int) (t : Int) (hl : l.length ≤ 1048576) : impl_below (l, t, ()) () = some ((under t l, ()), ()) := by
  have key := loop_count (B := impl_below_B0) (fun i => ((t, under t (l.take i), l, (l.length : Int), (i : Int), ()), ())) l.length ((under t l, ()), ()) (fun i hi => by
    have hs : under t (l.take (i + 1)) = under t (l.take i) ++ (if l.getD i 0 ≤ t then [(i : Int)] else []) := by
      rw [take_one hi 0, under, underFrom_snoc]; simp [under, Nat.min_eq_left (Nat.le_of_lt hi)]
    have hle : (under t (l.take i)).length ≤ 1048576 := by have := underFrom_len t (l.take i) 0; simp only [List.length_take] at this; unfold under; omega
    rw [impl_below_B0_at]
    simp only [bif_decide, if_pos (show (i : Int) < (l.length : Int) by omega), guardB_true (inb_true (Int.natCast_nonneg i) (show (i : Int) < (l.length : Int) by omega)), Int.toNat_natCast, w64_succ (show i < 4611686018427387904 by omega), hs]
    by_cases h : l.getD i 0 ≤ t
    · rw [if_pos h, if_pos h, guardB_true (by simp only [List.length_singleton, decide_eq_true_eq]; omega)]
    · rw [if_neg h, if_neg h, List.append_nil]) (by rw [impl_below_B0_at]; simp) 0 (Nat.zero_le _)
  simp only [impl_below]
  erw [key]
theorem slices_BinarySearch_int_int_B0_at (x : List (Int)) (target : Int) (n : Int) (i : Int) (j : Int) : slices_BinarySearch_int_int_B0 ((x, target, n, i, j, ()), ()) = bif (decide (i < j)) then (guardB (inb (w64 (Int.fdiv (IntKind.wrap .u64 (w64 (i + j))) (2 ^ (min 1 64)))) (List.length x)) (match cmp_Less_int ((List.getD x (Int.toNat (w64 (Int.fdiv (IntKind.wrap .u64 (w64 (i + j))) (2 ^ (min 1 64))))) (0 : Int)), target, ()) () with | some ((r, ()), ()) => (bif r then (some (.inl ((x, target, n, (w64 ((w64 (Int.fdiv (IntKind.wrap .u64 (w64 (i + j))) (2 ^ (min 1 64)))) + (1 : Int))), j, ()), ()))) else (some (.inl ((x, target, n, i, (w64 (Int.fdiv (IntKind.wrap .u64 (w64 (i + j))) (2 ^ (min 1 64)))), ()), ())))) | none => none)) else (some (.inr ((x, target, n, i, ()), ()))) := rfl
theorem isNaN_cmp (x : Int) : cmp_isNaN_int (x, ()) () = some ((false, ()), ()) := by simp [cmp_isNaN_int]
theorem isNaN_sl (x : Int) : slices_isNaN_int (x, ()) () = some ((false, ()), ()) := by simp [slices_isNaN_int]
theorem Less_eq (x y : Int) : cmp_Less_int (x, y, ()) () = some ((decide (x < y), ()), ()) := by
  simp only [cmp_Less_int, isNaN_cmp x]
  rfl
theorem cntLt_split {l : List Int} (hs : l.Pairwise (· < ·)) (t : Int) : ∀ i, i < l.length → (l.getD i 0 < t ↔ i < cntLt t l) := by
  intro i hi
  constructor
  · intro h
    refine Classical.byContradiction fun hn => ?_
    have hc : cntLt t l < l.length := by omega
    have h1 := cntLt_ge t l hc
    have : l.getD (cntLt t l) 0 ≤ l.getD i 0 := by
      rw [getD_at hc, getD_at hi]
      by_cases he : cntLt t l = i
      · simp [he]
      · have := List.pairwise_iff_getElem.1 hs (cntLt t l) i hc hi (by omega)
        omega
    omega
  · exact cntLt_lt t l i
theorem half_eq {i j : Nat} (h : i + j < 4611686018427387904) : w64 (Int.fdiv (IntKind.wrap .u64 (w64 ((i : Int) + (j : Int)))) (2 ^ (min 1 64))) = (((i + j) / 2 : Nat) : Int) := by
  rw [w64_of (x := (i : Int) + (j : Int)) (by omega) (by omega), wrapU (by omega) (by omega), show (2 : Int) ^ (min 1 64) = 2 by decide, Int.fdiv_eq_ediv_of_nonneg _ (by decide), w64_of (by omega) (by omega)]
  omega
theorem search_loop {l : List Int} (hs : l.Pairwise (· < ·)) (hl : l.length ≤ 1048576) (t : Int) : ∀ (d i j : Nat), j - i ≤ d → i ≤ cntLt t l → cntLt t l ≤ j → j ≤ l.length → loopO slices_BinarySearch_int_int_B0 ((l, t, (l.length : Int), (i : Int), (j : Int), ()), ()) = some ((l, t, (l.length : Int), ((cntLt t l : Nat) : Int), ()), ()) := by
  intro d
  induction d with
  | zero =>
    intro i j hd h1 h2 h3
    refine loop_end ?_
    rw [slices_BinarySearch_int_int_B0_at]
    simp only [bif_decide]
    rw [if_neg (by omega), show i = cntLt t l by omega]
  | succ d ih =>
    intro i j hd h1 h2 h3
    by_cases hij : i < j
    · have hh : (i + j) / 2 < l.length := by omega
      have hp := cntLt_split hs t ((i + j) / 2) hh
      have step : slices_BinarySearch_int_int_B0 ((l, t, (l.length : Int), (i : Int), (j : Int), ()), ()) = some (.inl (if l.getD ((i + j) / 2) 0 < t then ((l, t, (l.length : Int), (((i + j) / 2 + 1 : Nat) : Int), (j : Int), ()), ()) else ((l, t, (l.length : Int), (i : Int), (((i + j) / 2 : Nat) : Int), ()), ()))) := by
        rw [slices_BinarySearch_int_int_B0_at]
        simp only [bif_decide, half_eq (show i + j < 4611686018427387904 by omega), Int.toNat_natCast, w64_succ (show (i + j) / 2 < 4611686018427387904 by omega)]
        rw [if_pos (by omega), guardB_true (by simp [inb] <;> omega)]
        by_cases h : l.getD ((i + j) / 2) 0 < t
        · rw [if_pos h, Less_eq, decide_eq_true h]; rfl
        · rw [if_neg h, Less_eq, decide_eq_false h]; rfl
      by_cases h : l.getD ((i + j) / 2) 0 < t
      · rw [if_pos h] at step
        exact loop_step step (ih _ _ (by omega) (by have := hp.1 h; omega) h2 h3)
      · rw [if_neg h] at step
        exact loop_step step (ih _ _ (by omega) h1 (by have := fun e => h (hp.2 e); omega) (by omega))
    · refine loop_end ?_
      rw [slices_BinarySearch_int_int_B0_at]
      simp only [bif_decide]
      rw [if_neg (by omega), show i = cntLt t l by omega]
theorem cntLt_mem {l : List Int} (hs : l.Pairwise (· < ·)) {t : Int} : t ∈ l ↔ cntLt t l < l.length ∧ l.getD (cntLt t l) 0 = t := by
  constructor
  · intro h
    obtain ⟨i, hi, rfl⟩ := List.getElem_of_mem h
    have h1 := cntLt_split hs l[i] i hi
    rw [getD_at hi] at h1
    have h2 : cntLt l[i] l ≤ i := by have := fun e => Int.lt_irrefl _ (h1.2 e); omega
    have h3 : ¬ cntLt l[i] l < i := by
      intro h4
      have h5 := List.pairwise_iff_getElem.1 hs (cntLt l[i] l) i (by omega) hi h4
      have h6 := cntLt_ge l[i] l (by omega)
      rw [getD_at (by omega)] at h6
      omega
    have h4 : cntLt l[i] l = i := by omega
    rw [h4]
    exact ⟨hi, getD_at hi 0⟩
  · rintro ⟨h1, h2⟩
    rw [← h2]
    exact getD_in h1
theorem BinarySearch_eq {l : List Int} (hs : l.Pairwise (· < ·)) (hl : l.length ≤ 1048576) (t : Int) : slices_BinarySearch_int_int (l, t, ()) () = some ((((cntLt t l : Nat) : Int), decide (t ∈ l), ()), ()) := by
  have key := search_loop hs hl t l.length 0 l.length (by omega) (Nat.zero_le _) (cntLt_le t l) (Nat.le_refl _)
  simp only [slices_BinarySearch_int_int]
  erw [key]
  have hm := cntLt_mem hs (t := t)
  by_cases h : cntLt t l < l.length
  · simp only [bif_decide, Int.toNat_natCast]
    rw [if_pos (show ((cntLt t l : Nat) : Int) < (l.length : Int) by omega), guardB_true (by simp [inb] <;> omega)]
    by_cases h2 : l.getD (cntLt t l) 0 = t
    · rw [decide_eq_true (hm.2 ⟨h, h2⟩)]
      show (bif l.getD (cntLt t l) 0 == t then _ else _) = _
      rw [beq_eq h2]; rfl
    · rw [decide_eq_false (fun e => h2 (hm.1 e).2)]
      show (bif l.getD (cntLt t l) 0 == t then _ else _) = _
      rw [beq_ne h2, guardB_true (by simp [inb] <;> omega), isNaN_sl]; rfl
  · rw [decide_eq_false (fun e => h (hm.1 e).1)]
    simp only [bif_decide]
    rw [if_neg (show ¬ ((cntLt t l : Nat) : Int) < (l.length : Int) by omega)]
theorem impl_isRising_B0_at (list : List (Int)) (below : Int) (t7 : List (Int)) (t8 : Int) (t9 : Int) : impl_isRising_B0 ((list, below, t7, t8, t9, ()), ()) = bif (decide (t9 < t8)) then (guardB (inb t9 (List.length t7)) (match impl_between ((List.getD t7 (Int.toNat t9) (0 : Int)), (0 : Int), (w64 (below - (1 : Int))), ()) () with | some ((r, ()), ()) => (bif (!r) then (some (.inr (.inl ((false, ()), ())))) else (bif (decide ((0 : Int) < t9)) then (guardB (inb (w64 (t9 - (1 : Int))) (List.length list)) (bif (decide ((List.getD t7 (Int.toNat t9) (0 : Int)) ≤ (List.getD list (Int.toNat (w64 (t9 - (1 : Int)))) (0 : Int)))) then (some (.inr (.inl ((false, ()), ())))) else (some (.inl ((list, below, t7, t8, (w64 (t9 + (1 : Int))), ()), ()))))) else (some (.inl ((list, below, t7, t8, (w64 (t9 + (1 : Int))), ()), ()))))) | none => none)) else (some (.inr (.inr ((), ())))) := rfl
theorem spec_l2Induced_B0_at (t1 : List (Int)) (t2 : (List (List (Int))) × (List ((Int) × (Int)))) (t6 : List (Int)) (t7 : Int) (t4 : (List (List (Int))) × (List ((Int) × (Int)))) (t5 : (List (List (Int))) × (List ((Int) × (Int)))) : spec_l2Induced_B0 ((t1, t2, t6, t7, ()), (t4, t5, ())) = bif (decide (t7 < (List.length t6 : Int))) then (guardB (inb t7 (List.length t6)) (some (.inl ((t1, t2, (List.set t6 (Int.toNat t7) (-1 : Int)), (w64 (t7 + (1 : Int))), ()), (t4, t5, ()))))) else (some (.inr ((t1, t2, t6, ()), (t4, t5, ())))) := rfl
theorem spec_l2Induced_B1_at (t1 : List (Int)) (t2 : (List (List (Int))) × (List ((Int) × (Int)))) (t6 : List (Int)) (t8 : Int) (t4 : (List (List (Int))) × (List ((Int) × (Int)))) (t5 : (List (List (Int))) × (List ((Int) × (Int)))) : spec_l2Induced_B1 ((t1, t2, t6, t8, ()), (t4, t5, ())) = bif (decide (t8 < (List.length t1 : Int))) then (guardB (inb t8 (List.length t1)) (guardB (inb (List.getD t1 (Int.toNat t8) (0 : Int)) (List.length t6)) (guardB (inb t8 (List.length t1)) (guardB (inb (List.getD t1 (Int.toNat t8) (0 : Int)) (List.length t2.1)) (match spec_l2Induced_D12 ((t1, t2, (List.set t6 (Int.toNat (List.getD t1 (Int.toNat t8) (0 : Int))) t8), t8, (List.getD t2.1 (Int.toNat (List.getD t1 (Int.toNat t8) (0 : Int))) ([] : (List Int))), ()), (t4, t5, ())) with | some ((t1_2, t2_2, t6_2, t8_2, ()), (t4_2, t5_2, ())) => some (.inl ((t1_2, t2_2, t6_2, (w64 (t8_2 + (1 : Int))), ()), (t4_2, t5_2, ()))) | none => none))))) else (some (.inr ((t2, t6, ()), (t4, t5, ())))) := rfl
theorem spec_l2Induced_B2_at (t2 : (List (List (Int))) × (List ((Int) × (Int)))) (t6 : List (Int)) (t9 : Int) (t4 : (List (List (Int))) × (List ((Int) × (Int)))) (t5 : (List (List (Int))) × (List ((Int) × (Int)))) : spec_l2Induced_B2 ((t2, t6, t9, ()), (t4, t5, ())) = bif (decide (t9 < (List.length t2.2 : Int))) then (guardB (inb t9 (List.length t2.2)) (guardB (inb ((List.getD t2.2 (Int.toNat t9) ((0 : Int), (0 : Int))).1) (List.length t6)) (guardB (inb t9 (List.length t2.2)) (guardB (inb ((List.getD t2.2 (Int.toNat t9) ((0 : Int), (0 : Int))).2) (List.length t6)) (bif (decide ((0 : Int) ≤ (List.getD t6 (Int.toNat ((List.getD t2.2 (Int.toNat t9) ((0 : Int), (0 : Int))).1)) (0 : Int)))) then (bif (decide ((0 : Int) ≤ (List.getD t6 (Int.toNat ((List.getD t2.2 (Int.toNat t9) ((0 : Int), (0 : Int))).2)) (0 : Int)))) then (guardB (decide ((List.length t5.2 + List.length [((List.getD t6 (Int.toNat ((List.getD t2.2 (Int.toNat t9) ((0 : Int), (0 : Int))).1)) (0 : Int)), (List.getD t6 (Int.toNat ((List.getD t2.2 (Int.toNat t9) ((0 : Int), (0 : Int))).2)) (0 : Int)))]) * 16 ≤ 70368744177664)) (some (.inl ((t2, t6, (w64 (t9 + (1 : Int))), ()), (t4, (t5.1, (t5.2 ++ [((List.getD t6 (Int.toNat ((List.getD t2.2 (Int.toNat t9) ((0 : Int), (0 : Int))).1)) (0 : Int)), (List.getD t6 (Int.toNat ((List.getD t2.2 (Int.toNat t9) ((0 : Int), (0 : Int))).2)) (0 : Int)))])), ()))))) else (some (.inl ((t2, t6, (w64 (t9 + (1 : Int))), ()), (t4, t5, ()))))) else (some (.inl ((t2, t6, (w64 (t9 + (1 : Int))), ()), (t4, t5, ()))))))))) else (some (.inr ((), (t4, t5, ())))) := rfl
theorem spec_l2Induced_D12_at (t1 : List (Int)) (t2 : (List (List (Int))) × (List ((Int) × (Int)))) (t6 : List (Int)) (t8 : Int) (t50 : List (Int)) (t4 : (List (List (Int))) × (List ((Int) × (Int)))) (t5 : (List (List (Int))) × (List ((Int) × (Int)))) : spec_l2Induced_D12 ((t1, t2, t6, t8, t50, ()), (t4, t5, ())) = match spec_l1Own (t50, ()) () with | some ((r, ()), ()) => guardB (decide ((List.length t5.1 + List.length [r]) * 24 ≤ 70368744177664)) (some ((t1, t2, t6, t8, ()), (t4, ((t5.1 ++ [r]), t5.2), ()))) | none => none := rfl
theorem spec_l2Induced_D0_at (t1 : List (Int)) (t2 : (List (List (Int))) × (List ((Int) × (Int)))) (t17 : Int) (t4 : (List (List (Int))) × (List ((Int) × (Int)))) : spec_l2Induced_D0 ((t1, t2, t17, ()), (t4, ())) = spec_l2Induced_D1 ((t1, t2, ([] : (List (List Int))), t17, ()), (t4, ())) := rfl
theorem impl_InducedSpace_B0_at (t1 : List (Int)) (t2 : (List (List (Int))) × (List ((Int) × (Int)))) (t28 : List (Int)) (t29 : Int) (t30 : Int) (t4 : (List (List (Int))) × (List ((Int) × (Int)))) (t6 : (List (List (Int))) × (List ((Int) × (Int)))) : impl_InducedSpace_B0 ((t1, t2, t28, t29, t30, ()), (t4, t6, ())) = bif (decide (t30 < t29)) then (guardB (inb t30 (List.length t28)) (guardB (inb (List.getD t28 (Int.toNat t30) (0 : Int)) (List.length t2.1)) (match impl_InducedSpace_D0 ((t1, t2, t28, t29, t30, (List.getD t2.1 (Int.toNat (List.getD t28 (Int.toNat t30) (0 : Int))) ([] : (List Int))), ()), (t4, t6, ())) with | some ((t1_2, t2_2, t28_2, t29_2, t30_2, ()), (t4_2, t6_2, ())) => some (.inl ((t1_2, t2_2, t28_2, t29_2, (w64 (t30_2 + (1 : Int))), ()), (t4_2, t6_2, ()))) | none => none))) else (some (.inr ((t1, t2, ()), (t4, t6, ())))) := rfl
theorem impl_InducedSpace_B1_at (t1 : List (Int)) (t47 : List ((Int) × (Int))) (t48 : Int) (t49 : Int) (t4 : (List (List (Int))) × (List ((Int) × (Int)))) (t6 : (List (List (Int))) × (List ((Int) × (Int)))) : impl_InducedSpace_B1 ((t1, t47, t48, t49, ()), (t4, t6, ())) = bif (decide (t49 < t48)) then (guardB (inb t49 (List.length t47)) (match slices_BinarySearch_int_int (t1, (List.getD t47 (Int.toNat t49) ((0 : Int), (0 : Int))).1, ()) () with | some ((r, r2, ()), ()) => (match slices_BinarySearch_int_int (t1, (List.getD t47 (Int.toNat t49) ((0 : Int), (0 : Int))).2, ()) () with | some ((r3, r4, ()), ()) => (bif r2 then (bif r4 then (guardB (decide ((List.length t6.2 + List.length [(r, r3)]) * 16 ≤ 70368744177664)) (some (.inl ((t1, t47, t48, (w64 (t49 + (1 : Int))), ()), (t4, (t6.1, (t6.2 ++ [(r, r3)])), ()))))) else (some (.inl ((t1, t47, t48, (w64 (t49 + (1 : Int))), ()), (t4, t6, ()))))) else (some (.inl ((t1, t47, t48, (w64 (t49 + (1 : Int))), ()), (t4, t6, ()))))) | none => none) | none => none)) else (some (.inr ((), (t4, t6, ())))) := rfl
theorem impl_InducedSpace_D0_at (t1 : List (Int)) (t2 : (List (List (Int))) × (List ((Int) × (Int)))) (t28 : List (Int)) (t29 : Int) (t30 : Int) (t40 : List (Int)) (t4 : (List (List (Int))) × (List ((Int) × (Int)))) (t6 : (List (List (Int))) × (List ((Int) × (Int)))) : impl_InducedSpace_D0 ((t1, t2, t28, t29, t30, t40, ()), (t4, t6, ())) = match slices_Clone_int_int (t40, ()) () with | some ((r, ()), ()) => guardB (decide ((List.length t6.1 + List.length [r]) * 24 ≤ 70368744177664)) (some ((t1, t2, t28, t29, t30, ()), (t4, ((t6.1 ++ [r]), t6.2), ()))) | none => none := rfl
theorem spec_l2Induced_D1_at (t1 : List (Int)) (t2 : (List (List (Int))) × (List ((Int) × (Int)))) (t12 : List (List (Int))) (t17 : Int) (t4 : (List (List (Int))) × (List ((Int) × (Int)))) : spec_l2Induced_D1 ((t1, t2, t12, t17, ()), (t4, ())) = spec_l2Induced_D2 ((t1, t2, t12, ([] : (List (Int × Int))), ((), ()), t17, ()), (t4, ())) := rfl
theorem cntLt_get {l : List Int} (hs : l.Pairwise (· < ·)) {i : Nat} (hi : i < l.length) : cntLt (l.getD i 0) l = i := by
  have h1 := cntLt_split hs (l.getD i 0) i hi
  have h2 : cntLt (l.getD i 0) l ≤ i := by have := fun e => Int.lt_irrefl _ (h1.2 e); omega
  have h3 : ¬ cntLt (l.getD i 0) l < i := by
    intro h4
    have h5 := List.pairwise_iff_getElem.1 hs (cntLt (l.getD i 0) l) i (by omega) hi h4
    have h6 := cntLt_ge (l.getD i 0) l (by omega)
    rw [← getD_at (show cntLt (l.getD i 0) l < l.length by omega) 0, ← getD_at hi 0] at h5
    omega
  omega
def posOf (u : List Int) (v : Int) : Int := if v ∈ u then ((cntLt v u : Nat) : Int) else -1
def indE (u : List Int) (e : Int × Int) : List (Int × Int) := if e.1 ∈ u ∧ e.2 ∈ u then [(((cntLt e.1 u : Nat) : Int), ((cntLt e.2 u : Nat) : Int))] else []
def indS (u : List Int) (S : List (Int × Int)) : List (Int × Int) := S.flatMap (indE u)
def indL (u : List Int) (L : List (List Int)) : List (List Int) := u.map fun v => L.getD v.toNat []
def induced (u : List Int) (x : List (List Int) × List (Int × Int)) : List (List Int) × List (Int × Int) := (indL u x.1, indS u x.2)
theorem indS_snoc (u : List Int) {S : List (Int × Int)} {i : Nat} (h : i < S.length) : indS u (S.take (i + 1)) = indS u (S.take i) ++ indE u (S.getD i (0, 0)) := by
  rw [take_one h (0, 0)]; simp [indS]
theorem indE_len (u : List Int) (e : Int × Int) : (indE u e).length ≤ 1 := by unfold indE; split <;> simp
theorem indS_len (u : List Int) (S : List (Int × Int)) : (indS u S).length ≤ S.length := by
  have := flatMap_len (indE u) 1 S (fun e => indE_len u e)
  unfold indS; omega
theorem posOf_mem {u : List Int} {v : Int} : 0 ≤ posOf u v ↔ v ∈ u := by
  unfold posOf; split
  · rename_i h; exact ⟨fun _ => h, fun _ => by omega⟩
  · rename_i h; exact ⟨fun e => by omega, fun e => absurd e h⟩
def tabAt (n : Nat) (u : List Int) (i : Nat) : List Int := rows n fun v => if (v : Int) ∈ u.take i then ((cntLt (v : Int) u : Nat) : Int) else -1
theorem tabAt_zero (n : Nat) (u : List Int) : tabAt n u 0 = List.replicate n (-1) := by
  rw [rows_rep]; exact rows_congr fun j hj => by simp
theorem tabAt_set {n : Nat} {u : List Int} (hs : u.Pairwise (· < ·)) {i : Nat} (hi : i < u.length) (h0 : 0 ≤ u.getD i 0) : (tabAt n u i).set (u.getD i 0).toNat (i : Int) = tabAt n u (i + 1) := by
  unfold tabAt
  rw [rows_set, take_one hi 0]
  refine rows_congr fun j hj => ?_
  by_cases h : j = (u.getD i 0).toNat
  · rw [if_pos h]
    have e : (j : Int) = u.getD i 0 := by omega
    rw [e, if_pos (by simp), cntLt_get hs hi]
  · rw [if_neg h]
    have e : ¬ (j : Int) = u.getD i 0 := by omega
    simp only [List.mem_append, List.mem_singleton, e, or_false]
theorem l2Induced_eq (x : List (List Int) × List (Int × Int)) (u : List Int) (hs : u.Pairwise (· < ·)) (hr : ∀ v ∈ u, 0 ≤ v ∧ v < x.1.length) (hS : StepsOk x.2 x.1.length) (hn : x.1.length ≤ 1048576) (h2 : x.2.length ≤ 1048576) (hu : u.length ≤ 1048576) (hrow : ∀ i, (x.1.getD i []).length ≤ 1048576) :
    spec_l2Induced (x, u, ()) () = some ((induced u x, ()), ()) := by
  have d0 : spec_l2Induced_D0 ((u, x, (x.1.length : Int), ()), ((([] : (List (List Int))), ([] : (List (Int × Int)))), ())) = some ((u, x, List.replicate x.1.length 0, ()), ((([] : (List (List Int))), ([] : (List (Int × Int)))), (([] : (List (List Int))), ([] : (List (Int × Int)))), ())) := by
    rw [spec_l2Induced_D0_at, spec_l2Induced_D1_at]
    show guardB (decide (0 ≤ (x.1.length : Int)) && decide ((x.1.length : Int) ≤ (x.1.length : Int)) && decide ((x.1.length : Int) * 8 ≤ 140737488355328)) (some ((u, x, List.replicate (Int.toNat (x.1.length : Int)) 0, ()), ((([] : (List (List Int))), ([] : (List (Int × Int)))), (([] : (List (List Int))), ([] : (List (Int × Int)))), ()))) = _
    rw [guardB_true (by simp <;> omega), Int.toNat_natCast]
  have b0 : ∀ t4 t5 : List (List Int) × List (Int × Int), loopO spec_l2Induced_B0 ((u, x, List.replicate x.1.length 0, 0, ()), (t4, t5, ())) = some ((u, x, tabAt x.1.length u 0, ()), (t4, t5, ())) := by
    intro t4 t5
    have := loop_count (B := spec_l2Induced_B0) (fun i => ((u, x, fill (fun _ => (-1 : Int)) 0 x.1.length i, (i : Int), ()), (t4, t5, ()))) x.1.length ((u, x, fill (fun _ => (-1 : Int)) 0 x.1.length x.1.length, ()), (t4, t5, ())) ?_ ?_ 0 (Nat.zero_le _)
    · rw [fill_all] at this
      rw [tabAt_zero, rows_rep (-1 : Int)]
      simpa [fill_zero, rows] using this
    · intro i hi
      rw [spec_l2Induced_B0_at]
      simp only [bif_decide, fill_len, Int.toNat_natCast]
      rw [if_pos (by omega), guardB_true (by simp [inb] <;> omega), fill_set hi, w64_succ (by omega)]
    · rw [spec_l2Induced_B0_at]; simp [fill_len]
  have b1 : ∀ t4 : List (List Int) × List (Int × Int), loopO spec_l2Induced_B1 ((u, x, tabAt x.1.length u 0, 0, ()), (t4, (([] : (List (List Int))), ([] : (List (Int × Int)))), ())) = some ((x, tabAt x.1.length u u.length, ()), (t4, (indL u x.1, ([] : (List (Int × Int)))), ())) := by
    intro t4
    have := loop_count (B := spec_l2Induced_B1) (fun i => ((u, x, tabAt x.1.length u i, (i : Int), ()), (t4, (indL (u.take i) x.1, ([] : (List (Int × Int)))), ()))) u.length ((x, tabAt x.1.length u u.length, ()), (t4, (indL u x.1, ([] : (List (Int × Int)))), ())) ?_ ?_ 0 (Nat.zero_le _)
    · simpa [indL] using this
    · intro i hi
      have hv := hr _ (getD_in hi)
      have hlen : (indL (u.take i) x.1).length ≤ 1048576 := by simp [indL]; omega
      have hsn : indL (u.take (i + 1)) x.1 = indL (u.take i) x.1 ++ [x.1.getD (u.getD i 0).toNat []] := by rw [take_one hi 0]; simp [indL]
      have htl : (tabAt x.1.length u i).length = x.1.length := rows_len
      rw [spec_l2Induced_B1_at]
      simp only [bif_decide, Int.toNat_natCast]
      rw [if_pos (by omega), guardB_true (by simp [inb] <;> omega), guardB_true (inb_true hv.1 (by omega)), guardB_true (by simp [inb] <;> omega), guardB_true (inb_true hv.1 (by omega)), spec_l2Induced_D12_at, l1Own_eq _ (hrow _)]
      simp only
      rw [guardB_true (by simp only [List.length_singleton, decide_eq_true_eq]; omega), tabAt_set hs hi hv.1, hsn]
      simp only [w64_succ (show i < 4611686018427387904 by omega)]
    · rw [spec_l2Induced_B1_at]; simp
  have b2 : ∀ t4 : List (List Int) × List (Int × Int), loopO spec_l2Induced_B2 ((x, tabAt x.1.length u u.length, 0, ()), (t4, (indL u x.1, ([] : (List (Int × Int)))), ())) = some ((), (t4, (indL u x.1, indS u x.2), ())) := by
    intro t4
    have := loop_count (B := spec_l2Induced_B2) (fun i => ((x, tabAt x.1.length u u.length, (i : Int), ()), (t4, (indL u x.1, indS u (x.2.take i)), ()))) x.2.length ((), (t4, (indL u x.1, indS u x.2), ())) ?_ ?_ 0 (Nat.zero_le _)
    · simpa [indS] using this
    · intro i hi
      obtain ⟨a, b, hab, h3, h4⟩ := hS i hi
      have htl : (tabAt x.1.length u u.length).length = x.1.length := rows_len
      have hg : ∀ c : Nat, c < x.1.length → (tabAt x.1.length u u.length).getD c 0 = posOf u c := fun c hc => by
        unfold tabAt posOf; rw [rows_get hc, List.take_length]
      have hlen : (indS u (x.2.take i)).length ≤ 1048576 := by have := indS_len u (x.2.take i); simp only [List.length_take] at this; omega
      have ga := hg a (by omega)
      have gb := hg b h4
      have ma := posOf_mem (u := u) (v := (a : Int))
      have mb := posOf_mem (u := u) (v := (b : Int))
      rw [spec_l2Induced_B2_at]
      simp only [bif_decide, Int.toNat_natCast, hab, indS_snoc u hi]
      rw [if_pos (by omega), guardB_true (by simp [inb] <;> omega), guardB_true (inb_true (by omega) (by omega)), guardB_true (by simp [inb] <;> omega), guardB_true (inb_true (by omega) (by omega)), ga, gb]
      by_cases h5 : (a : Int) ∈ u
      · rw [if_pos (ma.2 h5)]
        by_cases h6 : (b : Int) ∈ u
        · rw [if_pos (mb.2 h6), guardB_true (by simp only [List.length_singleton, decide_eq_true_eq]; omega), w64_succ (by omega)]
          simp only [indE, posOf, h5, h6, and_self, if_true]
        · rw [if_neg (fun e => h6 (mb.1 e)), w64_succ (by omega)]
          simp only [indE, h5, h6, and_false, if_false, List.append_nil]
      · rw [if_neg (fun e => h5 (ma.1 e)), w64_succ (by omega)]
        simp only [indE, h5, false_and, if_false, List.append_nil]
    · rw [spec_l2Induced_B2_at]; simp
  simp only [spec_l2Induced]
  erw [d0]
  simp only
  erw [b0]
  simp only
  erw [b1]
  simp only
  erw [b2]
  rfl
theorem isRising_true {u : List Int} {n : Nat} (hs : u.Pairwise (· < ·)) (hr : ∀ v ∈ u, 0 ≤ v ∧ v < n) (hn : n ≤ 1048576) (hu : u.length ≤ 1048576) : impl_isRising (u, (n : Int), ()) () = some ((true, ()), ()) := by
  have := loop_count (B := impl_isRising_B0) (fun i => ((u, (n : Int), u, (u.length : Int), (i : Int), ()), ())) u.length (.inr ((), ())) ?_ ?_ 0 (Nat.zero_le _)
  · simp only [impl_isRising]
    erw [this]
  · intro i hi
    have hv := hr _ (getD_in hi)
    rw [impl_isRising_B0_at]
    simp only [bif_decide, Int.toNat_natCast, w64_of (x := (n : Int) - 1) (by omega) (by omega), between_eq _ _ _]
    rw [if_pos (by omega), guardB_true (by simp [inb] <;> omega), show inR (u.getD i 0) 0 ((n : Int) - 1) = true by simp only [inR, Bool.and_eq_true, decide_eq_true_eq]; omega]
    simp only [Bool.not_true, cond_false]
    by_cases h0 : 0 < i
    · have h5 := List.pairwise_iff_getElem.1 hs (i - 1) i (by omega) hi (by omega)
      rw [← getD_at (show i - 1 < u.length by omega) 0, ← getD_at hi 0] at h5
      rw [if_pos (by omega), w64_pred (by omega) h0, guardB_true (by simp [inb] <;> omega), Int.toNat_natCast, if_neg (by omega), w64_succ (by omega)]
    · rw [if_neg (by omega), w64_succ (by omega)]
  · rw [impl_isRising_B0_at]; simp
theorem InducedSpace_eq (x : List (List Int) × List (Int × Int)) (hF : Few x) (hsp : spaceB x = true) (u : List Int) (hs : u.Pairwise (· < ·)) (hr : ∀ v ∈ u, 0 ≤ v ∧ v < x.1.length) (hu : u.length ≤ 1048576) (hrow : ∀ i, (x.1.getD i []).length ≤ 1048576) :
    impl_InducedSpace (x, u, ()) () = some ((induced u x, true, ()), ()) := by
  have hn := hF.states
  have h2 := hF.steps
  have b0 : ∀ t4 : List (List Int) × List (Int × Int), loopO impl_InducedSpace_B0 ((u, x, u, (u.length : Int), 0, ()), (t4, (([] : (List (List Int))), ([] : (List (Int × Int)))), ())) = some ((u, x, ()), (t4, (indL u x.1, ([] : (List (Int × Int)))), ())) := by
    intro t4
    have := loop_count (B := impl_InducedSpace_B0) (fun i => ((u, x, u, (u.length : Int), (i : Int), ()), (t4, (indL (u.take i) x.1, ([] : (List (Int × Int)))), ()))) u.length ((u, x, ()), (t4, (indL u x.1, ([] : (List (Int × Int)))), ())) ?_ ?_ 0 (Nat.zero_le _)
    · simpa [indL] using this
    · intro i hi
      have hv := hr _ (getD_in hi)
      have hlen : (indL (u.take i) x.1).length ≤ 1048576 := by simp [indL]; omega
      have hsn : indL (u.take (i + 1)) x.1 = indL (u.take i) x.1 ++ [x.1.getD (u.getD i 0).toNat []] := by rw [take_one hi 0]; simp [indL]
      have hc : slices_Clone_int_int (x.1.getD (u.getD i 0).toNat [], ()) () = some ((x.1.getD (u.getD i 0).toNat [], ()), ()) := by
        have := hrow (u.getD i 0).toNat
        simp only [slices_Clone_int_int, cloneFn]
        rw [guardB_true (by simp only [decide_eq_true_eq]; omega)]
      rw [impl_InducedSpace_B0_at]
      simp only [bif_decide, Int.toNat_natCast]
      rw [if_pos (by omega), guardB_true (by simp [inb] <;> omega), guardB_true (inb_true hv.1 (by omega)), impl_InducedSpace_D0_at, hc]
      simp only
      rw [guardB_true (by simp only [List.length_singleton, decide_eq_true_eq]; omega), hsn]
      simp only [w64_succ (show i < 4611686018427387904 by omega)]
    · rw [impl_InducedSpace_B0_at]; simp
  have b1 : ∀ t4 : List (List Int) × List (Int × Int), loopO impl_InducedSpace_B1 ((u, x.2, (x.2.length : Int), 0, ()), (t4, (indL u x.1, ([] : (List (Int × Int)))), ())) = some ((), (t4, (indL u x.1, indS u x.2), ())) := by
    intro t4
    have := loop_count (B := impl_InducedSpace_B1) (fun i => ((u, x.2, (x.2.length : Int), (i : Int), ()), (t4, (indL u x.1, indS u (x.2.take i)), ()))) x.2.length ((), (t4, (indL u x.1, indS u x.2), ())) ?_ ?_ 0 (Nat.zero_le _)
    · simpa [indS] using this
    · intro i hi
      have hlen : (indS u (x.2.take i)).length ≤ 1048576 := by have := indS_len u (x.2.take i); simp only [List.length_take] at this; omega
      rw [impl_InducedSpace_B1_at]
      simp only [bif_decide, Int.toNat_natCast, indS_snoc u hi, BinarySearch_eq hs hu _]
      rw [if_pos (by omega), guardB_true (by simp [inb] <;> omega)]
      by_cases h5 : (x.2.getD i (0, 0)).1 ∈ u
      · by_cases h6 : (x.2.getD i (0, 0)).2 ∈ u
        · rw [if_pos h5, if_pos h6, w64_succ (by omega), guardB_true (by simp only [List.length_singleton, decide_eq_true_eq]; omega)]
          simp only [indE, h5, h6, and_self, if_true]
        · rw [if_pos h5, if_neg h6, w64_succ (by omega)]
          simp only [indE, h6, and_false, if_false, List.append_nil]
      · rw [if_neg h5, w64_succ (by omega)]
        simp only [indE, h5, false_and, if_false, List.append_nil]
    · rw [impl_InducedSpace_B1_at]; simp
  simp only [impl_InducedSpace, IsSpace_eq x hF, hsp, isRising_true hs hr hn hu, Bool.not_true, cond_false]
  erw [b0]
  simp only
  erw [b1]
  rfl
inductive Rch (L : List (List Int)) (a : Int) : Int → Prop
  | refl : Rch L a a
  | step (v w : Int) : Rch L a v → w ∈ L.getD v.toNat [] → Rch L a w
def Good (L : List (List Int)) (n : Nat) (a : Int) (s : List Int × List Int) : Prop :=
  (∀ w : Int, 0 ≤ w → w < n → (0 ≤ s.1.getD w.toNat 0 ↔ w ∈ s.2)) ∧ (∀ w ∈ s.2, Rch L a w) ∧
  (∀ w : Int, 0 ≤ w → w < n → 0 < s.1.getD w.toNat 0 → ∃ v ∈ s.2, w ∈ L.getD v.toNat [] ∧ s.1.getD w.toNat 0 = s.1.getD v.toNat 0 + 1) ∧
  (∀ w : Int, 0 ≤ w → w < n → s.1.getD w.toNat 0 = 0 → w = a)
theorem vis1_good {L : List (List Int)} {n : Nat} {a v w : Int} {s : List Int × List Int} (hB : Bf n s) (hG : Good L n a s) (hv : v ∈ s.2) (hw : 0 ≤ w ∧ w < n) (hin : w ∈ L.getD v.toNat []) :
    Good L n a (vis1 v s w) ∧ (∀ u : Int, 0 ≤ u → 0 ≤ s.1.getD u.toNat 0 → (vis1 v s w).1.getD u.toNat 0 = s.1.getD u.toNat 0) ∧ 0 ≤ (vis1 v s w).1.getD w.toNat 0 := by
  have hv2 := hB.2.1 v hv
  unfold vis1
  by_cases hd : s.1.getD w.toNat 0 < 0
  · rw [if_pos hd]
    have hl : w.toNat < s.1.length := by have := hB.1; omega
    have hst : ∀ u : Int, 0 ≤ u → 0 ≤ s.1.getD u.toNat 0 → (s.1.set w.toNat (s.1.getD v.toNat 0 + 1)).getD u.toNat 0 = s.1.getD u.toNat 0 := by
      intro u hu h0
      rw [getD_set hl]
      split
      · rename_i e; rw [e] at hd; omega
      · rfl
    obtain ⟨g1, g2, g3, g4⟩ := hG
    refine ⟨⟨?_, ?_, ?_, ?_⟩, hst, ?_⟩
    · intro u h0 h1
      simp only [List.mem_append, List.mem_singleton]
      rw [getD_set hl]
      by_cases e : w.toNat = u.toNat
      · rw [if_pos e]
        have : u = w := by omega
        constructor
        · intro _; exact .inr this
        · intro _; omega
      · rw [if_neg e, g1 u h0 h1]
        constructor
        · exact .inl
        · rintro (h | h)
          · exact h
          · exact absurd (by rw [h]) e
    · intro u hu
      rcases List.mem_append.1 hu with hu | hu
      · exact g2 u hu
      · have : u = w := by simpa using hu
        subst this
        exact .step v u (g2 v hv) hin
    · intro u h0 h1 hp
      simp only at hp ⊢
      rw [getD_set hl] at hp ⊢
      by_cases e : w.toNat = u.toNat
      · have e' : u = w := by omega
        subst e'
        rw [if_pos rfl]
        exact ⟨v, List.mem_append_left _ hv, hin, by rw [hst v hv2.1 hv2.2.2]⟩
      · rw [if_neg e] at hp ⊢
        obtain ⟨p, p1, p2, p3⟩ := g3 u h0 h1 hp
        have hp2 := hB.2.1 p p1
        exact ⟨p, List.mem_append_left _ p1, p2, by rw [hst p hp2.1 hp2.2.2]; exact p3⟩
    · intro u h0 h1 hz
      simp only at hz
      rw [getD_set hl] at hz
      by_cases e : w.toNat = u.toNat
      · rw [if_pos e] at hz; omega
      · rw [if_neg e] at hz; exact g4 u h0 h1 hz
    · simp only
      rw [getD_set hl, if_pos rfl]; omega
  · rw [if_neg hd]
    exact ⟨hG, fun _ _ _ => rfl, by omega⟩
theorem vis_good {L : List (List Int)} {n : Nat} {a v : Int} : ∀ (row : List Int) {s : List Int × List Int}, Bf n s → Good L n a s → v ∈ s.2 → (∀ w ∈ row, 0 ≤ w ∧ w < n) → (∀ w ∈ row, w ∈ L.getD v.toNat []) →
    Good L n a (vis v row s) ∧ (∀ u : Int, 0 ≤ u → 0 ≤ s.1.getD u.toNat 0 → (vis v row s).1.getD u.toNat 0 = s.1.getD u.toNat 0) ∧ ∀ w ∈ row, 0 ≤ (vis v row s).1.getD w.toNat 0
  | [], s, hB, hG, hv, hr, hin => ⟨hG, fun _ _ _ => rfl, fun w hw => by simp at hw⟩
  | w :: row, s, hB, hG, hv, hr, hin => by
    obtain ⟨b1, t, e⟩ := vis1_bf hB hv (hr w (by simp))
    obtain ⟨g1, g2, g3⟩ := vis1_good hB hG hv (hr w (by simp)) (hin w (by simp))
    obtain ⟨k1, k2, k3⟩ := vis_good row b1 g1 (by rw [e]; exact List.mem_append_left _ hv) (fun u hu => hr u (by simp [hu])) (fun u hu => hin u (by simp [hu]))
    have hw := hr w (by simp)
    refine ⟨k1, fun u h0 h1 => ?_, fun u hu => ?_⟩
    · have := k2 u h0 (by rw [g2 u h0 h1]; exact h1)
      exact this.trans (g2 u h0 h1)
    · rcases List.mem_cons.1 hu with hu | hu
      · subst hu
        have := k2 u hw.1 g3
        show 0 ≤ (vis v row (vis1 v s u)).1.getD u.toNat 0
        rw [this]; exact g3
      · exact k3 u hu
def Done (L : List (List Int)) (k : Nat) (s : List Int × List Int) : Prop := ∀ i, i < k → ∀ w ∈ L.getD (s.2.getD i 0).toNat [], 0 ≤ s.1.getD w.toNat 0
theorem bfs_good {L : List (List Int)} {n : Nat} {a : Int} (hL : Rds n L) : ∀ (f k : Nat) (s : List Int × List Int), Bf n s → Good L n a s → k ≤ s.2.length → n - k ≤ f → Done L k s →
    Good L n a (bfs L f k s) ∧ Done L (bfs L f k s).2.length (bfs L f k s) ∧ (∀ u : Int, 0 ≤ u → 0 ≤ s.1.getD u.toNat 0 → (bfs L f k s).1.getD u.toNat 0 = s.1.getD u.toNat 0)
  | 0, k, s, hB, hG, hk, hf, hD => by
    have := hB.few
    have e : s.2.length = k := by omega
    unfold bfs
    exact ⟨hG, by rw [e]; exact hD, fun _ _ _ => rfl⟩
  | f + 1, k, s, hB, hG, hk, hf, hD => by
    have few := hB.few
    unfold bfs
    split
    · rename_i hk'
      obtain ⟨h1, h2⟩ := bfs_step hL hB hk'
      have hvn := hB.2.1 _ (getD_in hk')
      have hrow := hL.2 (s.2.getD k 0).toNat (by omega)
      obtain ⟨g1, g2, g3⟩ := vis_good (L := L) (a := a) (L.getD (s.2.getD k 0).toNat []) hB hG (getD_in hk') hrow.2 (fun w hw => hw)
      obtain ⟨_, t, ht⟩ := vis_bf (L.getD (s.2.getD k 0).toNat []) hB (getD_in hk') hrow.2
      obtain ⟨r1, r2, r3⟩ := bfs_good hL f (k + 1) _ h1 g1 h2 (by omega) (by
        intro i hi w hw
        by_cases e : i = k
        · subst e
          rw [ht, getD_app hk'] at hw
          exact g3 w hw
        · have hi' : i < k := by omega
          rw [ht, getD_app (by omega)] at hw
          have h0 := hD i hi' w hw
          have hvi := hB.2.1 _ (getD_in (show i < s.2.length by omega))
          have hw2 := (hL.2 (s.2.getD i 0).toNat (by omega)).2 w hw
          rw [g2 w hw2.1 h0]
          exact h0)
      exact ⟨r1, r2, fun u h0 h3 => by rw [r3 u h0 (by rw [g2 u h0 h3]; exact h3)]; exact g2 u h0 h3⟩
    · rename_i hk'
      have e : s.2.length = k := by omega
      exact ⟨hG, by rw [e]; exact hD, fun _ _ _ => rfl⟩
theorem far0_good {L : List (List Int)} {n : Nat} {a : Int} (h0 : 0 ≤ a) (h : a < n) : Good L n a (far0 n a) := by
  have hl : a.toNat < (List.replicate n (-1 : Int)).length := by simp; omega
  have hg : ∀ w : Int, 0 ≤ w → w < n → (far0 n a).1.getD w.toNat 0 = if w = a then 0 else -1 := by
    intro w h1 h2
    simp only [far0]
    rw [getD_set hl]
    by_cases e : w = a
    · subst e; rw [if_pos rfl, if_pos rfl]
    · rw [if_neg (by omega), if_neg e, getD_at (by simp; omega)]; simp
  refine ⟨fun w h1 h2 => ?_, fun w hw => ?_, fun w h1 h2 h3 => ?_, fun w h1 h2 h3 => ?_⟩
  · rw [hg w h1 h2]
    by_cases e : w = a
    · rw [if_pos e]; simp [far0, e]
    · rw [if_neg e]; simp [far0, e]
  · have : w = a := by simpa [far0] using hw
    rw [this]; exact .refl
  · rw [hg w h1 h2] at h3; split at h3 <;> omega
  · rw [hg w h1 h2] at h3
    by_cases e : w = a
    · exact e
    · rw [if_neg e] at h3; omega
theorem far_facts {L : List (List Int)} {n : Nat} (hL : Rds n L) {a : Int} (h0 : 0 ≤ a) (h : a < n) :
    (∀ v w : Int, 0 ≤ v → v < n → 0 ≤ (far L a).getD v.toNat 0 → w ∈ L.getD v.toNat [] → 0 ≤ (far L a).getD w.toNat 0) ∧
    (∀ w : Int, 0 ≤ w → w < n → (0 ≤ (far L a).getD w.toNat 0 ↔ Rch L a w)) ∧
    (∀ w : Int, 0 ≤ w → w < n → 0 < (far L a).getD w.toNat 0 → ∃ v : Int, 0 ≤ v ∧ v < n ∧ 0 ≤ (far L a).getD v.toNat 0 ∧ w ∈ L.getD v.toNat [] ∧ (far L a).getD w.toNat 0 = (far L a).getD v.toNat 0 + 1) ∧
    (∀ w : Int, 0 ≤ w → w < n → (far L a).getD w.toNat 0 = 0 → w = a) ∧ (far L a).getD a.toNat 0 = 0 := by
  have hl := hL.1
  have hB0 := far0_bf (n := n) h0 h
  have hB := bfs_bf hL n 0 _ hB0
  obtain ⟨⟨g1, g2, g3, g4⟩, gD, gs⟩ := bfs_good (a := a) hL n 0 (far0 n a) hB0 (far0_good h0 h) (Nat.zero_le _) (by omega) (fun i hi => by omega)
  have e : far L a = (bfs L n 0 (far0 n a)).1 := by simp only [far, hl]
  rw [e]
  have cl : ∀ v w : Int, 0 ≤ v → v < n → 0 ≤ (bfs L n 0 (far0 n a)).1.getD v.toNat 0 → w ∈ L.getD v.toNat [] → 0 ≤ (bfs L n 0 (far0 n a)).1.getD w.toNat 0 := by
    intro v w hv hv' hp hw
    obtain ⟨i, hi, ei⟩ := List.getElem_of_mem ((g1 v hv hv').1 hp)
    exact gD i hi w (by rw [getD_at hi, ei]; exact hw)
  have hz : (bfs L n 0 (far0 n a)).1.getD a.toNat 0 = 0 := by
    have hl : a.toNat < (List.replicate n (-1 : Int)).length := by simp; omega
    have e0 : (far0 n a).1.getD a.toNat 0 = 0 := by simp only [far0]; rw [getD_set hl, if_pos rfl]
    rw [gs a h0 (by omega), e0]
  refine ⟨cl, fun w h1 h2 => ⟨fun hp => g2 w ((g1 w h1 h2).1 hp), fun hr => ?_⟩, fun w h1 h2 hp => ?_, g4, hz⟩
  · suffices hh : ∀ w, Rch L a w → 0 ≤ w ∧ w < n ∧ 0 ≤ (bfs L n 0 (far0 n a)).1.getD w.toNat 0 from (hh w hr).2.2
    intro w hr
    induction hr with
    | refl => exact ⟨h0, h, by omega⟩
    | step v w _ hin ih =>
      have hw := (hL.2 v.toNat (by omega)).2 w hin
      exact ⟨hw.1, hw.2, cl v w ih.1 ih.2.1 ih.2.2 hin⟩
  · obtain ⟨v, v1, v2, v3⟩ := g3 w h1 h2 hp
    have := hB.2.1 v v1
    exact ⟨v, this.1, this.2.1, this.2.2, v2, v3⟩
theorem nbr_symm {S : List (Int × Int)} {n : Nat} (h : StepsOk S n) {i j : Nat} : (i : Int) ∈ nbr S j ↔ (j : Int) ∈ nbr S i := by
  simp only [nbr, inc, outg, List.mem_append, List.mem_map, List.mem_filter, decide_eq_true_eq]
  constructor
  · rintro (⟨e, ⟨h1, h2⟩, h3⟩ | ⟨e, ⟨h1, h2⟩, h3⟩)
    · exact .inr ⟨e, ⟨h1, h3⟩, h2⟩
    · exact .inl ⟨e, ⟨h1, h3⟩, h2⟩
  · rintro (⟨e, ⟨h1, h2⟩, h3⟩ | ⟨e, ⟨h1, h2⟩, h3⟩)
    · exact .inr ⟨e, ⟨h1, h3⟩, h2⟩
    · exact .inl ⟨e, ⟨h1, h3⟩, h2⟩
def Symm (L : List (List Int)) : Prop := ∀ v w : Int, 0 ≤ v → 0 ≤ w → v < L.length → w < L.length → v ∈ L.getD w.toNat [] → w ∈ L.getD v.toNat []
theorem lists_symm {S : List (Int × Int)} {n : Nat} (h : StepsOk S n) : Symm (listsP S n) := by
  intro v w h1 h2 h3 h4 hm
  have hl : (listsP S n).length = n := rows_len
  rw [hl] at h3 h4
  rw [show (listsP S n).getD w.toNat [] = nbr S w.toNat from rows_get (by omega) _] at hm
  rw [show (listsP S n).getD v.toNat [] = nbr S v.toNat from rows_get (by omega) _]
  have := (nbr_symm h (i := v.toNat) (j := w.toNat)).1 (by rw [Int.toNat_of_nonneg h1]; exact hm)
  rwa [Int.toNat_of_nonneg h2] at this
theorem Rch.trans {L : List (List Int)} {a b c : Int} (h1 : Rch L a b) (h2 : Rch L b c) : Rch L a c := by
  induction h2 with
  | refl => exact h1
  | step v w _ hin ih => exact .step v w ih hin
theorem Rch.range {L : List (List Int)} {n : Nat} (hL : Rds n L) {a b : Int} (h0 : 0 ≤ a ∧ a < n) (h : Rch L a b) : 0 ≤ b ∧ b < n := by
  induction h with
  | refl => exact h0
  | step v w _ hin ih => exact (hL.2 v.toNat (by omega)).2 w hin
theorem Rch.symm {L : List (List Int)} {n : Nat} (hL : Rds n L) (hs : Symm L) {a b : Int} (h0 : 0 ≤ a ∧ a < n) (h : Rch L a b) : Rch L b a := by
  have hl := hL.1
  induction h with
  | refl => exact .refl
  | step v w hr hin ih =>
    have hv := hr.range hL h0
    have hw := (hL.2 v.toNat (by omega)).2 w hin
    exact Rch.trans (.step w v .refl (hs w v hw.1 hv.1 (by omega) (by omega) hin)) ih
theorem cntLt_mono {u : List Int} (hs : u.Pairwise (· < ·)) {a b : Int} (ha : a ∈ u) (h : a < b) : cntLt a u < cntLt b u := by
  obtain ⟨h1, h2⟩ := (cntLt_mem hs).1 ha
  exact (cntLt_split hs b _ h1).1 (by omega)
theorem indS_mem {u : List Int} {S : List (Int × Int)} {e : Int × Int} (h : e ∈ indS u S) : ∃ f ∈ S, f.1 ∈ u ∧ f.2 ∈ u ∧ e = (((cntLt f.1 u : Nat) : Int), ((cntLt f.2 u : Nat) : Int)) := by
  obtain ⟨f, hf, he⟩ := List.mem_flatMap.1 h
  unfold indE at he
  split at he
  · rename_i hu
    exact ⟨f, hf, hu.1, hu.2, by simpa using he⟩
  · simp at he
theorem edge_map {u : List Int} (hs : u.Pairwise (· < ·)) {e f : Int × Int} (he : e.1 ∈ u ∧ e.2 ∈ u) (hf : f.1 ∈ u ∧ f.2 ∈ u) (h : edgeB e f = true) : edgeB (((cntLt e.1 u : Nat) : Int), ((cntLt e.2 u : Nat) : Int)) (((cntLt f.1 u : Nat) : Int), ((cntLt f.2 u : Nat) : Int)) = true := by
  simp only [edgeB, Bool.or_eq_true, Bool.and_eq_true, decide_eq_true_eq] at h ⊢
  rcases h with h | ⟨h1, h2⟩
  · have := cntLt_mono hs he.1 h; left; omega
  · have := cntLt_mono hs he.2 h2
    right; rw [h1]; exact ⟨rfl, by omega⟩
theorem indS_pairwise {u : List Int} (hs : u.Pairwise (· < ·)) : ∀ S : List (Int × Int), (S.Pairwise fun a b => edgeB a b = true) → (indS u S).Pairwise fun a b => edgeB a b = true
  | [], _ => by simp [indS]
  | e :: S, h => by
    obtain ⟨h1, h2⟩ := List.pairwise_cons.1 h
    have : indS u (e :: S) = indE u e ++ indS u S := by simp [indS]
    rw [this, List.pairwise_append]
    refine ⟨?_, indS_pairwise hs S h2, fun a ha b hb => ?_⟩
    · unfold indE; split <;> simp
    · obtain ⟨f, hf, f1, f2, rfl⟩ := indS_mem hb
      unfold indE at ha
      split at ha
      · rename_i hu
        have : a = (((cntLt e.1 u : Nat) : Int), ((cntLt e.2 u : Nat) : Int)) := by simpa using ha
        rw [this]
        exact edge_map hs hu ⟨f1, f2⟩ (h1 f hf)
      · simp at ha
theorem pairsB_of {T : List (Int × Int)} {n : Nat} (h1 : ∀ e ∈ T, 0 ≤ e.1 ∧ e.1 < e.2 ∧ e.2 < n) (h2 : T.Pairwise fun a b => edgeB a b = true) : pairsB T n = true := by
  refine allUpto_iff.2 fun i hi => ?_
  have hm := h1 _ (List.getElem_mem hi)
  simp only [pairB, Bool.and_eq_true, Bool.or_eq_true, decide_eq_true_eq, getD_at hi]
  refine ⟨hm.1, hm.2.1, hm.2.2, ?_⟩
  by_cases h0 : i = 0
  · exact .inl h0
  · right
    rw [getD_at (show i - 1 < T.length by omega)]
    exact List.pairwise_iff_getElem.1 h2 (i - 1) i (by omega) hi (by omega)
theorem indS_pairs {u : List Int} (hs : u.Pairwise (· < ·)) {S : List (Int × Int)} {n : Nat} (hp : pairsB S n = true) : pairsB (indS u S) u.length = true := by
  refine pairsB_of (fun e he => ?_) (indS_pairwise hs S (steps_pairwise hp))
  obtain ⟨f, hf, f1, f2, rfl⟩ := indS_mem he
  have h1 := steps_mem (pairsB_ok hp) hf
  have h2 := cntLt_mono hs f1 h1.2.1
  have h3 := ((cntLt_mem hs).1 f2).1
  simp only
  omega
theorem indL_len (u : List Int) (L : List (List Int)) : (indL u L).length = u.length := by simp [indL]
theorem spec_l2Walk_B0_at (i : Int) (j : Int) (lists : List (List (Int))) (dist : List (Int)) (out : List (Int)) (k : Int) : spec_l2Walk_B0 ((i, j, lists, dist, out, k, ()), ()) = guardB (inb i (List.length lists)) (guardB (inb k (List.length (List.getD lists (Int.toNat i) ([] : (List Int))))) (guardB (inb (List.getD (List.getD lists (Int.toNat i) ([] : (List Int))) (Int.toNat k) (0 : Int)) (List.length dist)) (guardB (inb i (List.length dist)) (bif ((List.getD dist (Int.toNat (List.getD (List.getD lists (Int.toNat i) ([] : (List Int))) (Int.toNat k) (0 : Int))) (0 : Int)) != (w64 ((List.getD dist (Int.toNat i) (0 : Int)) - (1 : Int)))) then (some (.inl ((i, j, lists, dist, out, (w64 (k + (1 : Int))), ()), ()))) else (some (.inr ((i, j, lists, dist, out, k, ()), ()))))))) := rfl
theorem spec_l2Walk_B1_at (i : Int) (j : Int) (lists : List (List (Int))) (dist : List (Int)) (out : List (Int)) : spec_l2Walk_B1 ((i, j, lists, dist, out, ()), ()) = bif (i != j) then (match loopO spec_l2Walk_B0 ((i, j, lists, dist, out, (0 : Int), ()), ()) with | some ((i2, j2, lists2, dist2, out2, k, ()), ()) => guardB (inb i2 (List.length lists2)) (guardB (inb k (List.length (List.getD lists2 (Int.toNat i2) ([] : (List Int))))) (guardB (decide ((List.length out2 + List.length [(List.getD (List.getD lists2 (Int.toNat i2) ([] : (List Int))) (Int.toNat k) (0 : Int))]) * 8 ≤ 70368744177664)) (some (.inl (((List.getD (List.getD lists2 (Int.toNat i2) ([] : (List Int))) (Int.toNat k) (0 : Int)), j2, lists2, dist2, (out2 ++ [(List.getD (List.getD lists2 (Int.toNat i2) ([] : (List Int))) (Int.toNat k) (0 : Int))]), ()), ()))))) | none => none) else (some (.inr ((out, ()), ()))) := rfl
theorem impl_Space_firstWay_B0_at (i : Int) (j : Int) (roads : List (List (Int))) (far : List (Int)) (out : List (Int)) (t31 : List (Int)) (t32 : Int) (t33 : Int) : impl_Space_firstWay_B0 ((i, j, roads, far, out, t31, t32, t33, ()), ()) = bif (decide (t33 < t32)) then (guardB (inb t33 (List.length t31)) (guardB (inb (List.getD t31 (Int.toNat t33) (0 : Int)) (List.length far)) (guardB (inb i (List.length far)) (bif ((List.getD far (Int.toNat (List.getD t31 (Int.toNat t33) (0 : Int))) (0 : Int)) == (w64 ((List.getD far (Int.toNat i) (0 : Int)) - (1 : Int)))) then (some (.inr (((List.getD t31 (Int.toNat t33) (0 : Int)), j, roads, far, out, ()), ()))) else (some (.inl ((i, j, roads, far, out, t31, t32, (w64 (t33 + (1 : Int))), ()), ()))))))) else (some (.inr ((i, j, roads, far, out, ()), ()))) := rfl
theorem impl_Space_firstWay_B1_at (i : Int) (j : Int) (roads : List (List (Int))) (far : List (Int)) (out : List (Int)) : impl_Space_firstWay_B1 ((i, j, roads, far, out, ()), ()) = bif (i != j) then (guardB (inb i (List.length roads)) (match loopO impl_Space_firstWay_B0 ((i, j, roads, far, out, (List.getD roads (Int.toNat i) ([] : (List Int))), (List.length (List.getD roads (Int.toNat i) ([] : (List Int))) : Int), (0 : Int), ()), ()) with | some ((i2, j2, roads2, far2, out2, ()), ()) => guardB (decide ((List.length out2 + List.length [i2]) * 8 ≤ 70368744177664)) (some (.inl ((i2, j2, roads2, far2, (out2 ++ [i2]), ()), ()))) | none => none)) else (some (.inr ((out, ()), ()))) := rfl
theorem first_of {P : Nat → Prop} {n : Nat} (h : ∃ k, k < n ∧ P k) : ∃ p, p < n ∧ P p ∧ ∀ q, q < p → ¬ P q := by
  obtain ⟨k, hk, hp⟩ := h
  induction k using Nat.strongRecOn with
  | ind k ih =>
    by_cases g : ∃ q, q < k ∧ P q
    · obtain ⟨q, hq, pq⟩ := g
      exact ih q hq (by omega) pq
    · exact ⟨k, hk, hp, fun q hq pq => g ⟨q, hq, pq⟩⟩
theorem far_back {L : List (List Int)} {n : Nat} (hL : Rds n L) (hs : Symm L) {a i : Int} (h0 : 0 ≤ a) (h : a < n) (hi : 0 ≤ i) (hi' : i < n) (hp : 0 < (far L a).getD i.toNat 0) :
    ∃ k, k < (L.getD i.toNat []).length ∧ (far L a).getD ((L.getD i.toNat []).getD k 0).toNat 0 = (far L a).getD i.toNat 0 - 1 := by
  have hl := hL.1
  obtain ⟨_, _, f3, _, _⟩ := far_facts hL h0 h
  obtain ⟨v, v1, v2, v3, v4, v5⟩ := f3 i hi hi' hp
  obtain ⟨k, hk, e⟩ := List.getElem_of_mem (hs i v hi v1 (by omega) (by omega) v4)
  exact ⟨k, hk, by rw [getD_at hk, e]; omega⟩
/-- one behind the other, each a step -/
def Chn (L : List (List Int)) (R : List Int) : Prop := ∀ k, k + 1 < R.length → R.getD (k + 1) 0 ∈ L.getD (R.getD k 0).toNat []
theorem getD_last {l : List Int} {z : Int} : (l ++ [z]).getD l.length 0 = z := by simp [List.getD]
theorem chn_snoc {L : List (List Int)} {out : List Int} {i w : Int} (hc : Chn L out) (h0 : 0 < out.length) (hl : out.getD (out.length - 1) 0 = i) (hw : w ∈ L.getD i.toNat []) : Chn L (out ++ [w]) := by
  intro k hk
  simp only [List.length_append, List.length_singleton] at hk
  by_cases e : k + 1 < out.length
  · rw [getD_app e, getD_app (by omega)]; exact hc k e
  · have e1 : k + 1 = out.length := by omega
    rw [e1, getD_last, getD_app (by omega), show k = out.length - 1 by omega, hl]
    exact hw
def WayIn (n : Nat) (R : List Int) : Prop := ∀ w ∈ R, 0 ≤ w ∧ w < n
/-- the walk back to a, step by step, by both -/
theorem walk_both {L : List (List Int)} {n : Nat} (hL : Rds n L) (hs : Symm L) (hn : n ≤ 1048576) {a : Int} (h0 : 0 ≤ a) (h : a < n) :
    ∀ (m : Nat) (i : Int) (out : List Int), 0 ≤ i → i < n → (far L a).getD i.toNat 0 = (m : Int) → out.length + m ≤ 4194304 → WayIn n out → Chn L out → 0 < out.length → out.getD (out.length - 1) 0 = i → ∃ R : List Int,
      loopO spec_l2Walk_B1 ((i, a, L, far L a, out, ()), ()) = some ((R, ()), ()) ∧ loopO impl_Space_firstWay_B1 ((i, a, L, far L a, out, ()), ()) = some ((R, ()), ()) ∧ WayIn n R ∧ R.length = out.length + m ∧ (∃ t, R = out ++ t) ∧ Chn L R ∧ R.getD (R.length - 1) 0 = a := by
  have hl := hL.1
  obtain ⟨hfl, hfb⟩ := far_bf hL h0 h
  obtain ⟨f1, f2, f3, f4, f5⟩ := far_facts hL h0 h
  intro m
  induction m with
  | zero =>
    intro i out hi hi' hm ho hw hch hpos hlast
    have : i = a := f4 i hi hi' (by simpa using hm)
    subst this
    refine ⟨out, loop_end ?_, loop_end ?_, hw, rfl, ⟨[], by simp⟩, hch, hlast⟩
    · rw [spec_l2Walk_B1_at, bne_eq rfl]; rfl
    · rw [impl_Space_firstWay_B1_at, bne_eq rfl]; rfl
  | succ m ih =>
    intro i out hi hi' hm ho hw hch hpos hlast
    have hia : i ≠ a := fun e => by rw [e, f5] at hm; omega
    have hrow := hL.2 i.toNat (by omega)
    obtain ⟨p, hp, hpe, hpf⟩ := first_of (far_back hL hs h0 h hi hi' (by omega))
    obtain ⟨D, hD⟩ : ∃ D, far L a = D := ⟨_, rfl⟩
    rw [hD] at hfl hfb f1 f2 f3 f4 f5 hm hpe hpf ih ⊢
    obtain ⟨row, hrw⟩ : ∃ row, L.getD i.toNat [] = row := ⟨_, rfl⟩
    rw [hrw] at hp hpe hpf hrow
    have hbi := hfb i.toNat
    have hd1 : w64 (D.getD i.toNat 0 - 1) = D.getD i.toNat 0 - 1 := w64_of (by omega) (by omega)
    have k1 : ∀ d k, k + d = p → loopO spec_l2Walk_B0 ((i, a, L, D, out, (k : Int), ()), ()) = some ((i, a, L, D, out, (p : Int), ()), ()) := by
      intro d
      induction d with
      | zero =>
        intro k hk
        have : k = p := by omega
        subst this
        have hwn := hrow.2 _ (getD_in hp)
        refine loop_end ?_
        rw [spec_l2Walk_B0_at]
        simp only [hrw, Int.toNat_natCast]
        rw [guardB_true (inb_true hi (by omega)), guardB_true (by simp [inb] <;> omega), guardB_true (inb_true hwn.1 (by omega)), guardB_true (inb_true hi (by omega)), hd1, bne_eq hpe]
        rfl
      | succ d ih =>
        intro k hk
        have hkl : k < row.length := by omega
        have hwn := hrow.2 _ (getD_in hkl)
        refine loop_step ?_ (ih (k + 1) (by omega))
        rw [spec_l2Walk_B0_at]
        simp only [hrw, Int.toNat_natCast]
        rw [guardB_true (inb_true hi (by omega)), guardB_true (by simp [inb] <;> omega), guardB_true (inb_true hwn.1 (by omega)), guardB_true (inb_true hi (by omega)), hd1, bne_ne (hpf k (by omega)), w64_succ (by omega)]
        rfl
    have k2 : ∀ d k, k + d = p → loopO impl_Space_firstWay_B0 ((i, a, L, D, out, row, (row.length : Int), (k : Int), ()), ()) = some ((row.getD p 0, a, L, D, out, ()), ()) := by
      intro d
      induction d with
      | zero =>
        intro k hk
        have : k = p := by omega
        subst this
        have hwn := hrow.2 _ (getD_in hp)
        refine loop_end ?_
        rw [impl_Space_firstWay_B0_at]
        simp only [bif_decide, Int.toNat_natCast]
        rw [if_pos (by omega), guardB_true (by simp [inb] <;> omega), guardB_true (inb_true hwn.1 (by omega)), guardB_true (inb_true hi (by omega)), hd1, beq_eq hpe]
        rfl
      | succ d ih =>
        intro k hk
        have hkl : k < row.length := by omega
        have hwn := hrow.2 _ (getD_in hkl)
        refine loop_step ?_ (ih (k + 1) (by omega))
        rw [impl_Space_firstWay_B0_at]
        simp only [bif_decide, Int.toNat_natCast]
        rw [if_pos (by omega), guardB_true (by simp [inb] <;> omega), guardB_true (inb_true hwn.1 (by omega)), guardB_true (inb_true hi (by omega)), hd1, beq_ne (hpf k (by omega)), w64_succ (by omega)]
        rfl
    have hwn := hrow.2 _ (getD_in hp)
    obtain ⟨R, r1, r2, r3, r4, ⟨t, r5⟩, r6, r7⟩ := ih (row.getD p 0) (out ++ [row.getD p 0]) hwn.1 hwn.2 (by omega) (by simp; omega) (fun w hw' => by
      rcases List.mem_append.1 hw' with h | h
      · exact hw w h
      · have : w = row.getD p 0 := by simpa using h
        rw [this]; exact hwn) (chn_snoc hch hpos hlast (by rw [hrw]; exact getD_in hp)) (by simp) (by rw [List.length_append, List.length_singleton, Nat.add_sub_cancel]; exact getD_last)
    refine ⟨R, loop_step ?_ r1, loop_step ?_ r2, r3, by rw [r4]; simp; omega, ⟨row.getD p 0 :: t, by rw [r5]; simp⟩, r6, r7⟩
    · rw [spec_l2Walk_B1_at, bne_ne hia]
      simp only [cond_true]
      erw [k1 p 0 (by omega)]
      simp only [hrw, Int.toNat_natCast]
      rw [guardB_true (inb_true hi (by omega)), guardB_true (by simp [inb] <;> omega), guardB_true (by simp only [List.length_singleton, decide_eq_true_eq]; omega)]
    · rw [impl_Space_firstWay_B1_at, bne_ne hia]
      simp only [cond_true, hrw]
      rw [guardB_true (inb_true hi (by omega))]
      erw [k2 p 0 (by omega)]
      simp only
      rw [guardB_true (by simp only [List.length_singleton, decide_eq_true_eq]; omega)]
theorem ways_eq (y : List (List Int) × List (Int × Int)) (hp : pairsB y.2 y.1.length = true) (hn : y.1.length ≤ 1048576) (h6 : y.2.length ≤ 6000) {i a : Int} (hi : 0 ≤ i) (hi' : i < y.1.length) (h0 : 0 ≤ a) (h : a < y.1.length) :
    ∃ R : List Int, spec_l2Walk (y, i, a, ()) () = some ((R, ()), ()) ∧ (∃ b, impl_Space_firstWay (y, i, a, ()) () = some ((R, b, ()), ()) ∧ (b = true ↔ 0 < R.length)) ∧ WayIn y.1.length R ∧ R.length ≤ 2097152 ∧ (0 < R.length ↔ Rch (listsP y.2 y.1.length) a i) ∧ (0 < R.length → Chn (listsP y.2 y.1.length) R ∧ R.getD 0 0 = i ∧ R.getD (R.length - 1) 0 = a) := by
  have hS := pairsB_ok hp
  have hL := rds_lists hS h6
  have hsy := lists_symm hS
  obtain ⟨hfl, hfb⟩ := far_bf hL h0 h
  obtain ⟨f1, f2, f3, f4, f5⟩ := far_facts hL h0 h
  have e1 := l2Lists_eq y hS hn (by omega)
  have e2 := roads_eq y hp hn (by omega)
  by_cases hd : (far (listsP y.2 y.1.length) a).getD i.toNat 0 < 0
  · refine ⟨[], ?_, ⟨false, ?_, by simp⟩, fun w hw => by simp at hw, by simp, ?_, fun e => by simp at e⟩
    · simp only [spec_l2Walk, e1, spread_spec hL hn h0 h, bif_decide]
      rw [guardB_true (inb_true hi (by omega)), if_pos hd]
    · simp only [impl_Space_firstWay, e2, spread_impl hL hn h0 h, bif_decide]
      rw [guardB_true (inb_true hi (by omega)), if_pos hd]
    · have := f2 i hi hi'
      constructor
      · intro e; simp at e
      · intro e; have := this.2 e; omega
  · have hb := hfb i.toNat
    obtain ⟨R, r1, r2, r3, r4, ⟨t, r5⟩, r6, r7⟩ := walk_both hL hsy hn h0 h ((far (listsP y.2 y.1.length) a).getD i.toNat 0).toNat i [i] hi hi' (by omega) (by simp only [List.length_singleton]; omega) (fun w hw => by
      have : w = i := by simpa using hw
      subst this; exact ⟨hi, hi'⟩) (fun k hk => by simp at hk) (by simp) (by simp)
    have hR : 0 < R.length := by rw [r4]; simp only [List.length_singleton]; omega
    refine ⟨R, ?_, ⟨true, ?_, by simp [hR]⟩, r3, by rw [r4]; simp only [List.length_singleton]; omega, ?_, fun _ => ⟨r6, by rw [r5]; rfl, r7⟩⟩
    · simp only [spec_l2Walk, e1, spread_spec hL hn h0 h, bif_decide]
      rw [guardB_true (inb_true hi (by omega)), if_neg hd]
      erw [r1]
    · simp only [impl_Space_firstWay, e2, spread_impl hL hn h0 h, bif_decide]
      rw [guardB_true (inb_true hi (by omega)), if_neg hd]
      erw [r2]
    · exact ⟨fun _ => (f2 i hi hi').1 (by omega), fun _ => hR⟩
theorem spec_l11Low_B0_at (t2 : Int) (t3 : Int) (t11 : List (Int)) (t12 : (List (List (Int))) × (List ((Int) × (Int)))) (t13 : Int) (t14 : Int) (t15 : List (Int)) (t16 : Int) : spec_l11Low_B0 ((t2, t3, t11, t12, t13, t14, t15, t16, ()), ()) = bif (decide (t16 < (List.length t11 : Int))) then (guardB (inb t16 (List.length t11)) (bif ((List.getD t11 (Int.toNat t16) (0 : Int)) == t2) then (guardB (inb t16 (List.length t11)) (bif ((List.getD t11 (Int.toNat t16) (0 : Int)) == t3) then (some (.inl ((t2, t3, t11, t12, t16, t16, t15, (w64 (t16 + (1 : Int))), ()), ()))) else (some (.inl ((t2, t3, t11, t12, t16, t14, t15, (w64 (t16 + (1 : Int))), ()), ()))))) else (guardB (inb t16 (List.length t11)) (bif ((List.getD t11 (Int.toNat t16) (0 : Int)) == t3) then (some (.inl ((t2, t3, t11, t12, t13, t16, t15, (w64 (t16 + (1 : Int))), ()), ()))) else (some (.inl ((t2, t3, t11, t12, t13, t14, t15, (w64 (t16 + (1 : Int))), ()), ()))))))) else (some (.inr ((t11, t12, t13, t14, t15, ()), ()))) := rfl
theorem spec_l11Low_B1_at (t11 : List (Int)) (t15 : List (Int)) (t17 : List (Int)) (t18 : Int) : spec_l11Low_B1 ((t11, t15, t17, t18, ()), ()) = bif (decide (t18 < (List.length t17 : Int))) then (guardB (inb t18 (List.length t17)) (guardB (inb (List.getD t17 (Int.toNat t18) (0 : Int)) (List.length t11)) (guardB (decide ((List.length t15 + List.length [(List.getD t11 (Int.toNat (List.getD t17 (Int.toNat t18) (0 : Int))) (0 : Int))]) * 8 ≤ 70368744177664)) (some (.inl ((t11, (t15 ++ [(List.getD t11 (Int.toNat (List.getD t17 (Int.toNat t18) (0 : Int))) (0 : Int))]), t17, (w64 (t18 + (1 : Int))), ()), ())))))) else (some (.inr ((t15, ()), ()))) := rfl
theorem spec_l11Peak_B0_at (heights : List (Int)) (i : Int) (j : Int) (x : (List (List (Int))) × (List ((Int) × (Int)))) (best : Int) (k : Int) : spec_l11Peak_B0 ((heights, i, j, x, best, k, ()), ()) = bif (decide (k < (List.length heights : Int))) then (bif (decide (best < (0 : Int))) then (guardB (inb k (List.length heights)) (match spec_l11Low (x, heights, i, j, (List.getD heights (Int.toNat k) (0 : Int)), ()) () with | some ((r, ()), ()) => (bif (decide ((0 : Int) < (List.length r : Int))) then (guardB (inb k (List.length heights)) (some (.inl ((heights, i, j, x, (List.getD heights (Int.toNat k) (0 : Int)), (w64 (k + (1 : Int))), ()), ())))) else (some (.inl ((heights, i, j, x, best, (w64 (k + (1 : Int))), ()), ())))) | none => none)) else (guardB (inb k (List.length heights)) (bif (decide ((List.getD heights (Int.toNat k) (0 : Int)) < best)) then (guardB (inb k (List.length heights)) (match spec_l11Low (x, heights, i, j, (List.getD heights (Int.toNat k) (0 : Int)), ()) () with | some ((r2, ()), ()) => (bif (decide ((0 : Int) < (List.length r2 : Int))) then (guardB (inb k (List.length heights)) (some (.inl ((heights, i, j, x, (List.getD heights (Int.toNat k) (0 : Int)), (w64 (k + (1 : Int))), ()), ())))) else (some (.inl ((heights, i, j, x, best, (w64 (k + (1 : Int))), ()), ())))) | none => none)) else (some (.inl ((heights, i, j, x, best, (w64 (k + (1 : Int))), ()), ())))))) else (some (.inr ((best, ()), ()))) := rfl
theorem impl_Space_lowWay_B0_at (t12 : List (Int)) (t19 : List (Int)) (t68 : Int) (t69 : Int) : impl_Space_lowWay_B0 ((t12, t19, t68, t69, ()), ()) = bif (decide (t69 < t68)) then (guardB (inb t69 (List.length t19)) (guardB (inb (List.getD t19 (Int.toNat t69) (0 : Int)) (List.length t12)) (guardB (inb t69 (List.length t19)) (some (.inl ((t12, (List.set t19 (Int.toNat t69) (List.getD t12 (Int.toNat (List.getD t19 (Int.toNat t69) (0 : Int))) (0 : Int))), t68, (w64 (t69 + (1 : Int))), ()), ())))))) else (some (.inr ((t19, ()), ()))) := rfl
theorem impl_Space_lowWay_B1_at (t1 : List (Int)) (t2 : Int) (t3 : Int) (t4 : (List (List (Int))) × (List ((Int) × (Int)))) (t26 : List (Int)) (t27 : Int) (t28 : Int) : impl_Space_lowWay_B1 ((t1, t2, t3, t4, t26, t27, t28, ()), ()) = bif (decide (t28 < t27)) then (guardB (inb t28 (List.length t26)) (match impl_below (t1, (List.getD t26 (Int.toNat t28) (0 : Int)), ()) () with | some ((r, ()), ()) => (match impl_InducedSpace (t4, r, ()) () with | some ((r2, r3, ()), ()) => (match slices_BinarySearch_int_int (r, t2, ()) () with | some ((r4, r5, ()), ()) => (match slices_BinarySearch_int_int (r, t3, ()) () with | some ((r6, r7, ()), ()) => (bif (!r5) then (some (.inl ((t1, t2, t3, t4, t26, t27, (w64 (t28 + (1 : Int))), ()), ()))) else (bif (!r7) then (some (.inl ((t1, t2, t3, t4, t26, t27, (w64 (t28 + (1 : Int))), ()), ()))) else (match impl_Space_firstWay ((r2.1, r2.2), r4, r6, ()) () with | some ((r8, r9, ()), ()) => (bif r9 then (match loopO impl_Space_lowWay_B0 ((r, r8, (List.length r8 : Int), (0 : Int), ()), ()) with | some ((t19, ()), ()) => some (.inr (.inl ((t19, true, ()), ()))) | none => none) else (some (.inl ((t1, t2, t3, t4, t26, t27, (w64 (t28 + (1 : Int))), ()), ())))) | none => none))) | none => none) | none => none) | none => none) | none => none)) else (some (.inr (.inr ((), ())))) := rfl
theorem compact_is (zs : List Int) : Lib.compact zs = ((List.range zs.length).filter (Lib.keeps zs.toArray)).map fun i => zs.getD i 0 := by
  have e : Lib.compact zs = ((List.range zs.length).filter (Lib.keeps zs.toArray)).map fun i => zs.toArray[i]! := by simp [Lib.compact, Lib.compactUpTo]
  rw [e]
  refine List.map_congr_left fun i hi => ?_
  have : i < zs.length := by simpa using (List.mem_filter.1 hi).1
  rw [getD_at this]
  simp [this]
theorem compact_mem (zs : List Int) (v : Int) : v ∈ Lib.compact zs ↔ v ∈ zs := by
  rw [compact_is, List.mem_map]
  constructor
  · rintro ⟨i, hi, rfl⟩
    have : i < zs.length := by simpa using (List.mem_filter.1 hi).1
    exact getD_in this
  · intro h
    obtain ⟨k, hk, e⟩ := List.getElem_of_mem h
    obtain ⟨p, hp, pe, pf⟩ := first_of (P := fun i => zs.getD i 0 = v) (n := zs.length) ⟨k, hk, by rw [getD_at hk]; exact e⟩
    refine ⟨p, List.mem_filter.2 ⟨by simpa using hp, ?_⟩, pe⟩
    rcases Nat.eq_zero_or_pos p with g | g
    · subst g; simp [Lib.keeps]
    · have h1 := pf (p - 1) (by omega)
      rw [getD_at (show p - 1 < zs.length by omega)] at h1
      rw [getD_at hp] at pe
      simp [Lib.keeps, hp, show p - 1 < zs.length by omega]
      exact .inr fun e => h1 (by rw [← e]; exact pe)
theorem compact_sorted (zs : List Int) (hs : zs.Pairwise (· ≤ ·)) : (Lib.compact zs).Pairwise (· ≤ ·) := by
  rw [compact_is, List.pairwise_map]
  refine ((List.pairwise_lt_range).filter _).imp_of_mem fun {a b} ha hb hab => ?_
  have h1 : a < zs.length := by simpa using (List.mem_filter.1 ha).1
  have h2 : b < zs.length := by simpa using (List.mem_filter.1 hb).1
  rw [getD_at h1, getD_at h2]
  exact List.pairwise_iff_getElem.1 hs a b h1 h2 hab
/-- where a place is, as far as looked -/
def sAt (u : List Int) (v : Int) (k : Nat) : Int := if v ∈ u.take k then ((cntLt v u : Nat) : Int) else -1
theorem sAt_succ {u : List Int} (hs : u.Pairwise (· < ·)) (v : Int) {k : Nat} (hk : k < u.length) : sAt u v (k + 1) = if u.getD k 0 = v then (k : Int) else sAt u v k := by
  unfold sAt
  rw [take_one hk 0]
  by_cases e : u.getD k 0 = v
  · rw [if_pos e, if_pos (List.mem_append_right _ (List.mem_singleton.2 e.symm)), ← e, cntLt_get hs hk]
  · rw [if_neg e]
    have : (v ∈ u.take k ++ [u.getD k 0]) ↔ v ∈ u.take k := by
      simp only [List.mem_append, List.mem_singleton]
      exact ⟨fun h => h.elim id (fun h => absurd h.symm e), .inl⟩
    simp only [this]
def mapU (u R : List Int) : List Int := R.map fun k => u.getD k.toNat 0
theorem mapU_snoc (u : List Int) {R : List Int} {i : Nat} (h : i < R.length) : mapU u (R.take (i + 1)) = mapU u (R.take i) ++ [u.getD (R.getD i 0).toNat 0] := by
  rw [take_one h 0]; simp [mapU]
theorem scan_low {u : List Int} (hs : u.Pairwise (· < ·)) (hu : u.length ≤ 1048576) (y : List (List Int) × List (Int × Int)) (i j : Int) : loopO spec_l11Low_B0 ((i, j, u, y, -1, -1, ([] : List Int), 0, ()), ()) = some ((u, y, sAt u i u.length, sAt u j u.length, ([] : List Int), ()), ()) := by
  have key := loop_count (B := spec_l11Low_B0) (fun k => ((i, j, u, y, sAt u i k, sAt u j k, ([] : List Int), (k : Int), ()), ())) u.length ((u, y, sAt u i u.length, sAt u j u.length, ([] : List Int), ()), ()) ?_ ?_ 0 (Nat.zero_le _)
  · simpa [sAt] using key
  · intro k hk
    rw [spec_l11Low_B0_at]
    simp only [bif_decide, Int.toNat_natCast, sAt_succ hs _ hk]
    have hin : inb (k : Int) u.length = true := inb_true (by omega) (by omega)
    rw [if_pos (by omega), w64_succ (by omega)]
    simp only [guardB, hin, cond_true]
    by_cases e1 : u.getD k 0 = i
    · by_cases e2 : u.getD k 0 = j
      · rw [beq_eq e1, beq_eq e2, if_pos e1, if_pos e2]; rfl
      · rw [beq_eq e1, beq_ne e2, if_pos e1, if_neg e2]; rfl
    · by_cases e2 : u.getD k 0 = j
      · rw [beq_ne e1, beq_eq e2, if_neg e1, if_pos e2]; rfl
      · rw [beq_ne e1, beq_ne e2, if_neg e1, if_neg e2]; rfl
  · rw [spec_l11Low_B0_at]; simp
theorem names_spec {u R : List Int} (hR : WayIn u.length R) (hl : R.length ≤ 2097152) : loopO spec_l11Low_B1 ((u, ([] : List Int), R, 0, ()), ()) = some ((mapU u R, ()), ()) := by
  have key := loop_count (B := spec_l11Low_B1) (fun k => ((u, mapU u (R.take k), R, (k : Int), ()), ())) R.length ((mapU u R, ()), ()) ?_ ?_ 0 (Nat.zero_le _)
  · simpa [mapU] using key
  · intro k hk
    have hw := hR _ (getD_in hk)
    rw [spec_l11Low_B1_at]
    simp only [bif_decide, Int.toNat_natCast, mapU_snoc u hk]
    rw [if_pos (by omega), guardB_true (by simp [inb] <;> omega), guardB_true (inb_true hw.1 (by omega)), guardB_true (by simp only [mapU, List.length_map, List.length_take, List.length_singleton, decide_eq_true_eq]; omega), w64_succ (by omega)]
  · rw [spec_l11Low_B1_at]; simp
theorem names_impl {u R : List Int} (hR : WayIn u.length R) (hl : R.length ≤ 2097152) : loopO impl_Space_lowWay_B0 ((u, R, (R.length : Int), 0, ()), ()) = some ((mapU u R, ()), ()) := by
  have key := loop_count (B := impl_Space_lowWay_B0) (fun k => ((u, mapU u (R.take k) ++ R.drop k, (R.length : Int), (k : Int), ()), ())) R.length ((mapU u R, ()), ()) ?_ ?_ 0 (Nat.zero_le _)
  · simpa [mapU] using key
  · intro k hk
    have hw := hR _ (getD_in hk)
    have hml : (mapU u (R.take k)).length = k := by simp [mapU]; omega
    have hdr : R.drop k = R.getD k 0 :: R.drop (k + 1) := by rw [getD_at hk]; exact List.drop_eq_getElem_cons hk
    have hg : (mapU u (R.take k) ++ R.drop k).getD k 0 = R.getD k 0 := by
      rw [hdr]
      simp [List.getD, List.getElem?_append_right, hml]
    have hset : ∀ z : Int, (mapU u (R.take k) ++ R.drop k).set k z = mapU u (R.take k) ++ z :: R.drop (k + 1) := fun z => by
      rw [hdr]
      have := set_mid (mapU u (R.take k)) (R.drop (k + 1)) (R.getD k 0) z
      rwa [hml] at this
    have hlen : (mapU u (R.take k) ++ R.drop k).length = R.length := by simp [hml]; omega
    rw [impl_Space_lowWay_B0_at]
    simp only [bif_decide, Int.toNat_natCast, hg, hset, hlen, mapU_snoc u hk]
    rw [if_pos (by omega), guardB_true (by simp [inb] <;> omega), guardB_true (inb_true hw.1 (by omega)), guardB_true (by simp [inb] <;> omega), w64_succ (by omega), List.append_assoc]
    rfl
  · rw [impl_Space_lowWay_B0_at]; simp
theorem mapU_in {u R : List Int} {n : Nat} (hu : ∀ v ∈ u, 0 ≤ v ∧ v < n) (hR : WayIn u.length R) : WayIn n (mapU u R) := by
  intro w hw
  obtain ⟨k, hk, rfl⟩ := List.mem_map.1 hw
  have := hR k hk
  exact hu _ (getD_in (by omega))
theorem edge_up {u : List Int} (hs : u.Pairwise (· < ·)) {S : List (Int × Int)} {n : Nat} (hr : ∀ v ∈ u, 0 ≤ v ∧ v < n) {v w : Int} (hv : 0 ≤ v ∧ v < u.length) (hw0 : 0 ≤ w) (hin : w ∈ (listsP (indS u S) u.length).getD v.toNat []) : u.getD w.toNat 0 ∈ (listsP S n).getD (u.getD v.toNat 0).toNat [] := by
  rw [show (listsP (indS u S) u.length).getD v.toNat [] = nbr (indS u S) v.toNat from rows_get (by omega) _] at hin
  have hvm := hr _ (getD_in (show v.toNat < u.length by omega))
  rw [show (listsP S n).getD (u.getD v.toNat 0).toNat [] = nbr S (u.getD v.toNat 0).toNat from rows_get (by omega) _]
  simp only [nbr, inc, outg, List.mem_append, List.mem_map, List.mem_filter, decide_eq_true_eq] at hin ⊢
  have back : ∀ c : Int, c ∈ u → u.getD (cntLt c u) 0 = c := fun c hc => ((cntLt_mem hs).1 hc).2
  rcases hin with ⟨e, ⟨h1, h2⟩, h3⟩ | ⟨e, ⟨h1, h2⟩, h3⟩
  · obtain ⟨f, f1, f2, f3, rfl⟩ := indS_mem h1
    left
    simp only at h2 h3
    refine ⟨f, ⟨f1, ?_⟩, ?_⟩
    · rw [Int.toNat_of_nonneg hvm.1, ← back f.2 f3, show v.toNat = cntLt f.2 u by omega]
    · rw [← back f.1 f2, show w.toNat = cntLt f.1 u by omega]
  · obtain ⟨f, f1, f2, f3, rfl⟩ := indS_mem h1
    right
    simp only at h2 h3
    refine ⟨f, ⟨f1, ?_⟩, ?_⟩
    · rw [Int.toNat_of_nonneg hvm.1, ← back f.1 f2, show v.toNat = cntLt f.1 u by omega]
    · rw [← back f.2 f3, show w.toNat = cntLt f.2 u by omega]
theorem mapU_get {u R : List Int} {k : Nat} (h : k < R.length) : (mapU u R).getD k 0 = u.getD (R.getD k 0).toNat 0 := by
  rw [getD_at (show k < (mapU u R).length by simp [mapU]; exact h), getD_at h]
  simp [mapU]
theorem low_both (x : List (List Int) × List (Int × Int)) (hF : Few x) (hsp : spaceB x = true) (hs : List Int) (hl : hs.length = x.1.length) (i j t : Int) :
    ∃ W : List Int, spec_l11Low (x, hs, i, j, t, ()) () = some ((W, ()), ()) ∧
      (∀ (ts : List Int) (k : Nat), k < ts.length → ts.length ≤ 1048576 → ts.getD k 0 = t → impl_Space_lowWay_B1 ((hs, i, j, x, ts, (ts.length : Int), (k : Int), ()), ()) = some (if 0 < W.length then .inr (.inl ((W, true, ()), ())) else .inl ((hs, i, j, x, ts, (ts.length : Int), ((k + 1 : Nat) : Int), ()), ()))) ∧
      (0 < W.length ↔ i ∈ under t hs ∧ j ∈ under t hs ∧ Rch (listsP (indS (under t hs) x.2) (under t hs).length) ((cntLt j (under t hs) : Nat) : Int) ((cntLt i (under t hs) : Nat) : Int)) ∧ W.length ≤ 2097152 ∧ WayIn x.1.length W ∧ (0 < W.length → Chn (listsP x.2 x.1.length) W ∧ W.getD 0 0 = i ∧ W.getD (W.length - 1) 0 = j ∧ ∀ w ∈ W, w ∈ under t hs) := by
  have hn := hF.states
  have hsp' := hsp
  simp only [spaceB, Bool.and_eq_true, decide_eq_true_eq] at hsp'
  obtain ⟨_, h6, _, hp⟩ := hsp'
  have hl' : hs.length ≤ 1048576 := by omega
  have hrow : ∀ i, (x.1.getD i []).length ≤ 1048576 := fun i => by
    by_cases hi : i < x.1.length
    · rw [getD_at hi]; exact hF.state _ (List.getElem_mem hi)
    · simp [List.getD, hi]
  have hus := under_sorted t hs
  have hul : (under t hs).length ≤ 1048576 := by have := underFrom_len t hs 0; unfold under; omega
  have hum : ∀ v ∈ under t hs, 0 ≤ v ∧ v < x.1.length := fun v hv => by have := under_mem hv; omega
  have u1 := l11Under_eq hs t hl'
  have u2 := below_eq hs t hl'
  obtain ⟨u, hu⟩ : ∃ u, under t hs = u := ⟨_, rfl⟩
  rw [hu] at hus hul hum u1 u2 ⊢
  have v1 := l2Induced_eq x u hus hum (pairsB_ok hp) hn hF.steps hul hrow
  have v2 := InducedSpace_eq x hF hsp u hus hum hul hrow
  have y1 : (induced u x).1.length = u.length := indL_len u x.1
  have y2 : (induced u x).2.length ≤ 6000 := by have := indS_len u x.2; show (indS u x.2).length ≤ 6000; omega
  have y3 : pairsB (induced u x).2 ((induced u x).1.length : Int) = true := by rw [y1]; exact indS_pairs hus hp
  have b1 := BinarySearch_eq hus hul i
  have b2 := BinarySearch_eq hus hul j
  have sc := scan_low hus hul (induced u x) i j
  have sp : ∀ v, sAt u v u.length = if v ∈ u then ((cntLt v u : Nat) : Int) else -1 := fun v => by unfold sAt; rw [List.take_length]
  have step : ∀ W : List Int, (∀ (ts : List Int) (k : Nat), k < ts.length → ts.length ≤ 1048576 → ts.getD k 0 = t →
      (bif (!decide (i ∈ u)) then (some (.inl ((hs, i, j, x, ts, (ts.length : Int), (w64 ((k : Int) + (1 : Int))), ()), ()))) else (bif (!decide (j ∈ u)) then (some (.inl ((hs, i, j, x, ts, (ts.length : Int), (w64 ((k : Int) + (1 : Int))), ()), ()))) else (match impl_Space_firstWay (((induced u x).1, (induced u x).2), ((cntLt i u : Nat) : Int), ((cntLt j u : Nat) : Int), ()) () with | some ((r8, r9, ()), ()) => (bif r9 then (match loopO impl_Space_lowWay_B0 ((u, r8, (List.length r8 : Int), (0 : Int), ()), ()) with | some ((t19, ()), ()) => some (.inr (.inl ((t19, true, ()), ()))) | none => none) else (some (.inl ((hs, i, j, x, ts, (ts.length : Int), (w64 ((k : Int) + (1 : Int))), ()), ())))) | none => none)) : Option (impl_Space_lowWay_J2.P ⊕ impl_Space_lowWay_O1.P)) = some (if 0 < W.length then .inr (.inl ((W, true, ()), ())) else .inl ((hs, i, j, x, ts, (ts.length : Int), ((k + 1 : Nat) : Int), ()), ()))) →
      (∀ (ts : List Int) (k : Nat), k < ts.length → ts.length ≤ 1048576 → ts.getD k 0 = t → impl_Space_lowWay_B1 ((hs, i, j, x, ts, (ts.length : Int), (k : Int), ()), ()) = some (if 0 < W.length then .inr (.inl ((W, true, ()), ())) else .inl ((hs, i, j, x, ts, (ts.length : Int), ((k + 1 : Nat) : Int), ()), ()))) := by
    intro W h ts k hk hts ht
    rw [← h ts k hk hts ht, impl_Space_lowWay_B1_at]
    simp only [bif_decide, Int.toNat_natCast, ht]
    rw [if_pos (by omega), guardB_true (by simp [inb] <;> omega), u2]
    simp only
    rw [v2]
    simp only
    rw [b1]
    simp only
    rw [b2]
  by_cases hi : i ∈ u
  · by_cases hj : j ∈ u
    · have ci := ((cntLt_mem hus).1 hi).1
      have cj := ((cntLt_mem hus).1 hj).1
      obtain ⟨R, r1, ⟨b, r2, r2'⟩, r3, r4, r5, r6⟩ := ways_eq (induced u x) y3 (by omega) y2 (i := ((cntLt i u : Nat) : Int)) (a := ((cntLt j u : Nat) : Int)) (by omega) (by omega) (by omega) (by omega)
      rw [y1] at r3 r5 r6
      have n1 := names_spec r3 r4
      have n2 := names_impl r3 r4
      have ml : (mapU u R).length = R.length := by simp [mapU]
      refine ⟨mapU u R, ?_, step _ ?_, ?_, by omega, mapU_in hum r3, fun hpos => by
        rw [ml] at hpos
        obtain ⟨c1, c2, c3⟩ := r6 hpos
        refine ⟨fun k hk => ?_, ?_, ?_, fun w hw => ?_⟩
        · rw [ml] at hk
          have a1 := r3 _ (getD_in (show k < R.length by omega))
          have a2 := r3 _ (getD_in hk)
          rw [mapU_get hk, mapU_get (show k < R.length by omega)]
          exact edge_up hus hum a1 a2.1 (c1 k hk)
        · rw [mapU_get hpos, c2, Int.toNat_natCast]; exact ((cntLt_mem hus).1 hi).2
        · rw [ml, mapU_get (by omega), c3, Int.toNat_natCast]; exact ((cntLt_mem hus).1 hj).2
        · obtain ⟨q, hq, rfl⟩ := List.mem_map.1 hw
          have := r3 q hq
          exact getD_in (by omega)⟩
      · simp only [spec_l11Low, u1]
        rw [v1]
        simp only
        erw [sc]
        simp only [sp, hi, hj, if_true, bif_decide]
        rw [if_neg (show ¬ ((cntLt i u : Nat) : Int) < 0 by omega), if_neg (show ¬ ((cntLt j u : Nat) : Int) < 0 by omega), r1]
        simp only
        erw [n1]
      · intro ts k hk hts ht
        rw [decide_eq_true hi, decide_eq_true hj]
        simp only [Bool.not_true, cond_false]
        erw [r2]
        simp only [ml]
        cases b
        · have : ¬ 0 < R.length := fun e => by simpa using r2'.2 e
          simp only [cond_false]
          rw [if_neg this, w64_succ (by omega)]
        · have : 0 < R.length := r2'.1 rfl
          simp only [cond_true]
          erw [n2]
          simp only
          rw [if_pos this]
      · rw [ml, r5]
        exact ⟨fun h => ⟨hi, hj, h⟩, fun h => h.2.2⟩
    · refine ⟨[], ?_, step _ ?_, ?_, by simp, fun w hw => by simp at hw, fun e => by simp at e⟩
      · simp only [spec_l11Low, u1]
        rw [v1]
        simp only
        erw [sc]
        simp only [sp, hi, hj, if_true, if_false, bif_decide]
        rw [if_neg (show ¬ ((cntLt i u : Nat) : Int) < 0 by omega), if_pos (show (-1 : Int) < 0 by omega)]
      · intro ts k hk hts ht
        rw [decide_eq_true hi, decide_eq_false hj, w64_succ (by omega)]
        rfl
      · simp [hj]
  · refine ⟨[], ?_, step _ ?_, ?_, by simp, fun w hw => by simp at hw, fun e => by simp at e⟩
    · simp only [spec_l11Low, u1]
      rw [v1]
      simp only
      erw [sc]
      simp only [sp, hi, if_false, bif_decide]
      rw [if_pos (show (-1 : Int) < 0 by omega)]
    · intro ts k hk hts ht
      rw [decide_eq_false hi, w64_succ (by omega)]
      rfl
    · simp [hi]
theorem rch_up {u : List Int} (hs : u.Pairwise (· < ·)) {S : List (Int × Int)} {n : Nat} (hS : StepsOk S n) (hS6 : S.length ≤ 6000) (hp : pairsB S n = true) (hr : ∀ v ∈ u, 0 ≤ v ∧ v < n) {p q : Int} (hp0 : 0 ≤ p ∧ p < u.length) (h : Rch (listsP (indS u S) u.length) p q) : Rch (listsP S n) (u.getD p.toNat 0) (u.getD q.toNat 0) := by
  have hL := rds_lists (pairsB_ok (indS_pairs hs hp)) (Nat.le_trans (indS_len u S) hS6)
  induction h with
  | refl => exact .refl
  | step v w hr' hin ih =>
    have hv := hr'.range hL hp0
    exact .step _ _ ih (edge_up hs hr hv (hL.2 v.toNat (by omega) |>.2 w hin).1 hin)
theorem underFrom_all (t : Int) : ∀ (l : List Int) (k : Nat), (∀ y ∈ l, y ≤ t) → ∀ i, i < l.length → (underFrom t k l).getD i 0 = ((k + i : Nat) : Int) ∧ i < (underFrom t k l).length
  | [], k, h, i, hi => by simp at hi
  | y :: l, k, h, i, hi => by
    simp only [underFrom, if_pos (h y (by simp))]
    cases i with
    | zero => exact ⟨by simp, by simp⟩
    | succ i =>
      obtain ⟨h1, h2⟩ := underFrom_all t l (k + 1) (fun z hz => h z (by simp [hz])) i (by simpa using hi)
      refine ⟨?_, by simpa using h2⟩
      rw [List.getD_cons_succ, h1]
      congr 1
      omega
theorem under_all {t : Int} {l : List Int} (h : ∀ y ∈ l, y ≤ t) : (under t l).length = l.length ∧ ∀ i, i < l.length → (i : Int) ∈ under t l ∧ cntLt (i : Int) (under t l) = i := by
  have hle := underFrom_len t l 0
  have hget := underFrom_all t l 0 h
  refine ⟨?_, fun i hi => ?_⟩
  · by_cases h0 : l.length = 0
    · unfold under; omega
    · have := (hget (l.length - 1) (by omega)).2
      unfold under; omega
  · obtain ⟨h1, h2⟩ := hget i hi
    have e : (under t l).getD i 0 = (i : Int) := by unfold under; rw [h1]; congr 1; omega
    refine ⟨?_, ?_⟩
    · rw [← e]; exact getD_in h2
    · have := cntLt_get (under_sorted t l) (i := i) h2
      rw [e] at this; exact this
theorem indS_all {u : List Int} {n : Nat} (h : ∀ i : Nat, i < n → (i : Int) ∈ u ∧ cntLt (i : Int) u = i) : ∀ {S : List (Int × Int)}, (∀ e ∈ S, 0 ≤ e.1 ∧ e.1 < e.2 ∧ e.2 < n) → indS u S = S
  | [], _ => rfl
  | e :: S, hS => by
    have : indS u (e :: S) = indE u e ++ indS u S := by simp [indS]
    rw [this, indS_all h (fun f hf => hS f (by simp [hf]))]
    have he := hS e (by simp)
    obtain ⟨a1, a2⟩ := h e.1.toNat (by omega)
    obtain ⟨b1, b2⟩ := h e.2.toNat (by omega)
    rw [Int.toNat_of_nonneg he.1] at a1 a2
    rw [Int.toNat_of_nonneg (show 0 ≤ e.2 by omega)] at b1 b2
    unfold indE
    rw [if_pos ⟨a1, b1⟩, a2, b2, Int.toNat_of_nonneg he.1, Int.toNat_of_nonneg (show 0 ≤ e.2 by omega)]
    rfl
noncomputable def lowW (x : List (List Int) × List (Int × Int)) (hs : List Int) (i j t : Int) : List Int := match spec_l11Low (x, hs, i, j, t, ()) () with
  | some ((r, ()), ()) => r
  | none => []
section
variable {x : List (List Int) × List (Int × Int)} {hs : List Int} (hF : Few x) (hsp : spaceB x = true) (hl : hs.length = x.1.length) (i j : Int)
include hF hsp hl
theorem lowW_facts (t : Int) : spec_l11Low (x, hs, i, j, t, ()) () = some ((lowW x hs i j t, ()), ()) ∧
      (∀ (ts : List Int) (k : Nat), k < ts.length → ts.length ≤ 1048576 → ts.getD k 0 = t → impl_Space_lowWay_B1 ((hs, i, j, x, ts, (ts.length : Int), (k : Int), ()), ()) = some (if 0 < (lowW x hs i j t).length then .inr (.inl ((lowW x hs i j t, true, ()), ())) else .inl ((hs, i, j, x, ts, (ts.length : Int), ((k + 1 : Nat) : Int), ()), ()))) ∧
      (0 < (lowW x hs i j t).length ↔ i ∈ under t hs ∧ j ∈ under t hs ∧ Rch (listsP (indS (under t hs) x.2) (under t hs).length) ((cntLt j (under t hs) : Nat) : Int) ((cntLt i (under t hs) : Nat) : Int)) ∧ (lowW x hs i j t).length ≤ 2097152 ∧ WayIn x.1.length (lowW x hs i j t) ∧ (0 < (lowW x hs i j t).length → Chn (listsP x.2 x.1.length) (lowW x hs i j t) ∧ (lowW x hs i j t).getD 0 0 = i ∧ (lowW x hs i j t).getD ((lowW x hs i j t).length - 1) 0 = j ∧ ∀ w ∈ lowW x hs i j t, w ∈ under t hs) := by
  obtain ⟨W, h1, h2⟩ := low_both x hF hsp hs hl i j t
  have e : lowW x hs i j t = W := by simp only [lowW, h1]
  rw [e]
  exact ⟨h1, h2⟩
def Best (x : List (List Int) × List (Int × Int)) (hs : List Int) (i j : Int) (best : Int) (k : Nat) : Prop :=
  (best = -1 ∧ ∀ q, q < k → ¬ 0 < (lowW x hs i j (hs.getD q 0)).length) ∨ (0 ≤ best ∧ (∃ q, q < k ∧ hs.getD q 0 = best) ∧ 0 < (lowW x hs i j best).length ∧ ∀ q, q < k → 0 < (lowW x hs i j (hs.getD q 0)).length → best ≤ hs.getD q 0)
theorem peak_eq (hload : ∀ y ∈ hs, 0 ≤ y) (hn : hs.length ≤ 1048576) : ∃ best : Int, spec_l11Peak (x, hs, i, j, ()) () = some ((best, ()), ()) ∧ Best x hs i j best hs.length := by
  have key : ∀ d k (best : Int), k + d = hs.length → Best x hs i j best k → ∃ b : Int, loopO spec_l11Peak_B0 ((hs, i, j, x, best, (k : Int), ()), ()) = some ((b, ()), ()) ∧ Best x hs i j b hs.length := by
    intro d
    induction d with
    | zero =>
      intro k best hk hb
      have : k = hs.length := by omega
      subst this
      refine ⟨best, loop_end ?_, hb⟩
      rw [spec_l11Peak_B0_at]; simp
    | succ d ih =>
      intro k best hk hb
      have hkl : k < hs.length := by omega
      have hin : inb (k : Int) hs.length = true := inb_true (by omega) (by omega)
      have hnn := hload _ (getD_in hkl)
      obtain ⟨l1, _⟩ := lowW_facts hF hsp hl i j (hs.getD k 0)
      have hext : ∀ b : Int, (∀ q, q < k → 0 < (lowW x hs i j (hs.getD q 0)).length → b ≤ hs.getD q 0) → (0 < (lowW x hs i j (hs.getD k 0)).length → b ≤ hs.getD k 0) → ∀ q, q < k + 1 → 0 < (lowW x hs i j (hs.getD q 0)).length → b ≤ hs.getD q 0 := fun b h1 h2 q hq hp => by
        by_cases e : q = k
        · rw [e] at hp ⊢; exact h2 hp
        · exact h1 q (by omega) hp
      have hstep : ∃ best', spec_l11Peak_B0 ((hs, i, j, x, best, (k : Int), ()), ()) = some (.inl ((hs, i, j, x, best', ((k + 1 : Nat) : Int), ()), ())) ∧ Best x hs i j best' (k + 1) := by
        rw [spec_l11Peak_B0_at]
        simp only [bif_decide, Int.toNat_natCast, guardB, hin, cond_true, l1]
        rw [if_pos (show (k : Int) < (hs.length : Int) by omega), w64_succ (show k < 4611686018427387904 by omega)]
        by_cases hp : 0 < (lowW x hs i j (hs.getD k 0)).length
        · rw [if_pos (show (0 : Int) < ((lowW x hs i j (hs.getD k 0)).length : Int) by omega)]
          by_cases hb0 : best < 0
          · rw [if_pos hb0]
            refine ⟨_, rfl, .inr ⟨hnn, ⟨k, by omega, rfl⟩, hp, hext _ (fun q hq hq' => ?_) (fun _ => Int.le_refl _)⟩⟩
            rcases hb with ⟨_, hb⟩ | ⟨hb, _⟩
            · exact absurd hq' (hb q hq)
            · omega
          · rw [if_neg hb0]
            rcases hb with ⟨hb, _⟩ | ⟨g1, ⟨q0, g2, g2'⟩, g3, g4⟩
            · omega
            by_cases hb1 : hs.getD k 0 < best
            · rw [if_pos hb1]
              exact ⟨_, rfl, .inr ⟨hnn, ⟨k, by omega, rfl⟩, hp, hext _ (fun q hq hq' => by have := g4 q hq hq'; omega) (fun _ => Int.le_refl _)⟩⟩
            · rw [if_neg hb1]
              exact ⟨best, rfl, .inr ⟨g1, ⟨q0, by omega, g2'⟩, g3, hext _ g4 (fun _ => by omega)⟩⟩
        · rw [if_neg (show ¬ (0 : Int) < ((lowW x hs i j (hs.getD k 0)).length : Int) by omega)]
          have : Best x hs i j best (k + 1) := by
            rcases hb with ⟨hb, hb'⟩ | ⟨g1, ⟨q0, g2, g2'⟩, g3, g4⟩
            · left
              refine ⟨hb, fun q hq => ?_⟩
              by_cases e : q = k
              · rw [e]; exact hp
              · exact hb' q (by omega)
            · exact .inr ⟨g1, ⟨q0, by omega, g2'⟩, g3, hext _ g4 (fun h => absurd h hp)⟩
          by_cases hb0 : best < 0
          · rw [if_pos hb0]; exact ⟨_, rfl, this⟩
          · rw [if_neg hb0]
            by_cases hb1 : hs.getD k 0 < best
            · rw [if_pos hb1]; exact ⟨_, rfl, this⟩
            · rw [if_neg hb1]; exact ⟨_, rfl, this⟩
      obtain ⟨best', s1, s2⟩ := hstep
      obtain ⟨b, b1, b2⟩ := ih (k + 1) best' (by omega) s2
      exact ⟨b, loop_step s1 b1, b2⟩
  obtain ⟨b, b1, b2⟩ := key hs.length 0 (-1) (by omega) (.inl ⟨rfl, fun q hq => by omega⟩)
  refine ⟨b, ?_, b2⟩
  simp only [spec_l11Peak]
  erw [b1]
theorem first_low {ts : List Int} (hts : ts.length ≤ 1048576) : ∀ d k, k + d = ts.length → (∃ q, k ≤ q ∧ q < ts.length ∧ 0 < (lowW x hs i j (ts.getD q 0)).length ∧ (∀ p, k ≤ p → p < q → ¬ 0 < (lowW x hs i j (ts.getD p 0)).length) ∧ loopO impl_Space_lowWay_B1 ((hs, i, j, x, ts, (ts.length : Int), (k : Int), ()), ()) = some (.inl ((lowW x hs i j (ts.getD q 0), true, ()), ()))) ∨
    ((∀ p, k ≤ p → p < ts.length → ¬ 0 < (lowW x hs i j (ts.getD p 0)).length) ∧ loopO impl_Space_lowWay_B1 ((hs, i, j, x, ts, (ts.length : Int), (k : Int), ()), ()) = some (.inr ((), ()))) := by
  intro d
  induction d with
  | zero =>
    intro k hk
    right
    refine ⟨fun p h1 h2 => by omega, loop_end ?_⟩
    rw [impl_Space_lowWay_B1_at]
    simp only [bif_decide]
    rw [if_neg (by omega)]
  | succ d ih =>
    intro k hk
    obtain ⟨_, l2, _⟩ := lowW_facts hF hsp hl i j (ts.getD k 0)
    have l2 := l2 ts k (by omega) hts rfl
    by_cases hp : 0 < (lowW x hs i j (ts.getD k 0)).length
    · left
      rw [if_pos hp] at l2
      exact ⟨k, Nat.le_refl _, by omega, hp, fun p h1 h2 => by omega, loop_end l2⟩
    · rw [if_neg hp] at l2
      rcases ih (k + 1) (by omega) with ⟨q, q1, q2, q3, q4, q5⟩ | ⟨q1, q2⟩
      · left
        refine ⟨q, by omega, q2, q3, fun p h1 h2 => ?_, loop_step l2 q5⟩
        by_cases e : p = k
        · rw [e]; exact hp
        · exact q4 p (by omega) h2
      · right
        refine ⟨fun p h1 h2 => ?_, loop_step l2 q2⟩
        by_cases e : p = k
        · rw [e]; exact hp
        · exact q1 p (by omega) h2
end
theorem max_of : ∀ {l : List Int}, l ≠ [] → ∃ m ∈ l, ∀ y ∈ l, y ≤ m
  | [], h => absurd rfl h
  | [a], _ => ⟨a, by simp, fun y hy => by have : y = a := by simpa using hy
                                          omega⟩
  | a :: b :: l, _ => by
    obtain ⟨m, h1, h2⟩ := max_of (l := b :: l) (by simp)
    by_cases h : m ≤ a
    · exact ⟨a, by simp, fun y hy => by
        rcases List.mem_cons.1 hy with hy | hy
        · omega
        · have := h2 y hy; omega⟩
    · exact ⟨m, by simp only [List.mem_cons] at h1 ⊢; exact .inr h1, fun y hy => by
        rcases List.mem_cons.1 hy with hy | hy
        · omega
        · exact h2 y hy⟩
theorem getD_of_mem {l : List Int} {v : Int} (h : v ∈ l) : ∃ q, q < l.length ∧ l.getD q 0 = v := by
  obtain ⟨q, hq, e⟩ := List.getElem_of_mem h
  exact ⟨q, hq, by rw [getD_at hq]; exact e⟩
theorem ends_low {x : List (List Int) × List (Int × Int)} {hs : List Int} (hF : Few x) (hsp : spaceB x = true) (hl : hs.length = x.1.length) {i j : Int} (hi : 0 ≤ i ∧ i < x.1.length) (hj : 0 ≤ j ∧ j < x.1.length) :
    (∃ t ∈ hs, 0 < (lowW x hs i j t).length) ↔ Rch (listsP x.2 x.1.length) i j := by
  have hsp' := hsp
  simp only [spaceB, Bool.and_eq_true, decide_eq_true_eq] at hsp'
  obtain ⟨_, h6, _, hp⟩ := hsp'
  have hS := pairsB_ok hp
  have hL := rds_lists hS h6
  have hsy := lists_symm hS
  constructor
  · rintro ⟨t, ht, h⟩
    obtain ⟨_, _, l3, _⟩ := lowW_facts hF hsp hl i j t
    obtain ⟨a1, a2, a3⟩ := l3.1 h
    have hus := under_sorted t hs
    have hum : ∀ v ∈ under t hs, 0 ≤ v ∧ v < x.1.length := fun v hv => by have := under_mem hv; omega
    obtain ⟨c1, c2⟩ := (cntLt_mem hus).1 a2
    obtain ⟨d1, d2⟩ := (cntLt_mem hus).1 a1
    have := rch_up hus hS h6 hp hum (p := ((cntLt j (under t hs) : Nat) : Int)) (by omega) a3
    rw [Int.toNat_natCast, Int.toNat_natCast, c2, d2] at this
    exact this.symm hL hsy hj
  · intro h
    have hne : hs ≠ [] := fun e => by rw [e] at hl; simp at hl; omega
    obtain ⟨t, ht, hmax⟩ := max_of hne
    obtain ⟨_, _, l3, _⟩ := lowW_facts hF hsp hl i j t
    obtain ⟨u1, u2⟩ := under_all hmax
    have hall : ∀ k : Nat, k < x.1.length → (k : Int) ∈ under t hs ∧ cntLt (k : Int) (under t hs) = k := fun k hk => u2 k (by omega)
    obtain ⟨i1, i2⟩ := hall i.toNat (by omega)
    obtain ⟨j1, j2⟩ := hall j.toNat (by omega)
    rw [Int.toNat_of_nonneg hi.1] at i1 i2
    rw [Int.toNat_of_nonneg hj.1] at j1 j2
    refine ⟨t, ht, l3.2 ⟨i1, j1, ?_⟩⟩
    rw [indS_all hall (fun e he => steps_mem hS he), u1, hl, i2, j2, Int.toNat_of_nonneg hi.1, Int.toNat_of_nonneg hj.1]
    exact h.symm hL hsy hi
theorem lowWay_eq {x : List (List Int) × List (Int × Int)} {hs : List Int} (hF : Few x) (hsp : spaceB x = true) (hl : hs.length = x.1.length) (i j : Int) :
    (∃ t ∈ hs, 0 < (lowW x hs i j t).length ∧ (∀ y ∈ hs, 0 < (lowW x hs i j y).length → t ≤ y) ∧ impl_Space_lowWay (x, hs, i, j, ()) () = some ((lowW x hs i j t, true, ()), ())) ∨
    ((∀ y ∈ hs, ¬ 0 < (lowW x hs i j y).length) ∧ impl_Space_lowWay (x, hs, i, j, ()) () = some (([], false, ()), ())) := by
  have hn := hF.states
  obtain ⟨ts, hts⟩ : ∃ ts, Lib.compact (hs.mergeSort fun a b => decide (a ≤ b)) = ts := ⟨_, rfl⟩
  have hmem : ∀ v, v ∈ ts ↔ v ∈ hs := fun v => by rw [← hts, compact_mem]; exact (List.mergeSort_perm hs _).mem_iff
  have hsort : ts.Pairwise (· ≤ ·) := by rw [← hts]; exact compact_sorted _ (sort_sorted hs)
  have hlen : ts.length ≤ 1048576 := by
    rw [← hts, compact_is, List.length_map]
    refine Nat.le_trans (List.length_filter_le _ _) ?_
    simp; omega
  have run : ∀ o, loopO impl_Space_lowWay_B1 ((hs, i, j, x, ts, (ts.length : Int), 0, ()), ()) = some o → impl_Space_lowWay (x, hs, i, j, ()) () = (match (some o : Option (impl_Space_lowWay_O1.P)) with | some (.inl ((t8, t9, ()), ())) => some ((t8, t9, ()), ()) | some (.inr ((), ())) => some ((([] : (List Int)), false, ()), ()) | none => none) := by
    intro o ho
    simp only [impl_Space_lowWay, slices_Sorted_int, slices_Compact_int_int, sortedFn, compactFn]
    rw [guardB_true (show decide (List.length hs * 8 ≤ 140737488351232) = true by simp only [decide_eq_true_eq]; omega)]
    simp only [hts]
    erw [ho]
    rcases o with ⟨⟨a, b, _⟩, _⟩ | ⟨_, _⟩ <;> rfl
  rcases first_low hF hsp hl i j hlen ts.length 0 (by omega) with ⟨q, _, q2, q3, q4, q5⟩ | ⟨q1, q2⟩
  · left
    refine ⟨ts.getD q 0, (hmem _).1 (getD_in q2), q3, fun y hy hp => ?_, run _ q5⟩
    obtain ⟨p, hp1, hp2⟩ := getD_of_mem ((hmem y).2 hy)
    by_cases e : p < q
    · exact absurd (by rw [hp2]; exact hp) (q4 p (Nat.zero_le _) e)
    · by_cases e2 : p = q
      · rw [← hp2, e2]; exact Int.le_refl _
      · have := List.pairwise_iff_getElem.1 hsort q p q2 hp1 (by omega)
        rw [← hp2, getD_at q2, getD_at hp1]; exact this
  · right
    refine ⟨fun y hy => ?_, run _ q2⟩
    obtain ⟨p, hp1, hp2⟩ := getD_of_mem ((hmem y).2 hy)
    rw [← hp2]
    exact q1 p (Nat.zero_le _) hp1
theorem l2Place_eq (x : List (List Int) × List (Int × Int)) (i : Int) (hF : Few x) : spec_l2Place (x, i, ()) () = some (((spaceB x && inR i 0 ((x.1.length : Int) - 1)), ()), ()) := by
  have hn := hF.states
  simp only [spec_l2Place, l2Space_eq x hF, l1In_eq _ _ _, w64_of (x := (x.1.length : Int) - 1) (by omega) (by omega)]
  cases spaceB x <;> rfl
/-- both answer alike; with a peak, where there is one -/
theorem lowway_core (x : List (List Int) × List (Int × Int)) (l : List Int) (i j : Int) (hF : Few x) (hl' : l.length ≤ 1048576) :
    (impl_LowWay (x, l, i, j, ()) () = some (([], false, ()), ()) ∧ spec_l11Ends (x, l, i, j, ()) () = some ((false, ()), ())) ∨
    ∃ t, spaceB x = true ∧ loadsB x.1.length l = true ∧ (0 ≤ i ∧ i < x.1.length) ∧ (0 ≤ j ∧ j < x.1.length) ∧ t ∈ l ∧ 0 < (lowW x l i j t).length ∧ (∀ y ∈ l, 0 < (lowW x l i j y).length → t ≤ y) ∧
      impl_LowWay (x, l, i, j, ()) () = some ((lowW x l i j t, true, ()), ()) ∧
      spec_l11Ends (x, l, i, j, ()) () = some ((true, ()), ()) ∧ spec_l11Peak (x, l, i, j, ()) () = some ((t, ()), ()) := by
  have hn := hF.states
  have pl : ∀ v : Int, inR v 0 ((x.1.length : Int) - 1) = true ↔ 0 ≤ v ∧ v < x.1.length := fun v => by
    simp only [inR, Bool.and_eq_true, decide_eq_true_eq]; omega
  simp only [impl_LowWay, spec_l11Ends, spec_l11Heights, impl_isHigh, l2Space_eq x hF, IsSpace_eq x hF, l11Numbers_eq l x.1.length hl', areLoads_eq l x.1.length hl', l2Place_eq x _ hF, isPlace_eq x _ hn]
  cases hsp : spaceB x
  · exact .inl ⟨rfl, rfl⟩
  cases hld : loadsB x.1.length l
  · exact .inl ⟨rfl, rfl⟩
  cases hi : inR i 0 ((x.1.length : Int) - 1)
  · exact .inl ⟨rfl, rfl⟩
  cases hj : inR j 0 ((x.1.length : Int) - 1)
  · exact .inl ⟨rfl, rfl⟩
  have hi := (pl i).1 hi
  have hj := (pl j).1 hj
  have hl : l.length = x.1.length ∧ ∀ y ∈ l, loadB y = true := by
    simpa only [loadsB, Bool.and_eq_true, decide_eq_true_eq, List.all_eq_true] using hld
  have hsp' := hsp
  simp only [spaceB, Bool.and_eq_true, decide_eq_true_eq] at hsp'
  obtain ⟨_, h6, _, hp⟩ := hsp'
  have hS := pairsB_ok hp
  have hL := rds_lists hS h6
  obtain ⟨hfl, _⟩ := far_bf hL hi.1 hi.2
  obtain ⟨_, f2, _⟩ := far_facts hL hi.1 hi.2
  have f2 := f2 j hj.1 hj.2
  have he := ends_low hF hsp hl.1 hi hj
  have hdist : spec_l2Dist (x, i, ()) () = some ((far (listsP x.2 x.1.length) i, ()), ()) := by
    simp only [spec_l2Dist, l2Lists_eq x hS hn hF.steps, spread_spec hL hn hi.1 hi.2]
  simp only [cond_true, Bool.true_and, Bool.not_true, cond_false, hdist, guardB, inb_true hj.1 (show j < ((far (listsP x.2 x.1.length) i).length : Int) by omega)]
  obtain ⟨best, p1, p2⟩ := peak_eq hF hsp hl.1 i j (fun y hy => by
    have := hl.2 y hy
    simp only [loadB, inR, Bool.and_eq_true, decide_eq_true_eq] at this
    exact this.1) (by omega)
  rcases lowWay_eq hF hsp hl.1 i j with ⟨t, t1, t2, t3, t4⟩ | ⟨n1, n2⟩
  · right
    have hr := f2.2 (he.1 ⟨t, t1, t2⟩)
    have hbt : best = t := by
      rcases p2 with ⟨_, p2⟩ | ⟨_, ⟨q, q1, q2⟩, p3, p4⟩
      · obtain ⟨q, q1, q2⟩ := getD_of_mem t1
        exact absurd (by rw [q2]; exact t2) (p2 q q1)
      · obtain ⟨q', q1', q2'⟩ := getD_of_mem t1
        have h1 := p4 q' q1' (by rw [q2']; exact t2)
        have h2 := t3 best (by rw [← q2]; exact getD_in q1) p3
        omega
    refine ⟨t, trivial, trivial, hi, hj, t1, t2, t3, ?_, ?_, by rw [← hbt]; exact p1⟩
    · rw [t4]
    · rw [decide_eq_true hr]
  · left
    have hr : ¬ 0 ≤ (far (listsP x.2 x.1.length) i).getD j.toNat 0 := fun h => by
      obtain ⟨t, t1, t2⟩ := he.2 (f2.1 h)
      exact n1 t t1 t2
    refine ⟨?_, ?_⟩
    · rw [n2]
    · rw [decide_eq_false hr]
theorem slices_BinarySearchFunc_2_int_2_int_2_int_vvf_impl_comparePairs_B0_at (x : List ((Int) × (Int))) (target : (Int) × (Int)) (n : Int) (i : Int) (j : Int) : slices_BinarySearchFunc_2_int_2_int_2_int_vvf_impl_comparePairs_B0 ((x, target, n, i, j, ()), ()) = bif (decide (i < j)) then (guardB (inb (w64 (Int.fdiv (IntKind.wrap .u64 (w64 (i + j))) (2 ^ (min 1 64)))) (List.length x)) (match impl_comparePairs ((List.getD x (Int.toNat (w64 (Int.fdiv (IntKind.wrap .u64 (w64 (i + j))) (2 ^ (min 1 64))))) ((0 : Int), (0 : Int))), target, ()) () with | some ((r, ()), ()) => (bif (decide (r < (0 : Int))) then (some (.inl ((x, target, n, (w64 ((w64 (Int.fdiv (IntKind.wrap .u64 (w64 (i + j))) (2 ^ (min 1 64)))) + (1 : Int))), j, ()), ()))) else (some (.inl ((x, target, n, i, (w64 (Int.fdiv (IntKind.wrap .u64 (w64 (i + j))) (2 ^ (min 1 64)))), ()), ())))) | none => none)) else (some (.inr ((x, target, n, i, ()), ()))) := rfl
theorem impl_IsWay_B0_at (list : List (Int)) (x : (List (List (Int))) × (List ((Int) × (Int)))) (t11 : List (Int)) (t12 : Int) (t13 : Int) : impl_IsWay_B0 ((list, x, t11, t12, t13, ()), ()) = bif (decide (t13 < t12)) then (guardB (inb t13 (List.length t11)) (match impl_Space_isPlace (x, (List.getD t11 (Int.toNat t13) (0 : Int)), ()) () with | some ((r, ()), ()) => (bif (!r) then (some (.inr (.inl ((false, true, ()), ())))) else (bif (decide ((0 : Int) < t13)) then (guardB (inb (w64 (t13 - (1 : Int))) (List.length list)) (match impl_Space_isStep (x, (List.getD list (Int.toNat (w64 (t13 - (1 : Int)))) (0 : Int)), (List.getD t11 (Int.toNat t13) (0 : Int)), ()) () with | some ((r2, ()), ()) => (bif (!r2) then (some (.inr (.inl ((false, true, ()), ())))) else (some (.inl ((list, x, t11, t12, (w64 (t13 + (1 : Int))), ()), ())))) | none => none)) else (some (.inl ((list, x, t11, t12, (w64 (t13 + (1 : Int))), ()), ()))))) | none => none)) else (some (.inr (.inr ((list, ()), ())))) := rfl
theorem impl_PeakOf_B0_at (heights : List (Int)) (peak : Int) (t21 : List (Int)) (t22 : Int) (t23 : Int) : impl_PeakOf_B0 ((heights, peak, t21, t22, t23, ()), ()) = bif (decide (t23 < t22)) then (guardB (inb t23 (List.length t21)) (guardB (inb (List.getD t21 (Int.toNat t23) (0 : Int)) (List.length heights)) (some (.inl ((heights, (bif decide (peak < (List.getD heights (Int.toNat (List.getD t21 (Int.toNat t23) (0 : Int))) (0 : Int))) then (List.getD heights (Int.toNat (List.getD t21 (Int.toNat t23) (0 : Int))) (0 : Int)) else peak), t21, t22, (w64 (t23 + (1 : Int))), ()), ()))))) else (some (.inr ((peak, ()), ()))) := rfl
theorem edgeB_irr (a : Int × Int) : edgeB a a = false := by simp [edgeB]
theorem edgeB_asymm {a b : Int × Int} (h : edgeB a b = true) : edgeB b a = false := by
  simp only [edgeB, Bool.or_eq_true, Bool.and_eq_true, decide_eq_true_eq] at h
  simp only [edgeB, Bool.or_eq_false_iff, Bool.and_eq_false_iff, decide_eq_false_iff_not]
  omega
theorem findPair {S : List (Int × Int)} (hs : S.Pairwise fun a b => edgeB a b = true) (hl : S.length ≤ 1048576) {e : Int × Int} (he : e ∈ S) : ∃ q : Int, slices_BinarySearchFunc_2_int_2_int_2_int_vvf_impl_comparePairs (S, e, ()) () = some ((q, true, ()), ()) := by
  obtain ⟨q, hq, eq⟩ := List.getElem_of_mem he
  have side : ∀ h (hh : h < S.length), edgeB (S.getD h (0, 0)) e = decide (h < q) := by
    intro h hh
    rw [getD_at hh]
    by_cases c : h < q
    · rw [decide_eq_true c, ← eq]; exact List.pairwise_iff_getElem.1 hs h q hh hq c
    · rw [decide_eq_false c]
      by_cases d : h = q
      · subst d; rw [← eq]; exact edgeB_irr _
      · have := List.pairwise_iff_getElem.1 hs q h hq hh (by omega)
        rw [← eq]; exact edgeB_asymm this
  have key : ∀ (d i j : Nat), j - i ≤ d → i ≤ q → q ≤ j → j ≤ S.length → loopO slices_BinarySearchFunc_2_int_2_int_2_int_vvf_impl_comparePairs_B0 ((S, e, (S.length : Int), (i : Int), (j : Int), ()), ()) = some ((S, e, (S.length : Int), (q : Int), ()), ()) := by
    intro d
    induction d with
    | zero =>
      intro i j hd h1 h2 h3
      refine loop_end ?_
      rw [slices_BinarySearchFunc_2_int_2_int_2_int_vvf_impl_comparePairs_B0_at]
      simp only [bif_decide]
      rw [if_neg (by omega), show i = q by omega]
    | succ d ih =>
      intro i j hd h1 h2 h3
      by_cases hij : i < j
      · have hh : (i + j) / 2 < S.length := by omega
        have hsd := side _ hh
        obtain ⟨r, r1, r2, _⟩ := comparePairs_eq (S.getD ((i + j) / 2) (0, 0)) e
        rw [hsd] at r2
        have step : slices_BinarySearchFunc_2_int_2_int_2_int_vvf_impl_comparePairs_B0 ((S, e, (S.length : Int), (i : Int), (j : Int), ()), ()) = some (.inl (if r < 0 then ((S, e, (S.length : Int), (((i + j) / 2 + 1 : Nat) : Int), (j : Int), ()), ()) else ((S, e, (S.length : Int), (i : Int), (((i + j) / 2 : Nat) : Int), ()), ()))) := by
          rw [slices_BinarySearchFunc_2_int_2_int_2_int_vvf_impl_comparePairs_B0_at]
          simp only [bif_decide, half_eq (show i + j < 4611686018427387904 by omega), Int.toNat_natCast, w64_succ (show (i + j) / 2 < 4611686018427387904 by omega)]
          rw [if_pos (by omega), guardB_true (by simp [inb] <;> omega), r1]
          simp only
          by_cases h : r < 0
          · rw [if_pos h, if_pos h]
          · rw [if_neg h, if_neg h]
        by_cases h : r < 0
        · rw [if_pos h] at step
          have : (i + j) / 2 < q := by
            rw [decide_eq_false (show ¬ (0 : Int) ≤ r by omega)] at r2
            simpa using r2
          exact loop_step step (ih _ _ (by omega) (by omega) h2 h3)
        · rw [if_neg h] at step
          have : ¬ (i + j) / 2 < q := by
            rw [decide_eq_true (show (0 : Int) ≤ r by omega)] at r2
            simpa using r2
          exact loop_step step (ih _ _ (by omega) h1 (by omega) (by omega))
      · refine loop_end ?_
        rw [slices_BinarySearchFunc_2_int_2_int_2_int_vvf_impl_comparePairs_B0_at]
        simp only [bif_decide]
        rw [if_neg (by omega), show i = q by omega]
  have k0 := key S.length 0 S.length (by omega) (Nat.zero_le _) (by omega) (Nat.le_refl _)
  obtain ⟨r, r1, _, r3⟩ := comparePairs_eq (S.getD q (0, 0)) e
  have hr : r = 0 := r3.2 (by rw [getD_at hq]; exact eq)
  refine ⟨(q : Int), ?_⟩
  simp only [slices_BinarySearchFunc_2_int_2_int_2_int_vvf_impl_comparePairs]
  erw [k0]
  simp only [bif_decide, Int.toNat_natCast]
  rw [if_pos (show ((q : Nat) : Int) < (S.length : Int) by omega), guardB_true (by simp [inb] <;> omega), r1]
  simp only [hr]
  rfl
theorem isStep_true (x : List (List Int) × List (Int × Int)) {n : Nat} (hp : pairsB x.2 n = true) (h2 : x.2.length ≤ 1048576) {v w : Int} (hv : 0 ≤ v) (hin : w ∈ nbr x.2 v.toNat) : impl_Space_isStep (x, v, w, ()) () = some ((true, ()), ()) := by
  have hS := pairsB_ok hp
  have hm : ((if w < v then w else v), (if v < w then w else v)) ∈ x.2 := by
    simp only [nbr, inc, outg, List.mem_append, List.mem_map, List.mem_filter, decide_eq_true_eq] at hin
    rcases hin with ⟨⟨a, b⟩, ⟨h1, h3⟩, h4⟩ | ⟨⟨a, b⟩, ⟨h1, h3⟩, h4⟩
    · have := steps_mem hS h1
      simp only at h3 h4 this
      rw [if_pos (by omega), if_neg (by omega), ← h4, show v = b by omega]; exact h1
    · have := steps_mem hS h1
      simp only at h3 h4 this
      rw [if_neg (by omega), if_pos (by omega), ← h4, show v = a by omega]; exact h1
  obtain ⟨q, hq⟩ := findPair (steps_pairwise hp) h2 hm
  simp only [impl_Space_isStep, impl_pair, bif_decide]
  erw [hq]
theorem isWay_true (x : List (List Int) × List (Int × Int)) (hF : Few x) (hsp : spaceB x = true) {W : List Int} (hW : WayIn x.1.length W) (hc : Chn (listsP x.2 x.1.length) W) (h0 : 0 < W.length) (hl : W.length ≤ 2097152) : impl_isWay (x, W, ()) () = some ((true, ()), ()) := by
  have hsp' := hsp
  simp only [spaceB, Bool.and_eq_true, decide_eq_true_eq] at hsp'
  obtain ⟨_, h6, _, hp⟩ := hsp'
  have key := loop_count (B := impl_IsWay_B0) (fun k => ((W, x, W, (W.length : Int), (k : Int), ()), ())) W.length (.inr ((W, ()), ())) ?_ ?_ 0 (Nat.zero_le _)
  · simp only [impl_isWay, impl_IsWay, IsSpace_eq x hF, hsp, Bool.not_true, cond_false]
    erw [key]
    simp only
    rw [decide_eq_true (show (0 : Int) < (W.length : Int) by omega)]
  · intro k hk
    have hw := hW _ (getD_in hk)
    rw [impl_IsWay_B0_at]
    simp only [bif_decide, Int.toNat_natCast, isPlace_eq x _ hF.states]
    rw [if_pos (by omega), guardB_true (by simp [inb] <;> omega), show inR (W.getD k 0) 0 ((x.1.length : Int) - 1) = true by simp only [inR, Bool.and_eq_true, decide_eq_true_eq]; omega]
    simp only [Bool.not_true, cond_false]
    by_cases hk0 : 0 < k
    · have hw' := hW _ (getD_in (show k - 1 < W.length by omega))
      have hch := hc (k - 1) (by omega)
      rw [show k - 1 + 1 = k by omega, show (listsP x.2 x.1.length).getD (W.getD (k - 1) 0).toNat [] = nbr x.2 (W.getD (k - 1) 0).toNat from rows_get (by omega) _] at hch
      rw [if_pos (by omega), w64_pred (by omega) hk0, guardB_true (by simp [inb] <;> omega), Int.toNat_natCast, isStep_true x hp hF.steps hw'.1 hch, w64_succ (by omega)]
      rfl
    · rw [if_neg (by omega), w64_succ (by omega)]
  · rw [impl_IsWay_B0_at]; simp
def pk (hs : List Int) (R : List Int) : Int := R.foldl (fun m v => if m < hs.getD v.toNat 0 then hs.getD v.toNat 0 else m) 0
theorem pk_snoc (hs : List Int) {R : List Int} {i : Nat} (h : i < R.length) : pk hs (R.take (i + 1)) = if pk hs (R.take i) < hs.getD (R.getD i 0).toNat 0 then hs.getD (R.getD i 0).toNat 0 else pk hs (R.take i) := by
  unfold pk; rw [take_one h 0, List.foldl_append]; rfl
theorem pk_facts (hs : List Int) (t : Int) : ∀ (R : List Int) (m : Int), m ≤ t → (∀ v ∈ R, hs.getD v.toNat 0 ≤ t) → (m = t ∨ ∃ v ∈ R, hs.getD v.toNat 0 = t) → R.foldl (fun m v => if m < hs.getD v.toNat 0 then hs.getD v.toNat 0 else m) m = t
  | [], m, _, _, h => by
    rcases h with h | ⟨v, hv, _⟩
    · exact h
    · simp at hv
  | v :: R, m, hm, hR, h => by
    have hv := hR v (by simp)
    refine pk_facts hs t R (if m < hs.getD v.toNat 0 then hs.getD v.toNat 0 else m) ?_ (fun u hu => hR u (by simp [hu])) ?_
    · split <;> omega
    · rcases h with h | ⟨u, hu, e⟩
      · left; rw [if_neg (by omega)]; exact h
      · rcases List.mem_cons.1 hu with hu | hu
        · subst hu
          left
          split <;> omega
        · exact .inr ⟨u, hu, e⟩
theorem PeakOf_eq (x : List (List Int) × List (Int × Int)) (hs : List Int) (hF : Few x) (hsp : spaceB x = true) (hld : loadsB x.1.length hs = true) (hl' : hs.length ≤ 1048576) {W : List Int} (hW : WayIn x.1.length W) (hc : Chn (listsP x.2 x.1.length) W) (h0 : 0 < W.length) (hl : W.length ≤ 2097152) : impl_PeakOf (x, hs, W, ()) () = some ((pk hs W, true, ()), ()) := by
  have hlen : hs.length = x.1.length := by
    simp only [loadsB, Bool.and_eq_true, decide_eq_true_eq] at hld; exact hld.1
  have key := loop_count (B := impl_PeakOf_B0) (fun k => ((hs, pk hs (W.take k), W, (W.length : Int), (k : Int), ()), ())) W.length ((pk hs W, ()), ()) ?_ ?_ 0 (Nat.zero_le _)
  · simp only [impl_PeakOf, impl_isHigh, IsSpace_eq x hF, hsp, areLoads_eq hs x.1.length hl', hld, isWay_true x hF hsp hW hc h0 hl, cond_true, Bool.not_true, cond_false]
    erw [key]
  · intro k hk
    have hw := hW _ (getD_in hk)
    rw [impl_PeakOf_B0_at]
    simp only [bif_decide, Int.toNat_natCast, pk_snoc hs hk]
    rw [if_pos (by omega), guardB_true (by simp [inb] <;> omega), guardB_true (inb_true hw.1 (by omega)), w64_succ (by omega)]
  · rw [impl_PeakOf_B0_at]; simp
theorem edge_down {u : List Int} (hs : u.Pairwise (· < ·)) {S : List (Int × Int)} {v w : Int} (hv : v ∈ u) (hw : w ∈ u) (hv0 : 0 ≤ v) (hin : w ∈ nbr S v.toNat) : ((cntLt w u : Nat) : Int) ∈ (listsP (indS u S) u.length).getD (((cntLt v u : Nat) : Int)).toNat [] := by
  have c := ((cntLt_mem hs).1 hv).1
  rw [Int.toNat_natCast, show (listsP (indS u S) u.length).getD (cntLt v u) [] = nbr (indS u S) (cntLt v u) from rows_get c _]
  simp only [nbr, inc, outg, List.mem_append, List.mem_map, List.mem_filter, decide_eq_true_eq] at hin ⊢
  have put : ∀ e ∈ S, e.1 ∈ u → e.2 ∈ u → (((cntLt e.1 u : Nat) : Int), ((cntLt e.2 u : Nat) : Int)) ∈ indS u S := fun e he h1 h2 => by
    refine List.mem_flatMap.2 ⟨e, he, ?_⟩
    unfold indE
    rw [if_pos ⟨h1, h2⟩]
    simp
  rcases hin with ⟨⟨a, b⟩, ⟨h1, h3⟩, h4⟩ | ⟨⟨a, b⟩, ⟨h1, h3⟩, h4⟩
  · simp only at h3 h4
    have hb : b = v := by omega
    subst h4 hb
    exact .inl ⟨_, ⟨put _ h1 hw hv, rfl⟩, rfl⟩
  · simp only at h3 h4
    have ha : a = v := by omega
    subst h4 ha
    exact .inr ⟨_, ⟨put _ h1 hv hw, rfl⟩, rfl⟩
theorem chain_rch {u : List Int} (hs : u.Pairwise (· < ·)) {S : List (Int × Int)} {n : Nat} {W : List Int} (hW : WayIn n W) (hu : ∀ w ∈ W, w ∈ u) (hc : Chn (listsP S n) W) : ∀ k, k < W.length → Rch (listsP (indS u S) u.length) ((cntLt (W.getD 0 0) u : Nat) : Int) ((cntLt (W.getD k 0) u : Nat) : Int)
  | 0, _ => .refl
  | k + 1, hk => by
    have ih := chain_rch hs hW hu hc k (by omega)
    have h1 := hc k hk
    have hw := hW _ (getD_in (show k < W.length by omega))
    rw [show (listsP S n).getD (W.getD k 0).toNat [] = nbr S (W.getD k 0).toNat from rows_get (by omega) _] at h1
    exact .step _ _ ih (edge_down hs (hu _ (getD_in (by omega))) (hu _ (getD_in hk)) hw.1 h1)
theorem underFrom_iff (t : Int) : ∀ (l : List Int) (k i : Nat), i < l.length → (((k + i : Nat) : Int) ∈ underFrom t k l ↔ l.getD i 0 ≤ t)
  | [], k, i, hi => by simp at hi
  | y :: l, k, i, hi => by
    have hne : ((k : Nat) : Int) ∉ underFrom t (k + 1) l := fun h => by have := underFrom_mem h; omega
    cases i with
    | zero =>
      simp only [underFrom, Nat.add_zero, List.getD_cons_zero]
      by_cases h : y ≤ t
      · rw [if_pos h]; simp [h]
      · rw [if_neg h]; simp [h, hne]
    | succ i =>
      have := underFrom_iff t l (k + 1) i (by simpa using hi)
      rw [show k + 1 + i = k + (i + 1) by omega] at this
      simp only [underFrom, List.getD_cons_succ]
      by_cases h : y ≤ t
      · rw [if_pos h, List.mem_cons, this]
        constructor
        · rintro (h | h)
          · omega
          · exact h
        · exact .inr
      · rw [if_neg h, this]
theorem under_iff {t v : Int} {l : List Int} (h0 : 0 ≤ v) (h : v < l.length) : v ∈ under t l ↔ l.getD v.toNat 0 ≤ t := by
  have := underFrom_iff t l 0 v.toNat (by omega)
  rw [Nat.zero_add, Int.toNat_of_nonneg h0] at this
  exact this
theorem pk_low {x : List (List Int) × List (Int × Int)} {hs : List Int} (hF : Few x) (hsp : spaceB x = true) (hld : loadsB x.1.length hs = true) {i j : Int} (hi : 0 ≤ i ∧ i < x.1.length) (hj : 0 ≤ j ∧ j < x.1.length) {t : Int} (ht : t ∈ hs) (h0 : 0 < (lowW x hs i j t).length) (hmin : ∀ y ∈ hs, 0 < (lowW x hs i j y).length → t ≤ y) : pk hs (lowW x hs i j t) = t := by
  have hl : hs.length = x.1.length ∧ ∀ y ∈ hs, loadB y = true := by
    simpa only [loadsB, Bool.and_eq_true, decide_eq_true_eq, List.all_eq_true] using hld
  have hsp' := hsp
  simp only [spaceB, Bool.and_eq_true, decide_eq_true_eq] at hsp'
  obtain ⟨_, h6, _, hp⟩ := hsp'
  obtain ⟨_, _, l3, l4, l5, l6⟩ := lowW_facts hF hsp hl.1 i j t
  obtain ⟨c1, c2, c3, c4⟩ := l6 h0
  have t0 : 0 ≤ t := by
    have := hl.2 t ht
    simp only [loadB, inR, Bool.and_eq_true, decide_eq_true_eq] at this
    exact this.1
  have hle : ∀ v ∈ lowW x hs i j t, hs.getD v.toNat 0 ≤ t := fun v hv => by
    have := l5 v hv
    exact (under_iff this.1 (by omega)).1 (c4 v hv)
  refine pk_facts hs t _ 0 t0 hle (.inr ?_)
  refine Classical.byContradiction fun hno => ?_
  have hlt : ∀ v ∈ lowW x hs i j t, hs.getD v.toNat 0 < t := fun v hv => by
    have h1 := hle v hv
    have h2 : hs.getD v.toNat 0 ≠ t := fun e => hno ⟨v, hv, e⟩
    omega
  have hne : (lowW x hs i j t).map (fun v => hs.getD v.toNat 0) ≠ [] := fun e => by
    have := congrArg List.length e
    simp at this
    rw [this] at h0; simp at h0
  obtain ⟨m, m1, m2⟩ := max_of hne
  obtain ⟨v0, v1, v2⟩ := List.mem_map.1 m1
  have hv0 := l5 v0 v1
  have hm : m ∈ hs := by rw [← v2]; exact getD_in (by omega)
  have hmt : m < t := by rw [← v2]; exact hlt v0 v1
  have hu' : ∀ w ∈ lowW x hs i j t, w ∈ under m hs := fun w hw => by
    have := l5 w hw
    exact (under_iff this.1 (by omega)).2 (m2 _ (List.mem_map.2 ⟨w, hw, rfl⟩))
  have hus := under_sorted m hs
  have hr := chain_rch hus l5 hu' c1 ((lowW x hs i j t).length - 1) (by omega)
  rw [c2, c3] at hr
  have hiu : i ∈ under m hs := by rw [← c2]; exact hu' _ (getD_in h0)
  have hju : j ∈ under m hs := by rw [← c3]; exact hu' _ (getD_in (by omega))
  have hS' := pairsB_ok (indS_pairs hus hp)
  have hL' := rds_lists hS' (Nat.le_trans (indS_len _ x.2) h6)
  have hcm := ((cntLt_mem hus).1 hiu).1
  have hr' := hr.symm hL' (lists_symm hS') (by omega)
  obtain ⟨_, _, n3, _⟩ := lowW_facts hF hsp hl.1 i j m
  have := hmin m hm (n3.2 ⟨hiu, hju, hr'⟩)
  omega
theorem FnExactLeastPeak_true (x : List (List Int) × List (Int × Int)) (l : List Int) (i j : Int) (hx : Sm (.prod (.list (.list I)) (.list (.prod I I))) x) (hl : Sm (.list I) l) (hi : Sm I i) (hj : Sm I j) : laws_FnExactLeastPeak (x, l, i, j, ()) () = some ((true, ()), ()) := by
  have hl := hl.1
  simp only [laws_FnExactLeastPeak, bif_decide]
  by_cases h1 : (1048576 : Int) < (l.length : Int)
  · rw [if_pos h1]
  rw [if_neg h1]
  have hl' : l.length ≤ 1048576 := by omega
  obtain ⟨r, e1, e2, e3, e4⟩ := szSpace_eq x 1048576 (by omega) (by omega) hx
  rw [e1]
  by_cases h2 : r < 0
  · simp only [if_pos h2]
  have hF := e3 (by omega)
  have main : ∃ (R : Int) (b : Bool), spec_LeastPeak (x, l, i, j, ()) () = some ((R, b, ()), ()) ∧ impl_LeastPeak (x, l, i, j, ()) () = some ((R, b, ()), ()) := by
    simp only [spec_LeastPeak, impl_LeastPeak]
    rcases lowway_core x l i j hF hl' with ⟨a2, a3⟩ | ⟨t, a1, a2, a3, a4, a5, a6, a7, a9, a10, a11⟩
    · exact ⟨0, false, by rw [a3]; rfl, by rw [a2]; rfl⟩
    · have hlen : l.length = x.1.length := by
        simp only [loadsB, Bool.and_eq_true, decide_eq_true_eq] at a2; exact a2.1
      obtain ⟨_, _, l3, l4, l5, l6⟩ := lowW_facts hF a1 hlen i j t
      obtain ⟨c1, _⟩ := l6 a6
      have p1 := PeakOf_eq x l hF a1 a2 hl' l5 c1 a6 l4
      rw [pk_low hF a1 a2 a3 a4 a5 a6 a7] at p1
      exact ⟨t, true, by rw [a10, a11]; rfl, by rw [a9]; simp only [Bool.not_true, cond_false, p1]⟩
  obtain ⟨R, b, s1, s2⟩ := main
  simp only [if_neg h2, toSpace_eq x hF, toIntS_eq l hl', s1, s2, eqSpace_eq x hF, eqIntS_eq l hl', Bool.not_true, cond_false, beq_self_eq_true, bne_self_eq_false]

end Go.Proofs.Ytolabkhcmcfnpaa.V
