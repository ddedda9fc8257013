/-
  What the reference and the program compute agrees: plain lemmas over numbers and lists.
-/
import Derived.Test.YtolabkhcmcfnpaaTFnExactIsJointPlan
import Derived.Test.YtolabkhcmcfnpaaE3
namespace Go.Proofs.Ytolabkhcmcfnpaa.V
open Go Go.Ve Go.Proofs
set_option linter.unusedVariables false
set_option linter.unusedSimpArgs false
theorem fold_len {n : Nat} (h : n ≤ 1048576) : (decide (0 ≤ (n : Int)) && decide ((n : Int) ≤ (n : Int)) && decide ((n : Int) * 8 ≤ 140737488355328)) = true ∧ (decide (0 ≤ (n : Int)) && decide ((n : Int) ≤ (n : Int)) && decide ((n : Int) * 24 ≤ 140737488355328)) = true ∧ (decide (0 ≤ (n : Int)) && decide ((n : Int) ≤ (n : Int)) && decide ((n : Int) * 16 ≤ 140737488355328)) = true := by
  refine ⟨?_, ?_, ?_⟩ <;> simp <;> omega

theorem toIntS_eq (l : List Int) (hl : l.length ≤ 1048576) : laws_toIntS (l, ()) () = some ((l, ()), ()) := by
  simp only [laws_toIntS, guardB_true (fold_len hl).1, Int.toNat_natCast]
  have key : loopO laws_toIntS_B0 ((l, fill (fun j => l.getD j 0) 0 l.length 0, ((0 : Nat) : Int), ()), ()) = some ((fill (fun j => l.getD j 0) 0 l.length l.length, ()), ()) := by
    refine loop_count (fun i => ((l, fill (fun j => l.getD j 0) 0 l.length i, (i : Int), ()), ())) l.length _ (fun i hi => ?_) ?_ 0 (Nat.zero_le _)
    · simp only [laws_toIntS_B0, bif_decide, if_pos (show (i : Int) < (l.length : Int) by omega), fill_len, guardB_true (inb_true (Int.natCast_nonneg i) (show (i : Int) < (l.length : Int) by omega)), Int.toNat_natCast, fill_set hi, w64_succ (show i < 4611686018427387904 by omega)]
    · simp only [laws_toIntS_B0, bif_decide, if_neg (show ¬ (l.length : Int) < (l.length : Int) by omega)]
  rw [fill_zero, fill_all, range_getD] at key
  erw [key]

theorem toIntSS_eq (l : List (List Int)) (hl : l.length ≤ 1048576) (h : ∀ x ∈ l, x.length ≤ 1048576) : laws_toIntSS (l, ()) () = some ((l, ()), ()) := by
  simp only [laws_toIntSS, guardB_true (fold_len hl).2.1, Int.toNat_natCast]
  have key : loopO laws_toIntSS_B0 ((l, fill (fun j => l.getD j []) [] l.length 0, ((0 : Nat) : Int), ()), ()) = some ((fill (fun j => l.getD j []) [] l.length l.length, ()), ()) := by
    refine loop_count (fun i => ((l, fill (fun j => l.getD j []) [] l.length i, (i : Int), ()), ())) l.length _ (fun i hi => ?_) ?_ 0 (Nat.zero_le _)
    · simp only [laws_toIntSS_B0, bif_decide, if_pos (show (i : Int) < (l.length : Int) by omega), fill_len, guardB_true (inb_true (Int.natCast_nonneg i) (show (i : Int) < (l.length : Int) by omega)), Int.toNat_natCast]
      rw [toIntS_eq (l.getD i []) (by rw [getD_at hi]; exact h _ (List.getElem_mem hi))]
      simp only [fill_set (f := fun j => l.getD j []) hi, w64_succ (show i < 4611686018427387904 by omega)]
    · simp only [laws_toIntSS_B0, bif_decide, if_neg (show ¬ (l.length : Int) < (l.length : Int) by omega)]
  rw [fill_zero, fill_all, range_getD] at key
  erw [key]

theorem toIntA2_eq (a : Int × Int) : laws_toIntA2 (a, ()) () = some ((a, ()), ()) := by
  obtain ⟨x, y⟩ := a
  have e0 : laws_toIntA2_B0 (((x, y), 0, ()), ((0, 0), (0, 0), ())) = some (.inl (((x, y), 1, ()), ((0, 0), (x, 0), ()))) := rfl
  have e1 : laws_toIntA2_B0 (((x, y), 1, ()), ((0, 0), (x, 0), ())) = some (.inl (((x, y), 2, ()), ((0, 0), (x, y), ()))) := rfl
  have e2 : laws_toIntA2_B0 (((x, y), 2, ()), ((0, 0), (x, y), ())) = some (.inr ((), ((0, 0), (x, y), ()))) := rfl
  simp only [laws_toIntA2, loop_step e0 (loop_step e1 (loop_end e2))]

theorem toIntA2S_eq (l : List (Int × Int)) (hl : l.length ≤ 1048576) : laws_toIntA2S (l, ()) () = some ((l, ()), ()) := by
  simp only [laws_toIntA2S, guardB_true (fold_len hl).2.2, Int.toNat_natCast]
  have key : loopO laws_toIntA2S_B0 ((l, fill (fun j => l.getD j (0, 0)) (0, 0) l.length 0, ((0 : Nat) : Int), ()), ()) = some ((fill (fun j => l.getD j (0, 0)) (0, 0) l.length l.length, ()), ()) := by
    refine loop_count (fun i => ((l, fill (fun j => l.getD j (0, 0)) (0, 0) l.length i, (i : Int), ()), ())) l.length _ (fun i hi => ?_) ?_ 0 (Nat.zero_le _)
    · simp only [laws_toIntA2S_B0, bif_decide, if_pos (show (i : Int) < (l.length : Int) by omega), fill_len, guardB_true (inb_true (Int.natCast_nonneg i) (show (i : Int) < (l.length : Int) by omega)), Int.toNat_natCast]
      rw [toIntA2_eq]
      simp only [fill_set (f := fun j => l.getD j (0, 0)) hi, w64_succ (show i < 4611686018427387904 by omega)]
    · simp only [laws_toIntA2S_B0, bif_decide, if_neg (show ¬ (l.length : Int) < (l.length : Int) by omega)]
  rw [fill_zero, fill_all, range_getD] at key
  erw [key]

theorem allUpto_true {n : Nat} : allUpto (fun _ => true) n = true := allUpto_iff.2 fun _ _ => rfl
theorem eqIntS_gen (l : List Int) (hl : l.length ≤ 2000000000000) : laws_eqIntS (l, l, ()) () = some ((true, ()), ()) := by
  have key := loop_all (B := laws_eqIntS_B0) (fun i => ((l, l, (i : Int), ()), ())) (fun _ => true) l.length (.inl ((false, ()), ())) (.inr ((), ())) (fun i hi _ => by
    simp [laws_eqIntS_B0, inb_nat, hi, guardB, w64_succ (show i < 4611686018427387904 by omega)]) (by simp [laws_eqIntS_B0])
  rw [allUpto_true] at key
  simp only [laws_eqIntS, bne_self_eq_false, cond_false]
  rw [show (0 : Int) = ((0 : Nat) : Int) from rfl, key]
  rfl
theorem eqIntS_eq (l : List Int) (hl : l.length ≤ 1048576) : laws_eqIntS (l, l, ()) () = some ((true, ()), ()) := eqIntS_gen l (by omega)
theorem eqIntSS_gen (l : List (List Int)) (hl : l.length ≤ 2000000000000) (h : ∀ x ∈ l, x.length ≤ 1048576) : laws_eqIntSS (l, l, ()) () = some ((true, ()), ()) := by
  have key := loop_all (B := laws_eqIntSS_B0) (fun i => ((l, l, (i : Int), ()), ())) (fun _ => true) l.length (.inl ((false, ()), ())) (.inr ((), ())) (fun i hi _ => by
    simp only [laws_eqIntSS_B0, bif_decide, if_pos (show (i : Int) < (l.length : Int) by omega), guardB_true (inb_true (Int.natCast_nonneg i) (show (i : Int) < (l.length : Int) by omega)), Int.toNat_natCast]
    rw [eqIntS_eq (l.getD i []) (by rw [getD_at hi]; exact h _ (List.getElem_mem hi))]
    simp [w64_succ (show i < 4611686018427387904 by omega)]) (by simp [laws_eqIntSS_B0])
  rw [allUpto_true] at key
  simp only [laws_eqIntSS, bne_self_eq_false, cond_false]
  rw [show (0 : Int) = ((0 : Nat) : Int) from rfl, key]
  rfl
theorem eqIntSS_eq (l : List (List Int)) (hl : l.length ≤ 1048576) (h : ∀ x ∈ l, x.length ≤ 1048576) : laws_eqIntSS (l, l, ()) () = some ((true, ()), ()) := eqIntSS_gen l (by omega) h
theorem eqIntA2_eq (a : Int × Int) : laws_eqIntA2 (a, a, ()) () = some ((true, ()), ()) := by
  obtain ⟨x, y⟩ := a
  have e0 : laws_eqIntA2_B0 (((x, y), (x, y), 0, ()), ()) = some (.inl (((x, y), (x, y), 1, ()), ())) := by
    simp [laws_eqIntA2_B0, guardB]; rfl
  have e1 : laws_eqIntA2_B0 (((x, y), (x, y), 1, ()), ()) = some (.inl (((x, y), (x, y), 2, ()), ())) := by
    simp [laws_eqIntA2_B0, guardB]; rfl
  have e2 : laws_eqIntA2_B0 (((x, y), (x, y), 2, ()), ()) = some (.inr (.inr ((), ()))) := rfl
  simp only [laws_eqIntA2, loop_step e0 (loop_step e1 (loop_end e2))]
theorem eqIntA2S_eq (l : List (Int × Int)) (hl : l.length ≤ 1048576) : laws_eqIntA2S (l, l, ()) () = some ((true, ()), ()) := by
  have key := loop_all (B := laws_eqIntA2S_B0) (fun i => ((l, l, (i : Int), ()), ())) (fun _ => true) l.length (.inl ((false, ()), ())) (.inr ((), ())) (fun i hi _ => by
    simp only [laws_eqIntA2S_B0, bif_decide, if_pos (show (i : Int) < (l.length : Int) by omega), guardB_true (inb_true (Int.natCast_nonneg i) (show (i : Int) < (l.length : Int) by omega)), Int.toNat_natCast]
    rw [eqIntA2_eq]
    simp [w64_succ (show i < 4611686018427387904 by omega)]) (by simp [laws_eqIntA2S_B0])
  rw [allUpto_true] at key
  simp only [laws_eqIntA2S, bne_self_eq_false, cond_false]
  rw [show (0 : Int) = ((0 : Nat) : Int) from rfl, key]
  rfl

/-- what is asked of a Space that is looked at: not too great -/
structure Few (x : List (List Int) × List (Int × Int)) : Prop where
  states : x.1.length ≤ 1048576
  state : ∀ s ∈ x.1, s.length ≤ 1048576
  steps : x.2.length ≤ 1048576
theorem szIntS_eq (l : List Int) (n : Int) (h0 : 0 ≤ n) (hn : n ≤ 1048576) (hl : l.length ≤ 140737488351232) : laws_szIntS (l, n, ()) () = some (((if (l.length : Int) ≤ n then n - l.length else -1), ()), ()) := by
  simp only [laws_szIntS, w64_of (x := n - (l.length : Int)) (by omega) (by omega), bif_decide]
  by_cases h : (l.length : Int) ≤ n
  · rw [if_neg (by omega), if_pos h]
  · rw [if_pos (by omega), if_neg h]
theorem szIntA2S_eq (l : List (Int × Int)) (n : Int) (h0 : 0 ≤ n) (hn : n ≤ 1048576) (hl : l.length ≤ 140737488351232) : laws_szIntA2S (l, n, ()) () = some (((if (l.length : Int) ≤ n then n - l.length else -1), ()), ()) := by
  simp only [laws_szIntA2S, w64_of (x := n - (l.length : Int)) (by omega) (by omega), bif_decide]
  by_cases h : (l.length : Int) ≤ n
  · rw [if_neg (by omega), if_pos h]
  · rw [if_pos (by omega), if_neg h]
theorem szIntSS_eq (l : List (List Int)) (n : Int) (h0 : 0 ≤ n) (hn : n ≤ 1048576) (hl : l.length ≤ 140737488351232) (hs : ∀ x ∈ l, x.length ≤ 140737488351232) :
    ∃ r : Int, laws_szIntSS (l, n, ()) () = some ((r, ()), ()) ∧ r ≤ 1048576 ∧ (0 ≤ r → (l.length : Int) ≤ n ∧ ∀ x ∈ l, (x.length : Int) ≤ n) ∧ (r < 0 → r = -1) := by
  simp only [laws_szIntSS, w64_of (x := n - (l.length : Int)) (by omega) (by omega), bif_decide]
  by_cases h : n - (l.length : Int) < 0
  · rw [if_pos h]; exact ⟨-1, rfl, by omega, fun h => by omega, fun _ => rfl⟩
  · rw [if_neg h]
    obtain ⟨q, h1, h2⟩ := loop_inv (B := laws_szIntSS_B0) (fun p => ∃ (m : Int) (i : Nat), p = ((l, m, (i : Int), ()), ()) ∧ 0 ≤ m ∧ m ≤ n ∧ i ≤ l.length ∧ ∀ j, j < i → ((l.getD j []).length : Int) ≤ n)
      (fun p => l.length - p.1.2.2.1.toNat) (fun q => match q with
        | .inl ((t, ()), ()) => (fun t : Int => t = -1) t
        | .inr ((m, ()), ()) => (fun m : Int => 0 ≤ m ∧ m ≤ n ∧ ∀ j, j < l.length → ((l.getD j []).length : Int) ≤ n) m) (by
      rintro p ⟨m, i, rfl, h3, h4, h5, h6⟩
      by_cases hi : i < l.length
      · simp only [laws_szIntSS_B0, bif_decide, if_pos (show (i : Int) < (l.length : Int) by omega), guardB_true (inb_true (Int.natCast_nonneg i) (show (i : Int) < (l.length : Int) by omega)), Int.toNat_natCast]
        rw [szIntS_eq (l.getD i []) m h3 (by omega) (by rw [getD_at hi]; exact hs _ (List.getElem_mem hi))]
        by_cases h7 : ((l.getD i []).length : Int) ≤ m
        · rw [if_pos h7]
          simp only [if_neg (show ¬ (m - ((l.getD i []).length : Int)) < 0 by omega), w64_succ (show i < 4611686018427387904 by omega)]
          refine .inl ⟨_, rfl, ⟨_, i + 1, rfl, by omega, by omega, by omega, fun j hj => ?_⟩, ?_⟩
          · rcases Nat.lt_or_ge j i with h | h
            · exact h6 j h
            · rw [show j = i by omega]; omega
          · simp only [Int.toNat_natCast]; omega
        · rw [if_neg h7]
          exact .inr ⟨_, rfl, rfl⟩
      · have hi : i = l.length := by omega
        subst hi
        simp only [laws_szIntSS_B0, bif_decide, if_neg (show ¬ (l.length : Int) < (l.length : Int) by omega)]
        exact .inr ⟨_, rfl, h3, h4, h6⟩) ((l, n - (l.length : Int), 0, ()), ()) ⟨n - (l.length : Int), 0, rfl, by omega, by omega, by omega, fun j hj => by omega⟩
    rw [h1]
    rcases q with ⟨⟨t, ⟨⟩⟩, ⟨⟩⟩ | ⟨⟨m, ⟨⟩⟩, ⟨⟩⟩
    · dsimp only at h2
      exact ⟨t, rfl, by omega, fun h => by omega, fun _ => h2⟩
    · dsimp only at h2
      refine ⟨m, rfl, by have := h2.2.1; omega, fun _ => ⟨by omega, fun x hx => ?_⟩, fun h => by have := h2.1; omega⟩
      obtain ⟨j, hj, rfl⟩ := List.getElem_of_mem hx
      have := h2.2.2 j hj
      rw [getD_at hj] at this
      exact this
theorem szSpace_eq (x : List (List Int) × List (Int × Int)) (n : Int) (h0 : 0 ≤ n) (hn : n ≤ 1048576) (hx : Sm (.prod (.list (.list I)) (.list (.prod I I))) x) :
    ∃ r : Int, laws_szSpace (x, n, ()) () = some ((r, ()), ()) ∧ r ≤ 1048576 ∧ (0 ≤ r → Few x) ∧ (r < 0 → r = -1) := by
  obtain ⟨a, b⟩ := x
  obtain ⟨⟨h1, h2⟩, h3, h4⟩ := hx
  obtain ⟨r, e1, e2, e3, e4⟩ := szIntSS_eq a n h0 hn h1 (fun x hx => (h2 x hx).1)
  simp only [laws_szSpace, e1, bif_decide]
  by_cases h : r < 0
  · rw [if_pos h]; exact ⟨-1, rfl, by omega, fun h => by omega, fun _ => rfl⟩
  · rw [if_neg h]
    have := e3 (by omega)
    rw [szIntA2S_eq b r (by omega) e2 h3]
    by_cases h5 : (b.length : Int) ≤ r
    · rw [if_pos h5]
      simp only [if_neg (show ¬ (r - (b.length : Int)) < 0 by omega)]
      exact ⟨_, rfl, by omega, fun _ => ⟨by show a.length ≤ _; omega, fun s hs => by have := this.2 s hs; omega, by show b.length ≤ _; omega⟩, fun h => by omega⟩
    · rw [if_neg h5]
      exact ⟨-1, rfl, by omega, fun h => by omega, fun _ => rfl⟩
theorem toSpace_eq (x : List (List Int) × List (Int × Int)) (h : Few x) : laws_toSpace (x, ()) () = some ((x, ()), ()) := by
  obtain ⟨a, b⟩ := x
  simp only [laws_toSpace, toIntSS_eq a h.states h.state, toIntA2S_eq b h.steps]
theorem eqSpace_eq (x : List (List Int) × List (Int × Int)) (h : Few x) : laws_eqSpace (x, x, ()) () = some ((true, ()), ()) := by
  obtain ⟨a, b⟩ := x
  simp only [laws_eqSpace, eqIntSS_eq a h.states h.state, eqIntA2S_eq b h.steps]
  rfl
def inR (x a b : Int) : Bool := decide (a ≤ x) && decide (x ≤ b)
theorem l1In_eq (x a b : Int) : spec_l1In (x, a, b, ()) () = some ((inR x a b, ()), ()) := by
  simp only [spec_l1In, inR]
  by_cases h : a ≤ x <;> simp [h]
theorem between_eq (x a b : Int) : impl_between (x, a, b, ()) () = some ((inR x a b, ()), ()) := by
  simp only [impl_between, inR]
  by_cases h : a ≤ x <;> simp [h]
theorem cmp_eq (x y : Int) : cmp_Compare_int (x, y, ()) () = some (((if x < y then -1 else if y < x then 1 else 0), ()), ()) := by
  simp only [cmp_Compare_int, cmp_isNaN_int, bne_self_eq_false, cond_false, bif_decide]
  split
  · rfl
  · split <;> rfl

def goodN (n : Int) : Bool := inR n (-99) 99
def goodState (s : List Int) : Bool := decide (s.length ≤ 24) && s.all goodN
theorem allUpto_getD {f : Int → Bool} {s : List Int} : allUpto (fun i => f (s.getD i 0)) s.length = s.all f := by
  rw [Bool.eq_iff_iff, allUpto_iff, List.all_eq_true]
  constructor
  · intro h x hx
    obtain ⟨i, hi, rfl⟩ := List.getElem_of_mem hx
    have := h i hi
    rwa [getD_at hi] at this
  · intro h i hi
    rw [getD_at hi]
    exact h _ (List.getElem_mem hi)
theorem l2State_eq (s : List Int) (hs : s.length ≤ 1048576) : spec_l2State (s, ()) () = some ((goodState s, ()), ()) := by
  have key := loop_all (B := spec_l2State_B0) (fun i => ((s, (i : Int), ()), ())) (fun i => goodN (s.getD i 0)) s.length (.inl ((false, ()), ())) (.inr ((s, ()), ())) (fun i hi _ => by
    simp only [spec_l2State_B0, bif_decide, if_pos (show (i : Int) < (s.length : Int) by omega), guardB_true (inb_true (Int.natCast_nonneg i) (show (i : Int) < (s.length : Int) by omega)), Int.toNat_natCast, l1In_eq _ _ _, w64_succ (show i < 4611686018427387904 by omega), goodN]
    cases inR (s.getD i 0) (-99) 99 <;> rfl) (by simp [spec_l2State_B0])
  rw [allUpto_getD] at key
  simp only [spec_l2State]
  erw [key]
  have e : decide ((s.length : Int) ≤ 24) = decide (s.length ≤ 24) := by rw [decide_eq_decide]; omega
  cases h : s.all goodN
  · simp [goodState, h]
  · simp [goodState, h, e]
/-- where is the first one? -/
def firstIdx (p : Nat → Bool) : Nat → Nat → Int
  | _, 0 => -1
  | k, d + 1 => if p k then k else firstIdx p (k + 1) d
theorem firstIdx_neg {p : Nat → Bool} : ∀ {d k : Nat}, (decide ((0 : Int) ≤ firstIdx p k d) = !(allUpto (fun i => !p (k + i)) d))
  | 0, k => by simp [firstIdx, allUpto]
  | d + 1, k => by
    by_cases h : p k
    · rw [show firstIdx p k (d + 1) = k by simp [firstIdx, h]]
      have : allUpto (fun i => !p (k + i)) (d + 1) = false := by
        cases e : allUpto (fun i => !p (k + i)) (d + 1)
        · rfl
        · have := allUpto_iff.1 e 0 (by omega); simp [h] at this
      rw [this]; simp
    · rw [show firstIdx p k (d + 1) = firstIdx p (k + 1) d by simp [firstIdx, h], firstIdx_neg]
      congr 1
      rw [Bool.eq_iff_iff, allUpto_iff, allUpto_iff]
      constructor
      · intro g i hi
        cases i with
        | zero => simpa using h
        | succ i => have := g i (by omega); rw [show k + 1 + i = k + (i + 1) by omega] at this; exact this
      · intro g i hi
        have := g (i + 1) (by omega)
        rw [show k + (i + 1) = k + 1 + i by omega] at this; exact this
theorem loop_idx {P Q : Type} {B : P → Option (P ⊕ Q)} (st : Nat → P) (p : Nat → Bool) (n : Nat) (found : Int → Q) (fin : Q) (step : ∀ i, i < n → B (st i) = some (bif p i then .inr (found i) else .inl (st (i + 1)))) (stop : B (st n) = some (.inr fin)) :
    loopO B (st 0) = some (if firstIdx p 0 n < 0 then fin else found (firstIdx p 0 n)) := by
  suffices h : ∀ d k, k + d = n → loopO B (st k) = some (if firstIdx p k d < 0 then fin else found (firstIdx p k d)) from h n 0 (by omega)
  intro d
  induction d with
  | zero => intro k hk; have : k = n := by omega
            subst this; simpa [firstIdx] using loop_end stop
  | succ d ih =>
    intro k hk
    have h := step k (by omega)
    cases e : p k
    · rw [e] at h; rw [show firstIdx p k (d + 1) = firstIdx p (k + 1) d by simp [firstIdx, e]]; exact loop_step h (ih (k + 1) (by omega))
    · rw [e] at h; rw [show firstIdx p k (d + 1) = k by simp [firstIdx, e], if_neg (by omega)]; exact loop_end h
theorem isState_eq (s : List Int) (hs : s.length ≤ 1048576) : impl_isState (s, ()) () = some ((goodState s, ()), ()) := by
  have k1 : ∀ n : Int, impl_isState_1 (n, ()) () = some (((!goodN n), ()), ()) := fun n => by simp only [impl_isState_1, between_eq _ _ _, goodN]
  have key := loop_idx (B := slices_IndexFunc_int_int_2_vf_impl_isState_1_B0) (fun i => ((s, (s.length : Int), (i : Int), ()), ())) (fun i => !goodN (s.getD i 0)) s.length (fun i => .inl ((i, ()), ())) (.inr ((), ())) (fun i hi => by
    simp only [slices_IndexFunc_int_int_2_vf_impl_isState_1_B0, bif_decide, if_pos (show (i : Int) < (s.length : Int) by omega), guardB_true (inb_true (Int.natCast_nonneg i) (show (i : Int) < (s.length : Int) by omega)), Int.toNat_natCast, k1, w64_succ (show i < 4611686018427387904 by omega)]
    cases goodN (s.getD i 0) <;> rfl) (by simp [slices_IndexFunc_int_int_2_vf_impl_isState_1_B0])
  have k2 : slices_IndexFunc_int_int_2_vf_impl_isState_1 (s, ()) () = some ((firstIdx (fun i => !goodN (s.getD i 0)) 0 s.length, ()), ()) := by
    simp only [slices_IndexFunc_int_int_2_vf_impl_isState_1]
    erw [key]
    by_cases h : firstIdx (fun i => !goodN (s.getD i 0)) 0 s.length < 0
    · rw [if_pos h]
      have : ∀ d k, firstIdx (fun i => !goodN (s.getD i 0)) k d < 0 → firstIdx (fun i => !goodN (s.getD i 0)) k d = -1 := by
        intro d
        induction d with
        | zero => intro k _; rfl
        | succ d ih =>
          intro k hk
          simp only [firstIdx] at hk ⊢
          split
          · rename_i h; rw [if_pos h] at hk; omega
          · rename_i h; rw [if_neg h] at hk; exact ih _ hk
      rw [this _ _ h]
    · rw [if_neg h]
  simp only [impl_isState, slices_ContainsFunc_int_int_2_vf_impl_isState_1, k2, firstIdx_neg, bif_decide]
  have e : allUpto (fun i => !!goodN (s.getD (0 + i) 0)) s.length = s.all goodN := by
    rw [← allUpto_getD]; congr 1; funext i; simp
  rw [e]
  by_cases h : s.length ≤ 24
  · rw [if_pos (by omega)]; simp [goodState, h]
  · rw [if_neg (by omega)]; simp [goodState, h]

def lexDiff : List Int → List Int → Option Bool
  | a :: l, b :: k => if a = b then lexDiff l k else some (decide (a < b))
  | _, _ => none
def lexLt (a b : List Int) : Bool := match lexDiff a b with
  | some t => t
  | none => decide (a.length < b.length)
def lexCmp : List Int → List Int → Int
  | a :: l, b :: k => if a < b then -1 else if b < a then 1 else lexCmp l k
  | [], [] => 0
  | [], _ :: _ => -1
  | _ :: _, [] => 1
theorem lexCmp_lt : ∀ (a b : List Int), decide ((0 : Int) ≤ lexCmp a b) = !lexLt a b
  | a :: l, b :: k => by
    by_cases h : a < b
    · simp [lexCmp, lexLt, lexDiff, h, show ¬ a = b by omega]
    · by_cases h2 : b < a
      · simp [lexCmp, lexLt, lexDiff, h, h2, show ¬ a = b by omega]
      · have e : a = b := by omega
        subst e
        rw [show lexCmp (a :: l) (a :: k) = lexCmp l k by simp [lexCmp], lexCmp_lt l k]
        simp only [lexLt, lexDiff, if_pos, List.length_cons]
        cases lexDiff l k <;> simp
  | [], [] => by simp [lexCmp, lexLt, lexDiff]
  | [], _ :: _ => by simp [lexCmp, lexLt, lexDiff]
  | _ :: _, [] => by simp [lexCmp, lexLt, lexDiff]
theorem l2Before_eq (a b : List Int) (ha : a.length ≤ 1048576) : spec_l2Before (a, b, ()) () = some ((lexLt a b, ()), ()) := by
  have key : ∀ d i, i + d = a.length → loopO spec_l2Before_B0 ((a, b, (i : Int), ()), ()) = some (match lexDiff (a.drop i) (b.drop i) with
      | some t => .inl ((t, ()), ())
      | none => .inr ((a, b, ()), ())) := by
    intro d
    induction d with
    | zero =>
      intro i hi
      have : i = a.length := by omega
      subst this
      refine loop_end ?_
      simp [spec_l2Before_B0, lexDiff]
    | succ d ih =>
      intro i hi
      have h1 : i < a.length := by omega
      by_cases h2 : i < b.length
      · rw [List.drop_eq_getElem_cons h1, List.drop_eq_getElem_cons h2]
        simp only [lexDiff]
        by_cases h3 : a[i] = b[i]
        · rw [if_pos h3]
          refine loop_step ?_ (ih (i + 1) (by omega))
          simp [spec_l2Before_B0, inb_nat, guardB, h1, h2, h3, w64_succ (show i < 4611686018427387904 by omega)]
        · rw [if_neg h3]
          refine loop_end ?_
          simp [spec_l2Before_B0, inb_nat, guardB, h1, h2, bne_ne h3]
      · have : lexDiff (a.drop i) (b.drop i) = none := by
          rw [List.drop_eq_nil_of_le (show b.length ≤ i by omega)]
          cases a.drop i <;> rfl
        rw [this]
        refine loop_end ?_
        simp [spec_l2Before_B0, inb_nat, guardB, h1, h2]
  simp only [spec_l2Before]
  erw [key a.length 0 (by omega)]
  simp only [List.drop_zero, lexLt]
  cases lexDiff a b <;> simp
theorem Compare_eq (a b : List Int) (ha : a.length ≤ 1048576) : slices_Compare_int_int (a, b, ()) () = some ((lexCmp a b, ()), ()) := by
  have key : ∀ d i, i + d = a.length → ∃ q, loopO slices_Compare_int_int_B0 ((a, b, a, (a.length : Int), (i : Int), ()), ()) = some q ∧ ((q = .inl ((lexCmp (a.drop i) (b.drop i), ()), ())) ∨ (q = .inr ((a, b, ()), ()) ∧ (i ≤ b.length → lexCmp (a.drop i) (b.drop i) = if a.length < b.length then -1 else 0))) := by
    intro d
    induction d with
    | zero =>
      intro i hi
      have : i = a.length := by omega
      subst this
      refine ⟨_, loop_end (q := .inr ((a, b, ()), ())) (by simp [slices_Compare_int_int_B0]), .inr ⟨rfl, fun hb => ?_⟩⟩
      rw [List.drop_length]
      by_cases h : a.length < b.length
      · rw [List.drop_eq_getElem_cons h, if_pos h]; rfl
      · rw [List.drop_eq_nil_of_le (by omega), if_neg h]; rfl
    | succ d ih =>
      intro i hi
      have h1 : i < a.length := by omega
      by_cases h2 : i < b.length
      · rw [List.drop_eq_getElem_cons h1, List.drop_eq_getElem_cons h2]
        simp only [lexCmp]
        have e : slices_Compare_int_int_B0 ((a, b, a, (a.length : Int), (i : Int), ()), ()) = some (if (if a[i] < b[i] then (-1 : Int) else if b[i] < a[i] then 1 else 0) = 0 then .inl ((a, b, a, (a.length : Int), ((i + 1 : Nat) : Int), ()), ()) else .inr (.inl (((if a[i] < b[i] then (-1 : Int) else if b[i] < a[i] then 1 else 0), ()), ()))) := by
          simp only [slices_Compare_int_int_B0, bif_decide, if_pos (show (i : Int) < (a.length : Int) by omega), if_neg (show ¬ (b.length : Int) ≤ (i : Int) by omega), guardB_true (inb_true (Int.natCast_nonneg i) (show (i : Int) < (a.length : Int) by omega)), guardB_true (inb_true (Int.natCast_nonneg i) (show (i : Int) < (b.length : Int) by omega)), Int.toNat_natCast, getD_at h1, getD_at h2, cmp_eq _ _, w64_succ (show i < 4611686018427387904 by omega)]
          by_cases h3 : a[i] < b[i]
          · simp [h3]
          · by_cases h4 : b[i] < a[i]
            · simp [h3, h4]
            · simp [h3, h4]
        by_cases h3 : a[i] < b[i]
        · simp only [if_pos h3] at e ⊢
          exact ⟨_, loop_end e, .inl rfl⟩
        · by_cases h4 : b[i] < a[i]
          · simp only [if_neg h3, if_pos h4] at e ⊢
            exact ⟨_, loop_end e, .inl rfl⟩
          · simp only [if_neg h3, if_neg h4, if_pos] at e ⊢
            obtain ⟨q, q1, q2⟩ := ih (i + 1) (by omega)
            refine ⟨q, loop_step e q1, q2.imp id fun ⟨r1, r2⟩ => ⟨r1, fun _ => r2 (by omega)⟩⟩
      · refine ⟨_, loop_end (q := .inl ((1, ()), ())) (by simp [slices_Compare_int_int_B0, inb_nat, guardB, h1, show b.length ≤ i by omega]), .inl ?_⟩
        rw [List.drop_eq_nil_of_le (show b.length ≤ i by omega), List.drop_eq_getElem_cons h1]
        rfl
  obtain ⟨q, q1, q2⟩ := key a.length 0 (by omega)
  simp only [slices_Compare_int_int]
  erw [q1]
  simp only [List.drop_zero] at q2
  rcases q2 with rfl | ⟨rfl, q2⟩
  · rfl
  · rw [q2 (Nat.zero_le _)]
    simp only [bif_decide, Int.ofNat_lt]
    split <;> rfl

def edgeB (a b : Int × Int) : Bool := decide (a.1 < b.1) || (decide (a.1 = b.1) && decide (a.2 < b.2))
theorem l2Edge_eq (a b : Int × Int) : spec_l2Edge (a, b, ()) () = some ((edgeB a b, ()), ()) := by
  simp only [spec_l2Edge, edgeB]
  by_cases h : a.1 < b.1
  · simp [h]
  · by_cases h2 : a.1 = b.1
    · simp [h, h2]
    · simp [h, h2, beq_ne h2]
theorem cmpOr_eq (x y : Int) : cmp_Or_int ([x, y], ()) () = some (((if x = 0 then y else x), ()), ()) := by
  simp only [cmp_Or_int]
  have e0 : cmp_Or_int_B0 ((0, [x, y], ([x, y].length : Int), 0, ()), ()) = some (if x = 0 then .inl ((0, [x, y], ([x, y].length : Int), 1, ()), ()) else .inr (.inl ((x, ()), ()))) := by
    by_cases h : x = 0
    · simp [cmp_Or_int_B0, inb, guardB, h]; rfl
    · simp [cmp_Or_int_B0, inb, guardB, h, bne_ne h]
  have e1 : cmp_Or_int_B0 ((0, [x, y], ([x, y].length : Int), 1, ()), ()) = some (if y = 0 then .inl ((0, [x, y], ([x, y].length : Int), 2, ()), ()) else .inr (.inl ((y, ()), ()))) := by
    by_cases h : y = 0
    · simp [cmp_Or_int_B0, inb, guardB, h]; rfl
    · simp [cmp_Or_int_B0, inb, guardB, h, bne_ne h]
  have e2 : cmp_Or_int_B0 ((0, [x, y], ([x, y].length : Int), 2, ()), ()) = some (.inr (.inr ((0, ()), ()))) := by
    simp [cmp_Or_int_B0]
  by_cases h : x = 0
  · rw [if_pos h] at e0 ⊢
    by_cases g : y = 0
    · rw [if_pos g] at e1
      rw [loop_step e0 (loop_step e1 (loop_end e2)), g]
    · rw [if_neg g] at e1
      rw [loop_step e0 (loop_end e1)]
  · rw [if_neg h] at e0 ⊢
    rw [loop_end e0]
theorem comparePairs_eq (a b : Int × Int) : ∃ r : Int, impl_comparePairs (a, b, ()) () = some ((r, ()), ()) ∧ (decide ((0 : Int) ≤ r) = !edgeB a b) ∧ (r = 0 ↔ a = b) := by
  obtain ⟨a1, a2⟩ := a
  obtain ⟨b1, b2⟩ := b
  simp only [impl_comparePairs, cmp_eq _ _, cmpOr_eq _ _]
  refine ⟨_, rfl, ?_, ?_⟩
  · simp only [edgeB]
    by_cases h : a1 < b1
    · simp [h]
    · by_cases h2 : b1 < a1
      · have : ¬ a1 = b1 := by omega
        simp [h, h2, this]
      · have : a1 = b1 := by omega
        subst this
        by_cases h3 : a2 < b2
        · simp [h3]
        · by_cases h4 : b2 < a2 <;> simp [h3, h4]
  · simp only [Prod.mk.injEq]
    by_cases h : a1 < b1
    · simp [h]; omega
    · by_cases h2 : b1 < a1
      · simp [h, h2]; omega
      · have : a1 = b1 := by omega
        subst this
        by_cases h3 : a2 < b2
        · simp [h3]; omega
        · by_cases h4 : b2 < a2
          · simp [h3, h4]; omega
          · simp [h3, h4]; omega
def pairB (l : List (Int × Int)) (n : Int) (i : Nat) : Bool :=
  decide (0 ≤ (l.getD i (0, 0)).1) && (decide ((l.getD i (0, 0)).1 < (l.getD i (0, 0)).2) && (decide ((l.getD i (0, 0)).2 < n) && (decide (i = 0) || edgeB (l.getD (i - 1) (0, 0)) (l.getD i (0, 0)))))
def pairsB (l : List (Int × Int)) (n : Int) : Bool := allUpto (pairB l n) l.length
theorem l2Pairs_eq (l : List (Int × Int)) (n : Int) (hl : l.length ≤ 1048576) (h0 : -1048576 ≤ n) (hn : n ≤ 1048576) : spec_l2Pairs (l, n, ()) () = some ((pairsB l n, ()), ()) := by
  have key := loop_all (B := spec_l2Pairs_B0) (fun i => ((l, n, (i : Int), ()), ())) (pairB l n) l.length (.inl ((false, ()), ())) (.inr ((), ())) (fun i hi _ => by
    obtain ⟨e, he⟩ : ∃ e : Int × Int, l.getD i (0, 0) = e := ⟨_, rfl⟩
    simp only [spec_l2Pairs_B0, bif_decide, if_pos (show (i : Int) < (l.length : Int) by omega), guardB_true (inb_true (Int.natCast_nonneg i) (show (i : Int) < (l.length : Int) by omega)), Int.toNat_natCast, l1In_eq _ _ _, w64_succ (show i < 4611686018427387904 by omega), w64_of (x := n - 1) (by omega) (by omega), pairB, inR, he]
    by_cases h1 : 0 ≤ e.1
    · by_cases h2 : e.1 ≤ n - 1
      · by_cases h3 : 0 ≤ e.2
        · by_cases h4 : e.2 ≤ n - 1
          · by_cases h5 : e.2 ≤ e.1
            · simp [h1, h2, h3, h4, h5, show ¬ e.1 < e.2 by omega]
            · by_cases h6 : i = 0
              · subst h6
                simp [h1, h2, h3, h4, h5, show e.1 < e.2 by omega, show e.2 < n by omega]
              · rw [w64_pred (by omega) (by omega), guardB_true (inb_true (Int.natCast_nonneg _) (show ((i - 1 : Nat) : Int) < (l.length : Int) by omega)), Int.toNat_natCast, l2Edge_eq]
                cases edgeB (l.getD (i - 1) (0, 0)) e <;> simp [h1, h2, h3, h4, h5, h6, show e.1 < e.2 by omega, show e.2 < n by omega, show 0 < i by omega]
          · simp [h1, h2, h3, h4, show ¬ e.2 < n by omega]
        · simp [h1, h2, h3, show ¬ e.1 < e.2 by omega]
      · simp only [h1, h2, decide_true, decide_false, Bool.and_false, Bool.not_false, cond_true, Bool.true_and]
        by_cases h3 : e.1 < e.2
        · simp [h3, show ¬ e.2 < n by omega]
        · simp [h3]
    · simp [h1]) (by simp [spec_l2Pairs_B0])
  simp only [spec_l2Pairs]
  erw [key]
  simp only [pairsB]
  cases allUpto (pairB l n) l.length <;> rfl
theorem isPairs_eq (l : List (Int × Int)) (n : Int) (hl : l.length ≤ 1048576) : impl_isPairs (l, n, ()) () = some ((pairsB l n, ()), ()) := by
  have key := loop_all (B := impl_isPairs_B0) (fun i => ((l, n, l, (l.length : Int), (i : Int), ()), ())) (pairB l n) l.length (.inl ((false, ()), ())) (.inr ((), ())) (fun i hi _ => by
    obtain ⟨e, he⟩ : ∃ e : Int × Int, l.getD i (0, 0) = e := ⟨_, rfl⟩
    simp only [impl_isPairs_B0, bif_decide, if_pos (show (i : Int) < (l.length : Int) by omega), guardB_true (inb_true (Int.natCast_nonneg i) (show (i : Int) < (l.length : Int) by omega)), Int.toNat_natCast, w64_succ (show i < 4611686018427387904 by omega), pairB, he]
    by_cases h1 : e.1 < 0
    · simp [h1, show ¬ 0 ≤ e.1 by omega]
    · by_cases h2 : e.2 ≤ e.1
      · simp [h1, h2, show ¬ e.1 < e.2 by omega]
      · by_cases h3 : n ≤ e.2
        · simp [h1, h2, h3, show ¬ e.2 < n by omega]
        · by_cases h6 : i = 0
          · subst h6
            simp [h1, h2, h3, show 0 ≤ e.1 by omega, show e.1 < e.2 by omega, show e.2 < n by omega]
          · obtain ⟨r, r1, r2, _⟩ := comparePairs_eq (l.getD (i - 1) (0, 0)) e
            rw [w64_pred (by omega) (by omega), guardB_true (inb_true (Int.natCast_nonneg _) (show ((i - 1 : Nat) : Int) < (l.length : Int) by omega)), Int.toNat_natCast, r1]
            simp only [if_neg h1, if_neg h2, if_neg h3, if_pos (show (0 : Int) < (i : Int) by omega), ← bif_decide, r2]
            cases edgeB (l.getD (i - 1) (0, 0)) e <;> simp [h6, show 0 ≤ e.1 by omega, show e.1 < e.2 by omega, show e.2 < n by omega]) (by simp [impl_isPairs_B0])
  simp only [impl_isPairs]
  erw [key]
  simp only [pairsB]
  cases allUpto (pairB l n) l.length <;> rfl

def stateB (L : List (List Int)) (i : Nat) : Bool := goodState (L.getD i []) && (decide (i = 0) || lexLt (L.getD (i - 1) []) (L.getD i []))
def spaceB (x : List (List Int) × List (Int × Int)) : Bool := decide (x.1.length ≤ 300) && (decide (x.2.length ≤ 6000) && (allUpto (stateB x.1) x.1.length && pairsB x.2 x.1.length))
theorem l2Space_eq (x : List (List Int) × List (Int × Int)) (hx : Few x) : spec_l2Space (x, ()) () = some ((spaceB x, ()), ()) := by
  obtain ⟨L, S⟩ := x
  have hL := hx.states
  have hs := hx.state
  have hS := hx.steps
  dsimp only at hL hs hS
  have hlen : ∀ i, i < L.length → (L.getD i []).length ≤ 1048576 := fun i hi => by rw [getD_at hi]; exact hs _ (List.getElem_mem hi)
  have key := loop_all (B := spec_l2Space_B0) (fun i => (((L, S), (i : Int), ()), ())) (stateB L) L.length (.inl ((false, ()), ())) (.inr (((L, S), ()), ())) (fun i hi _ => by
    simp only [spec_l2Space_B0, bif_decide, if_pos (show (i : Int) < (L.length : Int) by omega), guardB_true (inb_true (Int.natCast_nonneg i) (show (i : Int) < (L.length : Int) by omega)), Int.toNat_natCast, l2State_eq _ (hlen i hi), w64_succ (show i < 4611686018427387904 by omega), stateB]
    by_cases h6 : i = 0
    · subst h6
      cases goodState (L.getD 0 []) <;> simp
    · rw [w64_pred (by omega) (by omega), guardB_true (inb_true (Int.natCast_nonneg _) (show ((i - 1 : Nat) : Int) < (L.length : Int) by omega)), Int.toNat_natCast, l2Before_eq _ _ (hlen (i - 1) (by omega))]
      cases goodState (L.getD i []) <;> cases lexLt (L.getD (i - 1) []) (L.getD i []) <;> simp [h6, show 0 < i by omega]) (by simp [spec_l2Space_B0])
  simp only [spec_l2Space, bif_decide, spaceB]
  by_cases h1 : L.length ≤ 300
  · rw [if_neg (by omega)]
    by_cases h2 : S.length ≤ 6000
    · rw [if_neg (by omega)]
      erw [key]
      simp only [h1, h2, decide_true, Bool.true_and]
      cases h3 : allUpto (stateB L) L.length
      · rfl
      · simp only [cond_true, l2Pairs_eq S (L.length : Int) hS (by omega) (by omega), Bool.true_and]
    · rw [if_pos (by omega)]; simp [h2]
  · rw [if_pos (by omega)]; simp [h1]
theorem IsSpace_eq (x : List (List Int) × List (Int × Int)) (hx : Few x) : impl_IsSpace (x, ()) () = some ((spaceB x, ()), ()) := by
  obtain ⟨L, S⟩ := x
  have hL := hx.states
  have hs := hx.state
  have hS := hx.steps
  dsimp only at hL hs hS
  have hlen : ∀ i, i < L.length → (L.getD i []).length ≤ 1048576 := fun i hi => by rw [getD_at hi]; exact hs _ (List.getElem_mem hi)
  have key := loop_all (B := impl_IsSpace_B0) (fun i => (((L, S), L, (L.length : Int), (i : Int), ()), ())) (stateB L) L.length (.inl ((false, ()), ())) (.inr (((L, S), ()), ())) (fun i hi _ => by
    simp only [impl_IsSpace_B0, if_pos (show (i : Int) < (L.length : Int) by omega), guardB_true (inb_true (Int.natCast_nonneg i) (show (i : Int) < (L.length : Int) by omega)), Int.toNat_natCast, isState_eq _ (hlen i hi), w64_succ (show i < 4611686018427387904 by omega), stateB]
    by_cases h6 : i = 0
    · subst h6
      cases goodState (L.getD 0 []) <;> simp [hi]
    · rw [w64_pred (by omega) (by omega), guardB_true (inb_true (Int.natCast_nonneg _) (show ((i - 1 : Nat) : Int) < (L.length : Int) by omega)), Int.toNat_natCast, Compare_eq _ _ (hlen (i - 1) (by omega))]
      simp only [lexCmp_lt]
      cases goodState (L.getD i []) <;> cases lexLt (L.getD (i - 1) []) (L.getD i []) <;> simp [h6, hi, show 0 < i by omega]) (by simp [impl_IsSpace_B0])
  simp only [impl_IsSpace, bif_decide, spaceB]
  by_cases h1 : L.length ≤ 300
  · rw [if_neg (by omega)]
    by_cases h2 : S.length ≤ 6000
    · rw [if_neg (by omega)]
      erw [key]
      simp only [h1, h2, decide_true, Bool.true_and]
      cases h3 : allUpto (stateB L) L.length
      · rfl
      · simp only [cond_true, isPairs_eq S (L.length : Int) hS, Bool.true_and]
    · rw [if_pos (by omega)]; simp [h2]
  · rw [if_pos (by omega)]; simp [h1]
theorem l1Has_eq (l : List Int) (n : Int) (hl : l.length ≤ 1048576) : spec_l1Has (l, n, ()) () = some ((decide (n ∈ l), ()), ()) := by
  have key := loop_all (B := spec_l1Has_B0) (fun i => ((l, n, (i : Int), ()), ())) (fun i => !decide (l.getD i 0 = n)) l.length (.inl ((true, ()), ())) (.inr ((), ())) (fun i hi _ => by
    simp only [spec_l1Has_B0, bif_decide, if_pos (show (i : Int) < (l.length : Int) by omega), guardB_true (inb_true (Int.natCast_nonneg i) (show (i : Int) < (l.length : Int) by omega)), Int.toNat_natCast, w64_succ (show i < 4611686018427387904 by omega)]
    by_cases h : l.getD i 0 = n
    · rw [beq_eq h, decide_eq_true h]; rfl
    · rw [beq_ne h, decide_eq_false h]; rfl) (by simp [spec_l1Has_B0])
  have e : decide (n ∈ l) = !allUpto (fun i => !decide (l.getD i 0 = n)) l.length := by
    rw [Bool.eq_iff_iff, decide_eq_true_iff, Bool.not_eq_true', ← Bool.not_eq_true, allUpto_iff]
    constructor
    · intro h g
      obtain ⟨i, hi, rfl⟩ := List.getElem_of_mem h
      have := g i hi
      rw [getD_at hi] at this
      simp at this
    · intro h
      refine Classical.byContradiction fun g => h fun i hi => ?_
      rw [getD_at hi]
      simp only [Bool.not_eq_true', decide_eq_false_iff_not]
      intro e
      exact g (e ▸ List.getElem_mem hi)
  simp only [spec_l1Has]
  erw [key]
  rw [e]
  cases allUpto (fun i => !decide (l.getD i 0 = n)) l.length <;> rfl
def agentsB (n : Nat) (l : List Int) : Bool := inR l.length 1 3 && (decide l.Nodup && l.all fun i => inR i 0 ((n : Int) - 1))
theorem take_mem_nodup : ∀ (l : List Int), (∀ i, i < l.length → l.getD i 0 ∉ l.take i) ↔ l.Nodup
  | l => by
    rw [List.nodup_iff_pairwise_ne, List.pairwise_iff_getElem]
    constructor
    · intro h i j hi hj hij e
      refine h j hj ?_
      rw [getD_at hj, ← e]
      exact List.mem_take_iff_getElem.2 ⟨i, by omega, rfl⟩
    · intro h i hi hm
      rw [getD_at hi] at hm
      obtain ⟨k, hk, e⟩ := List.mem_take_iff_getElem.1 hm
      exact h k i (by omega) hi (by omega) e
theorem l11Agents_eq (x : List (List Int) × List (Int × Int)) (l : List Int) (hx : x.1.length ≤ 1048576) (hl : l.length ≤ 1048576) : spec_l11Agents (x, l, ()) () = some ((agentsB x.1.length l, ()), ()) := by
  have key := loop_all (B := spec_l11Agents_B0) (fun i => ((l, x, (i : Int), ()), ())) (fun i => inR (l.getD i 0) 0 ((x.1.length : Int) - 1) && !decide (l.getD i 0 ∈ l.take i)) l.length (.inl ((false, ()), ())) (.inr ((l, ()), ())) (fun i hi _ => by
    simp only [spec_l11Agents_B0, bif_decide, if_pos (show (i : Int) < (l.length : Int) by omega), guardB_true (inb_true (Int.natCast_nonneg i) (show (i : Int) < (l.length : Int) by omega)), Int.toNat_natCast, w64_succ (show i < 4611686018427387904 by omega), w64_of (x := (x.1.length : Int) - 1) (by omega) (by omega), l1In_eq _ _ _, l1Has_eq (l.take i) (l.getD i 0) (by simp; omega)]
    rw [guardB_true (by simp; omega)]
    cases inR (l.getD i 0) 0 ((x.1.length : Int) - 1)
    · rfl
    · by_cases h : l.getD i 0 ∈ l.take i
      · simp only [decide_eq_true h, if_pos h]; rfl
      · simp only [decide_eq_false h, if_neg h]; rfl) (by simp [spec_l11Agents_B0])
  simp only [spec_l11Agents]
  erw [key]
  have e : allUpto (fun i => inR (l.getD i 0) 0 ((x.1.length : Int) - 1) && !decide (l.getD i 0 ∈ l.take i)) l.length = (decide l.Nodup && l.all fun i => inR i 0 ((x.1.length : Int) - 1)) := by
    rw [Bool.eq_iff_iff, allUpto_iff]
    simp only [Bool.and_eq_true, Bool.not_eq_true', decide_eq_false_iff_not, decide_eq_true_iff, ← take_mem_nodup, List.all_eq_true]
    constructor
    · intro h
      refine ⟨fun i hi => (h i hi).2, fun y hy => ?_⟩
      obtain ⟨i, hi, rfl⟩ := List.getElem_of_mem hy
      have := (h i hi).1
      rwa [getD_at hi] at this
    · rintro ⟨h1, h2⟩ i hi
      exact ⟨by rw [getD_at hi]; exact h2 _ (List.getElem_mem hi), h1 i hi⟩
  rw [e]
  simp only [agentsB]
  cases h : (decide l.Nodup && l.all fun i => inR i 0 ((x.1.length : Int) - 1))
  · simp
  · simp only [cond_true, l1In_eq _ _ _, Bool.and_true]
theorem compact_nodup (zs : List Int) (hs : zs.Pairwise (· ≤ ·)) : (Lib.compact zs).length = zs.length ↔ zs.Nodup := by
  have e : (Lib.compact zs).length = ((List.range zs.length).filter (Lib.keeps zs.toArray)).length := by simp [Lib.compact, Lib.compactUpTo]
  rw [e]
  have e2 : zs.length = (List.range zs.length).length := by simp
  conv => lhs; rhs; rw [e2]
  rw [List.length_filter_eq_length_iff]
  constructor
  · intro h
    rw [List.nodup_iff_pairwise_ne, List.pairwise_iff_getElem]
    rw [List.pairwise_iff_getElem] at hs
    intro i j hi hj hij e
    have hk := h (i + 1) (by simp; omega)
    have h1 : zs[i] ≤ zs[i + 1] := hs i (i + 1) hi (by omega) (by omega)
    have h2 : zs[i + 1] ≤ zs[j] := by
      rcases Nat.lt_or_ge (i + 1) j with g | g
      · exact hs (i + 1) j (by omega) hj g
      · have : j = i + 1 := by omega
        subst this; exact Int.le_refl _
    have h3 : zs[i + 1] = zs[i] := by omega
    simp [Lib.keeps, h3, hi, show i + 1 < zs.length by omega] at hk
  · intro h i hi
    rw [List.nodup_iff_pairwise_ne, List.pairwise_iff_getElem] at h
    have hi : i < zs.length := by simpa using hi
    rcases Nat.eq_zero_or_pos i with g | g
    · subst g; simp [Lib.keeps]
    · have := h (i - 1) i (by omega) hi (by omega)
      simp [Lib.keeps, hi, show i - 1 < zs.length by omega]
      exact .inr fun e => this e.symm
theorem sort_sorted (l : List Int) : (l.mergeSort fun a b => decide (a ≤ b)).Pairwise (· ≤ ·) := by
  have := List.pairwise_mergeSort (le := fun a b : Int => decide (a ≤ b)) (fun a b c h1 h2 => by simp at *; omega) (fun a b => by simp; omega) l
  exact this.imp fun h => by simpa using h
theorem sort_compact (l : List Int) : ((Lib.compact (l.mergeSort fun a b => decide (a ≤ b))).length = l.length) ↔ l.Nodup := by
  have h := compact_nodup _ (sort_sorted l)
  rw [List.length_mergeSort] at h
  rw [h, (List.mergeSort_perm l _).nodup_iff]
theorem isPlace_eq (x : List (List Int) × List (Int × Int)) (i : Int) (hx : x.1.length ≤ 1048576) : impl_Space_isPlace (x, i, ()) () = some ((inR i 0 ((x.1.length : Int) - 1), ()), ()) := by
  simp only [impl_Space_isPlace, between_eq _ _ _, w64_of (x := (x.1.length : Int) - 1) (by omega) (by omega)]
theorem firstIdx_range {p : Nat → Bool} : ∀ (d k : Nat), firstIdx p k d < 0 → firstIdx p k d = -1
  | 0, k, _ => rfl
  | d + 1, k, h => by
    simp only [firstIdx] at h ⊢
    split
    · rename_i g; rw [if_pos g] at h; omega
    · rename_i g; rw [if_neg g] at h; exact firstIdx_range d (k + 1) h
theorem areAgents_eq (x : List (List Int) × List (Int × Int)) (l : List Int) (hx : x.1.length ≤ 1048576) (hl : l.length ≤ 1048576) : impl_Space_areAgents (x, l, ()) () = some ((agentsB x.1.length l, ()), ()) := by
  have k1 : ∀ i : Int, impl_Space_areAgents_1_vc (i, x, ()) () = some (((!inR i 0 ((x.1.length : Int) - 1)), ()), ()) := fun i => by simp only [impl_Space_areAgents_1_vc, isPlace_eq x i hx]
  have key := loop_idx (B := slices_IndexFunc_int_int_2_vf_impl_Space_areAgents_1_0__bs_B0) (fun i => ((l, (l.length : Int), (i : Int), ()), (x, ()))) (fun i => !inR (l.getD i 0) 0 ((x.1.length : Int) - 1)) l.length (fun i => .inl ((i, ()), (x, ()))) (.inr ((), (x, ()))) (fun i hi => by
    simp only [slices_IndexFunc_int_int_2_vf_impl_Space_areAgents_1_0__bs_B0, bif_decide, if_pos (show (i : Int) < (l.length : Int) by omega), guardB_true (inb_true (Int.natCast_nonneg i) (show (i : Int) < (l.length : Int) by omega)), Int.toNat_natCast, k1 _, w64_succ (show i < 4611686018427387904 by omega)]
    cases inR (l.getD i 0) 0 ((x.1.length : Int) - 1) <;> rfl) (by simp [slices_IndexFunc_int_int_2_vf_impl_Space_areAgents_1_0__bs_B0])
  have k2 : slices_IndexFunc_int_int_2_vf_impl_Space_areAgents_1_0__bs (l, ()) (x, ()) = some ((firstIdx (fun i => !inR (l.getD i 0) 0 ((x.1.length : Int) - 1)) 0 l.length, ()), (x, ())) := by
    simp only [slices_IndexFunc_int_int_2_vf_impl_Space_areAgents_1_0__bs]
    erw [key]
    by_cases h : firstIdx (fun i => !inR (l.getD i 0) 0 ((x.1.length : Int) - 1)) 0 l.length < 0
    · rw [if_pos h, firstIdx_range _ _ h]
    · rw [if_neg h]
  have e : allUpto (fun i => inR (l.getD (0 + i) 0) 0 ((x.1.length : Int) - 1)) l.length = l.all fun i => inR i 0 ((x.1.length : Int) - 1) := by
    rw [← allUpto_getD]; congr 1; funext i; simp
  simp only [impl_Space_areAgents, between_eq _ _ _, agentsB, slices_Sorted_int, slices_Compact_int_int, sortedFn, compactFn]
  cases h1 : inR (l.length : Int) 1 3
  · rfl
  · rw [guardB_true (by simp; omega)]
    simp only [cond_true, slices_ContainsFunc_int_int_2_vf_impl_Space_areAgents_1_0__bs, k2, firstIdx_neg, e, Bool.not_not, Bool.true_and]
    by_cases h2 : l.Nodup
    · have h3 := (sort_compact l).2 h2
      rw [beq_eq (by rw [h3])]
      simp [h2]
    · rw [beq_ne (fun h3 => h2 ((sort_compact l).1 (Int.ofNat_inj.1 h3)))]
      simp [h2]
def rows {α : Type} (n : Nat) (F : Nat → α) : List α := (List.range n).map F
theorem rows_len {α : Type} {n : Nat} {F : Nat → α} : (rows n F).length = n := by simp [rows]
theorem rows_get {α : Type} {n i : Nat} {F : Nat → α} (h : i < n) (d : α) : (rows n F).getD i d = F i := by simp [rows, List.getD, h]
theorem rows_set {α : Type} {n i : Nat} {F : Nat → α} (v : α) : (rows n F).set i v = rows n (fun j => if j = i then v else F j) := by
  apply List.ext_getElem
  · simp [rows]
  · intro j h1 h2
    simp only [rows, List.getElem_set, List.getElem_map, List.getElem_range]
    by_cases h : i = j
    · subst h; simp
    · rw [if_neg h, if_neg (fun e => h e.symm)]
theorem rows_congr {α : Type} {n : Nat} {F G : Nat → α} (h : ∀ j, j < n → F j = G j) : rows n F = rows n G := by
  apply List.map_congr_left
  intro j hj
  exact h j (by simpa using hj)
theorem rows_rep {α : Type} {n : Nat} (d : α) : List.replicate n d = rows n (fun _ => d) := by
  apply List.ext_getElem
  · simp [rows]
  · intro j h1 h2; simp [rows]
theorem take_one {α : Type} {l : List α} {i : Nat} (h : i < l.length) (d : α) : l.take (i + 1) = l.take i ++ [l.getD i d] := by
  rw [getD_at h, List.take_succ_eq_append_getElem h]
def inc (S : List (Int × Int)) (j : Nat) : List Int := (S.filter fun e => decide (e.2 = (j : Int))).map (·.1)
def outg (S : List (Int × Int)) (j : Nat) : List Int := (S.filter fun e => decide (e.1 = (j : Int))).map (·.2)
def nbr (S : List (Int × Int)) (j : Nat) : List Int := inc S j ++ outg S j
def listsP (S : List (Int × Int)) (n : Nat) : List (List Int) := rows n (nbr S)
theorem inc_snoc (T : List (Int × Int)) (a b j : Nat) : inc (T ++ [((a : Int), (b : Int))]) j = if j = b then inc T j ++ [(a : Int)] else inc T j := by
  simp only [inc, List.filter_append, List.map_append]
  by_cases h : j = b
  · subst h; simp
  · rw [if_neg h]; simp [show ¬ (b : Int) = (j : Int) by omega]
theorem outg_snoc (T : List (Int × Int)) (a b j : Nat) : outg (T ++ [((a : Int), (b : Int))]) j = if j = a then outg T j ++ [(b : Int)] else outg T j := by
  simp only [outg, List.filter_append, List.map_append]
  by_cases h : j = a
  · subst h; simp
  · rw [if_neg h]; simp [show ¬ (a : Int) = (j : Int) by omega]
theorem inc_len (T : List (Int × Int)) (j : Nat) : (inc T j).length ≤ T.length := by simp only [inc, List.length_map]; exact List.length_filter_le _ _
theorem outg_len (T : List (Int × Int)) (j : Nat) : (outg T j).length ≤ T.length := by simp only [outg, List.length_map]; exact List.length_filter_le _ _
/-- steps: pairs of places -/
def StepsOk (S : List (Int × Int)) (n : Nat) : Prop := ∀ i, i < S.length → ∃ a b : Nat, S.getD i (0, 0) = ((a : Int), (b : Int)) ∧ a < b ∧ b < n
theorem pairsB_at {S : List (Int × Int)} {n : Nat} (h : pairsB S n = true) (i : Nat) (hi : i < S.length) : pairB S n i = true := allUpto_iff.1 h i hi
theorem pairsB_ok {S : List (Int × Int)} {n : Nat} (h : pairsB S n = true) : StepsOk S n := by
  intro i hi
  have := pairsB_at h i hi
  simp only [pairB, Bool.and_eq_true, decide_eq_true_eq] at this
  obtain ⟨h1, h2, h3, _⟩ := this
  generalize S.getD i (0, 0) = e at h1 h2 h3
  obtain ⟨a, b⟩ := e
  simp only at h1 h2 h3
  exact ⟨a.toNat, b.toNat, by rw [Int.toNat_of_nonneg h1, Int.toNat_of_nonneg (by omega)], by omega, by omega⟩
theorem edge_lt {S : List (Int × Int)} {n : Nat} (h : pairsB S n = true) : ∀ d i, i + 1 + d < S.length → edgeB (S.getD i (0, 0)) (S.getD (i + 1 + d) (0, 0)) = true := by
  have one : ∀ i, i + 1 < S.length → edgeB (S.getD i (0, 0)) (S.getD (i + 1) (0, 0)) = true := by
    intro i hi
    have := pairsB_at h (i + 1) hi
    simp only [pairB, Bool.and_eq_true, Bool.or_eq_true, decide_eq_true_eq] at this
    rcases this.2.2.2 with h0 | h0
    · omega
    · simpa using h0
  have tr : ∀ a b c : Int × Int, edgeB a b = true → edgeB b c = true → edgeB a c = true := by
    intro a b c h1 h2
    simp only [edgeB, Bool.or_eq_true, Bool.and_eq_true, decide_eq_true_eq] at *
    omega
  intro d
  induction d with
  | zero => intro i hi; exact one i hi
  | succ d ih => intro i hi; exact tr _ _ _ (ih i (by omega)) (one (i + 1 + d) hi)
theorem steps_pairwise {S : List (Int × Int)} {n : Nat} (h : pairsB S n = true) : S.Pairwise fun a b => edgeB a b = true := by
  rw [List.pairwise_iff_getElem]
  intro i j hi hj hij
  have := edge_lt h (j - i - 1) i (by omega)
  rw [show i + 1 + (j - i - 1) = j by omega, getD_at hi, getD_at hj] at this
  exact this
theorem steps_mem {S : List (Int × Int)} {n : Nat} (h : StepsOk S n) {e : Int × Int} (he : e ∈ S) : 0 ≤ e.1 ∧ e.1 < e.2 ∧ e.2 < n := by
  obtain ⟨i, hi, rfl⟩ := List.getElem_of_mem he
  obtain ⟨a, b, h1, h2, h3⟩ := h i hi
  rw [getD_at hi] at h1
  rw [h1]
  simp only
  omega
theorem nbr_sorted {S : List (Int × Int)} {n : Nat} (h : pairsB S n = true) (j : Nat) : (nbr S j).Pairwise (· < ·) := by
  have hp := steps_pairwise h
  have hok := pairsB_ok h
  rw [nbr, List.pairwise_append]
  refine ⟨?_, ?_, ?_⟩
  · rw [inc, List.pairwise_map]
    refine ((hp.sublist List.filter_sublist).imp_of_mem fun {a b} ha hb hab => ?_)
    simp only [List.mem_filter, decide_eq_true_eq] at ha hb
    simp only [edgeB, Bool.or_eq_true, Bool.and_eq_true, decide_eq_true_eq] at hab
    omega
  · rw [outg, List.pairwise_map]
    refine ((hp.sublist List.filter_sublist).imp_of_mem fun {a b} ha hb hab => ?_)
    simp only [List.mem_filter, decide_eq_true_eq] at ha hb
    simp only [edgeB, Bool.or_eq_true, Bool.and_eq_true, decide_eq_true_eq] at hab
    omega
  · intro a ha b hb
    simp only [inc, outg, List.mem_map, List.mem_filter, decide_eq_true_eq] at ha hb
    obtain ⟨e, ⟨he, e1⟩, rfl⟩ := ha
    obtain ⟨f, ⟨hf, f1⟩, rfl⟩ := hb
    have := steps_mem hok he
    have := steps_mem hok hf
    omega
theorem l2Lists_eq (x : List (List Int) × List (Int × Int)) (hS : StepsOk x.2 x.1.length) (hn : x.1.length ≤ 1048576) (hs : x.2.length ≤ 1048576) : spec_l2Lists (x, ()) () = some ((listsP x.2 x.1.length, ()), ()) := by
  obtain ⟨L, S⟩ := x
  simp only at hS hn hs
  simp only [spec_l2Lists, guardB_true (fold_len hn).2.1, Int.toNat_natCast]
  have k0 : loopO spec_l2Lists_B0 (((L, S), rows L.length (inc (S.take 0)), ((0 : Nat) : Int), ()), ()) = some (((L, S), rows L.length (inc (S.take S.length)), ()), ()) := by
    refine loop_count (fun i => (((L, S), rows L.length (inc (S.take i)), (i : Int), ()), ())) S.length _ (fun i hi => ?_) ?_ 0 (Nat.zero_le _)
    · obtain ⟨a, b, he, hab, hb⟩ := hS i hi
      have hg : guardB (decide ((List.length (inc (S.take i) b) + List.length [(a : Int)]) * 8 ≤ 70368744177664)) = (id : Option (spec_l2Lists_J0.P ⊕ spec_l2Lists_O0.P) → _) := by
        funext z
        refine guardB_true ?_
        have := inc_len (S.take i) b
        simp only [List.length_take] at this
        simp only [List.length_singleton, decide_eq_true_eq]
        omega
      simp only [spec_l2Lists_B0, bif_decide, if_pos (show (i : Int) < (S.length : Int) by omega), guardB_true (inb_true (Int.natCast_nonneg i) (show (i : Int) < (S.length : Int) by omega)), Int.toNat_natCast, he, rows_len, guardB_true (inb_true (Int.natCast_nonneg b) (show (b : Int) < (L.length : Int) by omega)), rows_get (show b < L.length by omega), Nat.beq_refl, Bool.and_self, guardB_true rfl, w64_succ (show i < 4611686018427387904 by omega), rows_set]
      rw [hg]
      simp only [id]
      rw [take_one hi (0, 0), he]
      have : rows L.length (fun j => if j = b then inc (S.take i) b ++ [(a : Int)] else inc (S.take i) j) = rows L.length (inc (S.take i ++ [((a : Int), (b : Int))])) := rows_congr fun j _ => by
        rw [inc_snoc]
        by_cases h : j = b
        · subst h; rfl
        · simp only [if_neg h]
      rw [this]
    · simp only [spec_l2Lists_B0, bif_decide, if_neg (show ¬ (S.length : Int) < (S.length : Int) by omega)]
  have k1 : loopO spec_l2Lists_B1 (((L, S), rows L.length (fun j => inc S j ++ outg (S.take 0) j), ((0 : Nat) : Int), ()), ()) = some ((rows L.length (fun j => inc S j ++ outg (S.take S.length) j), ()), ()) := by
    refine loop_count (fun i => (((L, S), rows L.length (fun j => inc S j ++ outg (S.take i) j), (i : Int), ()), ())) S.length _ (fun i hi => ?_) ?_ 0 (Nat.zero_le _)
    · obtain ⟨a, b, he, hab, hb⟩ := hS i hi
      have hg : guardB (decide ((List.length (inc S a ++ outg (S.take i) a) + List.length [(b : Int)]) * 8 ≤ 70368744177664)) = (id : Option (spec_l2Lists_J2.P ⊕ spec_l2Lists_O1.P) → _) := by
        funext z
        refine guardB_true ?_
        have := inc_len S a
        have := outg_len (S.take i) a
        simp only [List.length_take] at this
        simp only [List.length_singleton, List.length_append, decide_eq_true_eq]
        omega
      simp only [spec_l2Lists_B1, bif_decide, if_pos (show (i : Int) < (S.length : Int) by omega), guardB_true (inb_true (Int.natCast_nonneg i) (show (i : Int) < (S.length : Int) by omega)), Int.toNat_natCast, he, rows_len, guardB_true (inb_true (Int.natCast_nonneg a) (show (a : Int) < (L.length : Int) by omega)), rows_get (show a < L.length by omega), Nat.beq_refl, Bool.and_self, guardB_true rfl, w64_succ (show i < 4611686018427387904 by omega), rows_set]
      rw [hg]
      simp only [id]
      rw [take_one hi (0, 0), he]
      have : rows L.length (fun j => if j = a then (inc S a ++ outg (S.take i) a) ++ [(b : Int)] else inc S j ++ outg (S.take i) j) = rows L.length (fun j => inc S j ++ outg (S.take i ++ [((a : Int), (b : Int))]) j) := rows_congr fun j _ => by
        rw [outg_snoc]
        by_cases h : j = a
        · subst h; simp
        · simp only [if_neg h]
      rw [this]
    · simp only [spec_l2Lists_B1, bif_decide, if_neg (show ¬ (S.length : Int) < (S.length : Int) by omega)]
  rw [List.take_length] at k0 k1
  have z0 : rows L.length (inc (S.take 0)) = List.replicate L.length [] := by rw [rows_rep]; exact rows_congr fun j _ => rfl
  have z1 : rows L.length (fun j => inc S j ++ outg (S.take 0) j) = rows L.length (inc S) := rows_congr fun j _ => by simp [outg]
  rw [z0] at k0
  rw [z1] at k1
  erw [k0]
  simp only
  erw [k1]
  rfl
def raw (S : List (Int × Int)) (j : Nat) : List Int := S.flatMap fun e => (if e.1 = (j : Int) then [e.2] else []) ++ (if e.2 = (j : Int) then [e.1] else [])
theorem raw_perm : ∀ (S : List (Int × Int)) (j : Nat), (raw S j).Perm (nbr S j)
  | [], j => by simp [raw, nbr, inc, outg]
  | e :: S, j => by
    have ih := raw_perm S j
    simp only [raw, List.flatMap_cons] at ih ⊢
    simp only [nbr, inc, outg, List.filter_cons] at ih ⊢
    by_cases h1 : e.1 = (j : Int)
    · by_cases h2 : e.2 = (j : Int)
      · simp only [h1, h2, if_true, decide_true, List.map_cons, List.cons_append, List.nil_append]
        exact ((ih.cons (j : Int)).cons (j : Int)).trans (List.perm_middle.symm.cons _)
      · simp only [h1, h2, if_true, if_false, decide_true, decide_false, List.map_cons, List.cons_append, List.nil_append, List.append_nil, Bool.false_eq_true]
        exact (ih.cons _).trans List.perm_middle.symm
    · by_cases h2 : e.2 = (j : Int)
      · simp only [h1, h2, if_true, if_false, decide_true, decide_false, List.map_cons, List.cons_append, List.nil_append, List.append_nil, Bool.false_eq_true]
        exact ih.cons _
      · simp only [h1, h2, if_false, decide_false, List.nil_append, Bool.false_eq_true]
        exact ih
theorem sort_of_perm {l k : List Int} (h : l.Perm k) (hk : k.Pairwise (· < ·)) : l.mergeSort (fun a b => decide (a ≤ b)) = k := by
  refine List.Perm.eq_of_pairwise (le := (· ≤ ·)) ?_ (sort_sorted l) (hk.imp fun h => Int.le_of_lt h) ((List.mergeSort_perm l _).trans h)
  intro a b _ _ h1 h2
  omega
theorem raw_snoc (T : List (Int × Int)) (a b j : Nat) (hab : a < b) : raw (T ++ [((a : Int), (b : Int))]) j = if j = b then raw T j ++ [(a : Int)] else if j = a then raw T j ++ [(b : Int)] else raw T j := by
  simp only [raw, List.flatMap_append, List.flatMap_cons, List.flatMap_nil, List.append_nil]
  by_cases h : j = b
  · subst h; simp [show ¬ (a : Int) = (j : Int) by omega]
  · by_cases h2 : j = a
    · subst h2; simp [show ¬ (b : Int) = (j : Int) by omega, h]
    · simp [h, h2, show ¬ (b : Int) = (j : Int) by omega, show ¬ (a : Int) = (j : Int) by omega]
theorem raw_len (T : List (Int × Int)) (j : Nat) : (raw T j).length ≤ 2 * T.length := by
  rw [(raw_perm T j).length_eq, nbr, List.length_append]
  have := inc_len T j
  have := outg_len T j
  omega
theorem roads_eq (x : List (List Int) × List (Int × Int)) (hp : pairsB x.2 x.1.length = true) (hn : x.1.length ≤ 1048576) (hs : x.2.length ≤ 1048576) : impl_Space_roads (x, ()) () = some ((listsP x.2 x.1.length, ()), ()) := by
  obtain ⟨L, S⟩ := x
  simp only at hp hn hs
  have hS := pairsB_ok hp
  simp only [impl_Space_roads, guardB_true (fold_len hn).2.1, Int.toNat_natCast]
  have k0 : loopO impl_Space_roads_B0 ((rows L.length (raw (S.take 0)), S, (S.length : Int), ((0 : Nat) : Int), ()), ()) = some ((rows L.length (raw (S.take S.length)), ()), ()) := by
    refine loop_count (fun i => ((rows L.length (raw (S.take i)), S, (S.length : Int), (i : Int), ()), ())) S.length _ (fun i hi => ?_) ?_ 0 (Nat.zero_le _)
    · obtain ⟨a, b, he, hab, hb⟩ := hS i hi
      have hl := fun j => raw_len (S.take i) j
      simp only [List.length_take] at hl
      have g1 : decide ((List.length (raw (S.take i) a) + List.length [(b : Int)]) * 8 ≤ 70368744177664) = true := by
        have := hl a
        simp only [List.length_singleton, decide_eq_true_eq]
        omega
      have g2 : decide ((List.length (raw (S.take i) b) + List.length [(a : Int)]) * 8 ≤ 70368744177664) = true := by
        have := hl b
        simp only [List.length_singleton, decide_eq_true_eq]
        omega
      simp only [impl_Space_roads_B0, bif_decide, if_pos (show (i : Int) < (S.length : Int) by omega), guardB_true (inb_true (Int.natCast_nonneg i) (show (i : Int) < (S.length : Int) by omega)), Int.toNat_natCast, he, rows_len, guardB_true (inb_true (Int.natCast_nonneg a) (show (a : Int) < (L.length : Int) by omega)), guardB_true (inb_true (Int.natCast_nonneg b) (show (b : Int) < (L.length : Int) by omega)), rows_get (show a < L.length by omega), rows_get (show b < L.length by omega), Nat.beq_refl, Bool.and_self, guardB_true rfl, w64_succ (show i < 4611686018427387904 by omega), rows_set, if_neg (show ¬ b = a by omega), guardB_true g1, guardB_true g2]
      rw [take_one hi (0, 0), he]
      have : rows L.length (fun j => if j = b then raw (S.take i) b ++ [(a : Int)] else if j = a then raw (S.take i) a ++ [(b : Int)] else raw (S.take i) j) = rows L.length (raw (S.take i ++ [((a : Int), (b : Int))])) := rows_congr fun j _ => by
        rw [raw_snoc _ _ _ _ hab]
        by_cases h : j = b
        · subst h; rw [if_pos rfl, if_pos rfl]
        · by_cases h2 : j = a
          · subst h2; simp [h]
          · simp only [if_neg h, if_neg h2]
      rw [this]
    · simp only [impl_Space_roads_B0, bif_decide, if_neg (show ¬ (S.length : Int) < (S.length : Int) by omega)]
  have k1 : loopO impl_Space_roads_B1 ((rows L.length (fun j => if j < 0 then nbr S j else raw S j), (L.length : Int), ((0 : Nat) : Int), ()), ()) = some ((rows L.length (fun j => if j < L.length then nbr S j else raw S j), ()), ()) := by
    refine loop_count (fun i => ((rows L.length (fun j => if j < i then nbr S j else raw S j), (L.length : Int), (i : Int), ()), ())) L.length _ (fun i hi => ?_) ?_ 0 (Nat.zero_le _)
    · have hl := raw_len S i
      simp only [impl_Space_roads_B1, bif_decide, if_pos (show (i : Int) < (L.length : Int) by omega), rows_len, guardB_true (inb_true (Int.natCast_nonneg i) (show (i : Int) < (L.length : Int) by omega)), Int.toNat_natCast, rows_get hi, if_neg (show ¬ i < i by omega), slices_Sort_int_int, sortFn]
      rw [guardB_true (by simp only [decide_eq_true_eq]; omega)]
      simp only [sort_of_perm (raw_perm S i) (nbr_sorted hp i), rows_set, w64_succ (show i < 4611686018427387904 by omega)]
      have : rows L.length (fun j => if j = i then nbr S i else if j < i then nbr S j else raw S j) = rows L.length (fun j => if j < i + 1 then nbr S j else raw S j) := rows_congr fun j _ => by
        by_cases h : j = i
        · subst h; rw [if_pos rfl, if_pos (by omega)]
        · by_cases h2 : j < i
          · rw [if_neg h, if_pos h2, if_pos (by omega)]
          · rw [if_neg h, if_neg h2, if_neg (by omega)]
      rw [this]
    · simp only [impl_Space_roads_B1, bif_decide, if_neg (show ¬ (L.length : Int) < (L.length : Int) by omega)]
  rw [List.take_length] at k0
  have z0 : rows L.length (raw (S.take 0)) = List.replicate L.length [] := by rw [rows_rep]; exact rows_congr fun j _ => rfl
  have z1 : rows L.length (fun j => if j < 0 then nbr S j else raw S j) = rows L.length (raw S) := rows_congr fun j _ => by simp
  have z2 : rows L.length (fun j => if j < L.length then nbr S j else raw S j) = rows L.length (nbr S) := rows_congr fun j hj => by simp [hj]
  rw [z0] at k0
  rw [z1, z2] at k1
  erw [k0]
  simp only [rows_len]
  erw [k1]
  rfl
def ins (n : Int) : List Int → List Int
  | [] => [n]
  | x :: l => if x < n then x :: ins n l else n :: x :: l
theorem ins_perm (n : Int) : ∀ l : List Int, (ins n l).Perm (n :: l)
  | [] => List.Perm.refl _
  | x :: l => by
    simp only [ins]
    split
    · exact ((ins_perm n l).cons x).trans (List.Perm.swap _ _ _)
    · exact List.Perm.refl _
theorem ins_len (n : Int) (l : List Int) : (ins n l).length = l.length + 1 := by rw [(ins_perm n l).length_eq, List.length_cons]
theorem ins_sorted (n : Int) : ∀ l : List Int, l.Pairwise (· < ·) → n ∉ l → (ins n l).Pairwise (· < ·)
  | [], _, _ => by simp [ins]
  | x :: l, hl, hn => by
    simp only [List.pairwise_cons, List.mem_cons, not_or] at hl hn
    simp only [ins]
    split
    · rename_i hx
      rw [List.pairwise_cons]
      refine ⟨fun y hy => ?_, ins_sorted n l hl.2 hn.2⟩
      rcases List.mem_cons.1 ((ins_perm n l).mem_iff.1 hy) with rfl | hy
      · exact hx
      · exact hl.1 y hy
    · rename_i hx
      rw [List.pairwise_cons, List.pairwise_cons]
      refine ⟨fun y hy => ?_, hl⟩
      rcases List.mem_cons.1 hy with rfl | hy
      · omega
      · have := hl.1 y hy; omega
def clear (agents moved : List Int) (a to : Int) (i : Nat) : Bool := !(decide (moved.getD i 0 = to) || (decide (moved.getD i 0 = a) && decide (agents.getD i 0 = to)))
def clashB (agents moved : List Int) (k : Nat) (to : Int) : Bool := !allUpto (clear agents moved (agents.getD k 0) to) k
theorem l11Clash_eq (agents moved : List Int) (k : Nat) (to : Int) (h1 : k ≤ moved.length) (h2 : k < agents.length) (h3 : agents.length ≤ 1048576) : spec_l11Clash (agents, moved, (k : Int), to, ()) () = some ((clashB agents moved k to, ()), ()) := by
  have key := loop_all (B := spec_l11Clash_B0) (fun i => ((agents, moved, (k : Int), to, (i : Int), ()), ())) (clear agents moved (agents.getD k 0) to) k (.inl ((true, ()), ())) (.inr ((), ())) (fun i hi _ => by
    simp only [spec_l11Clash_B0, bif_decide, if_pos (show (i : Int) < (k : Int) by omega), guardB_true (inb_true (Int.natCast_nonneg i) (show (i : Int) < (moved.length : Int) by omega)), guardB_true (inb_true (Int.natCast_nonneg i) (show (i : Int) < (agents.length : Int) by omega)), guardB_true (inb_true (Int.natCast_nonneg k) (show (k : Int) < (agents.length : Int) by omega)), Int.toNat_natCast, w64_succ (show i < 4611686018427387904 by omega), clear]
    by_cases e1 : moved.getD i 0 = to
    · rw [beq_eq e1, decide_eq_true e1]; rfl
    · rw [beq_ne e1, decide_eq_false e1]
      by_cases e2 : moved.getD i 0 = agents.getD k 0
      · rw [beq_eq e2, decide_eq_true e2]
        by_cases e3 : agents.getD i 0 = to
        · rw [beq_eq e3, decide_eq_true e3]; rfl
        · rw [beq_ne e3, decide_eq_false e3]; rfl
      · rw [beq_ne e2, decide_eq_false e2]; rfl) (by simp [spec_l11Clash_B0])
  simp only [spec_l11Clash, clashB]
  erw [key]
  cases allUpto (clear agents moved (agents.getD k 0) to) k <;> rfl
/-- where an agent may go -/
def choices (S : List (Int × Int)) (a : Int) : List Int := ins a (nbr S a.toNat)
theorem not_nbr {S : List (Int × Int)} {n : Nat} (h : StepsOk S n) (j : Nat) : (j : Int) ∉ nbr S j := by
  intro hm
  simp only [nbr, inc, outg, List.mem_append, List.mem_map, List.mem_filter, decide_eq_true_eq] at hm
  rcases hm with ⟨e, ⟨he, e1⟩, e2⟩ | ⟨e, ⟨he, e1⟩, e2⟩ <;> (have := steps_mem h he; omega)
theorem choices_sorted {S : List (Int × Int)} {n : Nat} (h : pairsB S n = true) (j : Nat) : (choices S j).Pairwise (· < ·) := ins_sorted _ _ (nbr_sorted h j) (not_nbr (pairsB_ok h) j)
theorem nbr_len {S : List (Int × Int)} (hs : S.length ≤ 6000) (j : Nat) : (nbr S j).length ≤ 12000 := by
  rw [nbr, List.length_append]
  have := inc_len S j
  have := outg_len S j
  omega
theorem choices_len {S : List (Int × Int)} (hs : S.length ≤ 6000) (a : Int) : (choices S a).length ≤ 12001 := by
  rw [choices, ins_len]
  have := nbr_len hs a.toNat
  omega
/-- all lists that go on from some moved agents -/
def goOn (S : List (Int × Int)) (agents : List Int) : Nat → List Int → List (List Int)
  | 0, l => [l]
  | d + 1, l => (choices S (agents.getD l.length 0)).flatMap fun c => if clashB agents l l.length c then [] else goOn S agents d (l ++ [c])
theorem flatMap_len {α β : Type} (f : α → List β) (m : Nat) : ∀ l : List α, (∀ x, (f x).length ≤ m) → (l.flatMap f).length ≤ l.length * m
  | [], _ => by simp
  | x :: l, h => by
    rw [List.flatMap_cons, List.length_append, List.length_cons, Nat.add_mul, Nat.one_mul]
    have := flatMap_len f m l h
    have := h x
    omega
theorem goOn_len {S : List (Int × Int)} (hs : S.length ≤ 6000) (agents : List Int) : ∀ (d : Nat) (l : List Int), (goOn S agents d l).length ≤ 12001 ^ d
  | 0, l => by simp [goOn]
  | d + 1, l => by
    simp only [goOn]
    refine Nat.le_trans (flatMap_len _ (12001 ^ d) _ fun c => ?_) ?_
    · split
      · simp
      · exact goOn_len hs agents d _
    · rw [Nat.pow_succ, Nat.mul_comm]
      exact Nat.mul_le_mul_left _ (choices_len hs _)
/-- one agent more, for all lists -/
def more1 (S : List (Int × Int)) (agents : List Int) (k : Nat) (now : List (List Int)) : List (List Int) :=
  now.flatMap fun l => (choices S (agents.getD k 0)).flatMap fun c => if clashB agents l k c then [] else [l ++ [c]]
def nowAt (S : List (Int × Int)) (agents : List Int) : Nat → List (List Int)
  | 0 => [[]]
  | k + 1 => more1 S agents k (nowAt S agents k)
theorem nowAt_len (S : List (Int × Int)) (agents : List Int) : ∀ k, ∀ l ∈ nowAt S agents k, l.length = k
  | 0, l, h => by simp [nowAt] at h; simp [h]
  | k + 1, l, h => by
    simp only [nowAt, more1, List.mem_flatMap] at h
    obtain ⟨l', h1, c, _, h2⟩ := h
    split at h2
    · simp at h2
    · simp only [List.mem_singleton] at h2
      rw [h2, List.length_append, nowAt_len S agents k l' h1]
      rfl
theorem flatMap_congr' {α β : Type} {f g : α → List β} : ∀ {l : List α}, (∀ x ∈ l, f x = g x) → l.flatMap f = l.flatMap g
  | [], _ => rfl
  | x :: l, h => by rw [List.flatMap_cons, List.flatMap_cons, h x (by simp), flatMap_congr' fun y hy => h y (by simp [hy])]
theorem now_goOn (S : List (Int × Int)) (agents : List Int) : ∀ (d k : Nat), (nowAt S agents k).flatMap (goOn S agents d) = nowAt S agents (k + d)
  | 0, k => by
    rw [show (goOn S agents 0) = fun l => [l] from rfl, List.flatMap_singleton' ]
    rfl
  | d + 1, k => by
    rw [show k + (d + 1) = k + 1 + d by omega, ← now_goOn S agents d (k + 1)]
    simp only [nowAt, more1]
    rw [List.flatMap_assoc]
    refine flatMap_congr' fun l hl => ?_
    simp only [goOn]
    rw [nowAt_len S agents k l hl, List.flatMap_assoc]
    refine flatMap_congr' fun c _ => ?_
    split
    · rfl
    · simp
theorem flatMap_snoc {α β : Type} (f : α → List β) (l : List α) (x : α) : (l ++ [x]).flatMap f = l.flatMap f ++ f x := by simp
def oneOf (agents l : List Int) (k : Nat) (c : Int) : List (List Int) := if clashB agents l k c then [] else [l ++ [c]]
theorem oneOf_len (agents l : List Int) (k : Nat) (c : Int) : (oneOf agents l k c).length ≤ 1 := by unfold oneOf; split <;> simp
theorem nowAt_size {S : List (Int × Int)} (hs : S.length ≤ 6000) (agents : List Int) : ∀ k, (nowAt S agents k).length ≤ 12001 ^ k
  | 0 => by simp [nowAt]
  | k + 1 => by
    simp only [nowAt, more1]
    refine Nat.le_trans (flatMap_len _ 12001 _ fun l => ?_) ?_
    · refine Nat.le_trans (flatMap_len _ 1 _ fun c => ?_) ?_
      · exact oneOf_len agents l k c
      · have := choices_len hs (agents.getD k 0); omega
    · rw [Nat.pow_succ]
      exact Nat.mul_le_mul_right _ (nowAt_size hs agents k)
/-- places of agents -/
def AgOk (n : Nat) (agents : List Int) : Prop := agents.length ≤ 3 ∧ ∀ a ∈ agents, 0 ≤ a ∧ a < n
theorem agentsB_ok {n : Nat} {l : List Int} (h : agentsB n l = true) : AgOk n l := by
  simp only [agentsB, inR, Bool.and_eq_true, decide_eq_true_eq, List.all_eq_true] at h
  exact ⟨by omega, fun a ha => by have := h.2.2 a ha; omega⟩
theorem listsP_get {S : List (Int × Int)} {n : Nat} {a : Int} (h0 : 0 ≤ a) (h : a < n) : (listsP S n).getD a.toNat [] = nbr S a.toNat := rows_get (by omega) _
noncomputable abbrev JF := impl_Space_joint_1_a0a1a2a3a4_b1bsb2bsfimpl_Space_joint_1_01234_F
theorem JJ_clash (rc) (k : Nat) (to : Int) (r : List Int) (q j : Int) (l agents : List Int) (out lists : List (List Int)) (h1 : l.length = k) (h2 : k < agents.length) (h3 : agents.length ≤ 1048576) :
    loopO (impl_Space_joint_1_a0a1a2a3a4_b1bsb2bsfimpl_Space_joint_1_01234_B0 rc) (((k : Int), to, false, r, q, j, (l.length : Int), ((0 : Nat) : Int), ()), (l, agents, out, lists, ())) = some (((k : Int), to, clashB agents l k to, r, q, j, ()), (l, agents, out, lists, ())) := by
  have key := loop_count (B := impl_Space_joint_1_a0a1a2a3a4_b1bsb2bsfimpl_Space_joint_1_01234_B0 rc) (fun i => (((k : Int), to, !allUpto (clear agents l (agents.getD k 0) to) i, r, q, j, (l.length : Int), (i : Int), ()), (l, agents, out, lists, ()))) l.length (((k : Int), to, !allUpto (clear agents l (agents.getD k 0) to) l.length, r, q, j, ()), (l, agents, out, lists, ())) (fun i hi => by
    simp only [impl_Space_joint_1_a0a1a2a3a4_b1bsb2bsfimpl_Space_joint_1_01234_B0, bif_decide, if_pos (show (i : Int) < (l.length : Int) by omega), guardB_true (inb_true (Int.natCast_nonneg i) (show (i : Int) < (l.length : Int) by omega)), guardB_true (inb_true (Int.natCast_nonneg i) (show (i : Int) < (agents.length : Int) by omega)), guardB_true (inb_true (Int.natCast_nonneg k) (show (k : Int) < (agents.length : Int) by omega)), Int.toNat_natCast, w64_succ (show i < 4611686018427387904 by omega), allUpto, clear]
    generalize allUpto _ i = c
    cases c
    · simp
    · simp only [Bool.not_true, cond_false, Bool.true_and, Bool.not_not]
      by_cases e1 : l.getD i 0 = to
      · rw [beq_eq e1, decide_eq_true e1]; rfl
      · rw [beq_ne e1, decide_eq_false e1]
        by_cases e2 : l.getD i 0 = agents.getD k 0
        · rw [beq_eq e2, decide_eq_true e2]
          by_cases e3 : agents.getD i 0 = to
          · rw [beq_eq e3.symm, decide_eq_true e3]; rfl
          · rw [beq_ne (fun e => e3 e.symm), decide_eq_false e3]; rfl
        · rw [beq_ne e2, decide_eq_false e2]; rfl) (by simp only [impl_Space_joint_1_a0a1a2a3a4_b1bsb2bsfimpl_Space_joint_1_01234_B0, bif_decide, if_neg (show ¬ (l.length : Int) < (l.length : Int) by omega)]) 0 (Nat.zero_le _)
  rw [← h1] at key ⊢
  exact key
theorem flatMap_take {α β : Type} (f : α → List β) (l : List α) (i : Nat) : ((l.take i).flatMap f).length ≤ (l.flatMap f).length := by
  conv => rhs; rw [← List.take_append_drop i l, List.flatMap_append, List.length_append]
  omega
theorem JJ_run (S : List (Int × Int)) (n : Nat) (agents : List Int) (hs : S.length ≤ 6000) (hp : pairsB S n = true) (hA : AgOk n agents) : ∀ (d f : Nat) (l : List Int) (out : List (List Int)), l.length + d = agents.length → d < f → out.length + (goOn S agents d l).length ≤ 1900000000000 →
    fuelF JF f () (l, agents, out, listsP S n, ()) = some ((), (l, agents, out ++ goOn S agents d l, listsP S n, ()))
  | d, 0, l, out, _, hf, _ => by omega
  | 0, f + 1, l, out, hl, hf, hb => by
    have ha := hA.1
    simp only [fuelF, JF, impl_Space_joint_1_a0a1a2a3a4_b1bsb2bsfimpl_Space_joint_1_01234_F, goOn]
    have e : (l.length : Int) = (agents.length : Int) := by omega
    simp only [goOn, List.length_singleton] at hb
    rw [beq_eq e]
    simp only [cond_true, impl_Space_joint_1_a0a1a2a3a4_b1bsb2bsfimpl_Space_joint_1_01234_D0, slices_Clone_int_int, cloneFn]
    rw [guardB_true (by simp only [decide_eq_true_eq]; omega)]
    simp only
    rw [guardB_true (by simp only [List.length_singleton, decide_eq_true_eq]; omega)]
  | d + 1, f + 1, l, out, hl, hf, hb => by
    have ha := hA.1
    have hok := pairsB_ok hp
    have hk : l.length < agents.length := by omega
    have hm := hA.2 _ (List.getElem_mem hk)
    rw [← getD_at hk 0] at hm
    have hlist := listsP_get (S := S) hm.1 hm.2
    have hlen := nbr_len hs (agents.getD l.length 0).toNat
    have hni : agents.getD l.length 0 ∉ nbr S (agents.getD l.length 0).toNat := by
      have := not_nbr hok (agents.getD l.length 0).toNat
      rwa [Int.toNat_of_nonneg hm.1] at this
    have hsort : ([agents.getD l.length 0] ++ nbr S (agents.getD l.length 0).toNat).mergeSort (fun a b => decide (a ≤ b)) = choices S (agents.getD l.length 0) :=
      sort_of_perm ((ins_perm _ _).symm) (by
        have := choices_sorted hp (agents.getD l.length 0).toNat
        rwa [Int.toNat_of_nonneg hm.1] at this)
    have hcl := choices_len hs (agents.getD l.length 0)
    generalize hch : choices S (agents.getD l.length 0) = ch at hsort hcl
    have hgo : goOn S agents (d + 1) l = ch.flatMap fun c => if clashB agents l l.length c then [] else goOn S agents d (l ++ [c]) := by simp only [goOn, hch]
    rw [hgo] at hb ⊢
    have key := loop_count (B := impl_Space_joint_1_a0a1a2a3a4_b1bsb2bsfimpl_Space_joint_1_01234_B1 (fuelF JF f)) (fun i => (((l.length : Int), ch, (ch.length : Int), (i : Int), ()), (l, agents, out ++ (ch.take i).flatMap (fun c => if clashB agents l l.length c then [] else goOn S agents d (l ++ [c])), listsP S n, ()))) ch.length ((), (l, agents, out ++ (ch.take ch.length).flatMap (fun c => if clashB agents l l.length c then [] else goOn S agents d (l ++ [c])), listsP S n, ())) (fun i hi => by
      have hpre := flatMap_take (fun c => if clashB agents l l.length c then [] else goOn S agents d (l ++ [c])) ch (i + 1)
      rw [take_one hi 0, flatMap_snoc, List.length_append] at hpre
      simp only [impl_Space_joint_1_a0a1a2a3a4_b1bsb2bsfimpl_Space_joint_1_01234_B1, bif_decide, if_pos (show (i : Int) < (ch.length : Int) by omega), guardB_true (inb_true (Int.natCast_nonneg i) (show (i : Int) < (ch.length : Int) by omega)), Int.toNat_natCast]
      erw [JJ_clash (fuelF JF f) l.length (ch.getD i 0) ch (ch.length : Int) (i : Int) l agents (out ++ (ch.take i).flatMap (fun c => if clashB agents l l.length c then [] else goOn S agents d (l ++ [c]))) (listsP S n) rfl hk (by omega)]
      rw [take_one hi 0, flatMap_snoc]
      cases hc : clashB agents l l.length (ch.getD i 0)
      · simp only [hc, Bool.false_eq_true, if_false] at hpre
        simp only [Bool.not_false, cond_true, Bool.false_eq_true, if_false]
        rw [guardB_true (by simp only [List.length_singleton, decide_eq_true_eq]; omega)]
        rw [JJ_run S n agents hs hp hA d f (l ++ [ch.getD i 0]) _ (by simp only [List.length_append, List.length_singleton]; omega) (by omega) (by simp only [List.length_append] at *; omega)]
        have e1 : w64 (((l ++ [ch.getD i 0]).length : Int) - 1) = (l.length : Int) := by
          rw [w64_of] <;> simp only [List.length_append, List.length_singleton] <;> omega
        simp only [e1, Int.toNat_natCast, List.drop_zero]
        rw [guardB_true (by simp only [List.length_append, List.length_singleton, Bool.and_eq_true, decide_eq_true_eq]; omega)]
        simp only [List.take_left', List.append_assoc, w64_succ (show i < 4611686018427387904 by omega)]
      · simp only [Bool.not_true, cond_false, if_true, List.append_nil, w64_succ (show i < 4611686018427387904 by omega)]) (by simp only [impl_Space_joint_1_a0a1a2a3a4_b1bsb2bsfimpl_Space_joint_1_01234_B1, bif_decide, if_neg (show ¬ (ch.length : Int) < (ch.length : Int) by omega)]) 0 (Nat.zero_le _)
    rw [List.take_length] at key
    simp only [List.take_zero, List.flatMap_nil, List.append_nil] at key
    simp only [fuelF, JF, impl_Space_joint_1_a0a1a2a3a4_b1bsb2bsfimpl_Space_joint_1_01234_F]
    rw [beq_ne (show ¬ (l.length : Int) = (agents.length : Int) by omega)]
    simp only [cond_false, guardB_true (inb_true (Int.natCast_nonneg l.length) (show (l.length : Int) < (agents.length : Int) by omega)), Int.toNat_natCast, hlist]
    rw [guardB_true (by unfold listsP; rw [rows_len]; exact inb_true hm.1 hm.2)]
    rw [guardB_true (by simp only [List.length_singleton, decide_eq_true_eq]; omega)]
    simp only [slices_Sorted_int_own, sortedFn]
    rw [guardB_true (by simp only [List.length_append, List.length_singleton, decide_eq_true_eq]; omega)]
    simp only [hsort]
    erw [key]
theorem joint_eq (x : List (List Int) × List (Int × Int)) (agents : List Int) (hs : x.2.length ≤ 6000) (hp : pairsB x.2 x.1.length = true) (hA : AgOk x.1.length agents) : impl_Space_joint (x, listsP x.2 x.1.length, agents, ()) () = some ((nowAt x.2 agents agents.length, ()), ()) := by
  have h := JJ_run x.2 x.1.length agents hs hp hA agents.length 1000 [] [] (by simp) (by have := hA.1; omega) (by
    have := goOn_len hs agents agents.length []
    have h2 : 12001 ^ agents.length ≤ 1900000000000 := by
      have := hA.1
      match agents.length, this with
      | 0, _ => decide
      | 1, _ => decide
      | 2, _ => decide
      | 3, _ => decide
    simp only [List.length_nil]
    omega)
  have h2 := now_goOn x.2 agents agents.length 0
  simp only [nowAt, List.flatMap_cons, List.flatMap_nil, List.append_nil, Nat.zero_add] at h2
  simp only [List.nil_append, h2] at h
  simp only [impl_Space_joint, show impl_Space_joint_1_a0a1a2a3a4_b1bsb2bsfimpl_Space_joint_1_01234 = fuelF JF 1000 from rfl]
  rw [h]
theorem Equal_eq (a b : List Int) (ha : a.length ≤ 1048576) : slices_Equal_int_int (a, b, ()) () = some ((decide (a = b), ()), ()) := by
  simp only [slices_Equal_int_int]
  by_cases hl : a.length = b.length
  · have key := loop_all (B := slices_Equal_int_int_B0) (fun i => ((a, b, (a.length : Int), (i : Int), ()), ())) (fun i => decide (a.getD i 0 = b.getD i 0)) a.length (.inl ((false, ()), ())) (.inr ((), ())) (fun i hi _ => by
      simp only [slices_Equal_int_int_B0, bif_decide, if_pos (show (i : Int) < (a.length : Int) by omega), guardB_true (inb_true (Int.natCast_nonneg i) (show (i : Int) < (a.length : Int) by omega)), guardB_true (inb_true (Int.natCast_nonneg i) (show (i : Int) < (b.length : Int) by omega)), Int.toNat_natCast, w64_succ (show i < 4611686018427387904 by omega)]
      by_cases h : a.getD i 0 = b.getD i 0
      · rw [bne_eq h, if_pos h]; rfl
      · rw [bne_ne h, if_neg h]; rfl) (by simp [slices_Equal_int_int_B0])
    have e : allUpto (fun i => decide (a.getD i 0 = b.getD i 0)) a.length = decide (a = b) := by
      rw [Bool.eq_iff_iff, allUpto_iff, decide_eq_true_iff]
      constructor
      · intro h
        apply List.ext_getElem hl
        intro i h1 h2
        have := h i h1
        rw [getD_at h1, getD_at h2] at this
        simpa using this
      · intro h i hi
        rw [h]; simp
    rw [bne_eq (show (a.length : Int) = (b.length : Int) by omega)]
    simp only [cond_false]
    erw [key]
    rw [e]
    cases decide (a = b) <;> rfl
  · rw [bne_ne (show ¬ (a.length : Int) = (b.length : Int) by omega), decide_eq_false (fun h => hl (by rw [h]))]
    rfl
theorem IsJointPlan_contains (L : List (List Int)) (plan : List (List Int)) (k : Nat) (hk : k < plan.length) (hL : L.length ≤ 2000000000000) (hl : ∀ l ∈ L, l.length ≤ 1048576) :
    slices_ContainsFunc_int_int_vf_impl_IsJointPlan_1_01__bsbs (L, ()) (plan, (k : Int), ()) = some ((decide (plan.getD k [] ∈ L), ()), (plan, (k : Int), ())) := by
  have key := loop_idx (B := slices_IndexFunc_int_int_vf_impl_IsJointPlan_1_01__bsbs_B0) (fun i => ((L, (L.length : Int), (i : Int), ()), (plan, (k : Int), ()))) (fun i => decide (L.getD i [] = plan.getD k [])) L.length (fun i => .inl ((i, ()), (plan, (k : Int), ()))) (.inr ((), (plan, (k : Int), ()))) (fun i hi => by
    simp only [slices_IndexFunc_int_int_vf_impl_IsJointPlan_1_01__bsbs_B0, bif_decide, if_pos (show (i : Int) < (L.length : Int) by omega), guardB_true (inb_true (Int.natCast_nonneg i) (show (i : Int) < (L.length : Int) by omega)), guardB_true (inb_true (Int.natCast_nonneg k) (show (k : Int) < (plan.length : Int) by omega)), Int.toNat_natCast, impl_IsJointPlan_1_vcc, Equal_eq (L.getD i []) (plan.getD k []) (by rw [getD_at hi]; exact hl _ (List.getElem_mem hi)), w64_succ (show i < 4611686018427387904 by omega)]
    by_cases h : L.getD i [] = plan.getD k []
    · rw [if_pos h, if_pos h]
    · rw [if_neg h, if_neg h]) (by simp [slices_IndexFunc_int_int_vf_impl_IsJointPlan_1_01__bsbs_B0])
  have k2 : slices_IndexFunc_int_int_vf_impl_IsJointPlan_1_01__bsbs (L, ()) (plan, (k : Int), ()) = some ((firstIdx (fun i => decide (L.getD i [] = plan.getD k [])) 0 L.length, ()), (plan, (k : Int), ())) := by
    simp only [slices_IndexFunc_int_int_vf_impl_IsJointPlan_1_01__bsbs]
    erw [key]
    by_cases h : firstIdx (fun i => decide (L.getD i [] = plan.getD k [])) 0 L.length < 0
    · rw [if_pos h, firstIdx_range _ _ h]
    · rw [if_neg h]
  simp only [slices_ContainsFunc_int_int_vf_impl_IsJointPlan_1_01__bsbs, k2, firstIdx_neg]
  have e : (!allUpto (fun i => !decide (L.getD (0 + i) [] = plan.getD k [])) L.length) = decide (plan.getD k [] ∈ L) := by
    rw [Bool.eq_iff_iff, Bool.not_eq_true', ← Bool.not_eq_true, allUpto_iff, decide_eq_true_iff]
    constructor
    · intro h
      refine Classical.byContradiction fun g => h fun i hi => ?_
      simp only [Nat.zero_add, Bool.not_eq_true', decide_eq_false_iff_not]
      intro e
      apply g
      rw [← e, getD_at hi]
      exact List.getElem_mem hi
    · intro h g
      obtain ⟨i, hi, e⟩ := List.getElem_of_mem h
      have := g i hi
      rw [Nat.zero_add, getD_at hi, e] at this
      simp at this
  rw [e]
/-- one joint move -/
def moveB (S : List (Int × Int)) (p q : List Int) (k : Nat) : Bool := (decide (p.getD k 0 = q.getD k 0) || decide (q.getD k 0 ∈ nbr S (p.getD k 0).toNat)) && !clashB p q k (q.getD k 0)
theorem clear_take (p q : List Int) (a t : Int) (k : Nat) : allUpto (clear p (q.take k) a t) k = allUpto (clear p q a t) k := by
  rw [Bool.eq_iff_iff, allUpto_iff, allUpto_iff]
  have : ∀ i, i < k → clear p (q.take k) a t i = clear p q a t i := by
    intro i hi
    have : (q.take k).getD i 0 = q.getD i 0 := by simp [List.getD, hi]
    simp only [clear, this]
  constructor
  · intro h i hi; rw [← this i hi]; exact h i hi
  · intro h i hi; rw [this i hi]; exact h i hi
theorem mem_now (S : List (Int × Int)) (p : List Int) : ∀ (m : Nat) (q : List Int), q ∈ nowAt S p m ↔ q.length = m ∧ ∀ k, k < m → q.getD k 0 ∈ choices S (p.getD k 0) ∧ clashB p q k (q.getD k 0) = false
  | 0, q => by simp [nowAt, List.length_eq_zero_iff]
  | m + 1, q => by
    simp only [nowAt, more1, List.mem_flatMap]
    constructor
    · rintro ⟨l, hl, c, hc, h⟩
      obtain ⟨h1, h2⟩ := (mem_now S p m l).1 hl
      split at h
      · simp at h
      · rename_i hcl
        simp only [List.mem_singleton] at h
        subst h
        refine ⟨by simp [h1], fun k hk => ?_⟩
        rcases Nat.lt_or_ge k m with hkm | hkm
        · have e : (l ++ [c]).getD k 0 = l.getD k 0 := by simp [List.getD, List.getElem?_append_left (show k < l.length by omega)]
          rw [e]
          refine ⟨(h2 k hkm).1, ?_⟩
          have := (h2 k hkm).2
          simp only [clashB] at this ⊢
          rw [← clear_take] at this ⊢
          rwa [List.take_append_of_le_length (by omega)]
        · have : k = m := by omega
          subst this
          have e : (l ++ [c]).getD k 0 = c := by simp [List.getD, ← h1]
          rw [e]
          refine ⟨hc, ?_⟩
          have hcl : clashB p l k c = false := by simpa using hcl
          simp only [clashB] at hcl ⊢
          rw [← clear_take] at hcl ⊢
          rwa [List.take_append_of_le_length (by omega)]
    · rintro ⟨h1, h2⟩
      have hq : q = q.take m ++ [q.getD m 0] := by rw [getD_at (by omega), ← List.take_succ_eq_append_getElem (by omega), List.take_of_length_le (by omega)]
      refine ⟨q.take m, (mem_now S p m (q.take m)).2 ⟨by simp; omega, fun k hk => ?_⟩, q.getD m 0, (h2 m (by omega)).1, ?_⟩
      · have e : (q.take m).getD k 0 = q.getD k 0 := by simp [List.getD, hk]
        rw [e]
        refine ⟨(h2 k (by omega)).1, ?_⟩
        have := (h2 k (by omega)).2
        simp only [clashB] at this ⊢
        rw [← clear_take] at this ⊢
        rwa [List.take_take, Nat.min_eq_left (by omega)]
      · have := (h2 m (by omega)).2
        have : clashB p (q.take m) m (q.getD m 0) = false := by
          simp only [clashB] at this ⊢
          rwa [clear_take]
        rw [this]
        simpa using hq
theorem nbr_range {S : List (Int × Int)} {n : Nat} (h : StepsOk S n) {j : Nat} {b : Int} (hb : b ∈ nbr S j) : 0 ≤ b ∧ b < n := by
  simp only [nbr, inc, outg, List.mem_append, List.mem_map, List.mem_filter, decide_eq_true_eq] at hb
  rcases hb with ⟨e, ⟨he, e1⟩, rfl⟩ | ⟨e, ⟨he, e1⟩, rfl⟩ <;> (have := steps_mem h he; omega)
theorem mem_choices {S : List (Int × Int)} {a b : Int} : b ∈ choices S a ↔ b = a ∨ b ∈ nbr S a.toNat := by
  rw [choices, (ins_perm _ _).mem_iff, List.mem_cons]
/-- a joint move leads to agents -/
theorem move_iff {S : List (Int × Int)} {n : Nat} (hok : StepsOk S n) {p q : List Int} (hp : agentsB n p = true) : (agentsB n q = true ∧ q.length = p.length ∧ allUpto (moveB S p q) q.length = true) ↔ q ∈ nowAt S p p.length := by
  rw [mem_now]
  constructor
  · rintro ⟨h1, h2, h3⟩
    refine ⟨h2, fun k hk => ?_⟩
    have := allUpto_iff.1 h3 k (by omega)
    simp only [moveB, Bool.and_eq_true, Bool.or_eq_true, decide_eq_true_eq, Bool.not_eq_true'] at this
    exact ⟨mem_choices.2 (this.1.imp (fun e => e.symm) id), this.2⟩
  · rintro ⟨h1, h2⟩
    have hA := agentsB_ok hp
    have hin : ∀ k, k < q.length → 0 ≤ q.getD k 0 ∧ q.getD k 0 < n := by
      intro k hk
      have hpk : k < p.length := by omega
      rcases mem_choices.1 (h2 k hpk).1 with e | e
      · rw [e, getD_at hpk]; exact hA.2 _ (List.getElem_mem hpk)
      · exact nbr_range hok e
    refine ⟨?_, h1, allUpto_iff.2 fun k hk => ?_⟩
    · simp only [agentsB, inR, Bool.and_eq_true, decide_eq_true_eq, List.all_eq_true] at hp ⊢
      refine ⟨by rw [h1]; exact hp.1, ?_, fun y hy => ?_⟩
      · rw [List.nodup_iff_pairwise_ne, List.pairwise_iff_getElem]
        intro i j hi hj hij e
        have := (h2 j (by omega)).2
        simp only [clashB, Bool.not_eq_false'] at this
        have := allUpto_iff.1 this i hij
        simp only [clear, Bool.not_eq_true', Bool.or_eq_false_iff, decide_eq_false_iff_not, getD_at hi, getD_at hj] at this
        exact this.1 e
      · obtain ⟨k, hk, rfl⟩ := List.getElem_of_mem hy
        have := hin k hk
        rw [getD_at hk] at this
        omega
    · have := h2 k (by omega)
      simp only [moveB, Bool.and_eq_true, Bool.or_eq_true, decide_eq_true_eq, Bool.not_eq_true']
      exact ⟨(mem_choices.1 this.1).imp (fun e => e.symm) id, this.2⟩
def planB (S : List (Int × Int)) (n : Nat) (plan : List (List Int)) (i : Nat) : Bool :=
  agentsB n (plan.getD i []) && (decide ((plan.getD i []).length = (plan.getD 0 []).length) && (decide (i = 0) || allUpto (moveB S (plan.getD (i - 1) []) (plan.getD i [])) (plan.getD i []).length))
theorem spec_pl_B0 (x : List (List Int) × List (Int × Int)) (plan : List (List Int)) (i : Nat) (hi : i < plan.length) (h0 : 0 < i) (hpl : plan.length ≤ 1048576) (hs : x.2.length ≤ 6000) (hok : StepsOk x.2 x.1.length) (hA : AgOk x.1.length (plan.getD (i - 1) [])) (hl : (plan.getD i []).length = (plan.getD (i - 1) []).length) :
    loopO spec_IsJointPlan_B0 ((plan, x, listsP x.2 x.1.length, (i : Int), ((0 : Nat) : Int), ()), ()) = some (bif allUpto (moveB x.2 (plan.getD (i - 1) []) (plan.getD i [])) (plan.getD i []).length then .inr ((plan, x, listsP x.2 x.1.length, (i : Int), ()), ()) else .inl ((false, true, ()), ())) := by
  have key := loop_all (B := spec_IsJointPlan_B0) (fun k => ((plan, x, listsP x.2 x.1.length, (i : Int), (k : Int), ()), ())) (moveB x.2 (plan.getD (i - 1) []) (plan.getD i [])) (plan.getD i []).length (.inl ((false, true, ()), ())) (.inr ((plan, x, listsP x.2 x.1.length, (i : Int), ()), ())) (fun k hk _ => by
    have hkp : k < (plan.getD (i - 1) []).length := by omega
    have hm := hA.2 _ (List.getElem_mem hkp)
    rw [← getD_at hkp 0] at hm
    have hlist := listsP_get (S := x.2) hm.1 hm.2
    have hlen := nbr_len hs ((plan.getD (i - 1) []).getD k 0).toNat
    have h3 := hA.1
    have e1 : w64 ((i : Int) - 1) = ((i - 1 : Nat) : Int) := w64_pred (by omega) h0
    simp only [spec_IsJointPlan_B0, bif_decide, if_pos (show (0 : Int) < (i : Int) by omega), guardB_true (inb_true (Int.natCast_nonneg i) (show (i : Int) < (plan.length : Int) by omega)), Int.toNat_natCast, if_pos (show (k : Int) < ((plan.getD i []).length : Int) by omega), e1, guardB_true (inb_true (Int.natCast_nonneg (i - 1)) (show ((i - 1 : Nat) : Int) < (plan.length : Int) by omega)), guardB_true (inb_true (Int.natCast_nonneg k) (show (k : Int) < ((plan.getD (i - 1) []).length : Int) by omega)), guardB_true (inb_true (Int.natCast_nonneg k) (show (k : Int) < ((plan.getD i []).length : Int) by omega)), hlist, w64_succ (show k < 4611686018427387904 by omega),
      l11Clash_eq (plan.getD (i - 1) []) (plan.getD i []) k ((plan.getD i []).getD k 0) (by omega) hkp (by omega), l1Has_eq (nbr x.2 ((plan.getD (i - 1) []).getD k 0).toNat) ((plan.getD i []).getD k 0) (by omega), moveB]
    by_cases h : (plan.getD (i - 1) []).getD k 0 = (plan.getD i []).getD k 0
    · rw [bne_eq h, decide_eq_true h]
      cases clashB (plan.getD (i - 1) []) (plan.getD i []) k ((plan.getD i []).getD k 0) <;> rfl
    · rw [bne_ne h, decide_eq_false h]
      simp only [cond_true]
      rw [guardB_true (by unfold listsP; rw [rows_len]; exact inb_true hm.1 hm.2)]
      cases decide ((plan.getD i []).getD k 0 ∈ nbr x.2 ((plan.getD (i - 1) []).getD k 0).toNat)
      · rfl
      · cases clashB (plan.getD (i - 1) []) (plan.getD i []) k ((plan.getD i []).getD k 0) <;> rfl) (by
      simp only [spec_IsJointPlan_B0, bif_decide, if_pos (show (0 : Int) < (i : Int) by omega), guardB_true (inb_true (Int.natCast_nonneg i) (show (i : Int) < (plan.length : Int) by omega)), Int.toNat_natCast, if_neg (show ¬ ((plan.getD i []).length : Int) < ((plan.getD i []).length : Int) by omega)])
  exact key
theorem spec_plan_eq (x : List (List Int) × List (Int × Int)) (plan : List (List Int)) (hF : Few x) (hpl : plan.length ≤ 1048576) (hlen : ∀ l ∈ plan, l.length ≤ 1048576) (hb : spaceB x = true) :
    spec_IsJointPlan (x, plan, ()) () = some ((allUpto (planB x.2 x.1.length plan) (min plan.length 41) && inR (plan.length : Int) 1 41, true, ()), ()) := by
  have hp : pairsB x.2 x.1.length = true ∧ x.2.length ≤ 6000 := by
    simp only [spaceB, Bool.and_eq_true, decide_eq_true_eq] at hb
    exact ⟨hb.2.2.2, hb.2.1⟩
  have hok := pairsB_ok hp.1
  have hl : ∀ i, i < plan.length → (plan.getD i []).length ≤ 1048576 := fun i hi => by rw [getD_at hi]; exact hlen _ (List.getElem_mem hi)
  have key := loop_all (B := spec_IsJointPlan_B1) (fun i => ((plan, x, listsP x.2 x.1.length, (i : Int), ()), ())) (planB x.2 x.1.length plan) (min plan.length 41) (.inl ((false, true, ()), ())) (.inr ((plan, ()), ())) (fun i hi hg => by
    have hi1 : i < plan.length := by omega
    simp only [spec_IsJointPlan_B1, bif_decide, if_pos (show (i : Int) < (plan.length : Int) by omega), if_pos (show (i : Int) ≤ 40 by omega), guardB_true (inb_true (Int.natCast_nonneg i) (show (i : Int) < (plan.length : Int) by omega)), Int.toNat_natCast, l11Agents_eq x (plan.getD i []) hF.states (hl i hi1), guardB_true (inb_true (Int.le_refl 0) (show (0 : Int) < (plan.length : Int) by omega)), planB]
    cases ha : agentsB x.1.length (plan.getD i [])
    · rfl
    · simp only [Bool.not_true, cond_false, Bool.true_and]
      by_cases he : (plan.getD i []).length = (plan.getD 0 []).length
      · rw [bne_eq (show ((plan.getD i []).length : Int) = ((plan.getD 0 []).length : Int) by omega), decide_eq_true he]
        simp only [cond_false, Bool.true_and]
        by_cases h0 : i = 0
        · subst h0
          have e : loopO spec_IsJointPlan_B0 ((plan, x, listsP x.2 x.1.length, ((0 : Nat) : Int), 0, ()), ()) = some (.inr ((plan, x, listsP x.2 x.1.length, ((0 : Nat) : Int), ()), ())) := loop_end (by simp [spec_IsJointPlan_B0])
          erw [e]
          simp only [decide_true, Bool.true_or, cond_true]
          rfl
        · have hpr := hg (i - 1) (by omega)
          simp only [planB, Bool.and_eq_true, decide_eq_true_eq] at hpr
          have e := spec_pl_B0 x plan i hi1 (by omega) hpl hp.2 hok (agentsB_ok hpr.1) (by omega)
          erw [e]
          rw [decide_eq_false h0]
          cases allUpto (moveB x.2 (plan.getD (i - 1) []) (plan.getD i [])) (plan.getD i []).length
          · rfl
          · simp only [cond_true, Bool.or_true, w64_succ (show i < 4611686018427387904 by omega)]
      · rw [bne_ne (show ¬ ((plan.getD i []).length : Int) = ((plan.getD 0 []).length : Int) by omega), decide_eq_false he]
        rfl) (by
      simp only [spec_IsJointPlan_B1, bif_decide]
      by_cases h : plan.length ≤ 41
      · rw [if_neg (show ¬ ((min plan.length 41 : Nat) : Int) < (plan.length : Int) by omega)]
      · rw [if_pos (show ((min plan.length 41 : Nat) : Int) < (plan.length : Int) by omega), if_neg (show ¬ ((min plan.length 41 : Nat) : Int) ≤ 40 by omega)])
  simp only [spec_IsJointPlan, l2Space_eq x hF, hb, Bool.not_true, cond_false, l2Lists_eq x hok hF.states hF.steps]
  erw [key]
  cases h : allUpto (planB x.2 x.1.length plan) (min plan.length 41)
  · rfl
  · simp only [cond_true, l1In_eq _ _ _, Bool.true_and]
theorem impl_plan_eq (x : List (List Int) × List (Int × Int)) (plan : List (List Int)) (hF : Few x) (hpl : plan.length ≤ 1048576) (hlen : ∀ l ∈ plan, l.length ≤ 1048576) (hb : spaceB x = true) :
    impl_IsJointPlan (x, plan, ()) () = some ((inR (plan.length : Int) 1 41 && (agentsB x.1.length (plan.getD 0 []) && allUpto (fun k => decide (plan.getD (k + 1) [] ∈ nowAt x.2 (plan.getD k []) (plan.getD k []).length)) (plan.length - 1)), true, ()), ()) := by
  have hp : pairsB x.2 x.1.length = true ∧ x.2.length ≤ 6000 := by
    simp only [spaceB, Bool.and_eq_true, decide_eq_true_eq] at hb
    exact ⟨hb.2.2.2, hb.2.1⟩
  have hok := pairsB_ok hp.1
  have hl : ∀ i, i < plan.length → (plan.getD i []).length ≤ 1048576 := fun i hi => by rw [getD_at hi]; exact hlen _ (List.getElem_mem hi)
  simp only [impl_IsJointPlan, IsSpace_eq x hF, hb, Bool.not_true, cond_false, between_eq _ _ _]
  cases h41 : inR (plan.length : Int) 1 41
  · rfl
  · have hr : 1 ≤ plan.length ∧ plan.length ≤ 41 := by
      simp only [inR, Bool.and_eq_true, decide_eq_true_eq] at h41
      omega
    simp only [Bool.not_true, cond_false, Bool.true_and]
    rw [guardB_true (inb_true (Int.le_refl 0) (by omega))]
    rw [areAgents_eq x (plan.getD 0 []) hF.states (hl 0 (by omega))]
    cases ha : agentsB x.1.length (plan.getD 0 [])
    · rfl
    · simp only [Bool.not_true, cond_false, Bool.true_and, roads_eq x hp.1 hF.states hF.steps]
      have key := loop_all (B := impl_IsJointPlan_B0) (fun i => ((x, listsP x.2 x.1.length, ()), (plan, ((i + 1 : Nat) : Int), ()))) (fun k => decide (plan.getD (k + 1) [] ∈ nowAt x.2 (plan.getD k []) (plan.getD k []).length)) (plan.length - 1) (.inl ((false, true, ()), ())) (.inr ((), ())) (fun i hi hg => by
        have hag : ∀ j, j ≤ i → agentsB x.1.length (plan.getD j []) = true := by
          intro j
          induction j with
          | zero => intro _; exact ha
          | succ j ih =>
            intro hj
            have := hg j (by omega)
            rw [decide_eq_true_iff] at this
            exact ((move_iff hok (ih (by omega))).2 this).1
        have hA := agentsB_ok (hag i (Nat.le_refl _))
        have h3 := hA.1
        have hsz := nowAt_size hp.2 (plan.getD i []) (plan.getD i []).length
        have h4 : 12001 ^ (plan.getD i []).length ≤ 1900000000000 := by
          match (plan.getD i []).length, h3 with
          | 0, _ => decide
          | 1, _ => decide
          | 2, _ => decide
          | 3, _ => decide
        have e1 : w64 (((i + 1 : Nat) : Int) - 1) = (i : Int) := by rw [w64_of] <;> omega
        simp only [impl_IsJointPlan_B0, bif_decide, if_pos (show ((i + 1 : Nat) : Int) < (plan.length : Int) by omega), e1, guardB_true (inb_true (Int.natCast_nonneg i) (show (i : Int) < (plan.length : Int) by omega)), Int.toNat_natCast, joint_eq x (plan.getD i []) hp.2 hp.1 hA, IsJointPlan_contains (nowAt x.2 (plan.getD i []) (plan.getD i []).length) plan (i + 1) (by omega) (by omega) (fun l hl => by rw [nowAt_len _ _ _ l hl]; omega)]
        by_cases h : plan.getD (i + 1) [] ∈ nowAt x.2 (plan.getD i []) (plan.getD i []).length
        · rw [decide_eq_true h, if_pos h]
          simp only [Bool.not_true, cond_false, w64_succ (show i + 1 < 4611686018427387904 by omega)]
        · rw [decide_eq_false h, if_neg h]
          rfl) (by simp only [impl_IsJointPlan_B0, bif_decide, if_neg (show ¬ ((plan.length - 1 + 1 : Nat) : Int) < (plan.length : Int) by omega)])
      erw [key]
      cases allUpto (fun k => decide (plan.getD (k + 1) [] ∈ nowAt x.2 (plan.getD k []) (plan.getD k []).length)) (plan.length - 1) <;> rfl
theorem plan_same {S : List (Int × Int)} {n : Nat} (hok : StepsOk S n) (plan : List (List Int)) : (allUpto (planB S n plan) (min plan.length 41) && inR (plan.length : Int) 1 41) =
    (inR (plan.length : Int) 1 41 && (agentsB n (plan.getD 0 []) && allUpto (fun k => decide (plan.getD (k + 1) [] ∈ nowAt S (plan.getD k []) (plan.getD k []).length)) (plan.length - 1))) := by
  cases h41 : inR (plan.length : Int) 1 41
  · simp
  · have hr : 1 ≤ plan.length ∧ plan.length ≤ 41 := by
      simp only [inR, Bool.and_eq_true, decide_eq_true_eq] at h41
      omega
    rw [Nat.min_eq_left hr.2]
    simp only [Bool.and_true, Bool.true_and]
    rw [Bool.eq_iff_iff, Bool.and_eq_true, allUpto_iff, allUpto_iff]
    constructor
    · intro h
      have h0 := h 0 (by omega)
      simp only [planB, Bool.and_eq_true, decide_eq_true_eq] at h0
      refine ⟨h0.1, fun k hk => ?_⟩
      have h1 := h k (by omega)
      have h2 := h (k + 1) (by omega)
      simp only [planB, Bool.and_eq_true, decide_eq_true_eq, Bool.or_eq_true] at h1 h2
      rw [decide_eq_true_iff]
      refine (move_iff hok h1.1).1 ⟨h2.1, by omega, ?_⟩
      rcases h2.2.2 with h3 | h3
      · omega
      · simpa using h3
    · rintro ⟨h0, h⟩
      suffices hs : ∀ i, i < plan.length → agentsB n (plan.getD i []) = true ∧ (plan.getD i []).length = (plan.getD 0 []).length ∧ (i = 0 ∨ allUpto (moveB S (plan.getD (i - 1) []) (plan.getD i [])) (plan.getD i []).length = true) by
        intro i hi
        obtain ⟨h1, h2, h3⟩ := hs i hi
        simp only [planB, Bool.and_eq_true, decide_eq_true_eq, Bool.or_eq_true]
        exact ⟨h1, h2, h3⟩
      intro i
      induction i with
      | zero => intro _; exact ⟨h0, rfl, .inl rfl⟩
      | succ i ih =>
        intro hi
        obtain ⟨h1, h2, _⟩ := ih (by omega)
        have := h i (by omega)
        rw [decide_eq_true_iff] at this
        obtain ⟨k1, k2, k3⟩ := (move_iff hok h1).2 this
        exact ⟨k1, by omega, .inr (by simpa using k3)⟩
theorem FnExactIsJointPlan_true (x : List (List Int) × List (Int × Int)) (plan : List (List Int)) (hx : Sm (.prod (.list (.list I)) (.list (.prod I I))) x) (hpl : Sm (.list (.list I)) plan) : laws_FnExactIsJointPlan (x, plan, ()) () = some ((true, ()), ()) := by
  have hp1 := hpl.1
  have hp2 : ∀ l ∈ plan, l.length ≤ 140737488351232 := fun l hl => (hpl.2 l hl).1
  simp only [laws_FnExactIsJointPlan, bif_decide]
  obtain ⟨r, e1, e2, e3, e4⟩ := szSpace_eq x 1048576 (by omega) (by omega) hx
  rw [e1]
  by_cases h2 : r < 0
  · simp only [if_pos h2]
  have hF := e3 (by omega)
  obtain ⟨r2, f1, f2, f3, f4⟩ := szIntSS_eq plan r (by omega) e2 hp1 hp2
  simp only [if_neg h2, f1]
  by_cases h3 : r2 < 0
  · simp only [if_pos h3]
  have hlen := f3 (by omega)
  have hL : plan.length ≤ 1048576 := by omega
  have hl : ∀ l ∈ plan, l.length ≤ 1048576 := fun l hl => by have := hlen.2 l hl; omega
  simp only [if_neg h3, toSpace_eq x hF, toIntSS_eq plan hL hl, eqSpace_eq x hF, eqIntSS_eq plan hL hl]
  cases hb : spaceB x
  · simp only [spec_IsJointPlan, impl_IsJointPlan, l2Space_eq x hF, IsSpace_eq x hF, hb]
    rfl
  · have hp : pairsB x.2 x.1.length = true := by
      simp only [spaceB, Bool.and_eq_true, decide_eq_true_eq] at hb
      exact hb.2.2.2
    rw [spec_plan_eq x plan hF hL hl hb, impl_plan_eq x plan hF hL hl hb, plan_same (pairsB_ok hp) plan]
    simp

end Go.Proofs.Ytolabkhcmcfnpaa.V
