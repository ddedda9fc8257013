/-
  What the reference and the program compute agrees: plain lemmas over numbers and lists.
-/
import Derived.Test.YtolabkhcmcfnpaaTFnExactCheapTree
import Derived.Test.YtolabkhcmcfnpaaE4
namespace Go.Proofs.Ytolabkhcmcfnpaa.V
open Go Go.Ve Go.Proofs
set_option linter.unusedVariables false
set_option linter.unusedSimpArgs false
theorem fold_len {n : Nat} (h : n ≤ 1048576) : (decide (0 ≤ (n : Int)) && decide ((n : Int) ≤ (n : Int)) && decide ((n : Int) * 8 ≤ 140737488355328)) = true ∧ (decide (0 ≤ (n : Int)) && decide ((n : Int) ≤ (n : Int)) && decide ((n : Int) * 24 ≤ 140737488355328)) = true ∧ (decide (0 ≤ (n : Int)) && decide ((n : Int) ≤ (n : Int)) && decide ((n : Int) * 16 ≤ 140737488355328)) = true := by
  refine ⟨?_, ?_, ?_⟩ <;> simp <;> omega

theorem toIntS_eq (l : List Int) (hl : l.length ≤ 1048576) : laws_toIntS (l, ()) () = some ((l, ()), ()) := by
  simp only [laws_toIntS, guardB_true (fold_len hl).1, Int.toNat_natCast]
  have key : loopO laws_toIntS_B0 ((l, fill (fun j => l.getD j 0) 0 l.length 0, ((0 : Nat) : Int), ()), ()) = some ((fill (fun j => l.getD j 0) 0 l.length l.length, ()), ()) := by
    refine loop_count (fun i => ((l, fill (fun j => l.getD j 0) 0 l.length i, (i : Int), ()), ())) l.length _ (fun i hi => ?_) ?_ 0 (Nat.zero_le _)
    · simp only [laws_toIntS_B0, bif_decide, if_pos (show (i : Int) < (l.length : Int) by omega), fill_len, guardB_true (inb_true (Int.natCast_nonneg i) (show (i : Int) < (l.length : Int) by omega)), Int.toNat_natCast, fill_set hi, w64_succ (show i < 4611686018427387904 by omega)]
    · simp only [laws_toIntS_B0, bif_decide, if_neg (show ¬ (l.length : Int) < (l.length : Int) by omega)]
  rw [fill_zero, fill_all, range_getD] at key
  erw [key]

theorem toIntSS_eq (l : List (List Int)) (hl : l.length ≤ 1048576) (h : ∀ x ∈ l, x.length ≤ 1048576) : laws_toIntSS (l, ()) () = some ((l, ()), ()) := by
  simp only [laws_toIntSS, guardB_true (fold_len hl).2.1, Int.toNat_natCast]
  have key : loopO laws_toIntSS_B0 ((l, fill (fun j => l.getD j []) [] l.length 0, ((0 : Nat) : Int), ()), ()) = some ((fill (fun j => l.getD j []) [] l.length l.length, ()), ()) := by
    refine loop_count (fun i => ((l, fill (fun j => l.getD j []) [] l.length i, (i : Int), ()), ())) l.length _ (fun i hi => ?_) ?_ 0 (Nat.zero_le _)
    · simp only [laws_toIntSS_B0, bif_decide, if_pos (show (i : Int) < (l.length : Int) by omega), fill_len, guardB_true (inb_true (Int.natCast_nonneg i) (show (i : Int) < (l.length : Int) by omega)), Int.toNat_natCast]
      rw [toIntS_eq (l.getD i []) (by rw [getD_at hi]; exact h _ (List.getElem_mem hi))]
      simp only [fill_set (f := fun j => l.getD j []) hi, w64_succ (show i < 4611686018427387904 by omega)]
    · simp only [laws_toIntSS_B0, bif_decide, if_neg (show ¬ (l.length : Int) < (l.length : Int) by omega)]
  rw [fill_zero, fill_all, range_getD] at key
  erw [key]

theorem toIntA2_eq (a : Int × Int) : laws_toIntA2 (a, ()) () = some ((a, ()), ()) := by
  obtain ⟨x, y⟩ := a
  have e0 : laws_toIntA2_B0 (((x, y), 0, ()), ((0, 0), (0, 0), ())) = some (.inl (((x, y), 1, ()), ((0, 0), (x, 0), ()))) := rfl
  have e1 : laws_toIntA2_B0 (((x, y), 1, ()), ((0, 0), (x, 0), ())) = some (.inl (((x, y), 2, ()), ((0, 0), (x, y), ()))) := rfl
  have e2 : laws_toIntA2_B0 (((x, y), 2, ()), ((0, 0), (x, y), ())) = some (.inr ((), ((0, 0), (x, y), ()))) := rfl
  simp only [laws_toIntA2, loop_step e0 (loop_step e1 (loop_end e2))]

theorem toIntA2S_eq (l : List (Int × Int)) (hl : l.length ≤ 1048576) : laws_toIntA2S (l, ()) () = some ((l, ()), ()) := by
  simp only [laws_toIntA2S, guardB_true (fold_len hl).2.2, Int.toNat_natCast]
  have key : loopO laws_toIntA2S_B0 ((l, fill (fun j => l.getD j (0, 0)) (0, 0) l.length 0, ((0 : Nat) : Int), ()), ()) = some ((fill (fun j => l.getD j (0, 0)) (0, 0) l.length l.length, ()), ()) := by
    refine loop_count (fun i => ((l, fill (fun j => l.getD j (0, 0)) (0, 0) l.length i, (i : Int), ()), ())) l.length _ (fun i hi => ?_) ?_ 0 (Nat.zero_le _)
    · simp only [laws_toIntA2S_B0, bif_decide, if_pos (show (i : Int) < (l.length : Int) by omega), fill_len, guardB_true (inb_true (Int.natCast_nonneg i) (show (i : Int) < (l.length : Int) by omega)), Int.toNat_natCast]
      rw [toIntA2_eq]
      simp only [fill_set (f := fun j => l.getD j (0, 0)) hi, w64_succ (show i < 4611686018427387904 by omega)]
    · simp only [laws_toIntA2S_B0, bif_decide, if_neg (show ¬ (l.length : Int) < (l.length : Int) by omega)]
  rw [fill_zero, fill_all, range_getD] at key
  erw [key]

theorem allUpto_true {n : Nat} : allUpto (fun _ => true) n = true := allUpto_iff.2 fun _ _ => rfl
theorem eqIntS_gen (l : List Int) (hl : l.length ≤ 2000000000000) : laws_eqIntS (l, l, ()) () = some ((true, ()), ()) := by
  have key := loop_all (B := laws_eqIntS_B0) (fun i => ((l, l, (i : Int), ()), ())) (fun _ => true) l.length (.inl ((false, ()), ())) (.inr ((), ())) (fun i hi _ => by
    simp [laws_eqIntS_B0, inb_nat, hi, guardB, w64_succ (show i < 4611686018427387904 by omega)]) (by simp [laws_eqIntS_B0])
  rw [allUpto_true] at key
  simp only [laws_eqIntS, bne_self_eq_false, cond_false]
  rw [show (0 : Int) = ((0 : Nat) : Int) from rfl, key]
  rfl
theorem eqIntS_eq (l : List Int) (hl : l.length ≤ 1048576) : laws_eqIntS (l, l, ()) () = some ((true, ()), ()) := eqIntS_gen l (by omega)
theorem eqIntSS_gen (l : List (List Int)) (hl : l.length ≤ 2000000000000) (h : ∀ x ∈ l, x.length ≤ 1048576) : laws_eqIntSS (l, l, ()) () = some ((true, ()), ()) := by
  have key := loop_all (B := laws_eqIntSS_B0) (fun i => ((l, l, (i : Int), ()), ())) (fun _ => true) l.length (.inl ((false, ()), ())) (.inr ((), ())) (fun i hi _ => by
    simp only [laws_eqIntSS_B0, bif_decide, if_pos (show (i : Int) < (l.length : Int) by omega), guardB_true (inb_true (Int.natCast_nonneg i) (show (i : Int) < (l.length : Int) by omega)), Int.toNat_natCast]
    rw [eqIntS_eq (l.getD i []) (by rw [getD_at hi]; exact h _ (List.getElem_mem hi))]
    simp [w64_succ (show i < 4611686018427387904 by omega)]) (by simp [laws_eqIntSS_B0])
  rw [allUpto_true] at key
  simp only [laws_eqIntSS, bne_self_eq_false, cond_false]
  rw [show (0 : Int) = ((0 : Nat) : Int) from rfl, key]
  rfl
theorem eqIntSS_eq (l : List (List Int)) (hl : l.length ≤ 1048576) (h : ∀ x ∈ l, x.length ≤ 1048576) : laws_eqIntSS (l, l, ()) () = some ((true, ()), ()) := eqIntSS_gen l (by omega) h
theorem eqIntA2_eq (a : Int × Int) : laws_eqIntA2 (a, a, ()) () = some ((true, ()), ()) := by
  obtain ⟨x, y⟩ := a
  have e0 : laws_eqIntA2_B0 (((x, y), (x, y), 0, ()), ()) = some (.inl (((x, y), (x, y), 1, ()), ())) := by
    simp [laws_eqIntA2_B0, guardB]; rfl
  have e1 : laws_eqIntA2_B0 (((x, y), (x, y), 1, ()), ()) = some (.inl (((x, y), (x, y), 2, ()), ())) := by
    simp [laws_eqIntA2_B0, guardB]; rfl
  have e2 : laws_eqIntA2_B0 (((x, y), (x, y), 2, ()), ()) = some (.inr (.inr ((), ()))) := rfl
  simp only [laws_eqIntA2, loop_step e0 (loop_step e1 (loop_end e2))]
theorem eqIntA2S_eq (l : List (Int × Int)) (hl : l.length ≤ 1048576) : laws_eqIntA2S (l, l, ()) () = some ((true, ()), ()) := by
  have key := loop_all (B := laws_eqIntA2S_B0) (fun i => ((l, l, (i : Int), ()), ())) (fun _ => true) l.length (.inl ((false, ()), ())) (.inr ((), ())) (fun i hi _ => by
    simp only [laws_eqIntA2S_B0, bif_decide, if_pos (show (i : Int) < (l.length : Int) by omega), guardB_true (inb_true (Int.natCast_nonneg i) (show (i : Int) < (l.length : Int) by omega)), Int.toNat_natCast]
    rw [eqIntA2_eq]
    simp [w64_succ (show i < 4611686018427387904 by omega)]) (by simp [laws_eqIntA2S_B0])
  rw [allUpto_true] at key
  simp only [laws_eqIntA2S, bne_self_eq_false, cond_false]
  rw [show (0 : Int) = ((0 : Nat) : Int) from rfl, key]
  rfl

/-- what is asked of a Space that is looked at: not too great -/
structure Few (x : List (List Int) × List (Int × Int)) : Prop where
  states : x.1.length ≤ 1048576
  state : ∀ s ∈ x.1, s.length ≤ 1048576
  steps : x.2.length ≤ 1048576
theorem szIntS_eq (l : List Int) (n : Int) (h0 : 0 ≤ n) (hn : n ≤ 1048576) (hl : l.length ≤ 140737488351232) : laws_szIntS (l, n, ()) () = some (((if (l.length : Int) ≤ n then n - l.length else -1), ()), ()) := by
  simp only [laws_szIntS, w64_of (x := n - (l.length : Int)) (by omega) (by omega), bif_decide]
  by_cases h : (l.length : Int) ≤ n
  · rw [if_neg (by omega), if_pos h]
  · rw [if_pos (by omega), if_neg h]
theorem szIntA2S_eq (l : List (Int × Int)) (n : Int) (h0 : 0 ≤ n) (hn : n ≤ 1048576) (hl : l.length ≤ 140737488351232) : laws_szIntA2S (l, n, ()) () = some (((if (l.length : Int) ≤ n then n - l.length else -1), ()), ()) := by
  simp only [laws_szIntA2S, w64_of (x := n - (l.length : Int)) (by omega) (by omega), bif_decide]
  by_cases h : (l.length : Int) ≤ n
  · rw [if_neg (by omega), if_pos h]
  · rw [if_pos (by omega), if_neg h]
theorem szIntSS_eq (l : List (List Int)) (n : Int) (h0 : 0 ≤ n) (hn : n ≤ 1048576) (hl : l.length ≤ 140737488351232) (hs : ∀ x ∈ l, x.length ≤ 140737488351232) :
    ∃ r : Int, laws_szIntSS (l, n, ()) () = some ((r, ()), ()) ∧ r ≤ 1048576 ∧ (0 ≤ r → (l.length : Int) ≤ n ∧ ∀ x ∈ l, (x.length : Int) ≤ n) ∧ (r < 0 → r = -1) := by
  simp only [laws_szIntSS, w64_of (x := n - (l.length : Int)) (by omega) (by omega), bif_decide]
  by_cases h : n - (l.length : Int) < 0
  · rw [if_pos h]; exact ⟨-1, rfl, by omega, fun h => by omega, fun _ => rfl⟩
  · rw [if_neg h]
    obtain ⟨q, h1, h2⟩ := loop_inv (B := laws_szIntSS_B0) (fun p => ∃ (m : Int) (i : Nat), p = ((l, m, (i : Int), ()), ()) ∧ 0 ≤ m ∧ m ≤ n ∧ i ≤ l.length ∧ ∀ j, j < i → ((l.getD j []).length : Int) ≤ n)
      (fun p => l.length - p.1.2.2.1.toNat) (fun q => match q with
        | .inl ((t, ()), ()) => (fun t : Int => t = -1) t
        | .inr ((m, ()), ()) => (fun m : Int => 0 ≤ m ∧ m ≤ n ∧ ∀ j, j < l.length → ((l.getD j []).length : Int) ≤ n) m) (by
      rintro p ⟨m, i, rfl, h3, h4, h5, h6⟩
      by_cases hi : i < l.length
      · simp only [laws_szIntSS_B0, bif_decide, if_pos (show (i : Int) < (l.length : Int) by omega), guardB_true (inb_true (Int.natCast_nonneg i) (show (i : Int) < (l.length : Int) by omega)), Int.toNat_natCast]
        rw [szIntS_eq (l.getD i []) m h3 (by omega) (by rw [getD_at hi]; exact hs _ (List.getElem_mem hi))]
        by_cases h7 : ((l.getD i []).length : Int) ≤ m
        · rw [if_pos h7]
          simp only [if_neg (show ¬ (m - ((l.getD i []).length : Int)) < 0 by omega), w64_succ (show i < 4611686018427387904 by omega)]
          refine .inl ⟨_, rfl, ⟨_, i + 1, rfl, by omega, by omega, by omega, fun j hj => ?_⟩, ?_⟩
          · rcases Nat.lt_or_ge j i with h | h
            · exact h6 j h
            · rw [show j = i by omega]; omega
          · simp only [Int.toNat_natCast]; omega
        · rw [if_neg h7]
          exact .inr ⟨_, rfl, rfl⟩
      · have hi : i = l.length := by omega
        subst hi
        simp only [laws_szIntSS_B0, bif_decide, if_neg (show ¬ (l.length : Int) < (l.length : Int) by omega)]
        exact .inr ⟨_, rfl, h3, h4, h6⟩) ((l, n - (l.length : Int), 0, ()), ()) ⟨n - (l.length : Int), 0, rfl, by omega, by omega, by omega, fun j hj => by omega⟩
    rw [h1]
    rcases q with ⟨⟨t, ⟨⟩⟩, ⟨⟩⟩ | ⟨⟨m, ⟨⟩⟩, ⟨⟩⟩
    · dsimp only at h2
      exact ⟨t, rfl, by omega, fun h => by omega, fun _ => h2⟩
    · dsimp only at h2
      refine ⟨m, rfl, by have := h2.2.1; omega, fun _ => ⟨by omega, fun x hx => ?_⟩, fun h => by have := h2.1; omega⟩
      obtain ⟨j, hj, rfl⟩ := List.getElem_of_mem hx
      have := h2.2.2 j hj
      rw [getD_at hj] at this
      exact this
theorem szSpace_eq (x : List (List Int) × List (Int × Int)) (n : Int) (h0 : 0 ≤ n) (hn : n ≤ 1048576) (hx : Sm (.prod (.list (.list I)) (.list (.prod I I))) x) :
    ∃ r : Int, laws_szSpace (x, n, ()) () = some ((r, ()), ()) ∧ r ≤ 1048576 ∧ (0 ≤ r → Few x) ∧ (r < 0 → r = -1) := by
  obtain ⟨a, b⟩ := x
  obtain ⟨⟨h1, h2⟩, h3, h4⟩ := hx
  obtain ⟨r, e1, e2, e3, e4⟩ := szIntSS_eq a n h0 hn h1 (fun x hx => (h2 x hx).1)
  simp only [laws_szSpace, e1, bif_decide]
  by_cases h : r < 0
  · rw [if_pos h]; exact ⟨-1, rfl, by omega, fun h => by omega, fun _ => rfl⟩
  · rw [if_neg h]
    have := e3 (by omega)
    rw [szIntA2S_eq b r (by omega) e2 h3]
    by_cases h5 : (b.length : Int) ≤ r
    · rw [if_pos h5]
      simp only [if_neg (show ¬ (r - (b.length : Int)) < 0 by omega)]
      exact ⟨_, rfl, by omega, fun _ => ⟨by show a.length ≤ _; omega, fun s hs => by have := this.2 s hs; omega, by show b.length ≤ _; omega⟩, fun h => by omega⟩
    · rw [if_neg h5]
      exact ⟨-1, rfl, by omega, fun h => by omega, fun _ => rfl⟩
theorem toSpace_eq (x : List (List Int) × List (Int × Int)) (h : Few x) : laws_toSpace (x, ()) () = some ((x, ()), ()) := by
  obtain ⟨a, b⟩ := x
  simp only [laws_toSpace, toIntSS_eq a h.states h.state, toIntA2S_eq b h.steps]
theorem eqSpace_eq (x : List (List Int) × List (Int × Int)) (h : Few x) : laws_eqSpace (x, x, ()) () = some ((true, ()), ()) := by
  obtain ⟨a, b⟩ := x
  simp only [laws_eqSpace, eqIntSS_eq a h.states h.state, eqIntA2S_eq b h.steps]
  rfl

def inR (x a b : Int) : Bool := decide (a ≤ x) && decide (x ≤ b)
theorem l1In_eq (x a b : Int) : spec_l1In (x, a, b, ()) () = some ((inR x a b, ()), ()) := by
  simp only [spec_l1In, inR]
  by_cases h : a ≤ x <;> simp [h]
theorem between_eq (x a b : Int) : impl_between (x, a, b, ()) () = some ((inR x a b, ()), ()) := by
  simp only [impl_between, inR]
  by_cases h : a ≤ x <;> simp [h]
theorem cmp_eq (x y : Int) : cmp_Compare_int (x, y, ()) () = some (((if x < y then -1 else if y < x then 1 else 0), ()), ()) := by
  simp only [cmp_Compare_int, cmp_isNaN_int, bne_self_eq_false, cond_false, bif_decide]
  split
  · rfl
  · split <;> rfl

def goodN (n : Int) : Bool := inR n (-99) 99
def goodState (s : List Int) : Bool := decide (s.length ≤ 24) && s.all goodN
theorem allUpto_getD {f : Int → Bool} {s : List Int} : allUpto (fun i => f (s.getD i 0)) s.length = s.all f := by
  rw [Bool.eq_iff_iff, allUpto_iff, List.all_eq_true]
  constructor
  · intro h x hx
    obtain ⟨i, hi, rfl⟩ := List.getElem_of_mem hx
    have := h i hi
    rwa [getD_at hi] at this
  · intro h i hi
    rw [getD_at hi]
    exact h _ (List.getElem_mem hi)
theorem l2State_eq (s : List Int) (hs : s.length ≤ 1048576) : spec_l2State (s, ()) () = some ((goodState s, ()), ()) := by
  have key := loop_all (B := spec_l2State_B0) (fun i => ((s, (i : Int), ()), ())) (fun i => goodN (s.getD i 0)) s.length (.inl ((false, ()), ())) (.inr ((s, ()), ())) (fun i hi _ => by
    simp only [spec_l2State_B0, bif_decide, if_pos (show (i : Int) < (s.length : Int) by omega), guardB_true (inb_true (Int.natCast_nonneg i) (show (i : Int) < (s.length : Int) by omega)), Int.toNat_natCast, l1In_eq _ _ _, w64_succ (show i < 4611686018427387904 by omega), goodN]
    cases inR (s.getD i 0) (-99) 99 <;> rfl) (by simp [spec_l2State_B0])
  rw [allUpto_getD] at key
  simp only [spec_l2State]
  erw [key]
  have e : decide ((s.length : Int) ≤ 24) = decide (s.length ≤ 24) := by rw [decide_eq_decide]; omega
  cases h : s.all goodN
  · simp [goodState, h]
  · simp [goodState, h, e]
/-- where is the first one? -/
def firstIdx (p : Nat → Bool) : Nat → Nat → Int
  | _, 0 => -1
  | k, d + 1 => if p k then k else firstIdx p (k + 1) d
theorem firstIdx_neg {p : Nat → Bool} : ∀ {d k : Nat}, (decide ((0 : Int) ≤ firstIdx p k d) = !(allUpto (fun i => !p (k + i)) d))
  | 0, k => by simp [firstIdx, allUpto]
  | d + 1, k => by
    by_cases h : p k
    · rw [show firstIdx p k (d + 1) = k by simp [firstIdx, h]]
      have : allUpto (fun i => !p (k + i)) (d + 1) = false := by
        cases e : allUpto (fun i => !p (k + i)) (d + 1)
        · rfl
        · have := allUpto_iff.1 e 0 (by omega); simp [h] at this
      rw [this]; simp
    · rw [show firstIdx p k (d + 1) = firstIdx p (k + 1) d by simp [firstIdx, h], firstIdx_neg]
      congr 1
      rw [Bool.eq_iff_iff, allUpto_iff, allUpto_iff]
      constructor
      · intro g i hi
        cases i with
        | zero => simpa using h
        | succ i => have := g i (by omega); rw [show k + 1 + i = k + (i + 1) by omega] at this; exact this
      · intro g i hi
        have := g (i + 1) (by omega)
        rw [show k + (i + 1) = k + 1 + i by omega] at this; exact this
theorem loop_idx {P Q : Type} {B : P → Option (P ⊕ Q)} (st : Nat → P) (p : Nat → Bool) (n : Nat) (found : Int → Q) (fin : Q) (step : ∀ i, i < n → B (st i) = some (bif p i then .inr (found i) else .inl (st (i + 1)))) (stop : B (st n) = some (.inr fin)) :
    loopO B (st 0) = some (if firstIdx p 0 n < 0 then fin else found (firstIdx p 0 n)) := by
  suffices h : ∀ d k, k + d = n → loopO B (st k) = some (if firstIdx p k d < 0 then fin else found (firstIdx p k d)) from h n 0 (by omega)
  intro d
  induction d with
  | zero => intro k hk; have : k = n := by omega
            subst this; simpa [firstIdx] using loop_end stop
  | succ d ih =>
    intro k hk
    have h := step k (by omega)
    cases e : p k
    · rw [e] at h; rw [show firstIdx p k (d + 1) = firstIdx p (k + 1) d by simp [firstIdx, e]]; exact loop_step h (ih (k + 1) (by omega))
    · rw [e] at h; rw [show firstIdx p k (d + 1) = k by simp [firstIdx, e], if_neg (by omega)]; exact loop_end h
theorem isState_eq (s : List Int) (hs : s.length ≤ 1048576) : impl_isState (s, ()) () = some ((goodState s, ()), ()) := by
  have k1 : ∀ n : Int, impl_isState_1 (n, ()) () = some (((!goodN n), ()), ()) := fun n => by simp only [impl_isState_1, between_eq _ _ _, goodN]
  have key := loop_idx (B := slices_IndexFunc_int_int_2_vf_impl_isState_1_B0) (fun i => ((s, (s.length : Int), (i : Int), ()), ())) (fun i => !goodN (s.getD i 0)) s.length (fun i => .inl ((i, ()), ())) (.inr ((), ())) (fun i hi => by
    simp only [slices_IndexFunc_int_int_2_vf_impl_isState_1_B0, bif_decide, if_pos (show (i : Int) < (s.length : Int) by omega), guardB_true (inb_true (Int.natCast_nonneg i) (show (i : Int) < (s.length : Int) by omega)), Int.toNat_natCast, k1, w64_succ (show i < 4611686018427387904 by omega)]
    cases goodN (s.getD i 0) <;> rfl) (by simp [slices_IndexFunc_int_int_2_vf_impl_isState_1_B0])
  have k2 : slices_IndexFunc_int_int_2_vf_impl_isState_1 (s, ()) () = some ((firstIdx (fun i => !goodN (s.getD i 0)) 0 s.length, ()), ()) := by
    simp only [slices_IndexFunc_int_int_2_vf_impl_isState_1]
    erw [key]
    by_cases h : firstIdx (fun i => !goodN (s.getD i 0)) 0 s.length < 0
    · rw [if_pos h]
      have : ∀ d k, firstIdx (fun i => !goodN (s.getD i 0)) k d < 0 → firstIdx (fun i => !goodN (s.getD i 0)) k d = -1 := by
        intro d
        induction d with
        | zero => intro k _; rfl
        | succ d ih =>
          intro k hk
          simp only [firstIdx] at hk ⊢
          split
          · rename_i h; rw [if_pos h] at hk; omega
          · rename_i h; rw [if_neg h] at hk; exact ih _ hk
      rw [this _ _ h]
    · rw [if_neg h]
  simp only [impl_isState, slices_ContainsFunc_int_int_2_vf_impl_isState_1, k2, firstIdx_neg, bif_decide]
  have e : allUpto (fun i => !!goodN (s.getD (0 + i) 0)) s.length = s.all goodN := by
    rw [← allUpto_getD]; congr 1; funext i; simp
  rw [e]
  by_cases h : s.length ≤ 24
  · rw [if_pos (by omega)]; simp [goodState, h]
  · rw [if_neg (by omega)]; simp [goodState, h]

def lexDiff : List Int → List Int → Option Bool
  | a :: l, b :: k => if a = b then lexDiff l k else some (decide (a < b))
  | _, _ => none
def lexLt (a b : List Int) : Bool := match lexDiff a b with
  | some t => t
  | none => decide (a.length < b.length)
def lexCmp : List Int → List Int → Int
  | a :: l, b :: k => if a < b then -1 else if b < a then 1 else lexCmp l k
  | [], [] => 0
  | [], _ :: _ => -1
  | _ :: _, [] => 1
theorem lexCmp_lt : ∀ (a b : List Int), decide ((0 : Int) ≤ lexCmp a b) = !lexLt a b
  | a :: l, b :: k => by
    by_cases h : a < b
    · simp [lexCmp, lexLt, lexDiff, h, show ¬ a = b by omega]
    · by_cases h2 : b < a
      · simp [lexCmp, lexLt, lexDiff, h, h2, show ¬ a = b by omega]
      · have e : a = b := by omega
        subst e
        rw [show lexCmp (a :: l) (a :: k) = lexCmp l k by simp [lexCmp], lexCmp_lt l k]
        simp only [lexLt, lexDiff, if_pos, List.length_cons]
        cases lexDiff l k <;> simp
  | [], [] => by simp [lexCmp, lexLt, lexDiff]
  | [], _ :: _ => by simp [lexCmp, lexLt, lexDiff]
  | _ :: _, [] => by simp [lexCmp, lexLt, lexDiff]
theorem l2Before_eq (a b : List Int) (ha : a.length ≤ 1048576) : spec_l2Before (a, b, ()) () = some ((lexLt a b, ()), ()) := by
  have key : ∀ d i, i + d = a.length → loopO spec_l2Before_B0 ((a, b, (i : Int), ()), ()) = some (match lexDiff (a.drop i) (b.drop i) with
      | some t => .inl ((t, ()), ())
      | none => .inr ((a, b, ()), ())) := by
    intro d
    induction d with
    | zero =>
      intro i hi
      have : i = a.length := by omega
      subst this
      refine loop_end ?_
      simp [spec_l2Before_B0, lexDiff]
    | succ d ih =>
      intro i hi
      have h1 : i < a.length := by omega
      by_cases h2 : i < b.length
      · rw [List.drop_eq_getElem_cons h1, List.drop_eq_getElem_cons h2]
        simp only [lexDiff]
        by_cases h3 : a[i] = b[i]
        · rw [if_pos h3]
          refine loop_step ?_ (ih (i + 1) (by omega))
          simp [spec_l2Before_B0, inb_nat, guardB, h1, h2, h3, w64_succ (show i < 4611686018427387904 by omega)]
        · rw [if_neg h3]
          refine loop_end ?_
          simp [spec_l2Before_B0, inb_nat, guardB, h1, h2, bne_ne h3]
      · have : lexDiff (a.drop i) (b.drop i) = none := by
          rw [List.drop_eq_nil_of_le (show b.length ≤ i by omega)]
          cases a.drop i <;> rfl
        rw [this]
        refine loop_end ?_
        simp [spec_l2Before_B0, inb_nat, guardB, h1, h2]
  simp only [spec_l2Before]
  erw [key a.length 0 (by omega)]
  simp only [List.drop_zero, lexLt]
  cases lexDiff a b <;> simp
theorem Compare_eq (a b : List Int) (ha : a.length ≤ 1048576) : slices_Compare_int_int (a, b, ()) () = some ((lexCmp a b, ()), ()) := by
  have key : ∀ d i, i + d = a.length → ∃ q, loopO slices_Compare_int_int_B0 ((a, b, a, (a.length : Int), (i : Int), ()), ()) = some q ∧ ((q = .inl ((lexCmp (a.drop i) (b.drop i), ()), ())) ∨ (q = .inr ((a, b, ()), ()) ∧ (i ≤ b.length → lexCmp (a.drop i) (b.drop i) = if a.length < b.length then -1 else 0))) := by
    intro d
    induction d with
    | zero =>
      intro i hi
      have : i = a.length := by omega
      subst this
      refine ⟨_, loop_end (q := .inr ((a, b, ()), ())) (by simp [slices_Compare_int_int_B0]), .inr ⟨rfl, fun hb => ?_⟩⟩
      rw [List.drop_length]
      by_cases h : a.length < b.length
      · rw [List.drop_eq_getElem_cons h, if_pos h]; rfl
      · rw [List.drop_eq_nil_of_le (by omega), if_neg h]; rfl
    | succ d ih =>
      intro i hi
      have h1 : i < a.length := by omega
      by_cases h2 : i < b.length
      · rw [List.drop_eq_getElem_cons h1, List.drop_eq_getElem_cons h2]
        simp only [lexCmp]
        have e : slices_Compare_int_int_B0 ((a, b, a, (a.length : Int), (i : Int), ()), ()) = some (if (if a[i] < b[i] then (-1 : Int) else if b[i] < a[i] then 1 else 0) = 0 then .inl ((a, b, a, (a.length : Int), ((i + 1 : Nat) : Int), ()), ()) else .inr (.inl (((if a[i] < b[i] then (-1 : Int) else if b[i] < a[i] then 1 else 0), ()), ()))) := by
          simp only [slices_Compare_int_int_B0, bif_decide, if_pos (show (i : Int) < (a.length : Int) by omega), if_neg (show ¬ (b.length : Int) ≤ (i : Int) by omega), guardB_true (inb_true (Int.natCast_nonneg i) (show (i : Int) < (a.length : Int) by omega)), guardB_true (inb_true (Int.natCast_nonneg i) (show (i : Int) < (b.length : Int) by omega)), Int.toNat_natCast, getD_at h1, getD_at h2, cmp_eq _ _, w64_succ (show i < 4611686018427387904 by omega)]
          by_cases h3 : a[i] < b[i]
          · simp [h3]
          · by_cases h4 : b[i] < a[i]
            · simp [h3, h4]
            · simp [h3, h4]
        by_cases h3 : a[i] < b[i]
        · simp only [if_pos h3] at e ⊢
          exact ⟨_, loop_end e, .inl rfl⟩
        · by_cases h4 : b[i] < a[i]
          · simp only [if_neg h3, if_pos h4] at e ⊢
            exact ⟨_, loop_end e, .inl rfl⟩
          · simp only [if_neg h3, if_neg h4, if_pos] at e ⊢
            obtain ⟨q, q1, q2⟩ := ih (i + 1) (by omega)
            refine ⟨q, loop_step e q1, q2.imp id fun ⟨r1, r2⟩ => ⟨r1, fun _ => r2 (by omega)⟩⟩
      · refine ⟨_, loop_end (q := .inl ((1, ()), ())) (by simp [slices_Compare_int_int_B0, inb_nat, guardB, h1, show b.length ≤ i by omega]), .inl ?_⟩
        rw [List.drop_eq_nil_of_le (show b.length ≤ i by omega), List.drop_eq_getElem_cons h1]
        rfl
  obtain ⟨q, q1, q2⟩ := key a.length 0 (by omega)
  simp only [slices_Compare_int_int]
  erw [q1]
  simp only [List.drop_zero] at q2
  rcases q2 with rfl | ⟨rfl, q2⟩
  · rfl
  · rw [q2 (Nat.zero_le _)]
    simp only [bif_decide, Int.ofNat_lt]
    split <;> rfl

def edgeB (a b : Int × Int) : Bool := decide (a.1 < b.1) || (decide (a.1 = b.1) && decide (a.2 < b.2))
theorem l2Edge_eq (a b : Int × Int) : spec_l2Edge (a, b, ()) () = some ((edgeB a b, ()), ()) := by
  simp only [spec_l2Edge, edgeB]
  by_cases h : a.1 < b.1
  · simp [h]
  · by_cases h2 : a.1 = b.1
    · simp [h, h2]
    · simp [h, h2, beq_ne h2]
theorem cmpOr_eq (x y : Int) : cmp_Or_int ([x, y], ()) () = some (((if x = 0 then y else x), ()), ()) := by
  simp only [cmp_Or_int]
  have e0 : cmp_Or_int_B0 ((0, [x, y], ([x, y].length : Int), 0, ()), ()) = some (if x = 0 then .inl ((0, [x, y], ([x, y].length : Int), 1, ()), ()) else .inr (.inl ((x, ()), ()))) := by
    by_cases h : x = 0
    · simp [cmp_Or_int_B0, inb, guardB, h]; rfl
    · simp [cmp_Or_int_B0, inb, guardB, h, bne_ne h]
  have e1 : cmp_Or_int_B0 ((0, [x, y], ([x, y].length : Int), 1, ()), ()) = some (if y = 0 then .inl ((0, [x, y], ([x, y].length : Int), 2, ()), ()) else .inr (.inl ((y, ()), ()))) := by
    by_cases h : y = 0
    · simp [cmp_Or_int_B0, inb, guardB, h]; rfl
    · simp [cmp_Or_int_B0, inb, guardB, h, bne_ne h]
  have e2 : cmp_Or_int_B0 ((0, [x, y], ([x, y].length : Int), 2, ()), ()) = some (.inr (.inr ((0, ()), ()))) := by
    simp [cmp_Or_int_B0]
  by_cases h : x = 0
  · rw [if_pos h] at e0 ⊢
    by_cases g : y = 0
    · rw [if_pos g] at e1
      rw [loop_step e0 (loop_step e1 (loop_end e2)), g]
    · rw [if_neg g] at e1
      rw [loop_step e0 (loop_end e1)]
  · rw [if_neg h] at e0 ⊢
    rw [loop_end e0]
theorem comparePairs_eq (a b : Int × Int) : ∃ r : Int, impl_comparePairs (a, b, ()) () = some ((r, ()), ()) ∧ (decide ((0 : Int) ≤ r) = !edgeB a b) ∧ (r = 0 ↔ a = b) := by
  obtain ⟨a1, a2⟩ := a
  obtain ⟨b1, b2⟩ := b
  simp only [impl_comparePairs, cmp_eq _ _, cmpOr_eq _ _]
  refine ⟨_, rfl, ?_, ?_⟩
  · simp only [edgeB]
    by_cases h : a1 < b1
    · simp [h]
    · by_cases h2 : b1 < a1
      · have : ¬ a1 = b1 := by omega
        simp [h, h2, this]
      · have : a1 = b1 := by omega
        subst this
        by_cases h3 : a2 < b2
        · simp [h3]
        · by_cases h4 : b2 < a2 <;> simp [h3, h4]
  · simp only [Prod.mk.injEq]
    by_cases h : a1 < b1
    · simp [h]; omega
    · by_cases h2 : b1 < a1
      · simp [h, h2]; omega
      · have : a1 = b1 := by omega
        subst this
        by_cases h3 : a2 < b2
        · simp [h3]; omega
        · by_cases h4 : b2 < a2
          · simp [h3, h4]; omega
          · simp [h3, h4]; omega
def pairB (l : List (Int × Int)) (n : Int) (i : Nat) : Bool :=
  decide (0 ≤ (l.getD i (0, 0)).1) && (decide ((l.getD i (0, 0)).1 < (l.getD i (0, 0)).2) && (decide ((l.getD i (0, 0)).2 < n) && (decide (i = 0) || edgeB (l.getD (i - 1) (0, 0)) (l.getD i (0, 0)))))
def pairsB (l : List (Int × Int)) (n : Int) : Bool := allUpto (pairB l n) l.length
theorem l2Pairs_eq (l : List (Int × Int)) (n : Int) (hl : l.length ≤ 1048576) (h0 : -1048576 ≤ n) (hn : n ≤ 1048576) : spec_l2Pairs (l, n, ()) () = some ((pairsB l n, ()), ()) := by
  have key := loop_all (B := spec_l2Pairs_B0) (fun i => ((l, n, (i : Int), ()), ())) (pairB l n) l.length (.inl ((false, ()), ())) (.inr ((), ())) (fun i hi _ => by
    obtain ⟨e, he⟩ : ∃ e : Int × Int, l.getD i (0, 0) = e := ⟨_, rfl⟩
    simp only [spec_l2Pairs_B0, bif_decide, if_pos (show (i : Int) < (l.length : Int) by omega), guardB_true (inb_true (Int.natCast_nonneg i) (show (i : Int) < (l.length : Int) by omega)), Int.toNat_natCast, l1In_eq _ _ _, w64_succ (show i < 4611686018427387904 by omega), w64_of (x := n - 1) (by omega) (by omega), pairB, inR, he]
    by_cases h1 : 0 ≤ e.1
    · by_cases h2 : e.1 ≤ n - 1
      · by_cases h3 : 0 ≤ e.2
        · by_cases h4 : e.2 ≤ n - 1
          · by_cases h5 : e.2 ≤ e.1
            · simp [h1, h2, h3, h4, h5, show ¬ e.1 < e.2 by omega]
            · by_cases h6 : i = 0
              · subst h6
                simp [h1, h2, h3, h4, h5, show e.1 < e.2 by omega, show e.2 < n by omega]
              · rw [w64_pred (by omega) (by omega), guardB_true (inb_true (Int.natCast_nonneg _) (show ((i - 1 : Nat) : Int) < (l.length : Int) by omega)), Int.toNat_natCast, l2Edge_eq]
                cases edgeB (l.getD (i - 1) (0, 0)) e <;> simp [h1, h2, h3, h4, h5, h6, show e.1 < e.2 by omega, show e.2 < n by omega, show 0 < i by omega]
          · simp [h1, h2, h3, h4, show ¬ e.2 < n by omega]
        · simp [h1, h2, h3, show ¬ e.1 < e.2 by omega]
      · simp only [h1, h2, decide_true, decide_false, Bool.and_false, Bool.not_false, cond_true, Bool.true_and]
        by_cases h3 : e.1 < e.2
        · simp [h3, show ¬ e.2 < n by omega]
        · simp [h3]
    · simp [h1]) (by simp [spec_l2Pairs_B0])
  simp only [spec_l2Pairs]
  erw [key]
  simp only [pairsB]
  cases allUpto (pairB l n) l.length <;> rfl
theorem isPairs_eq (l : List (Int × Int)) (n : Int) (hl : l.length ≤ 1048576) : impl_isPairs (l, n, ()) () = some ((pairsB l n, ()), ()) := by
  have key := loop_all (B := impl_isPairs_B0) (fun i => ((l, n, l, (l.length : Int), (i : Int), ()), ())) (pairB l n) l.length (.inl ((false, ()), ())) (.inr ((), ())) (fun i hi _ => by
    obtain ⟨e, he⟩ : ∃ e : Int × Int, l.getD i (0, 0) = e := ⟨_, rfl⟩
    simp only [impl_isPairs_B0, bif_decide, if_pos (show (i : Int) < (l.length : Int) by omega), guardB_true (inb_true (Int.natCast_nonneg i) (show (i : Int) < (l.length : Int) by omega)), Int.toNat_natCast, w64_succ (show i < 4611686018427387904 by omega), pairB, he]
    by_cases h1 : e.1 < 0
    · simp [h1, show ¬ 0 ≤ e.1 by omega]
    · by_cases h2 : e.2 ≤ e.1
      · simp [h1, h2, show ¬ e.1 < e.2 by omega]
      · by_cases h3 : n ≤ e.2
        · simp [h1, h2, h3, show ¬ e.2 < n by omega]
        · by_cases h6 : i = 0
          · subst h6
            simp [h1, h2, h3, show 0 ≤ e.1 by omega, show e.1 < e.2 by omega, show e.2 < n by omega]
          · obtain ⟨r, r1, r2, _⟩ := comparePairs_eq (l.getD (i - 1) (0, 0)) e
            rw [w64_pred (by omega) (by omega), guardB_true (inb_true (Int.natCast_nonneg _) (show ((i - 1 : Nat) : Int) < (l.length : Int) by omega)), Int.toNat_natCast, r1]
            simp only [if_neg h1, if_neg h2, if_neg h3, if_pos (show (0 : Int) < (i : Int) by omega), ← bif_decide, r2]
            cases edgeB (l.getD (i - 1) (0, 0)) e <;> simp [h6, show 0 ≤ e.1 by omega, show e.1 < e.2 by omega, show e.2 < n by omega]) (by simp [impl_isPairs_B0])
  simp only [impl_isPairs]
  erw [key]
  simp only [pairsB]
  cases allUpto (pairB l n) l.length <;> rfl

def stateB (L : List (List Int)) (i : Nat) : Bool := goodState (L.getD i []) && (decide (i = 0) || lexLt (L.getD (i - 1) []) (L.getD i []))
def spaceB (x : List (List Int) × List (Int × Int)) : Bool := decide (x.1.length ≤ 300) && (decide (x.2.length ≤ 6000) && (allUpto (stateB x.1) x.1.length && pairsB x.2 x.1.length))
theorem l2Space_eq (x : List (List Int) × List (Int × Int)) (hx : Few x) : spec_l2Space (x, ()) () = some ((spaceB x, ()), ()) := by
  obtain ⟨L, S⟩ := x
  have hL := hx.states
  have hs := hx.state
  have hS := hx.steps
  dsimp only at hL hs hS
  have hlen : ∀ i, i < L.length → (L.getD i []).length ≤ 1048576 := fun i hi => by rw [getD_at hi]; exact hs _ (List.getElem_mem hi)
  have key := loop_all (B := spec_l2Space_B0) (fun i => (((L, S), (i : Int), ()), ())) (stateB L) L.length (.inl ((false, ()), ())) (.inr (((L, S), ()), ())) (fun i hi _ => by
    simp only [spec_l2Space_B0, bif_decide, if_pos (show (i : Int) < (L.length : Int) by omega), guardB_true (inb_true (Int.natCast_nonneg i) (show (i : Int) < (L.length : Int) by omega)), Int.toNat_natCast, l2State_eq _ (hlen i hi), w64_succ (show i < 4611686018427387904 by omega), stateB]
    by_cases h6 : i = 0
    · subst h6
      cases goodState (L.getD 0 []) <;> simp
    · rw [w64_pred (by omega) (by omega), guardB_true (inb_true (Int.natCast_nonneg _) (show ((i - 1 : Nat) : Int) < (L.length : Int) by omega)), Int.toNat_natCast, l2Before_eq _ _ (hlen (i - 1) (by omega))]
      cases goodState (L.getD i []) <;> cases lexLt (L.getD (i - 1) []) (L.getD i []) <;> simp [h6, show 0 < i by omega]) (by simp [spec_l2Space_B0])
  simp only [spec_l2Space, bif_decide, spaceB]
  by_cases h1 : L.length ≤ 300
  · rw [if_neg (by omega)]
    by_cases h2 : S.length ≤ 6000
    · rw [if_neg (by omega)]
      erw [key]
      simp only [h1, h2, decide_true, Bool.true_and]
      cases h3 : allUpto (stateB L) L.length
      · rfl
      · simp only [cond_true, l2Pairs_eq S (L.length : Int) hS (by omega) (by omega), Bool.true_and]
    · rw [if_pos (by omega)]; simp [h2]
  · rw [if_pos (by omega)]; simp [h1]
theorem IsSpace_eq (x : List (List Int) × List (Int × Int)) (hx : Few x) : impl_IsSpace (x, ()) () = some ((spaceB x, ()), ()) := by
  obtain ⟨L, S⟩ := x
  have hL := hx.states
  have hs := hx.state
  have hS := hx.steps
  dsimp only at hL hs hS
  have hlen : ∀ i, i < L.length → (L.getD i []).length ≤ 1048576 := fun i hi => by rw [getD_at hi]; exact hs _ (List.getElem_mem hi)
  have key := loop_all (B := impl_IsSpace_B0) (fun i => (((L, S), L, (L.length : Int), (i : Int), ()), ())) (stateB L) L.length (.inl ((false, ()), ())) (.inr (((L, S), ()), ())) (fun i hi _ => by
    simp only [impl_IsSpace_B0, if_pos (show (i : Int) < (L.length : Int) by omega), guardB_true (inb_true (Int.natCast_nonneg i) (show (i : Int) < (L.length : Int) by omega)), Int.toNat_natCast, isState_eq _ (hlen i hi), w64_succ (show i < 4611686018427387904 by omega), stateB]
    by_cases h6 : i = 0
    · subst h6
      cases goodState (L.getD 0 []) <;> simp [hi]
    · rw [w64_pred (by omega) (by omega), guardB_true (inb_true (Int.natCast_nonneg _) (show ((i - 1 : Nat) : Int) < (L.length : Int) by omega)), Int.toNat_natCast, Compare_eq _ _ (hlen (i - 1) (by omega))]
      simp only [lexCmp_lt]
      cases goodState (L.getD i []) <;> cases lexLt (L.getD (i - 1) []) (L.getD i []) <;> simp [h6, hi, show 0 < i by omega]) (by simp [impl_IsSpace_B0])
  simp only [impl_IsSpace, bif_decide, spaceB]
  by_cases h1 : L.length ≤ 300
  · rw [if_neg (by omega)]
    by_cases h2 : S.length ≤ 6000
    · rw [if_neg (by omega)]
      erw [key]
      simp only [h1, h2, decide_true, Bool.true_and]
      cases h3 : allUpto (stateB L) L.length
      · rfl
      · simp only [cond_true, isPairs_eq S (L.length : Int) hS, Bool.true_and]
    · rw [if_pos (by omega)]; simp [h2]
  · rw [if_pos (by omega)]; simp [h1]

theorem sort_sorted (l : List Int) : (l.mergeSort fun a b => decide (a ≤ b)).Pairwise (· ≤ ·) := by
  have := List.pairwise_mergeSort (le := fun a b : Int => decide (a ≤ b)) (fun a b c h1 h2 => by simp at *; omega) (fun a b => by simp; omega) l
  exact this.imp fun h => by simpa using h
theorem firstIdx_range {p : Nat → Bool} : ∀ (d k : Nat), firstIdx p k d < 0 → firstIdx p k d = -1
  | 0, k, _ => rfl
  | d + 1, k, h => by
    simp only [firstIdx] at h ⊢
    split
    · rename_i g; rw [if_pos g] at h; omega
    · rename_i g; rw [if_neg g] at h; exact firstIdx_range d (k + 1) h
def rows {α : Type} (n : Nat) (F : Nat → α) : List α := (List.range n).map F
theorem rows_len {α : Type} {n : Nat} {F : Nat → α} : (rows n F).length = n := by simp [rows]
theorem rows_get {α : Type} {n i : Nat} {F : Nat → α} (h : i < n) (d : α) : (rows n F).getD i d = F i := by simp [rows, List.getD, h]
theorem rows_set {α : Type} {n i : Nat} {F : Nat → α} (v : α) : (rows n F).set i v = rows n (fun j => if j = i then v else F j) := by
  apply List.ext_getElem
  · simp [rows]
  · intro j h1 h2
    simp only [rows, List.getElem_set, List.getElem_map, List.getElem_range]
    by_cases h : i = j
    · subst h; simp
    · rw [if_neg h, if_neg (fun e => h e.symm)]
theorem rows_congr {α : Type} {n : Nat} {F G : Nat → α} (h : ∀ j, j < n → F j = G j) : rows n F = rows n G := by
  apply List.map_congr_left
  intro j hj
  exact h j (by simpa using hj)
theorem take_one {α : Type} {l : List α} {i : Nat} (h : i < l.length) (d : α) : l.take (i + 1) = l.take i ++ [l.getD i d] := by
  rw [getD_at h, List.take_succ_eq_append_getElem h]
/-- steps: pairs of places -/
def StepsOk (S : List (Int × Int)) (n : Nat) : Prop := ∀ i, i < S.length → ∃ a b : Nat, S.getD i (0, 0) = ((a : Int), (b : Int)) ∧ a < b ∧ b < n
theorem pairsB_at {S : List (Int × Int)} {n : Nat} (h : pairsB S n = true) (i : Nat) (hi : i < S.length) : pairB S n i = true := allUpto_iff.1 h i hi
theorem pairsB_ok {S : List (Int × Int)} {n : Nat} (h : pairsB S n = true) : StepsOk S n := by
  intro i hi
  have := pairsB_at h i hi
  simp only [pairB, Bool.and_eq_true, decide_eq_true_eq] at this
  obtain ⟨h1, h2, h3, _⟩ := this
  generalize S.getD i (0, 0) = e at h1 h2 h3
  obtain ⟨a, b⟩ := e
  simp only at h1 h2 h3
  exact ⟨a.toNat, b.toNat, by rw [Int.toNat_of_nonneg h1, Int.toNat_of_nonneg (by omega)], by omega, by omega⟩
theorem sort_of_perm {l k : List Int} (h : l.Perm k) (hk : k.Pairwise (· < ·)) : l.mergeSort (fun a b => decide (a ≤ b)) = k := by
  refine List.Perm.eq_of_pairwise (le := (· ≤ ·)) ?_ (sort_sorted l) (hk.imp fun h => Int.le_of_lt h) ((List.mergeSort_perm l _).trans h)
  intro a b _ _ h1 h2
  omega
def cntLt (n : Int) : List Int → Nat
  | [] => 0
  | x :: l => if x < n then cntLt n l + 1 else 0
theorem cntLt_le (n : Int) : ∀ l : List Int, cntLt n l ≤ l.length
  | [] => Nat.le_refl _
  | x :: l => by
    simp only [cntLt, List.length_cons]
    have := cntLt_le n l
    split <;> omega
theorem cntLt_lt (n : Int) : ∀ (l : List Int) (i : Nat), i < cntLt n l → l.getD i 0 < n
  | [], i, h => by simp [cntLt] at h
  | x :: l, i, h => by
    simp only [cntLt] at h
    split at h
    · rename_i hx
      cases i with
      | zero => simpa using hx
      | succ i => simpa using cntLt_lt n l i (by omega)
    · omega
theorem cntLt_ge (n : Int) : ∀ (l : List Int), cntLt n l < l.length → ¬ l.getD (cntLt n l) 0 < n
  | [], h => by simp at h
  | x :: l, h => by
    simp only [cntLt, List.length_cons] at h ⊢
    split
    · rename_i hx
      rw [if_pos hx] at h
      simpa using cntLt_ge n l (by omega)
    · rename_i hx; simpa using hx
def ins (n : Int) : List Int → List Int
  | [] => [n]
  | x :: l => if x < n then x :: ins n l else n :: x :: l
theorem ins_split (n : Int) : ∀ l : List Int, l.take (cntLt n l) ++ [n] ++ l.drop (cntLt n l) = ins n l
  | [] => rfl
  | x :: l => by
    simp only [cntLt, ins]
    split
    · simpa using ins_split n l
    · simp
theorem ins_perm (n : Int) : ∀ l : List Int, (ins n l).Perm (n :: l)
  | [] => List.Perm.refl _
  | x :: l => by
    simp only [ins]
    split
    · exact ((ins_perm n l).cons x).trans (List.Perm.swap _ _ _)
    · exact List.Perm.refl _
theorem ins_sorted (n : Int) : ∀ l : List Int, l.Pairwise (· < ·) → n ∉ l → (ins n l).Pairwise (· < ·)
  | [], _, _ => by simp [ins]
  | x :: l, hl, hn => by
    simp only [List.pairwise_cons, List.mem_cons, not_or] at hl hn
    simp only [ins]
    split
    · rename_i hx
      rw [List.pairwise_cons]
      refine ⟨fun y hy => ?_, ins_sorted n l hl.2 hn.2⟩
      rcases List.mem_cons.1 ((ins_perm n l).mem_iff.1 hy) with rfl | hy
      · exact hx
      · exact hl.1 y hy
    · rename_i hx
      rw [List.pairwise_cons, List.pairwise_cons]
      refine ⟨fun y hy => ?_, hl⟩
      rcases List.mem_cons.1 hy with rfl | hy
      · omega
      · have := hl.1 y hy; omega
def putP (n : Int) (l : List Int) : List Int := if cntLt n l < l.length ∧ l.getD (cntLt n l) 0 = n then l else ins n l
theorem putP_new {n : Int} {l : List Int} (h : n ∉ l) : putP n l = ins n l := by
  unfold putP
  rw [if_neg]
  rintro ⟨h1, h2⟩
  apply h
  rw [← h2, getD_at h1]
  exact List.getElem_mem h1
theorem l1Put_eq (l : List Int) (n : Int) (hl : l.length ≤ 1048576) : spec_l1Put (l, n, ()) () = some ((putP n l, ()), ()) := by
  have hc := cntLt_le n l
  have key : loopO spec_l1Put_B0 ((l, n, ((0 : Nat) : Int), ()), ()) = some ((l, n, (cntLt n l : Int), ()), ()) := by
    refine loop_count (fun i => ((l, n, (i : Int), ()), ())) (cntLt n l) _ (fun i hi => ?_) ?_ 0 (Nat.zero_le _)
    · simp only [spec_l1Put_B0, bif_decide, if_pos (show (i : Int) < (l.length : Int) by omega), guardB_true (inb_true (Int.natCast_nonneg i) (show (i : Int) < (l.length : Int) by omega)), Int.toNat_natCast, if_pos (cntLt_lt n l i hi), w64_succ (show i < 4611686018427387904 by omega)]
    · by_cases h : cntLt n l < l.length
      · simp only [spec_l1Put_B0, bif_decide, if_pos (show (cntLt n l : Int) < (l.length : Int) by omega), guardB_true (inb_true (Int.natCast_nonneg _) (show (cntLt n l : Int) < (l.length : Int) by omega)), Int.toNat_natCast, if_neg (cntLt_ge n l h)]
      · simp only [spec_l1Put_B0, bif_decide, if_neg (show ¬ (cntLt n l : Int) < (l.length : Int) by omega)]
  have fin : ∀ k2 : Nat, k2 = cntLt n l → guardB (decide (0 ≤ (0 : Int)) && decide ((0 : Int) ≤ (k2 : Int)) && decide ((k2 : Int) ≤ (List.length l : Int))) (guardB (decide (0 ≤ (k2 : Int)) && decide ((k2 : Int) ≤ (List.length l : Int)) && decide ((List.length l : Int) ≤ (List.length l : Int))) (match spec_l1Put_D0 (((List.take (Int.toNat (k2 : Int)) l), n, (List.drop (Int.toNat (k2 : Int)) l), ()), ()) with | some ((t4, ()), ()) => some ((t4, ()), ()) | none => none)) = (some ((ins n l, ()), ()) : Option spec_l1Put_E.P) := by
    rintro k2 rfl
    rw [guardB_true (by simp; omega), guardB_true (by simp; omega)]
    simp only [Int.toNat_natCast, spec_l1Put_D0, spec_l1Put_D1, List.nil_append]
    rw [guardB_true (by simp; omega), guardB_true (by simp; omega), guardB_true (by simp; omega)]
    rw [ins_split]
  simp only [spec_l1Put]
  erw [key]
  simp only [bif_decide, putP]
  by_cases h : cntLt n l < l.length
  · rw [if_pos (show (cntLt n l : Int) < (l.length : Int) by omega), guardB_true (inb_true (Int.natCast_nonneg _) (show (cntLt n l : Int) < (l.length : Int) by omega)), Int.toNat_natCast]
    by_cases h2 : l.getD (cntLt n l) 0 = n
    · rw [beq_eq h2, if_pos ⟨h, h2⟩]
      rfl
    · rw [beq_ne h2, if_neg (fun e => h2 e.2)]
      exact fin _ rfl
  · rw [if_neg (show ¬ (cntLt n l : Int) < (l.length : Int) by omega), if_neg (fun e => h e.1)]
    exact fin _ rfl
def iota (k : Int) (n : Nat) : List Int := rows n fun i => k + (i : Int)
def tot : List (List Int) → Nat
  | [] => 0
  | l :: L => l.length + tot L
def iotas (k : Int) : List (List Int) → List (List Int)
  | [] => []
  | l :: L => iota k l.length :: iotas (k + (l.length : Int)) L
theorem tot_snoc : ∀ (L : List (List Int)) (l : List Int), tot (L ++ [l]) = tot L + l.length
  | [], l => by simp [tot]
  | x :: L, l => by simp only [List.cons_append, tot, tot_snoc L l]; omega
theorem iotas_snoc : ∀ (L : List (List Int)) (l : List Int) (k : Int), iotas k (L ++ [l]) = iotas k L ++ [iota (k + (tot L : Int)) l.length]
  | [], l, k => by simp [iotas, tot]
  | x :: L, l, k => by
    simp only [List.cons_append, iotas, tot, iotas_snoc L l]
    rw [show k + (x.length : Int) + (tot L : Int) = k + ((x.length + tot L : Nat) : Int) by omega]
theorem iotas_len : ∀ (L : List (List Int)) (k : Int), (iotas k L).length = L.length
  | [], k => rfl
  | x :: L, k => by simp [iotas, iotas_len L]
theorem tot_take (L : List (List Int)) : ∀ i, tot (L.take i) ≤ tot L
  | 0 => by simp [tot]
  | i + 1 => by
    cases L with
    | nil => simp [tot]
    | cons x L =>
      simp only [List.take_succ_cons, tot]
      have := tot_take L i
      omega
theorem tot_bound {m : Nat} : ∀ (L : List (List Int)), (∀ l ∈ L, l.length ≤ m) → tot L ≤ L.length * m
  | [], _ => by simp [tot]
  | x :: L, h => by
    simp only [tot, List.length_cons, Nat.add_mul, Nat.one_mul]
    have := tot_bound L fun l hl => h l (by simp [hl])
    have := h x (by simp)
    omega
theorem w64_nat {x : Int} (h0 : 0 ≤ x) (h : x ≤ 4611686018427387904) : w64 (x + 1) = x + 1 := w64_of (by omega) (by omega)
theorem markIntS_eq (l : List Int) (k : Int) (h0 : 0 ≤ k) (hk : k + (l.length : Int) ≤ 4611686018427387000) : laws_markIntS_e0v_ls (k, ()) (l, ()) = some ((k + (l.length : Int), ()), (iota k l.length, ())) := by
  have key := loop_count (B := laws_markIntS_e0v_ls_B0) (fun i => ((k + (i : Int), (i : Int), ()), (rows l.length (fun j => if j < i then k + (j : Int) else l.getD j 0), ()))) l.length ((k + (l.length : Int), ()), (rows l.length (fun j => if j < l.length then k + (j : Int) else l.getD j 0), ())) (fun i hi => by
    simp only [laws_markIntS_e0v_ls_B0, rows_len, bif_decide, if_pos (show (i : Int) < (l.length : Int) by omega), guardB_true (inb_true (Int.natCast_nonneg i) (show (i : Int) < (l.length : Int) by omega)), Int.toNat_natCast, w64_succ (show i < 4611686018427387904 by omega), w64_nat (x := k + (i : Int)) (by omega) (by omega), rows_set]
    have : rows l.length (fun j => if j = i then k + (i : Int) else if j < i then k + (j : Int) else l.getD j 0) = rows l.length (fun j => if j < i + 1 then k + (j : Int) else l.getD j 0) := rows_congr fun j _ => by
      by_cases h : j = i
      · subst h; rw [if_pos rfl, if_pos (by omega)]
      · by_cases h2 : j < i
        · rw [if_neg h, if_pos h2, if_pos (by omega)]
        · rw [if_neg h, if_neg h2, if_neg (by omega)]
    rw [this, show k + (i : Int) + 1 = k + ((i + 1 : Nat) : Int) by omega]) (by simp only [laws_markIntS_e0v_ls_B0, rows_len, bif_decide, if_neg (show ¬ (l.length : Int) < (l.length : Int) by omega)]) 0 (Nat.zero_le _)
  have z0 : rows l.length (fun j => if j < 0 then k + (j : Int) else l.getD j 0) = l := by
    rw [show rows l.length (fun j => if j < 0 then k + (j : Int) else l.getD j 0) = rows l.length (fun j => l.getD j 0) from rows_congr fun j _ => by simp]
    exact range_getD l 0
  have z1 : rows l.length (fun j => if j < l.length then k + (j : Int) else l.getD j 0) = iota k l.length := rows_congr fun j hj => by simp [hj]
  rw [z0, z1] at key
  simp only [laws_markIntS_e0v_ls]
  rw [show k + ((0 : Nat) : Int) = k by omega] at key
  erw [key]
theorem heldIntS_eq (n : Nat) (k : Int) (h0 : 0 ≤ k) (hk : k + (n : Int) ≤ 4611686018427387000) : laws_heldIntS (iota k n, k, ()) () = some ((k + (n : Int), ()), ()) := by
  have key := loop_count (B := laws_heldIntS_B0) (fun i => ((iota k n, k + (i : Int), (i : Int), ()), ())) n (.inr ((k + (n : Int), ()), ())) (fun i hi => by
    simp only [laws_heldIntS_B0, iota, rows_len, bif_decide, if_pos (show (i : Int) < (n : Int) by omega), guardB_true (inb_true (Int.natCast_nonneg i) (show (i : Int) < (n : Int) by omega)), Int.toNat_natCast, w64_succ (show i < 4611686018427387904 by omega), w64_nat (x := k + (i : Int)) (by omega) (by omega), rows_get hi]
    rw [bne_eq rfl, show k + (i : Int) + 1 = k + ((i + 1 : Nat) : Int) by omega]
    rfl) (by simp only [laws_heldIntS_B0, iota, rows_len, bif_decide, if_neg (show ¬ (n : Int) < (n : Int) by omega)]) 0 (Nat.zero_le _)
  simp only [laws_heldIntS]
  rw [show k + ((0 : Nat) : Int) = k by omega] at key
  erw [key]
theorem set_mid {α : Type} (A B : List α) (x y : α) : (A ++ x :: B).set A.length y = A ++ y :: B := by simp
theorem markIntSS_eq (L : List (List Int)) (k : Int) (h0 : 0 ≤ k) (hk : k + (tot L : Int) ≤ 4611686018427386000) (hL : L.length ≤ 2000000000000) : laws_markIntSS_e0v_l1 (k, ()) (L, ()) = some ((k + (tot L : Int), ()), (iotas k L, ())) := by
  have key := loop_count (B := laws_markIntSS_e0v_l1_B0) (fun i => ((k + (tot (L.take i) : Int), (i : Int), ()), (iotas k (L.take i) ++ L.drop i, ()))) L.length ((k + (tot (L.take L.length) : Int), ()), (iotas k (L.take L.length) ++ L.drop L.length, ())) (fun i hi => by
    have hlen : (iotas k (L.take i) ++ L.drop i).length = L.length := by simp only [List.length_append, iotas_len, List.length_take, List.length_drop]; omega
    have hli : (iotas k (L.take i)).length = i := by simp only [iotas_len, List.length_take]; omega
    have hget : (iotas k (L.take i) ++ L.drop i).getD i [] = L.getD i [] := by
      rw [getD_at hi, getD_at (by omega), List.getElem_append_right (by omega)]
      simp [hli]
    have ht := tot_take L (i + 1)
    rw [take_one hi [], tot_snoc] at ht
    simp only [laws_markIntSS_e0v_l1_B0, hlen, bif_decide, if_pos (show (i : Int) < (L.length : Int) by omega), guardB_true (inb_true (Int.natCast_nonneg i) (show (i : Int) < (L.length : Int) by omega)), Int.toNat_natCast, hget]
    rw [markIntS_eq _ _ (by omega) (by omega)]
    simp only [w64_succ (show i < 4611686018427387904 by omega)]
    have hset : (iotas k (L.take i) ++ L.drop i).set i (iota (k + (tot (L.take i) : Int)) (L.getD i []).length) = iotas k (L.take (i + 1)) ++ L.drop (i + 1) := by
      rw [List.drop_eq_getElem_cons hi, take_one hi [], iotas_snoc, List.append_assoc]
      have := set_mid (iotas k (L.take i)) (L.drop (i + 1)) L[i] (iota (k + (tot (L.take i) : Int)) (L.getD i []).length)
      rw [hli] at this
      rw [this]
      rfl
    rw [hset, take_one hi [], tot_snoc, show k + (tot (L.take i) : Int) + ((L.getD i []).length : Int) = k + ((tot (L.take i) + (L.getD i []).length : Nat) : Int) by omega]) (by
      have hlen : (iotas k (L.take L.length) ++ L.drop L.length).length = L.length := by simp only [List.length_append, iotas_len, List.length_take, List.length_drop]; omega
      simp only [laws_markIntSS_e0v_l1_B0, hlen, bif_decide, if_neg (show ¬ (L.length : Int) < (L.length : Int) by omega)]) 0 (Nat.zero_le _)
  simp only [List.take_length, List.drop_length, List.append_nil, List.take_zero, List.drop_zero, iotas, List.nil_append, tot] at key
  rw [show k + ((0 : Nat) : Int) = k by omega] at key
  simp only [laws_markIntSS_e0v_l1]
  erw [key]
theorem markA2_step (l : List (Int × Int)) (k : Int) (i : Nat) (hi : i < l.length) (h0 : 0 ≤ k) (hk : k ≤ 4611686018427387000) : ∃ l' : List (Int × Int), l'.length = l.length ∧ loopO laws_markIntA2S_e0v_ls_B0 ((k, (i : Int), 0, ()), (l, ())) = some ((k + 2, (i : Int), ()), (l', ())) := by
  have e0 : laws_markIntA2S_e0v_ls_B0 ((k, (i : Int), 0, ()), (l, ())) = some (.inl ((k + 1, (i : Int), 1, ()), (l.set i (k, (l.getD i (0, 0)).2), ()))) := by
    simp only [laws_markIntA2S_e0v_ls_B0, guardB_true (inb_true (Int.natCast_nonneg i) (show (i : Int) < (l.length : Int) by omega)), Int.toNat_natCast, w64_nat h0 (by omega)]
    rfl
  have e1 : laws_markIntA2S_e0v_ls_B0 ((k + 1, (i : Int), 1, ()), (l.set i (k, (l.getD i (0, 0)).2), ())) = some (.inl ((k + 2, (i : Int), 2, ()), ((l.set i (k, (l.getD i (0, 0)).2)).set i (((l.set i (k, (l.getD i (0, 0)).2)).getD i (0, 0)).1, k + 1), ()))) := by
    simp only [laws_markIntA2S_e0v_ls_B0, List.length_set, guardB_true (inb_true (Int.natCast_nonneg i) (show (i : Int) < (l.length : Int) by omega)), Int.toNat_natCast, w64_nat (x := k + 1) (by omega) (by omega)]
    rw [show k + 1 + 1 = k + 2 by omega]
    rfl
  refine ⟨_, ?_, loop_step e0 (loop_step e1 (loop_end rfl))⟩
  simp
theorem markA2S_eq (l : List (Int × Int)) (k : Int) (h0 : 0 ≤ k) (hk : k ≤ 4611686018000000000) (hl : l.length ≤ 1048576) : ∃ l' : List (Int × Int), laws_markIntA2S_e0v_ls (k, ()) (l, ()) = some ((k + 2 * (l.length : Int), ()), (l', ())) := by
  suffices h : ∀ d i, i + d = l.length → ∀ (m : List (Int × Int)) (k : Int), m.length = l.length → 0 ≤ k → k + 2 * (d : Int) ≤ 4611686018427387000 → ∃ l' : List (Int × Int), loopO laws_markIntA2S_e0v_ls_B1 ((k, (i : Int), ()), (m, ())) = some ((k + 2 * (d : Int), ()), (l', ())) by
    obtain ⟨l', h⟩ := h l.length 0 (by omega) l k rfl h0 (by omega)
    refine ⟨l', ?_⟩
    simp only [laws_markIntA2S_e0v_ls]
    erw [h]
  intro d
  induction d with
  | zero =>
    intro i hi m k hm h0 hk
    refine ⟨m, loop_end ?_⟩
    simp only [laws_markIntA2S_e0v_ls_B1, bif_decide, if_neg (show ¬ (i : Int) < (m.length : Int) by omega)]
    rw [show k + 2 * ((0 : Nat) : Int) = k by omega]
  | succ d ih =>
    intro i hi m k hm h0 hk
    obtain ⟨m', h1, h2⟩ := markA2_step m k i (by omega) h0 (by omega)
    obtain ⟨l', h3⟩ := ih (i + 1) (by omega) m' (k + 2) (by omega) (by omega) (by omega)
    refine ⟨l', ?_⟩
    rw [show k + 2 * ((d + 1 : Nat) : Int) = k + 2 + 2 * (d : Int) by omega]
    refine loop_step ?_ h3
    simp only [laws_markIntA2S_e0v_ls_B1, bif_decide, if_pos (show (i : Int) < (m.length : Int) by omega)]
    erw [h2]
    simp only [w64_succ (show i < 4611686018427387904 by omega)]
theorem markSpace_eq (x : List (List Int) × List (Int × Int)) (k : Int) (h : Few x) (h0 : 0 ≤ k) (hk : k ≤ 1000) : ∃ r : Int, laws_markSpace_op21v (x, k, ()) () = some ((r, ()), ()) ∧ 0 ≤ r ∧ r ≤ 2000000000000 := by
  obtain ⟨A, B⟩ := x
  have h1 := h.states
  have h2 := h.steps
  dsimp only at h1 h2
  have ht : tot A ≤ 1048576 * 1048576 := Nat.le_trans (tot_bound A (m := 1048576) h.state) (Nat.mul_le_mul_right _ h1)
  have e1 := markIntSS_eq A k h0 (by omega) (by omega)
  obtain ⟨l', e2⟩ := markA2S_eq B (k + (tot A : Int)) (by omega) (by omega) h2
  simp only [laws_markSpace_op21v, e1, e2]
  exact ⟨_, rfl, by omega, by omega⟩

theorem spec_l11Numbers_B0_at (list : List (Int)) (n : Int) (i : Int) : spec_l11Numbers_B0 ((list, n, i, ()), ()) = bif (decide (i < (List.length list : Int))) then (guardB (inb i (List.length list)) (match spec_l1In ((List.getD list (Int.toNat i) (0 : Int)), (0 : Int), (999 : Int), ()) () with | some ((r, ()), ()) => (bif (!r) then (some (.inr (.inl ((false, ()), ())))) else (some (.inl ((list, n, (w64 (i + (1 : Int))), ()), ())))) | none => none)) else (some (.inr (.inr ((list, n, ()), ())))) := rfl
theorem slices_IndexFunc_int_int_2_vf_impl_areLoads_1_B0_at (s : List (Int)) (t7 : Int) (t8 : Int) : slices_IndexFunc_int_int_2_vf_impl_areLoads_1_B0 ((s, t7, t8, ()), ()) = bif (decide (t8 < t7)) then (guardB (inb t8 (List.length s)) (match impl_areLoads_1 ((List.getD s (Int.toNat t8) (0 : Int)), ()) () with | some ((r, ()), ()) => (bif r then (some (.inr (.inl ((t8, ()), ())))) else (some (.inl ((s, t7, (w64 (t8 + (1 : Int))), ()), ())))) | none => none)) else (some (.inr (.inr ((), ())))) := rfl
def loadB (n : Int) : Bool := inR n 0 999
def loadsB (m : Nat) (l : List Int) : Bool := decide (l.length = m) && l.all loadB
theorem l11Numbers_eq (l : List Int) (m : Nat) (hl : l.length ≤ 1048576) : spec_l11Numbers (l, (m : Int), ()) () = some ((loadsB m l, ()), ()) := by
  have key := loop_all (B := spec_l11Numbers_B0) (fun i => ((l, (m : Int), (i : Int), ()), ())) (fun i => loadB (l.getD i 0)) l.length (.inl ((false, ()), ())) (.inr ((l, (m : Int), ()), ())) (fun i hi _ => by
    rw [spec_l11Numbers_B0_at]
    simp only [bif_decide, if_pos (show (i : Int) < (l.length : Int) by omega), guardB_true (inb_true (Int.natCast_nonneg i) (show (i : Int) < (l.length : Int) by omega)), Int.toNat_natCast, l1In_eq _ _ _, w64_succ (show i < 4611686018427387904 by omega), loadB]
    cases inR (l.getD i 0) 0 999 <;> rfl) (by rw [spec_l11Numbers_B0_at]; simp)
  rw [allUpto_getD] at key
  simp only [spec_l11Numbers]
  erw [key]
  have e : ((l.length : Int) == (m : Int)) = decide (l.length = m) := by
    by_cases h : l.length = m
    · simp [h]
    · rw [beq_ne (by omega), decide_eq_false h]
  cases h : l.all loadB
  · simp [loadsB, h]
  · simp [loadsB, h, e]
theorem areLoads_eq (l : List Int) (m : Nat) (hl : l.length ≤ 1048576) : impl_areLoads (l, (m : Int), ()) () = some ((loadsB m l, ()), ()) := by
  have k1 : ∀ n : Int, impl_areLoads_1 (n, ()) () = some (((!loadB n), ()), ()) := fun n => by simp only [impl_areLoads_1, between_eq _ _ _, loadB]
  have key := loop_idx (B := slices_IndexFunc_int_int_2_vf_impl_areLoads_1_B0) (fun i => ((l, (l.length : Int), (i : Int), ()), ())) (fun i => !loadB (l.getD i 0)) l.length (fun i => .inl ((i, ()), ())) (.inr ((), ())) (fun i hi => by
    rw [slices_IndexFunc_int_int_2_vf_impl_areLoads_1_B0_at]
    simp only [bif_decide, if_pos (show (i : Int) < (l.length : Int) by omega), guardB_true (inb_true (Int.natCast_nonneg i) (show (i : Int) < (l.length : Int) by omega)), Int.toNat_natCast, k1, w64_succ (show i < 4611686018427387904 by omega)]
    cases loadB (l.getD i 0) <;> rfl) (by rw [slices_IndexFunc_int_int_2_vf_impl_areLoads_1_B0_at]; simp)
  have k2 : slices_IndexFunc_int_int_2_vf_impl_areLoads_1 (l, ()) () = some ((firstIdx (fun i => !loadB (l.getD i 0)) 0 l.length, ()), ()) := by
    simp only [slices_IndexFunc_int_int_2_vf_impl_areLoads_1]
    erw [key]
    by_cases h : firstIdx (fun i => !loadB (l.getD i 0)) 0 l.length < 0
    · rw [if_pos h, firstIdx_range _ _ h]
    · rw [if_neg h]
  have e : allUpto (fun i => !!loadB (l.getD (0 + i) 0)) l.length = l.all loadB := by
    rw [← allUpto_getD]; congr 1; funext i; simp
  simp only [impl_areLoads, slices_ContainsFunc_int_int_2_vf_impl_areLoads_1, k2, firstIdx_neg, e]
  by_cases h : l.length = m
  · rw [show ((l.length : Int) == (m : Int)) = true by simp [h]]; simp [loadsB, h]
  · rw [show ((l.length : Int) == (m : Int)) = false from beq_ne (by omega)]; simp [loadsB, h]
theorem cntLt_split {l : List Int} (hs : l.Pairwise (· < ·)) (t : Int) : ∀ i, i < l.length → (l.getD i 0 < t ↔ i < cntLt t l) := by
  intro i hi
  constructor
  · intro h
    refine Classical.byContradiction fun hn => ?_
    have hc : cntLt t l < l.length := by omega
    have h1 := cntLt_ge t l hc
    have : l.getD (cntLt t l) 0 ≤ l.getD i 0 := by
      rw [getD_at hc, getD_at hi]
      by_cases he : cntLt t l = i
      · simp [he]
      · have := List.pairwise_iff_getElem.1 hs (cntLt t l) i hc hi (by omega)
        omega
    omega
  · exact cntLt_lt t l i
theorem wrapN {a : Nat} (h : a < 9223372036854775808) : IntKind.wrap .u64 (a : Int) = a ∧ IntKind.wrap .i64 (a : Int) = a := by
  constructor
  · simp only [IntKind.wrap, IntKind.bits, IntKind.signed]; simp; omega
  · simp only [IntKind.wrap, IntKind.bits, IntKind.signed]; simp; omega
theorem cntLt_get {l : List Int} (hs : l.Pairwise (· < ·)) {i : Nat} (hi : i < l.length) : cntLt (l.getD i 0) l = i := by
  have h1 := cntLt_split hs (l.getD i 0) i hi
  have h2 : cntLt (l.getD i 0) l ≤ i := by have := fun e => Int.lt_irrefl _ (h1.2 e); omega
  have h3 : ¬ cntLt (l.getD i 0) l < i := by
    intro h4
    have h5 := List.pairwise_iff_getElem.1 hs (cntLt (l.getD i 0) l) i (by omega) hi h4
    have h6 := cntLt_ge (l.getD i 0) l (by omega)
    rw [← getD_at (show cntLt (l.getD i 0) l < l.length by omega) 0, ← getD_at hi 0] at h5
    omega
  omega
theorem loads_ok {S : Nat} {l : List Int} (h : loadsB S l = true) : l.length = S ∧ ∀ v ∈ l, 0 ≤ v ∧ v ≤ 999 := by
  simp only [loadsB, Bool.and_eq_true, decide_eq_true_eq, List.all_eq_true] at h
  refine ⟨h.1, fun v hv => ?_⟩
  have := h.2 v hv
  simpa [loadB, inR] using this
theorem spaceB_ok {x : List (List Int) × List (Int × Int)} (h : spaceB x = true) : x.1.length ≤ 300 ∧ x.2.length ≤ 6000 ∧ pairsB x.2 x.1.length = true := by
  simp only [spaceB, Bool.and_eq_true, decide_eq_true_eq] at h
  exact ⟨h.1, h.2.1, h.2.2.2⟩
def Pw (W : List Int) (a b : Nat) : Prop := W.getD a 0 < W.getD b 0 ∨ (W.getD a 0 = W.getD b 0 ∧ a < b)
theorem Pw.trans {W : List Int} {a b c : Nat} (h : Pw W a b) (k : Pw W b c) : Pw W a c := by unfold Pw at *; omega
theorem Pw.up {W : List Int} {a b : Nat} (h : a < b) : Pw W b a ↔ W.getD b 0 < W.getD a 0 := by unfold Pw; omega
theorem Pw.down {W : List Int} {a b : Nat} (h : a < b) : Pw W a b ↔ ¬ W.getD b 0 < W.getD a 0 := by unfold Pw; omega
theorem Pw.ne {W : List Int} {a b : Nat} (h : Pw W a b) : a ≠ b := by unfold Pw at h; intro e; subst e; omega
def Srt (W : List Int) (F : Nat → Nat) (a b : Nat) : Prop := ∀ x y, a ≤ x → x < y → y < b → Pw W (F x) (F y)
theorem Srt.le {W : List Int} {F : Nat → Nat} {a b : Nat} (h : Srt W F a b) {x y : Nat} (hx : a ≤ x) (hxy : x ≤ y) (hy : y < b) : F x = F y ∨ Pw W (F x) (F y) := by
  rcases Nat.lt_or_ge x y with g | g
  · exact .inr (h x y hx g hy)
  · have : x = y := by omega
    subst this; exact .inl rfl
theorem Pw.chain {W : List Int} {a b c d : Nat} (h1 : a = b ∨ Pw W a b) (h2 : Pw W b c) (h3 : c = d ∨ Pw W c d) : Pw W a d := by
  rcases h1 with rfl | h1 <;> rcases h3 with rfl | h3
  · exact h2
  · exact h2.trans h3
  · exact h1.trans h2
  · exact (h1.trans h2).trans h3
structure Same3 (G F : Nat → Nat) (a b : Nat) : Prop where
  out : ∀ x, x < a ∨ b ≤ x → G x = F x
  to : ∀ x, a ≤ x → x < b → ∃ y, a ≤ y ∧ y < b ∧ G x = F y
  from' : ∀ y, a ≤ y → y < b → ∃ x, a ≤ x ∧ x < b ∧ G x = F y
theorem Same3.refl (F : Nat → Nat) (a b : Nat) : Same3 F F a b := ⟨fun _ _ => rfl, fun x h1 h2 => ⟨x, h1, h2, rfl⟩, fun x h1 h2 => ⟨x, h1, h2, rfl⟩⟩
theorem Same3.trans {H G F : Nat → Nat} {a b : Nat} (h : Same3 H G a b) (k : Same3 G F a b) : Same3 H F a b :=
  ⟨fun x hx => (h.out x hx).trans (k.out x hx), fun x h1 h2 => by
    obtain ⟨y, p1, p2, p3⟩ := h.to x h1 h2
    obtain ⟨z, q1, q2, q3⟩ := k.to y p1 p2
    exact ⟨z, q1, q2, p3.trans q3⟩, fun y h1 h2 => by
    obtain ⟨z, q1, q2, q3⟩ := k.from' y h1 h2
    obtain ⟨x, p1, p2, p3⟩ := h.from' z q1 q2
    exact ⟨x, p1, p2, p3.trans q3⟩⟩
theorem Same3.wide {G F : Nat → Nat} {a b c d : Nat} (h : Same3 G F a b) (hc : c ≤ a) (hd : b ≤ d) : Same3 G F c d :=
  ⟨fun x hx => h.out x (by omega), fun x h1 h2 => by
    by_cases g : a ≤ x ∧ x < b
    · obtain ⟨y, p1, p2, p3⟩ := h.to x g.1 g.2
      exact ⟨y, by omega, by omega, p3⟩
    · exact ⟨x, h1, h2, h.out x (by omega)⟩, fun y h1 h2 => by
    by_cases g : a ≤ y ∧ y < b
    · obtain ⟨x, p1, p2, p3⟩ := h.from' y g.1 g.2
      exact ⟨x, by omega, by omega, p3⟩
    · exact ⟨y, h1, h2, h.out y (by omega)⟩⟩
def VR (W : List Int) (n : Nat) (F : Nat → Nat) : Prop := ∀ x, x < n → F x < W.length
theorem VR.same {W : List Int} {n : Nat} {G F : Nat → Nat} (h : VR W n F) {a b : Nat} (s : Same3 G F a b) (hb : b ≤ n) : VR W n G := fun x hx => by
  by_cases g : a ≤ x ∧ x < b
  · obtain ⟨y, p1, p2, p3⟩ := s.to x g.1 g.2
    rw [p3]; exact h y (by omega)
  · rw [s.out x (by omega)]; exact h x hx
def rn (n : Nat) (F : Nat → Nat) : List Int := rows n fun i => (F i : Int)
theorem rn_len {n : Nat} {F : Nat → Nat} : (rn n F).length = n := rows_len
theorem rn_get {n i : Nat} {F : Nat → Nat} (h : i < n) : (rn n F).getD i 0 = (F i : Int) := rows_get h 0
theorem rn_congr {n : Nat} {F G : Nat → Nat} (h : ∀ j, j < n → F j = G j) : rn n F = rn n G := rows_congr fun j hj => by rw [h j hj]
def sw (F : Nat → Nat) (i j : Nat) : Nat → Nat := fun k => if k = j then F i else if k = i then F j else F k
theorem rn_swap {n : Nat} {F : Nat → Nat} (i j : Nat) : ((rn n F).set i (F j : Int)).set j (F i : Int) = rn n (sw F i j) := by
  simp only [rn, rows_set]
  refine rows_congr fun k _ => ?_
  simp only [sw]
  split
  · rfl
  · split <;> rfl
theorem sw_same {F : Nat → Nat} {i j a b : Nat} (hi : a ≤ i ∧ i < b) (hj : a ≤ j ∧ j < b) : Same3 (sw F i j) F a b := by
  refine ⟨fun x hx => ?_, fun x h1 h2 => ?_, fun y h1 h2 => ?_⟩
  · simp only [sw]; rw [if_neg (by omega), if_neg (by omega)]
  · by_cases e : x = j
    · exact ⟨i, hi.1, hi.2, by simp only [sw]; rw [if_pos e]⟩
    · by_cases e2 : x = i
      · exact ⟨j, hj.1, hj.2, by simp only [sw]; rw [if_neg e, if_pos e2]⟩
      · exact ⟨x, h1, h2, by simp only [sw]; rw [if_neg e, if_neg e2]⟩
  · by_cases e : y = i
    · exact ⟨j, hj.1, hj.2, by simp only [sw]; rw [if_pos trivial, e]⟩
    · by_cases e2 : y = j
      · exact ⟨i, hi.1, hi.2, by
          simp only [sw]
          by_cases e3 : i = j
          · rw [if_pos e3, e2, e3]
          · rw [if_neg e3, if_pos trivial, e2]⟩
      · exact ⟨y, h1, h2, by simp only [sw]; rw [if_neg e2, if_neg e]⟩
theorem cmpW (W : List Int) (a b : Nat) (ha : a < W.length) (hb : b < W.length) : ∃ r : Int, impl_CheapTree_1_vvc ((a : Int), (b : Int), W, ()) () = some ((r, ()), ()) ∧ decide (r < 0) = decide (W.getD a 0 < W.getD b 0) := by
  simp only [impl_CheapTree_1_vvc, Int.toNat_natCast]
  rw [guardB_true (by simp [inb] <;> omega), guardB_true (by simp [inb] <;> omega)]
  simp only [cmp_eq _ _]
  refine ⟨_, rfl, ?_⟩
  by_cases h : W.getD a 0 < W.getD b 0
  · rw [if_pos h, decide_eq_true h]; rfl
  · rw [if_neg h, decide_eq_false h]
    split <;> rfl
theorem midW {i j : Nat} (h : i + j ≤ 4194304) : w64 (Int.fdiv (IntKind.wrap .u64 (w64 ((i : Int) + (j : Int)))) (2 ^ (min 1 64))) = (((i + j) / 2 : Nat) : Int) := by
  rw [w64_of (x := (i : Int) + (j : Int)) (by omega) (by omega), show (i : Int) + (j : Int) = ((i + j : Nat) : Int) by omega, (wrapN (by omega)).1]
  have : Int.fdiv ((i + j : Nat) : Int) (2 ^ (min 1 64)) = (((i + j) / 2 : Nat) : Int) := by
    rw [Int.fdiv_eq_ediv_of_nonneg _ (by decide)]
    simp
  rw [this, w64_of (by omega) (by omega)]
theorem slices_insertionSortCmpFunc_int_e0vvf_impl_CheapTree_1_1__lsbs_B0_at (a : Int) (b : Int) (i : Int) (j : Int) (o0 : List (Int)) (o1 : List (Int)) : slices_insertionSortCmpFunc_int_e0vvf_impl_CheapTree_1_1__lsbs_B0 ((a, b, i, j, ()), (o0, o1, ())) = bif (decide (a < j)) then (guardB (inb j (List.length o0)) (guardB (inb (w64 (j - (1 : Int))) (List.length o0)) (match impl_CheapTree_1_vvc ((List.getD o0 (Int.toNat j) (0 : Int)), (List.getD o0 (Int.toNat (w64 (j - (1 : Int)))) (0 : Int)), o1, ()) () with | some ((r, ()), ()) => (bif (decide (r < (0 : Int))) then (guardB (inb (w64 (j - (1 : Int))) (List.length o0)) (guardB (inb j (List.length o0)) (guardB (inb j (List.length o0)) (guardB (inb (w64 (j - (1 : Int))) (List.length (List.set o0 (Int.toNat j) (List.getD o0 (Int.toNat (w64 (j - (1 : Int)))) (0 : Int))))) (some (.inl ((a, b, i, (w64 (j - (1 : Int))), ()), ((List.set (List.set o0 (Int.toNat j) (List.getD o0 (Int.toNat (w64 (j - (1 : Int)))) (0 : Int))) (Int.toNat (w64 (j - (1 : Int)))) (List.getD o0 (Int.toNat j) (0 : Int))), o1, ())))))))) else (some (.inr ((a, b, i, ()), (o0, o1, ()))))) | none => none))) else (some (.inr ((a, b, i, ()), (o0, o1, ())))) := rfl
theorem slices_insertionSortCmpFunc_int_e0vvf_impl_CheapTree_1_1__lsbs_B1_at (a : Int) (b : Int) (i : Int) (o0 : List (Int)) (o1 : List (Int)) : slices_insertionSortCmpFunc_int_e0vvf_impl_CheapTree_1_1__lsbs_B1 ((a, b, i, ()), (o0, o1, ())) = bif (decide (i < b)) then (match loopO slices_insertionSortCmpFunc_int_e0vvf_impl_CheapTree_1_1__lsbs_B0 ((a, b, i, i, ()), (o0, o1, ())) with | some ((a2, b2, i2, ()), (o0_2, o1_2, ())) => some (.inl ((a2, b2, (w64 (i2 + (1 : Int))), ()), (o0_2, o1_2, ()))) | none => none) else (some (.inr ((), (o0, o1, ())))) := rfl
theorem ins_inner (W : List Int) (n : Nat) (hn : n ≤ 1048576) (a b i : Nat) (hi : a ≤ i) (hin : i < n) (F : Nat → Nat) (hv : VR W n F) (hs : Srt W F a i) (hlt : ∀ x, a ≤ x → x < i → F x < F i) :
    ∃ G, loopO slices_insertionSortCmpFunc_int_e0vvf_impl_CheapTree_1_1__lsbs_B0 (((a : Int), (b : Int), (i : Int), (i : Int), ()), (rn n F, W, ())) = some (((a : Int), (b : Int), (i : Int), ()), (rn n G, W, ())) ∧ Same3 G F a (i + 1) ∧ Srt W G a (i + 1) := by
  suffices h : ∀ j G, a ≤ j → j ≤ i → Same3 G F a (i + 1) → G j = F i → (∀ x y, a ≤ x → x < y → y ≤ i → x ≠ j → y ≠ j → Pw W (G x) (G y)) → (∀ y, j < y → y ≤ i → Pw W (F i) (G y)) → (∀ x, a ≤ x → x ≤ i → x ≠ j → G x < F i) →
      ∃ H, loopO slices_insertionSortCmpFunc_int_e0vvf_impl_CheapTree_1_1__lsbs_B0 (((a : Int), (b : Int), (i : Int), (j : Int), ()), (rn n G, W, ())) = some (((a : Int), (b : Int), (i : Int), ()), (rn n H, W, ())) ∧ Same3 H F a (i + 1) ∧ Srt W H a (i + 1) by
    exact h i F hi (Nat.le_refl _) (Same3.refl _ _ _) rfl (fun x y h1 h2 h3 h4 h5 => hs x y h1 h2 (by omega)) (fun y h1 h2 => by omega) (fun x h1 h2 h3 => hlt x h1 (by omega))
  intro j
  induction j with
  | zero =>
    intro G h1 h2 h3 h4 h5 h6 h7
    refine ⟨G, loop_end ?_, h3, fun x y p1 p2 p3 => ?_⟩
    · rw [slices_insertionSortCmpFunc_int_e0vvf_impl_CheapTree_1_1__lsbs_B0_at]
      simp only [bif_decide]
      rw [if_neg (show ¬ (a : Int) < ((0 : Nat) : Int) by omega)]
    · by_cases e : x = 0
      · rw [e, h4]; exact h6 y (by omega) (by omega)
      · exact h5 x y p1 p2 (by omega) e (by omega)
  | succ j ih =>
    intro G h1 h2 h3 h4 h5 h6 h7
    by_cases ha : a ≤ j
    · have hvG := hv.same h3 (by omega : i + 1 ≤ n)
      obtain ⟨r, r1, r2⟩ := cmpW W (G (j + 1)) (G j) (hvG _ (by omega)) (hvG _ (by omega))
      have hjl : G j < F i := h7 j ha (by omega) (by omega)
      by_cases hc : W.getD (G (j + 1)) 0 < W.getD (G j) 0
      · have st : slices_insertionSortCmpFunc_int_e0vvf_impl_CheapTree_1_1__lsbs_B0 (((a : Int), (b : Int), (i : Int), ((j + 1 : Nat) : Int), ()), (rn n G, W, ())) = some (.inl (((a : Int), (b : Int), (i : Int), (j : Int), ()), (rn n (sw G (j + 1) j), W, ()))) := by
          rw [slices_insertionSortCmpFunc_int_e0vvf_impl_CheapTree_1_1__lsbs_B0_at]
          simp only [bif_decide, rn_len, List.length_set]
          rw [if_pos (show (a : Int) < ((j + 1 : Nat) : Int) by omega), show ((j + 1 : Nat) : Int) - 1 = (j : Int) by omega, w64_of (x := (j : Int)) (by omega) (by omega)]
          simp only [Int.toNat_natCast]
          rw [guardB_true (by simp [inb] <;> omega), guardB_true (by simp [inb] <;> omega), rn_get (by omega), rn_get (by omega)]
          simp only [r1, ← bif_decide, r2, decide_eq_true hc, cond_true]
          rw [guardB_true (by simp [inb] <;> omega), guardB_true (by simp [inb] <;> omega), guardB_true (by simp [inb] <;> omega), guardB_true (by simp [inb] <;> omega), rn_swap]
        obtain ⟨H, k1, k2, k3⟩ := ih (sw G (j + 1) j) ha (by omega) ((sw_same (by omega) (by omega)).trans h3) (by simp only [sw]; rw [if_pos trivial]; exact h4) (fun x y p1 p2 p3 p4 p5 => by
          simp only [sw]
          rw [if_neg p4, if_neg p5]
          by_cases e1 : x = j + 1
          · rw [if_pos e1, if_neg (by omega)]
            exact h5 j y ha (by omega) p3 (by omega) (by omega)
          · rw [if_neg e1]
            by_cases e2 : y = j + 1
            · rw [if_pos e2]; exact h5 x j p1 (by omega) (by omega) e1 (by omega)
            · rw [if_neg e2]; exact h5 x y p1 p2 p3 e1 e2) (fun y p1 p2 => by
          simp only [sw]
          rw [if_neg (by omega)]
          by_cases e : y = j + 1
          · rw [if_pos e]
            rw [h4] at hc
            exact (Pw.up hjl).2 hc
          · rw [if_neg e]; exact h6 y (by omega) p2) (fun x p1 p2 p3 => by
          simp only [sw]
          rw [if_neg p3]
          by_cases e : x = j + 1
          · rw [if_pos e]; exact hjl
          · rw [if_neg e]; exact h7 x p1 p2 e)
        exact ⟨H, loop_step st k1, k2, k3⟩
      · refine ⟨G, loop_end ?_, h3, fun x y p1 p2 p3 => ?_⟩
        · rw [slices_insertionSortCmpFunc_int_e0vvf_impl_CheapTree_1_1__lsbs_B0_at]
          simp only [bif_decide, rn_len, List.length_set]
          rw [if_pos (show (a : Int) < ((j + 1 : Nat) : Int) by omega), show ((j + 1 : Nat) : Int) - 1 = (j : Int) by omega, w64_of (x := (j : Int)) (by omega) (by omega)]
          simp only [Int.toNat_natCast]
          rw [guardB_true (by simp [inb] <;> omega), guardB_true (by simp [inb] <;> omega), rn_get (by omega), rn_get (by omega)]
          simp only [r1, ← bif_decide, r2, decide_eq_false hc, cond_false]
        · rw [h4] at hc
          have hP : Pw W (G j) (F i) := (Pw.down hjl).2 hc
          by_cases e1 : x = j + 1
          · rw [e1, h4]; exact h6 y (by omega) (by omega)
          · by_cases e2 : y = j + 1
            · rw [e2, h4]
              by_cases e3 : x = j
              · rw [e3]; exact hP
              · exact (h5 x j p1 (by omega) (by omega) e1 (by omega)).trans hP
            · exact h5 x y p1 p2 (by omega) e1 e2
    · refine ⟨G, loop_end ?_, h3, fun x y p1 p2 p3 => ?_⟩
      · rw [slices_insertionSortCmpFunc_int_e0vvf_impl_CheapTree_1_1__lsbs_B0_at]
        simp only [bif_decide]
        rw [if_neg (show ¬ (a : Int) < ((j + 1 : Nat) : Int) by omega)]
      · by_cases e : x = j + 1
        · rw [e, h4]; exact h6 y (by omega) (by omega)
        · exact h5 x y p1 p2 (by omega) e (by omega)
theorem ins_spec (W : List Int) (n : Nat) (hn : n ≤ 1048576) (a b : Nat) (hab : a ≤ b) (hb : b ≤ n) (F : Nat → Nat) (hv : VR W n F) (hinc : ∀ x y, a ≤ x → x < y → y < b → F x < F y) :
    ∃ G, slices_insertionSortCmpFunc_int_e0vvf_impl_CheapTree_1_1__lsbs ((a : Int), (b : Int), ()) (rn n F, W, ()) = some ((), (rn n G, W, ())) ∧ Same3 G F a b ∧ Srt W G a b := by
  suffices h : ∀ d i G, a < i → i + d = max (a + 1) b → Same3 G F a i → Srt W G a i →
      ∃ H, loopO slices_insertionSortCmpFunc_int_e0vvf_impl_CheapTree_1_1__lsbs_B1 (((a : Int), (b : Int), (i : Int), ()), (rn n G, W, ())) = some ((), (rn n H, W, ())) ∧ Same3 H F a (max (a + 1) b) ∧ Srt W H a (max (a + 1) b) by
    obtain ⟨G, g1, g2, g3⟩ := h (max (a + 1) b - (a + 1)) (a + 1) F (by omega) (by omega) (Same3.refl _ _ _) (fun x y p1 p2 p3 => by omega)
    have e : slices_insertionSortCmpFunc_int_e0vvf_impl_CheapTree_1_1__lsbs ((a : Int), (b : Int), ()) (rn n F, W, ()) = some ((), (rn n G, W, ())) := by
      simp only [slices_insertionSortCmpFunc_int_e0vvf_impl_CheapTree_1_1__lsbs]
      rw [w64_succ (by omega)]
      erw [g1]
    rcases Nat.lt_or_ge a b with hlt | hge
    · rw [show max (a + 1) b = b by omega] at g2 g3
      exact ⟨G, e, g2, g3⟩
    · have hG : ∀ x, G x = F x := fun x => by
        by_cases hx : x = a
        · subst hx
          obtain ⟨y, y1, y2, y3⟩ := g2.to x (Nat.le_refl _) (by omega)
          rw [y3, show y = x by omega]
        · exact g2.out x (by omega)
      exact ⟨G, e, ⟨fun x _ => hG x, fun x h1 h2 => by omega, fun x h1 h2 => by omega⟩, fun x y p1 p2 p3 => by omega⟩
  intro d
  induction d with
  | zero =>
    intro i G h1 h2 h3 h4
    have : i = max (a + 1) b := by omega
    refine ⟨G, loop_end ?_, this ▸ h3, this ▸ h4⟩
    rw [slices_insertionSortCmpFunc_int_e0vvf_impl_CheapTree_1_1__lsbs_B1_at]
    simp only [bif_decide]
    rw [if_neg (show ¬ (i : Int) < (b : Int) by omega)]
  | succ d ih =>
    intro i G h1 h2 h3 h4
    obtain ⟨G1, e1, e2, e3⟩ := ins_inner W n hn a b i (by omega) (by omega) G (hv.same h3 (by omega)) h4 (fun x p1 p2 => by
      obtain ⟨y, y1, y2, y3⟩ := h3.to x p1 p2
      rw [y3, h3.out i (by omega)]
      exact hinc y i y1 y2 (by omega))
    obtain ⟨H, k1, k2, k3⟩ := ih (i + 1) G1 (by omega) (by omega) (e2.trans (h3.wide (Nat.le_refl _) (by omega))) e3
    refine ⟨H, loop_step ?_ k1, k2, k3⟩
    rw [slices_insertionSortCmpFunc_int_e0vvf_impl_CheapTree_1_1__lsbs_B1_at]
    simp only [bif_decide]
    rw [if_pos (show (i : Int) < (b : Int) by omega)]
    erw [e1]
    simp only [w64_succ (show i < 4611686018427387904 by omega)]

theorem slices_swapRangeCmpFunc_int_e0vvvf_impl_CheapTree_1_1__lsbs_B0_at (a : Int) (b : Int) (n : Int) (i : Int) (o0 : List (Int)) (o1 : List (Int)) : slices_swapRangeCmpFunc_int_e0vvvf_impl_CheapTree_1_1__lsbs_B0 ((a, b, n, i, ()), (o0, o1, ())) = bif (decide (i < n)) then (guardB (inb (w64 (b + i)) (List.length o0)) (guardB (inb (w64 (a + i)) (List.length o0)) (guardB (inb (w64 (a + i)) (List.length o0)) (guardB (inb (w64 (b + i)) (List.length (List.set o0 (Int.toNat (w64 (a + i))) (List.getD o0 (Int.toNat (w64 (b + i))) (0 : Int))))) (some (.inl ((a, b, n, (w64 (i + (1 : Int))), ()), ((List.set (List.set o0 (Int.toNat (w64 (a + i))) (List.getD o0 (Int.toNat (w64 (b + i))) (0 : Int))) (Int.toNat (w64 (b + i))) (List.getD o0 (Int.toNat (w64 (a + i))) (0 : Int))), o1, ())))))))) else (some (.inr ((), (o0, o1, ())))) := rfl
theorem slices_rotateCmpFunc_int_e0vvvf_impl_CheapTree_1_1__lsbs_B0_at (m : Int) (i : Int) (j : Int) (o0 : List (Int)) (o1 : List (Int)) : slices_rotateCmpFunc_int_e0vvvf_impl_CheapTree_1_1__lsbs_B0 ((m, i, j, ()), (o0, o1, ())) = bif (i != j) then (bif (decide (j < i)) then (match slices_swapRangeCmpFunc_int_e0vvvf_impl_CheapTree_1_1__lsbs ((w64 (m - i)), m, j, ()) (o0, o1, ()) with | some ((), (o, o2, ())) => some (.inl ((m, (w64 (i - j)), j, ()), (o, o2, ()))) | none => none) else (match slices_swapRangeCmpFunc_int_e0vvvf_impl_CheapTree_1_1__lsbs ((w64 (m - i)), (w64 ((w64 (m + j)) - i)), i, ()) (o0, o1, ()) with | some ((), (o3, o4, ())) => some (.inl ((m, i, (w64 (j - i)), ()), (o3, o4, ()))) | none => none)) else (some (.inr ((m, i, ()), (o0, o1, ())))) := rfl
def swr (F : Nat → Nat) (a b c : Nat) : Nat → Nat := fun k => if a ≤ k ∧ k < a + c then F (k - a + b) else if b ≤ k ∧ k < b + c then F (k - b + a) else F k
theorem swp_spec (W : List Int) (n : Nat) (hn : n ≤ 1048576) (F : Nat → Nat) (a b c : Nat) (h1 : a + c ≤ b) (h2 : b + c ≤ n) :
    slices_swapRangeCmpFunc_int_e0vvvf_impl_CheapTree_1_1__lsbs ((a : Int), (b : Int), (c : Int), ()) (rn n F, W, ()) = some ((), (rn n (swr F a b c), W, ())) := by
  have key := loop_count (B := slices_swapRangeCmpFunc_int_e0vvvf_impl_CheapTree_1_1__lsbs_B0) (fun i => (((a : Int), (b : Int), (c : Int), (i : Int), ()), (rn n (swr F a b i), W, ()))) c ((), (rn n (swr F a b c), W, ())) (fun i hi => by
    rw [slices_swapRangeCmpFunc_int_e0vvvf_impl_CheapTree_1_1__lsbs_B0_at]
    simp only [bif_decide, rn_len, List.length_set]
    rw [if_pos (show (i : Int) < (c : Int) by omega), w64_of (x := (b : Int) + (i : Int)) (by omega) (by omega), w64_of (x := (a : Int) + (i : Int)) (by omega) (by omega), show (b : Int) + (i : Int) = ((b + i : Nat) : Int) by omega, show (a : Int) + (i : Int) = ((a + i : Nat) : Int) by omega]
    simp only [Int.toNat_natCast]
    rw [guardB_true (by simp [inb] <;> omega), guardB_true (by simp [inb] <;> omega), guardB_true (by simp [inb] <;> omega), guardB_true (by simp [inb] <;> omega), rn_get (by omega), rn_get (by omega), rn_swap, w64_succ (by omega)]
    have : rn n (sw (swr F a b i) (a + i) (b + i)) = rn n (swr F a b (i + 1)) := rn_congr fun k _ => by
      simp only [sw, swr]
      by_cases e1 : k = b + i
      · rw [if_pos e1, if_neg (by omega), if_neg (by omega), if_neg (by omega), if_pos (by omega), e1]
        congr 1; omega
      · rw [if_neg e1]
        by_cases e2 : k = a + i
        · rw [if_pos e2, if_neg (by omega), if_neg (by omega), if_pos (by omega)]
          congr 1; omega
        · rw [if_neg e2]
          by_cases e3 : a ≤ k ∧ k < a + i
          · rw [if_pos e3, if_pos (by omega)]
          · rw [if_neg e3, if_neg (show ¬ (a ≤ k ∧ k < a + (i + 1)) by omega)]
            by_cases e4 : b ≤ k ∧ k < b + i
            · rw [if_pos e4, if_pos (by omega)]
            · rw [if_neg e4, if_neg (by omega)]
    rw [this]) (by
    rw [slices_swapRangeCmpFunc_int_e0vvvf_impl_CheapTree_1_1__lsbs_B0_at]
    simp only [bif_decide]
    rw [if_neg (show ¬ (c : Int) < (c : Int) by omega)]) 0 (Nat.zero_le _)
  have h0 : rn n (swr F a b 0) = rn n F := rn_congr fun k _ => by
    simp only [swr]
    rw [if_neg (by omega), if_neg (by omega)]
  rw [h0] at key
  simp only [slices_swapRangeCmpFunc_int_e0vvvf_impl_CheapTree_1_1__lsbs]
  erw [key]
def rot (F : Nat → Nat) (a m b : Nat) : Nat → Nat := fun k => if a ≤ k ∧ k < a + (b - m) then F (k - a + m) else if a + (b - m) ≤ k ∧ k < b then F (k - (b - m)) else F k
theorem rot_same {F : Nat → Nat} {a m b : Nat} (h1 : a ≤ m) (h2 : m ≤ b) : Same3 (rot F a m b) F a b := by
  refine ⟨fun x hx => ?_, fun x p1 p2 => ?_, fun y p1 p2 => ?_⟩
  · simp only [rot]; rw [if_neg (by omega), if_neg (by omega)]
  · by_cases g : x < a + (b - m)
    · exact ⟨x - a + m, by omega, by omega, by simp only [rot]; rw [if_pos ⟨p1, g⟩]⟩
    · exact ⟨x - (b - m), by omega, by omega, by simp only [rot]; rw [if_neg (by omega), if_pos (by omega)]⟩
  · by_cases g : m ≤ y
    · refine ⟨y - m + a, by omega, by omega, ?_⟩
      simp only [rot]; rw [if_pos (by omega)]
      congr 1; omega
    · refine ⟨y + (b - m), by omega, by omega, ?_⟩
      simp only [rot]; rw [if_neg (by omega), if_pos (by omega)]
      congr 1; omega
theorem rot_spec (W : List Int) (n : Nat) (hn : n ≤ 1048576) (F : Nat → Nat) (a m b : Nat) (h1 : a < m) (h2 : m < b) (h3 : b ≤ n) :
    slices_rotateCmpFunc_int_e0vvvf_impl_CheapTree_1_1__lsbs ((a : Int), (m : Int), (b : Int), ()) (rn n F, W, ()) = some ((), (rn n (rot F a m b), W, ())) := by
  suffices h : ∀ s i j G, i + j ≤ s → 0 < i → 0 < j → i ≤ m → m + j ≤ n → (∀ k, k < n → rot G (m - i) m (m + j) k = rot F a m b k) →
      ∃ (c : Nat) (H : Nat → Nat), loopO slices_rotateCmpFunc_int_e0vvvf_impl_CheapTree_1_1__lsbs_B0 (((m : Int), (i : Int), (j : Int), ()), (rn n G, W, ())) = some (((m : Int), (c : Int), ()), (rn n H, W, ())) ∧ 0 < c ∧ c ≤ m ∧ m + c ≤ n ∧ (∀ k, k < n → swr H (m - c) m c k = rot F a m b k) by
    obtain ⟨c, H, k1, k2, k3, k4, k5⟩ := h (m - a + (b - m)) (m - a) (b - m) F (Nat.le_refl _) (by omega) (by omega) (by omega) (by omega) (fun k _ => by rw [show m - (m - a) = a by omega, show m + (b - m) = b by omega])
    simp only [slices_rotateCmpFunc_int_e0vvvf_impl_CheapTree_1_1__lsbs]
    rw [w64_of (x := (m : Int) - (a : Int)) (by omega) (by omega), w64_of (x := (b : Int) - (m : Int)) (by omega) (by omega), show (m : Int) - (a : Int) = ((m - a : Nat) : Int) by omega, show (b : Int) - (m : Int) = ((b - m : Nat) : Int) by omega]
    erw [k1]
    simp only
    rw [w64_of (x := (m : Int) - (c : Int)) (by omega) (by omega), show (m : Int) - (c : Int) = ((m - c : Nat) : Int) by omega, swp_spec W n hn H (m - c) m c (by omega) (by omega)]
    simp only
    rw [rn_congr k5]
  intro s
  induction s with
  | zero => intro i j G g0 g1; omega
  | succ s ih =>
    intro i j G g0 g1 g2 g3 g4 g5
    rcases Nat.lt_trichotomy i j with hlt | heq | hgt
    · have st : slices_rotateCmpFunc_int_e0vvvf_impl_CheapTree_1_1__lsbs_B0 (((m : Int), (i : Int), (j : Int), ()), (rn n G, W, ())) = some (.inl (((m : Int), (i : Int), ((j - i : Nat) : Int), ()), (rn n (swr G (m - i) (m + j - i) i), W, ()))) := by
        rw [slices_rotateCmpFunc_int_e0vvvf_impl_CheapTree_1_1__lsbs_B0_at]
        simp only [bif_decide]
        rw [bne_ne (show ¬ (i : Int) = (j : Int) by omega), cond_true, if_neg (show ¬ (j : Int) < (i : Int) by omega), w64_of (x := (m : Int) - (i : Int)) (by omega) (by omega), w64_of (x := (m : Int) + (j : Int)) (by omega) (by omega), w64_of (x := (m : Int) + (j : Int) - (i : Int)) (by omega) (by omega), show (m : Int) - (i : Int) = ((m - i : Nat) : Int) by omega, show (m : Int) + (j : Int) - (i : Int) = ((m + j - i : Nat) : Int) by omega, swp_spec W n hn G (m - i) (m + j - i) i (by omega) (by omega)]
        simp only
        rw [w64_of (x := (j : Int) - (i : Int)) (by omega) (by omega), show (j : Int) - (i : Int) = ((j - i : Nat) : Int) by omega]
      obtain ⟨c, H, k1, k2⟩ := ih i (j - i) (swr G (m - i) (m + j - i) i) (by omega) g1 (by omega) g3 (by omega) (fun k hk => by
        rw [← g5 k hk]
        simp only [rot, swr]
        by_cases c1 : m - i ≤ k ∧ k < m - i + (m + (j - i) - m)
        · rw [if_pos c1, if_pos (show m - i ≤ k ∧ k < m - i + (m + j - m) by omega)]
          by_cases c2 : m + j - i ≤ k - (m - i) + m ∧ k - (m - i) + m < m + j - i + i
          · omega
          · rw [if_neg (by omega), if_neg c2]
        · rw [if_neg c1]
          by_cases c2 : m - i + (m + (j - i) - m) ≤ k ∧ k < m + (j - i)
          · rw [if_pos c2, if_pos (show m - i ≤ k - (m + (j - i) - m) ∧ k - (m + (j - i) - m) < m - i + i by omega), if_pos (show m - i ≤ k ∧ k < m - i + (m + j - m) by omega)]
            congr 1; omega
          · rw [if_neg c2]
            by_cases c3 : m + j - i ≤ k ∧ k < m + j - i + i
            · rw [if_neg (by omega), if_pos c3, if_neg (by omega), if_pos (by omega)]
              congr 1; omega
            · rw [if_neg (by omega), if_neg c3, if_neg (by omega), if_neg (by omega)])
      exact ⟨c, H, loop_step st k1, k2⟩
    · subst heq
      refine ⟨i, G, loop_end ?_, g1, g3, g4, fun k hk => ?_⟩
      · rw [slices_rotateCmpFunc_int_e0vvvf_impl_CheapTree_1_1__lsbs_B0_at]
        rw [bne_eq (rfl : (i : Int) = (i : Int)), cond_false]
      · rw [← g5 k hk]
        simp only [rot, swr]
        by_cases c1 : m - i ≤ k ∧ k < m - i + i
        · rw [if_pos c1, if_pos (by omega)]
        · rw [if_neg c1]
          by_cases c2 : m ≤ k ∧ k < m + i
          · rw [if_pos c2, if_neg (by omega), if_pos (by omega)]
            congr 1; omega
          · rw [if_neg c2, if_neg (by omega), if_neg (by omega)]
    · have st : slices_rotateCmpFunc_int_e0vvvf_impl_CheapTree_1_1__lsbs_B0 (((m : Int), (i : Int), (j : Int), ()), (rn n G, W, ())) = some (.inl (((m : Int), ((i - j : Nat) : Int), (j : Int), ()), (rn n (swr G (m - i) m j), W, ()))) := by
        rw [slices_rotateCmpFunc_int_e0vvvf_impl_CheapTree_1_1__lsbs_B0_at]
        simp only [bif_decide]
        rw [bne_ne (show ¬ (i : Int) = (j : Int) by omega), cond_true, if_pos (show (j : Int) < (i : Int) by omega), w64_of (x := (m : Int) - (i : Int)) (by omega) (by omega), show (m : Int) - (i : Int) = ((m - i : Nat) : Int) by omega, swp_spec W n hn G (m - i) m j (by omega) (by omega)]
        simp only
        rw [w64_of (x := (i : Int) - (j : Int)) (by omega) (by omega), show (i : Int) - (j : Int) = ((i - j : Nat) : Int) by omega]
      obtain ⟨c, H, k1, k2⟩ := ih (i - j) j (swr G (m - i) m j) (by omega) (by omega) g2 (by omega) g4 (fun k hk => by
        rw [← g5 k hk]
        simp only [rot, swr]
        by_cases c1 : m - (i - j) ≤ k ∧ k < m - (i - j) + (m + j - m)
        · rw [if_pos c1, if_neg (by omega), if_pos (by omega), if_neg (by omega), if_pos (by omega)]
          congr 1; omega
        · rw [if_neg c1]
          by_cases c2 : m - (i - j) + (m + j - m) ≤ k ∧ k < m + j
          · rw [if_pos c2, if_neg (by omega), if_neg (by omega), if_neg (by omega), if_pos (by omega)]
          · rw [if_neg c2]
            by_cases c3 : m - i ≤ k ∧ k < m - i + j
            · rw [if_pos c3, if_pos (by omega)]
            · rw [if_neg c3, if_neg (by omega), if_neg (by omega), if_neg (by omega)])
      exact ⟨c, H, loop_step st k1, k2⟩
theorem loop_half {P Q : Type} {B : P → Option (P ⊕ Q)} (st : Nat → Nat → P) (q : Nat → Q) (good : Nat → Bool) (lo hi : Nat) (hlh : lo ≤ hi)
    (step : ∀ i j, lo ≤ i → i < j → j ≤ hi → B (st i j) = some (.inl (bif good ((i + j) / 2) then st ((i + j) / 2 + 1) j else st i ((i + j) / 2)))) (stop : ∀ i, lo ≤ i → i ≤ hi → B (st i i) = some (.inr (q i))) :
    ∃ r, lo ≤ r ∧ r ≤ hi ∧ loopO B (st lo hi) = some (q r) ∧ (r = lo ∨ (lo < r ∧ good (r - 1) = true)) ∧ (r = hi ∨ (r < hi ∧ good r = false)) := by
  suffices h : ∀ d i j, j - i ≤ d → lo ≤ i → i ≤ j → j ≤ hi → (i = lo ∨ (lo < i ∧ good (i - 1) = true)) → (j = hi ∨ (j < hi ∧ good j = false)) →
      ∃ r, lo ≤ r ∧ r ≤ hi ∧ loopO B (st i j) = some (q r) ∧ (r = lo ∨ (lo < r ∧ good (r - 1) = true)) ∧ (r = hi ∨ (r < hi ∧ good r = false)) from
    h (hi - lo) lo hi (Nat.le_refl _) (Nat.le_refl _) hlh (Nat.le_refl _) (.inl rfl) (.inl rfl)
  intro d
  induction d with
  | zero =>
    intro i j h1 h2 h3 h4 h5 h6
    have : i = j := by omega
    subst this
    exact ⟨i, h2, h4, loop_end (stop i h2 h4), h5, h6⟩
  | succ d ih =>
    intro i j h1 h2 h3 h4 h5 h6
    by_cases e : i = j
    · subst e
      exact ⟨i, h2, h4, loop_end (stop i h2 h4), h5, h6⟩
    · have s := step i j h2 (by omega) h4
      cases hg : good ((i + j) / 2)
      · rw [hg] at s
        obtain ⟨r, k1, k2, k3, k4⟩ := ih i ((i + j) / 2) (by omega) h2 (by omega) (by omega) h5 (.inr ⟨by omega, hg⟩)
        exact ⟨r, k1, k2, loop_step s k3, k4⟩
      · rw [hg] at s
        obtain ⟨r, k1, k2, k3, k4⟩ := ih ((i + j) / 2 + 1) j (by omega) (by omega) (by omega) h4 (.inr ⟨by omega, by rw [Nat.add_sub_cancel]; exact hg⟩) h6
        exact ⟨r, k1, k2, loop_step s k3, k4⟩

theorem slices_symMergeCmpFunc_int_e0vvvf_impl_CheapTree_1_1__lsbs_B0_at (rc : argP slices_symMergeCmpFunc_int_e0vvvf_impl_CheapTree_1_1__lsbs_a → obP (extObs 0 slices_symMergeCmpFunc_int_e0vvvf_impl_CheapTree_1_1__lsbs_o) → Option slices_symMergeCmpFunc_int_e0vvvf_impl_CheapTree_1_1__lsbs_E.P) (t1 : Int) (t10 : Int) (t11 : Int) (o0 : List (Int)) (o1 : List (Int)) : slices_symMergeCmpFunc_int_e0vvvf_impl_CheapTree_1_1__lsbs_B0 rc ((t1, t10, t11, ()), (o0, o1, ())) = bif (decide (t10 < t11)) then (guardB (inb (w64 (Int.fdiv (IntKind.wrap .u64 (w64 (t10 + t11))) (2 ^ (min 1 64)))) (List.length o0)) (guardB (inb t1 (List.length o0)) (match impl_CheapTree_1_vvc ((List.getD o0 (Int.toNat (w64 (Int.fdiv (IntKind.wrap .u64 (w64 (t10 + t11))) (2 ^ (min 1 64))))) (0 : Int)), (List.getD o0 (Int.toNat t1) (0 : Int)), o1, ()) () with | some ((r, ()), ()) => (bif (decide (r < (0 : Int))) then (some (.inl ((t1, (w64 ((w64 (Int.fdiv (IntKind.wrap .u64 (w64 (t10 + t11))) (2 ^ (min 1 64)))) + (1 : Int))), t11, ()), (o0, o1, ())))) else (some (.inl ((t1, t10, (w64 (Int.fdiv (IntKind.wrap .u64 (w64 (t10 + t11))) (2 ^ (min 1 64)))), ()), (o0, o1, ()))))) | none => none))) else (some (.inr ((t1, t10, ()), (o0, o1, ())))) := rfl
theorem slices_symMergeCmpFunc_int_e0vvvf_impl_CheapTree_1_1__lsbs_B1_at (rc : argP slices_symMergeCmpFunc_int_e0vvvf_impl_CheapTree_1_1__lsbs_a → obP (extObs 0 slices_symMergeCmpFunc_int_e0vvvf_impl_CheapTree_1_1__lsbs_o) → Option slices_symMergeCmpFunc_int_e0vvvf_impl_CheapTree_1_1__lsbs_E.P) (t10 : Int) (t13 : Int) (o0 : List (Int)) (o1 : List (Int)) : slices_symMergeCmpFunc_int_e0vvvf_impl_CheapTree_1_1__lsbs_B1 rc ((t10, t13, ()), (o0, o1, ())) = bif (decide (t13 < (w64 (t10 - (1 : Int))))) then (guardB (inb (w64 (t13 + (1 : Int))) (List.length o0)) (guardB (inb t13 (List.length o0)) (guardB (inb t13 (List.length o0)) (guardB (inb (w64 (t13 + (1 : Int))) (List.length (List.set o0 (Int.toNat t13) (List.getD o0 (Int.toNat (w64 (t13 + (1 : Int)))) (0 : Int))))) (some (.inl ((t10, (w64 (t13 + (1 : Int))), ()), ((List.set (List.set o0 (Int.toNat t13) (List.getD o0 (Int.toNat (w64 (t13 + (1 : Int)))) (0 : Int))) (Int.toNat (w64 (t13 + (1 : Int)))) (List.getD o0 (Int.toNat t13) (0 : Int))), o1, ())))))))) else (some (.inr ((), (o0, o1, ())))) := rfl
theorem slices_symMergeCmpFunc_int_e0vvvf_impl_CheapTree_1_1__lsbs_B2_at (rc : argP slices_symMergeCmpFunc_int_e0vvvf_impl_CheapTree_1_1__lsbs_a → obP (extObs 0 slices_symMergeCmpFunc_int_e0vvvf_impl_CheapTree_1_1__lsbs_o) → Option slices_symMergeCmpFunc_int_e0vvvf_impl_CheapTree_1_1__lsbs_E.P) (t2 : Int) (t14 : Int) (t15 : Int) (o0 : List (Int)) (o1 : List (Int)) : slices_symMergeCmpFunc_int_e0vvvf_impl_CheapTree_1_1__lsbs_B2 rc ((t2, t14, t15, ()), (o0, o1, ())) = bif (decide (t14 < t15)) then (guardB (inb t2 (List.length o0)) (guardB (inb (w64 (Int.fdiv (IntKind.wrap .u64 (w64 (t14 + t15))) (2 ^ (min 1 64)))) (List.length o0)) (match impl_CheapTree_1_vvc ((List.getD o0 (Int.toNat t2) (0 : Int)), (List.getD o0 (Int.toNat (w64 (Int.fdiv (IntKind.wrap .u64 (w64 (t14 + t15))) (2 ^ (min 1 64))))) (0 : Int)), o1, ()) () with | some ((r, ()), ()) => (bif (!(decide (r < (0 : Int)))) then (some (.inl ((t2, (w64 ((w64 (Int.fdiv (IntKind.wrap .u64 (w64 (t14 + t15))) (2 ^ (min 1 64)))) + (1 : Int))), t15, ()), (o0, o1, ())))) else (some (.inl ((t2, t14, (w64 (Int.fdiv (IntKind.wrap .u64 (w64 (t14 + t15))) (2 ^ (min 1 64)))), ()), (o0, o1, ()))))) | none => none))) else (some (.inr ((t2, t14, ()), (o0, o1, ())))) := rfl
theorem slices_symMergeCmpFunc_int_e0vvvf_impl_CheapTree_1_1__lsbs_B3_at (rc : argP slices_symMergeCmpFunc_int_e0vvvf_impl_CheapTree_1_1__lsbs_a → obP (extObs 0 slices_symMergeCmpFunc_int_e0vvvf_impl_CheapTree_1_1__lsbs_o) → Option slices_symMergeCmpFunc_int_e0vvvf_impl_CheapTree_1_1__lsbs_E.P) (t14 : Int) (t17 : Int) (o0 : List (Int)) (o1 : List (Int)) : slices_symMergeCmpFunc_int_e0vvvf_impl_CheapTree_1_1__lsbs_B3 rc ((t14, t17, ()), (o0, o1, ())) = bif (decide (t14 < t17)) then (guardB (inb (w64 (t17 - (1 : Int))) (List.length o0)) (guardB (inb t17 (List.length o0)) (guardB (inb t17 (List.length o0)) (guardB (inb (w64 (t17 - (1 : Int))) (List.length (List.set o0 (Int.toNat t17) (List.getD o0 (Int.toNat (w64 (t17 - (1 : Int)))) (0 : Int))))) (some (.inl ((t14, (w64 (t17 - (1 : Int))), ()), ((List.set (List.set o0 (Int.toNat t17) (List.getD o0 (Int.toNat (w64 (t17 - (1 : Int)))) (0 : Int))) (Int.toNat (w64 (t17 - (1 : Int)))) (List.getD o0 (Int.toNat t17) (0 : Int))), o1, ())))))))) else (some (.inr ((), (o0, o1, ())))) := rfl
theorem slices_symMergeCmpFunc_int_e0vvvf_impl_CheapTree_1_1__lsbs_B4_at (rc : argP slices_symMergeCmpFunc_int_e0vvvf_impl_CheapTree_1_1__lsbs_a → obP (extObs 0 slices_symMergeCmpFunc_int_e0vvvf_impl_CheapTree_1_1__lsbs_o) → Option slices_symMergeCmpFunc_int_e0vvvf_impl_CheapTree_1_1__lsbs_E.P) (t1 : Int) (t2 : Int) (t3 : Int) (t18 : Int) (t19 : Int) (t20 : Int) (t21 : Int) (t22 : Int) (o0 : List (Int)) (o1 : List (Int)) : slices_symMergeCmpFunc_int_e0vvvf_impl_CheapTree_1_1__lsbs_B4 rc ((t1, t2, t3, t18, t19, t20, t21, t22, ()), (o0, o1, ())) = bif (decide (t20 < t21)) then (guardB (inb (w64 (t22 - (w64 (Int.fdiv (IntKind.wrap .u64 (w64 (t20 + t21))) (2 ^ (min 1 64)))))) (List.length o0)) (guardB (inb (w64 (Int.fdiv (IntKind.wrap .u64 (w64 (t20 + t21))) (2 ^ (min 1 64)))) (List.length o0)) (match impl_CheapTree_1_vvc ((List.getD o0 (Int.toNat (w64 (t22 - (w64 (Int.fdiv (IntKind.wrap .u64 (w64 (t20 + t21))) (2 ^ (min 1 64))))))) (0 : Int)), (List.getD o0 (Int.toNat (w64 (Int.fdiv (IntKind.wrap .u64 (w64 (t20 + t21))) (2 ^ (min 1 64))))) (0 : Int)), o1, ()) () with | some ((r, ()), ()) => (bif (!(decide (r < (0 : Int)))) then (some (.inl ((t1, t2, t3, t18, t19, (w64 ((w64 (Int.fdiv (IntKind.wrap .u64 (w64 (t20 + t21))) (2 ^ (min 1 64)))) + (1 : Int))), t21, t22, ()), (o0, o1, ())))) else (some (.inl ((t1, t2, t3, t18, t19, t20, (w64 (Int.fdiv (IntKind.wrap .u64 (w64 (t20 + t21))) (2 ^ (min 1 64)))), t22, ()), (o0, o1, ()))))) | none => none))) else (some (.inr ((t1, t2, t3, t18, t19, t20, ()), (o0, o1, ())))) := rfl
def shl (F : Nat → Nat) (a t : Nat) : Nat → Nat := fun k => if a ≤ k ∧ k < a + t then F (k + 1) else if k = a + t then F a else F k
def shr (F : Nat → Nat) (m t : Nat) : Nat → Nat := fun k => if m - t < k ∧ k ≤ m then F (k - 1) else if k = m - t then F m else F k
theorem shl_same {F : Nat → Nat} {a t b : Nat} (h : a + t < b) : Same3 (shl F a t) F a b := by
  refine ⟨fun x hx => ?_, fun x p1 p2 => ?_, fun y p1 p2 => ?_⟩
  · simp only [shl]; rw [if_neg (by omega), if_neg (by omega)]
  · by_cases c1 : x < a + t
    · exact ⟨x + 1, by omega, by omega, by simp only [shl]; rw [if_pos ⟨p1, c1⟩]⟩
    · by_cases c2 : x = a + t
      · exact ⟨a, by omega, by omega, by simp only [shl]; rw [if_neg (by omega), if_pos c2]⟩
      · exact ⟨x, p1, p2, by simp only [shl]; rw [if_neg (by omega), if_neg c2]⟩
  · by_cases c1 : y = a
    · exact ⟨a + t, by omega, by omega, by simp only [shl]; rw [if_neg (by omega), if_pos trivial, c1]⟩
    · by_cases c2 : y ≤ a + t
      · refine ⟨y - 1, by omega, by omega, ?_⟩
        simp only [shl]; rw [if_pos (by omega)]; congr 1; omega
      · exact ⟨y, p1, p2, by simp only [shl]; rw [if_neg (by omega), if_neg (by omega)]⟩
theorem shr_same {F : Nat → Nat} {a m t b : Nat} (h : a ≤ m - t) (ht : t ≤ m) (hb : m < b) : Same3 (shr F m t) F a b := by
  refine ⟨fun x hx => ?_, fun x p1 p2 => ?_, fun y p1 p2 => ?_⟩
  · simp only [shr]; rw [if_neg (by omega), if_neg (by omega)]
  · by_cases c1 : m - t < x ∧ x ≤ m
    · exact ⟨x - 1, by omega, by omega, by simp only [shr]; rw [if_pos c1]⟩
    · by_cases c2 : x = m - t
      · exact ⟨m, by omega, by omega, by simp only [shr]; rw [if_neg c1, if_pos c2]⟩
      · exact ⟨x, p1, p2, by simp only [shr]; rw [if_neg c1, if_neg c2]⟩
  · by_cases c1 : y = m
    · exact ⟨m - t, by omega, by omega, by simp only [shr]; rw [if_neg (by omega), if_pos trivial, c1]⟩
    · by_cases c2 : m - t ≤ y ∧ y < m
      · refine ⟨y + 1, by omega, by omega, ?_⟩
        simp only [shr]; rw [if_pos (by omega)]; congr 1
      · exact ⟨y, p1, p2, by simp only [shr]; rw [if_neg (by omega), if_neg (by omega)]⟩
theorem sym_left (W : List Int) (n : Nat) (hn : n ≤ 1048576) (rc) (a m b : Nat) (F : Nat → Nat) (ham : m = a + 1) (hmb : m < b) (hbn : b ≤ n) (hv : VR W n F) (hs2 : Srt W F m b) (hx : ∀ x y, a ≤ x → x < m → m ≤ y → y < b → F x < F y) :
    ∃ G, slices_symMergeCmpFunc_int_e0vvvf_impl_CheapTree_1_1__lsbs_F rc ((a : Int), (m : Int), (b : Int), ()) (rn n F, W, ()) = some ((), (rn n G, W, ())) ∧ Same3 G F a b ∧ Srt W G a b := by
  obtain ⟨r, r1, r2, r3, r4, r5⟩ := loop_half (B := slices_symMergeCmpFunc_int_e0vvvf_impl_CheapTree_1_1__lsbs_B0 rc) (fun i j => (((a : Int), (i : Int), (j : Int), ()), (rn n F, W, ()))) (fun r => (((a : Int), (r : Int), ()), (rn n F, W, ()))) (fun h => decide (W.getD (F h) 0 < W.getD (F a) 0)) m b (by omega) (fun i j h1 h2 h3 => by
    obtain ⟨q, q1, q2⟩ := cmpW W (F ((i + j) / 2)) (F a) (hv _ (by omega)) (hv _ (by omega))
    rw [slices_symMergeCmpFunc_int_e0vvvf_impl_CheapTree_1_1__lsbs_B0_at]
    simp only [bif_decide, rn_len]
    rw [if_pos (show (i : Int) < (j : Int) by omega), midW (by omega)]
    simp only [Int.toNat_natCast]
    rw [guardB_true (by simp [inb] <;> omega), guardB_true (by simp [inb] <;> omega), rn_get (by omega), rn_get (by omega)]
    simp only [q1, ← bif_decide, q2]
    cases decide (W.getD (F ((i + j) / 2)) 0 < W.getD (F a) 0)
    · rfl
    · simp only [cond_true]; rw [w64_succ (by omega)]) (fun i _ _ => by
    rw [slices_symMergeCmpFunc_int_e0vvvf_impl_CheapTree_1_1__lsbs_B0_at]
    simp only [bif_decide]
    rw [if_neg (show ¬ (i : Int) < (i : Int) by omega)])
  have key := loop_count (B := slices_symMergeCmpFunc_int_e0vvvf_impl_CheapTree_1_1__lsbs_B1 rc) (fun t => (((r : Int), ((a + t : Nat) : Int), ()), (rn n (shl F a t), W, ()))) (r - 1 - a) ((), (rn n (shl F a (r - 1 - a)), W, ())) (fun t ht => by
    rw [slices_symMergeCmpFunc_int_e0vvvf_impl_CheapTree_1_1__lsbs_B1_at]
    simp only [bif_decide, rn_len, List.length_set]
    rw [w64_of (x := (r : Int) - 1) (by omega) (by omega), if_pos (show ((a + t : Nat) : Int) < (r : Int) - 1 by omega), w64_succ (show a + t < 4611686018427387904 by omega)]
    simp only [Int.toNat_natCast]
    rw [guardB_true (by simp [inb] <;> omega), guardB_true (by simp [inb] <;> omega), guardB_true (by simp [inb] <;> omega), guardB_true (by simp [inb] <;> omega), rn_get (by omega), rn_get (by omega), rn_swap]
    have : rn n (sw (shl F a t) (a + t) (a + t + 1)) = rn n (shl F a (t + 1)) := rn_congr fun k _ => by
      simp only [sw, shl]
      by_cases e1 : k = a + t + 1
      · rw [if_pos e1, if_neg (show ¬ (a ≤ a + t ∧ a + t < a + t) by omega), if_pos trivial, if_neg (by omega), if_pos (by omega)]
      · rw [if_neg e1]
        by_cases e2 : k = a + t
        · rw [if_pos e2, if_neg (show ¬ (a ≤ a + t + 1 ∧ a + t + 1 < a + t) by omega), if_neg (by omega), if_pos (by omega), e2]
        · rw [if_neg e2]
          by_cases e3 : a ≤ k ∧ k < a + t
          · rw [if_pos e3, if_pos (by omega)]
          · rw [if_neg e3, if_neg e2, if_neg (by omega), if_neg (by omega)]
    rw [this]
    rfl) (by
    rw [slices_symMergeCmpFunc_int_e0vvvf_impl_CheapTree_1_1__lsbs_B1_at]
    simp only [bif_decide]
    rw [w64_of (x := (r : Int) - 1) (by omega) (by omega), if_neg (show ¬ ((a + (r - 1 - a) : Nat) : Int) < (r : Int) - 1 by omega)]) 0 (Nat.zero_le _)
  have h0 : rn n (shl F a 0) = rn n F := rn_congr fun k _ => by
    simp only [shl]
    rw [if_neg (by omega)]
    by_cases e : k = a + 0
    · rw [if_pos e, e]; rfl
    · rw [if_neg e]
  rw [h0] at key
  refine ⟨shl F a (r - 1 - a), ?_, shl_same (by omega), fun x y p1 p2 p3 => ?_⟩
  · simp only [slices_symMergeCmpFunc_int_e0vvvf_impl_CheapTree_1_1__lsbs_F]
    rw [w64_of (x := (m : Int) - (a : Int)) (by omega) (by omega), beq_eq (show (m : Int) - (a : Int) = 1 by omega)]
    simp only [cond_true]
    erw [r3]
    simp only
    erw [key]
  · have lowP : ∀ x, m ≤ x → x < r → Pw W (F x) (F a) := fun x q1 q2 => by
      rcases r4 with r4 | ⟨r4, r6⟩
      · omega
      · have hl : Pw W (F (r - 1)) (F a) := (Pw.up (hx a (r - 1) (Nat.le_refl _) (by omega) (by omega) (by omega))).2 (of_decide_eq_true r6)
        exact Pw.chain (hs2.le q1 (show x ≤ r - 1 by omega) (by omega)) hl (.inl rfl)
    have highP : ∀ y, r ≤ y → y < b → Pw W (F a) (F y) := fun y q1 q2 => by
      rcases r5 with r5 | ⟨r5, r6⟩
      · omega
      · have hl : Pw W (F a) (F r) := (Pw.down (hx a r (Nat.le_refl _) (by omega) (by omega) (by omega))).2 (of_decide_eq_false r6)
        exact Pw.chain (.inl rfl) hl (hs2.le r1 q1 q2)
    simp only [shl]
    by_cases e1 : x < r - 1
    · rw [if_pos (show a ≤ x ∧ x < a + (r - 1 - a) by omega)]
      by_cases e2 : y < r - 1
      · rw [if_pos (by omega)]; exact hs2 _ _ (by omega) (by omega) (by omega)
      · rw [if_neg (by omega)]
        by_cases e3 : y = a + (r - 1 - a)
        · rw [if_pos e3]; exact lowP _ (by omega) (by omega)
        · rw [if_neg e3]; exact hs2 _ _ (by omega) (by omega) (by omega)
    · rw [if_neg (show ¬ (a ≤ x ∧ x < a + (r - 1 - a)) by omega), if_neg (show ¬ (a ≤ y ∧ y < a + (r - 1 - a)) by omega), if_neg (show ¬ y = a + (r - 1 - a) by omega)]
      by_cases e3 : x = a + (r - 1 - a)
      · rw [if_pos e3]; exact highP _ (by omega) (by omega)
      · rw [if_neg e3]; exact hs2 _ _ (by omega) (by omega) (by omega)
theorem sym_right (W : List Int) (n : Nat) (hn : n ≤ 1048576) (rc) (a m b : Nat) (F : Nat → Nat) (ham : a < m) (hm1 : ¬ m = a + 1) (hmb : b = m + 1) (hbn : b ≤ n) (hv : VR W n F) (hs1 : Srt W F a m) (hx : ∀ x y, a ≤ x → x < m → m ≤ y → y < b → F x < F y) :
    ∃ G, slices_symMergeCmpFunc_int_e0vvvf_impl_CheapTree_1_1__lsbs_F rc ((a : Int), (m : Int), (b : Int), ()) (rn n F, W, ()) = some ((), (rn n G, W, ())) ∧ Same3 G F a b ∧ Srt W G a b := by
  obtain ⟨r, r1, r2, r3, r4, r5⟩ := loop_half (B := slices_symMergeCmpFunc_int_e0vvvf_impl_CheapTree_1_1__lsbs_B2 rc) (fun i j => (((m : Int), (i : Int), (j : Int), ()), (rn n F, W, ()))) (fun r => (((m : Int), (r : Int), ()), (rn n F, W, ()))) (fun h => !decide (W.getD (F m) 0 < W.getD (F h) 0)) a m (by omega) (fun i j h1 h2 h3 => by
    obtain ⟨q, q1, q2⟩ := cmpW W (F m) (F ((i + j) / 2)) (hv _ (by omega)) (hv _ (by omega))
    rw [slices_symMergeCmpFunc_int_e0vvvf_impl_CheapTree_1_1__lsbs_B2_at]
    simp only [bif_decide, rn_len]
    rw [if_pos (show (i : Int) < (j : Int) by omega), midW (by omega)]
    simp only [Int.toNat_natCast]
    rw [guardB_true (by simp [inb] <;> omega), guardB_true (by simp [inb] <;> omega), rn_get (by omega), rn_get (by omega)]
    simp only [q1, q2]
    cases decide (W.getD (F m) 0 < W.getD (F ((i + j) / 2)) 0)
    · simp only [Bool.not_false, cond_true]; rw [w64_succ (by omega)]
    · rfl) (fun i _ _ => by
    rw [slices_symMergeCmpFunc_int_e0vvvf_impl_CheapTree_1_1__lsbs_B2_at]
    simp only [bif_decide]
    rw [if_neg (show ¬ (i : Int) < (i : Int) by omega)])
  have key := loop_count (B := slices_symMergeCmpFunc_int_e0vvvf_impl_CheapTree_1_1__lsbs_B3 rc) (fun t => (((r : Int), ((m - t : Nat) : Int), ()), (rn n (shr F m t), W, ()))) (m - r) ((), (rn n (shr F m (m - r)), W, ())) (fun t ht => by
    rw [slices_symMergeCmpFunc_int_e0vvvf_impl_CheapTree_1_1__lsbs_B3_at]
    simp only [bif_decide, rn_len, List.length_set]
    rw [if_pos (show (r : Int) < ((m - t : Nat) : Int) by omega), w64_of (x := ((m - t : Nat) : Int) - 1) (by omega) (by omega), show ((m - t : Nat) : Int) - 1 = ((m - (t + 1) : Nat) : Int) by omega]
    simp only [Int.toNat_natCast]
    rw [guardB_true (by simp [inb] <;> omega), guardB_true (by simp [inb] <;> omega), guardB_true (by simp [inb] <;> omega), guardB_true (by simp [inb] <;> omega), rn_get (by omega), rn_get (by omega), rn_swap]
    have : rn n (sw (shr F m t) (m - t) (m - (t + 1))) = rn n (shr F m (t + 1)) := rn_congr fun k _ => by
      simp only [sw, shr]
      by_cases e1 : k = m - (t + 1)
      · rw [if_pos e1, if_neg (show ¬ (m - t < m - t ∧ m - t ≤ m) by omega), if_pos trivial, if_neg (by omega), if_pos e1]
      · rw [if_neg e1]
        by_cases e2 : k = m - t
        · rw [if_pos e2, if_neg (show ¬ (m - t < m - (t + 1) ∧ m - (t + 1) ≤ m) by omega), if_neg (by omega), if_pos (by omega), e2]
          congr 1
        · rw [if_neg e2]
          by_cases e3 : m - t < k ∧ k ≤ m
          · rw [if_pos e3, if_pos (by omega)]
          · rw [if_neg e3, if_neg e2, if_neg (by omega), if_neg e1]
    rw [this]) (by
    rw [slices_symMergeCmpFunc_int_e0vvvf_impl_CheapTree_1_1__lsbs_B3_at]
    simp only [bif_decide]
    rw [if_neg (show ¬ (r : Int) < ((m - (m - r) : Nat) : Int) by omega)]) 0 (Nat.zero_le _)
  have h0 : rn n (shr F m 0) = rn n F := rn_congr fun k _ => by
    simp only [shr]
    rw [if_neg (by omega)]
    by_cases e : k = m - 0
    · rw [if_pos e, e]; rfl
    · rw [if_neg e]
  rw [h0] at key
  refine ⟨shr F m (m - r), ?_, shr_same (by omega) (by omega) (by omega), fun x y p1 p2 p3 => ?_⟩
  · simp only [slices_symMergeCmpFunc_int_e0vvvf_impl_CheapTree_1_1__lsbs_F]
    rw [w64_of (x := (m : Int) - (a : Int)) (by omega) (by omega), beq_ne (show ¬ (m : Int) - (a : Int) = 1 by omega), w64_of (x := (b : Int) - (m : Int)) (by omega) (by omega), beq_eq (show (b : Int) - (m : Int) = 1 by omega)]
    simp only [cond_true, cond_false]
    erw [r3]
    simp only
    erw [key]
  · have lowP : ∀ x, a ≤ x → x < r → Pw W (F x) (F m) := fun x q1 q2 => by
      rcases r4 with r4 | ⟨r4, r6⟩
      · omega
      · have hl : Pw W (F (r - 1)) (F m) := (Pw.down (hx (r - 1) m (by omega) (by omega) (Nat.le_refl _) (by omega))).2 (by simpa using r6)
        exact Pw.chain (hs1.le q1 (show x ≤ r - 1 by omega) (by omega)) hl (.inl rfl)
    have highP : ∀ y, r ≤ y → y < m → Pw W (F m) (F y) := fun y q1 q2 => by
      rcases r5 with r5 | ⟨r5, r6⟩
      · omega
      · have hl : Pw W (F m) (F r) := (Pw.up (hx r m (by omega) (by omega) (Nat.le_refl _) (by omega))).2 (by simpa using r6)
        exact Pw.chain (.inl rfl) hl (hs1.le r1 q1 q2)
    simp only [shr]
    by_cases e1 : x < r
    · rw [if_neg (show ¬ (m - (m - r) < x ∧ x ≤ m) by omega), if_neg (show ¬ x = m - (m - r) by omega)]
      by_cases e2 : m - (m - r) < y ∧ y ≤ m
      · rw [if_pos e2]; exact hs1 _ _ (by omega) (by omega) (by omega)
      · rw [if_neg e2]
        by_cases e3 : y = m - (m - r)
        · rw [if_pos e3]; exact lowP _ p1 e1
        · rw [if_neg e3]; exact hs1 _ _ (by omega) (by omega) (by omega)
    · rw [if_pos (show m - (m - r) < y ∧ y ≤ m by omega)]
      by_cases e2 : m - (m - r) < x ∧ x ≤ m
      · rw [if_pos e2]; exact hs1 _ _ (by omega) (by omega) (by omega)
      · rw [if_neg e2, if_pos (show x = m - (m - r) by omega)]
        exact highP _ (by omega) (by omega)

noncomputable def symTail (rc : argP slices_symMergeCmpFunc_int_e0vvvf_impl_CheapTree_1_1__lsbs_a → obP (extObs 0 slices_symMergeCmpFunc_int_e0vvvf_impl_CheapTree_1_1__lsbs_o) → Option slices_symMergeCmpFunc_int_e0vvvf_impl_CheapTree_1_1__lsbs_E.P) (t1_5 t3_4 t18_3 t20_3 t24 : Int) (o0_8 o1_8 : List Int) : Option slices_symMergeCmpFunc_int_e0vvvf_impl_CheapTree_1_1__lsbs_E.P :=
  (bif (decide (t1_5 < t20_3)) then (bif (decide (t20_3 < t18_3)) then (match rc (t1_5, t20_3, t18_3, ()) (o0_8, o1_8, ()) with | some ((), (o3, o4, ())) => (bif (decide (t18_3 < t24)) then (bif (decide (t24 < t3_4)) then (match rc (t18_3, t24, t3_4, ()) (o3, o4, ()) with | some ((), (o5, o6, ())) => some ((), (o5, o6, ())) | none => none) else (some ((), (o3, o4, ())))) else (some ((), (o3, o4, ())))) | none => none) else (bif (decide (t18_3 < t24)) then (bif (decide (t24 < t3_4)) then (match rc (t18_3, t24, t3_4, ()) (o0_8, o1_8, ()) with | some ((), (o7, o8, ())) => some ((), (o7, o8, ())) | none => none) else (some ((), (o0_8, o1_8, ())))) else (some ((), (o0_8, o1_8, ()))))) else (bif (decide (t18_3 < t24)) then (bif (decide (t24 < t3_4)) then (match rc (t18_3, t24, t3_4, ()) (o0_8, o1_8, ()) with | some ((), (o9, o10, ())) => some ((), (o9, o10, ())) | none => none) else (some ((), (o0_8, o1_8, ())))) else (some ((), (o0_8, o1_8, ())))))
theorem symTail_eq (rc : argP slices_symMergeCmpFunc_int_e0vvvf_impl_CheapTree_1_1__lsbs_a → obP (extObs 0 slices_symMergeCmpFunc_int_e0vvvf_impl_CheapTree_1_1__lsbs_o) → Option slices_symMergeCmpFunc_int_e0vvvf_impl_CheapTree_1_1__lsbs_E.P) (W : List Int) (n a b mid r e : Nat) (H G1 G2 : Nat → Nat)
    (h1 : a < r → r < mid → rc ((a : Int), (r : Int), (mid : Int), ()) (rn n H, W, ()) = some ((), (rn n G1, W, ()))) (g1 : ¬ (a < r ∧ r < mid) → G1 = H)
    (h2 : mid < e → e < b → rc ((mid : Int), (e : Int), (b : Int), ()) (rn n G1, W, ()) = some ((), (rn n G2, W, ()))) (g2 : ¬ (mid < e ∧ e < b) → G2 = G1) :
    symTail rc (a : Int) (b : Int) (mid : Int) (r : Int) (e : Int) (rn n H) W = some ((), (rn n G2, W, ())) := by
  simp only [symTail, bif_decide]
  have second : ∀ o : Option slices_symMergeCmpFunc_int_e0vvvf_impl_CheapTree_1_1__lsbs_E.P, o = (if (mid : Int) < (e : Int) then if (e : Int) < (b : Int) then rc ((mid : Int), (e : Int), (b : Int), ()) (rn n G1, W, ()) else some ((), (rn n G1, W, ())) else some ((), (rn n G1, W, ()))) → o = some ((), (rn n G2, W, ())) := fun o ho => by
    rw [ho]
    by_cases c1 : mid < e
    · rw [if_pos (by omega)]
      by_cases c2 : e < b
      · rw [if_pos (by omega)]; exact h2 c1 c2
      · rw [if_neg (by omega), g2 (by omega)]
    · rw [if_neg (by omega), g2 (by omega)]
  by_cases d1 : a < r ∧ r < mid
  · rw [if_pos (show (a : Int) < (r : Int) by omega), if_pos (show (r : Int) < (mid : Int) by omega), h1 d1.1 d1.2]
    simp only
    refine second _ ?_
    by_cases c1 : (mid : Int) < (e : Int)
    · rw [if_pos c1, if_pos c1]
      by_cases c2 : (e : Int) < (b : Int)
      · rw [if_pos c2, if_pos c2, h2 (by omega) (by omega)]
      · rw [if_neg c2, if_neg c2]
    · rw [if_neg c1, if_neg c1]
  · have e1 := g1 d1
    subst e1
    have same : ∀ o : Option slices_symMergeCmpFunc_int_e0vvvf_impl_CheapTree_1_1__lsbs_E.P, o = (if (mid : Int) < (e : Int) then if (e : Int) < (b : Int) then (match rc ((mid : Int), (e : Int), (b : Int), ()) (rn n G1, W, ()) with | some ((), (o7, o8, ())) => some ((), (o7, o8, ())) | none => none) else some ((), (rn n G1, W, ())) else some ((), (rn n G1, W, ()))) → o = some ((), (rn n G2, W, ())) := fun o ho => second o (by
      rw [ho]
      by_cases c1 : (mid : Int) < (e : Int)
      · rw [if_pos c1, if_pos c1]
        by_cases c2 : (e : Int) < (b : Int)
        · rw [if_pos c2, if_pos c2, h2 (by omega) (by omega)]
        · rw [if_neg c2, if_neg c2]
      · rw [if_neg c1, if_neg c1])
    by_cases d2 : (a : Int) < (r : Int)
    · rw [if_pos d2, if_neg (by omega)]
      exact same _ rfl
    · rw [if_neg d2]
      exact same _ rfl
theorem sym_mid (W : List Int) (n : Nat) (hn : n ≤ 1048576) (rc) (a m b : Nat) (F : Nat → Nat) (ham : a < m) (hmb : m < b) (hm1 : ¬ m = a + 1) (hb1 : ¬ b = m + 1) (hbn : b ≤ n) (hv : VR W n F) (hs1 : Srt W F a m) (hs2 : Srt W F m b) (hx : ∀ x y, a ≤ x → x < m → m ≤ y → y < b → F x < F y)
    (ih : ∀ a' m' b' F', b' - a' ≤ (b - a + 1) / 2 → a' < m' → m' < b' → b' ≤ n → VR W n F' → Srt W F' a' m' → Srt W F' m' b' → (∀ x y, a' ≤ x → x < m' → m' ≤ y → y < b' → F' x < F' y) →
      ∃ G, rc ((a' : Int), (m' : Int), (b' : Int), ()) (rn n F', W, ()) = some ((), (rn n G, W, ())) ∧ Same3 G F' a' b' ∧ Srt W G a' b') :
    ∃ G, slices_symMergeCmpFunc_int_e0vvvf_impl_CheapTree_1_1__lsbs_F rc ((a : Int), (m : Int), (b : Int), ()) (rn n F, W, ()) = some ((), (rn n G, W, ())) ∧ Same3 G F a b ∧ Srt W G a b := by
  obtain ⟨mid, hmid⟩ : ∃ mid, (a + b) / 2 = mid := ⟨_, rfl⟩
  obtain ⟨lo, hi, hlo⟩ : ∃ lo hi, (mid < m ∧ lo = mid + m - b ∧ hi = mid) ∨ (¬ mid < m ∧ lo = a ∧ hi = m) := by
    by_cases c : mid < m
    · exact ⟨_, _, .inl ⟨c, rfl, rfl⟩⟩
    · exact ⟨_, _, .inr ⟨c, rfl, rfl⟩⟩
  obtain ⟨r, r1, r2, r3, r4, r5⟩ := loop_half (B := slices_symMergeCmpFunc_int_e0vvvf_impl_CheapTree_1_1__lsbs_B4 rc) (fun i j => (((a : Int), (m : Int), (b : Int), (mid : Int), ((mid + m : Nat) : Int), (i : Int), (j : Int), ((mid + m - 1 : Nat) : Int), ()), (rn n F, W, ()))) (fun r => (((a : Int), (m : Int), (b : Int), (mid : Int), ((mid + m : Nat) : Int), (r : Int), ()), (rn n F, W, ()))) (fun c => !decide (W.getD (F (mid + m - 1 - c)) 0 < W.getD (F c) 0)) lo hi (by omega) (fun i j h1 h2 h3 => by
    obtain ⟨q, q1, q2⟩ := cmpW W (F (mid + m - 1 - (i + j) / 2)) (F ((i + j) / 2)) (hv _ (by omega)) (hv _ (by omega))
    rw [slices_symMergeCmpFunc_int_e0vvvf_impl_CheapTree_1_1__lsbs_B4_at]
    simp only [bif_decide, rn_len]
    rw [if_pos (show (i : Int) < (j : Int) by omega), midW (by omega), w64_of (x := ((mid + m - 1 : Nat) : Int) - (((i + j) / 2 : Nat) : Int)) (by omega) (by omega), show ((mid + m - 1 : Nat) : Int) - (((i + j) / 2 : Nat) : Int) = ((mid + m - 1 - (i + j) / 2 : Nat) : Int) by omega]
    simp only [Int.toNat_natCast]
    rw [guardB_true (by simp [inb] <;> omega), guardB_true (by simp [inb] <;> omega), rn_get (by omega), rn_get (by omega)]
    simp only [q1, q2]
    cases decide (W.getD (F (mid + m - 1 - (i + j) / 2)) 0 < W.getD (F ((i + j) / 2)) 0)
    · simp only [Bool.not_false, cond_true]; rw [w64_succ (by omega)]
    · rfl) (fun i _ _ => by
    rw [slices_symMergeCmpFunc_int_e0vvvf_impl_CheapTree_1_1__lsbs_B4_at]
    simp only [bif_decide]
    rw [if_neg (show ¬ (i : Int) < (i : Int) by omega)])
  obtain ⟨e, he⟩ : ∃ e, mid + m - r = e := ⟨_, rfl⟩
  have hH := rot_same (F := F) (a := r) (m := m) (b := e) (by omega) (by omega)
  obtain ⟨H, hHd⟩ : ∃ H, rot F r m e = H := ⟨_, rfl⟩
  have H0 : ∀ k, k < r → H k = F k := fun k hk => by rw [← hHd]; simp only [rot]; rw [if_neg (by omega), if_neg (by omega)]
  have H1 : ∀ k, r ≤ k → k < mid → H k = F (k - r + m) := fun k h1 h2 => by rw [← hHd]; simp only [rot]; rw [if_pos (by omega)]
  have H2 : ∀ k, mid ≤ k → k < e → H k = F (k - (e - m)) := fun k h1 h2 => by rw [← hHd]; simp only [rot]; rw [if_neg (by omega), if_pos (by omega)]
  have H3 : ∀ k, e ≤ k → H k = F k := fun k h1 => by rw [← hHd]; simp only [rot]; rw [if_neg (by omega), if_neg (by omega)]
  rw [hHd] at hH
  have hHw : Same3 H F a b := hH.wide (by omega) (by omega)
  have hvH : VR W n H := hv.same hHw hbn
  have cross : ∀ x y, a ≤ x → x < mid → mid ≤ y → y < b → Pw W (H x) (H y) := fun x y p1 p2 p3 p4 => by
    by_cases c1 : x < r
    · rw [H0 x c1]
      by_cases c2 : y < e
      · rw [H2 y p3 c2]; exact hs1 _ _ p1 (by omega) (by omega)
      · rw [H3 y (by omega)]
        rcases r4 with r4 | ⟨r4, r6⟩
        · omega
        · rw [show mid + m - 1 - (r - 1) = e by omega] at r6
          have hl : Pw W (F (r - 1)) (F e) := (Pw.down (hx (r - 1) e (by omega) (by omega) (by omega) (by omega))).2 (by simpa using r6)
          exact Pw.chain (hs1.le p1 (show x ≤ r - 1 by omega) (by omega)) hl (hs2.le (by omega) (by omega) p4)
    · rw [H1 x (by omega) p2]
      by_cases c2 : y < e
      · rw [H2 y p3 c2]
        rcases r5 with r5 | ⟨r5, r6⟩
        · omega
        · rw [show mid + m - 1 - r = e - 1 by omega] at r6
          have hl : Pw W (F (e - 1)) (F r) := (Pw.up (hx r (e - 1) (by omega) (by omega) (by omega) (by omega))).2 (by simpa using r6)
          exact Pw.chain (hs2.le (by omega) (show x - r + m ≤ e - 1 by omega) (by omega)) hl (hs1.le (by omega) (by omega) (by omega))
      · rw [H3 y (by omega)]; exact hs2 _ _ (by omega) (by omega) p4
  have sA : Srt W H a r := fun x y p1 p2 p3 => by rw [H0 x (by omega), H0 y p3]; exact hs1 _ _ p1 p2 (by omega)
  have sB : Srt W H r mid := fun x y p1 p2 p3 => by rw [H1 x p1 (by omega), H1 y (by omega) p3]; exact hs2 _ _ (by omega) (by omega) (by omega)
  have sC : Srt W H mid e := fun x y p1 p2 p3 => by rw [H2 x p1 (by omega), H2 y (by omega) p3]; exact hs1 _ _ (by omega) (by omega) (by omega)
  have sD : Srt W H e b := fun x y p1 p2 p3 => by rw [H3 x p1, H3 y (by omega)]; exact hs2 _ _ (by omega) p2 p3
  have xA : ∀ x y, a ≤ x → x < r → r ≤ y → y < mid → H x < H y := fun x y p1 p2 p3 p4 => by rw [H0 x p2, H1 y p3 p4]; exact hx _ _ p1 (by omega) (by omega) (by omega)
  have xC : ∀ x y, mid ≤ x → x < e → e ≤ y → y < b → H x < H y := fun x y p1 p2 p3 p4 => by rw [H2 x p1 p2, H3 y p3]; exact hx _ _ (by omega) (by omega) (by omega) p4
  obtain ⟨G1, h1, g1, s1, t1⟩ : ∃ G1, (a < r → r < mid → rc ((a : Int), (r : Int), (mid : Int), ()) (rn n H, W, ()) = some ((), (rn n G1, W, ()))) ∧ (¬ (a < r ∧ r < mid) → G1 = H) ∧ Same3 G1 H a mid ∧ Srt W G1 a mid := by
    by_cases c : a < r ∧ r < mid
    · obtain ⟨G1, k1, k2, k3⟩ := ih a r mid H (by omega) c.1 c.2 (by omega) hvH sA sB xA
      exact ⟨G1, fun _ _ => k1, fun h => (h c).elim, k2, k3⟩
    · refine ⟨H, fun h1 h2 => (c ⟨h1, h2⟩).elim, fun _ => rfl, Same3.refl _ _ _, ?_⟩
      by_cases c2 : a < r
      · rw [show mid = r by omega]; exact sA
      · rw [show a = r by omega]; exact sB
  have u1 : ∀ k, mid ≤ k → G1 k = H k := fun k hk => s1.out k (.inr hk)
  obtain ⟨G2, h2, g2, s2, t2⟩ : ∃ G2, (mid < e → e < b → rc ((mid : Int), (e : Int), (b : Int), ()) (rn n G1, W, ()) = some ((), (rn n G2, W, ()))) ∧ (¬ (mid < e ∧ e < b) → G2 = G1) ∧ Same3 G2 G1 mid b ∧ Srt W G2 mid b := by
    have sC' : Srt W G1 mid e := fun x y p1 p2 p3 => by rw [u1 x p1, u1 y (by omega)]; exact sC x y p1 p2 p3
    have sD' : Srt W G1 e b := fun x y p1 p2 p3 => by rw [u1 x (by omega), u1 y (by omega)]; exact sD x y p1 p2 p3
    by_cases c : mid < e ∧ e < b
    · obtain ⟨G2, k1, k2, k3⟩ := ih mid e b G1 (by omega) c.1 c.2 hbn (hvH.same s1 (by omega)) sC' sD' (fun x y p1 p2 p3 p4 => by rw [u1 x p1, u1 y (by omega)]; exact xC x y p1 p2 p3 p4)
      exact ⟨G2, fun _ _ => k1, fun h => (h c).elim, k2, k3⟩
    · refine ⟨G1, fun h1 h2 => (c ⟨h1, h2⟩).elim, fun _ => rfl, Same3.refl _ _ _, ?_⟩
      by_cases c2 : mid < e
      · rw [show b = e by omega]; exact sC'
      · rw [show mid = e by omega]; exact sD'
  refine ⟨G2, ?_, ((s2.wide (by omega) (Nat.le_refl _)).trans (s1.wide (Nat.le_refl _) (by omega))).trans hHw, fun x y p1 p2 p3 => ?_⟩
  · have tl := symTail_eq rc W n a b mid r e H G1 G2 h1 g1 h2 g2
    simp only [slices_symMergeCmpFunc_int_e0vvvf_impl_CheapTree_1_1__lsbs_F]
    rw [w64_of (x := (m : Int) - (a : Int)) (by omega) (by omega), beq_ne (show ¬ (m : Int) - (a : Int) = 1 by omega), w64_of (x := (b : Int) - (m : Int)) (by omega) (by omega), beq_ne (show ¬ (b : Int) - (m : Int) = 1 by omega), midW (i := a) (j := b) (by omega), hmid]
    simp only [cond_false]
    rw [w64_of (x := (mid : Int) + (m : Int)) (by omega) (by omega), show (mid : Int) + (m : Int) = ((mid + m : Nat) : Int) by omega]
    have fin : ∀ X : Option (slices_symMergeCmpFunc_int_e0vvvf_impl_CheapTree_1_1__lsbs_J10.P ⊕ slices_symMergeCmpFunc_int_e0vvvf_impl_CheapTree_1_1__lsbs_E.P), X = some (.inl (((a : Int), (b : Int), (mid : Int), (r : Int), (e : Int), ()), (rn n H, W, ()))) →
        (match X with | some (.inl ((t1_5, t3_4, t18_3, t20_3, t24, ()), (o0_8, o1_8, ()))) => symTail rc t1_5 t3_4 t18_3 t20_3 t24 o0_8 o1_8 | some (.inr r) => some r | none => none) = some ((), (rn n G2, W, ())) := fun X hX => by
      rw [hX]; exact tl
    have mov : (bif decide ((r : Int) < (m : Int)) then bif decide ((m : Int) < (e : Int)) then (match slices_rotateCmpFunc_int_e0vvvf_impl_CheapTree_1_1__lsbs ((r : Int), (m : Int), (e : Int), ()) (rn n F, W, ()) with | some ((), (o, o2, ())) => some (.inl (((a : Int), (b : Int), (mid : Int), (r : Int), (e : Int), ()), (o, o2, ()))) | none => none) else some (.inl (((a : Int), (b : Int), (mid : Int), (r : Int), (e : Int), ()), (rn n F, W, ()))) else some (.inl (((a : Int), (b : Int), (mid : Int), (r : Int), (e : Int), ()), (rn n F, W, ()))) : Option (slices_symMergeCmpFunc_int_e0vvvf_impl_CheapTree_1_1__lsbs_J10.P ⊕ slices_symMergeCmpFunc_int_e0vvvf_impl_CheapTree_1_1__lsbs_E.P)) = some (.inl (((a : Int), (b : Int), (mid : Int), (r : Int), (e : Int), ()), (rn n H, W, ()))) := by
      simp only [bif_decide]
      by_cases c1 : r < m
      · rw [if_pos (by omega)]
        by_cases c2 : m < e
        · rw [if_pos (by omega), rot_spec W n hn F r m e c1 c2 (by omega), hHd]
        · rw [if_neg (by omega), rn_congr (F := F) (G := H) fun k _ => ?_]
          rw [← hHd]; simp only [rot]
          rw [if_neg (by omega)]
          by_cases c3 : r + (e - m) ≤ k ∧ k < e
          · rw [if_pos c3]; congr 1; omega
          · rw [if_neg c3]
      · rw [if_neg (by omega), rn_congr (F := F) (G := H) fun k _ => ?_]
        rw [← hHd]; simp only [rot]
        by_cases c3 : r ≤ k ∧ k < r + (e - m)
        · rw [if_pos c3]; congr 1; omega
        · rw [if_neg c3, if_neg (by omega)]
    have done : ∀ t : Int × Int, t = ((lo : Int), (hi : Int)) → (match loopO (slices_symMergeCmpFunc_int_e0vvvf_impl_CheapTree_1_1__lsbs_B4 rc) (((a : Int), (m : Int), (b : Int), (mid : Int), ((mid + m : Nat) : Int), t.1, t.2, w64 (((mid + m : Nat) : Int) - 1), ()), (rn n F, W, ())) with
        | some ((t1_4, t2_4, t3_3, t18_2, t19_2, t20_2, ()), (o0_7, o1_7, ())) => (match (bif decide (t20_2 < t2_4) then bif decide (t2_4 < w64 (t19_2 - t20_2)) then (match slices_rotateCmpFunc_int_e0vvvf_impl_CheapTree_1_1__lsbs (t20_2, t2_4, w64 (t19_2 - t20_2), ()) (o0_7, o1_7, ()) with | some ((), (o, o2, ())) => some (.inl ((t1_4, t3_3, t18_2, t20_2, w64 (t19_2 - t20_2), ()), (o, o2, ()))) | none => none) else some (.inl ((t1_4, t3_3, t18_2, t20_2, w64 (t19_2 - t20_2), ()), (o0_7, o1_7, ()))) else some (.inl ((t1_4, t3_3, t18_2, t20_2, w64 (t19_2 - t20_2), ()), (o0_7, o1_7, ()))) : Option (slices_symMergeCmpFunc_int_e0vvvf_impl_CheapTree_1_1__lsbs_J10.P ⊕ slices_symMergeCmpFunc_int_e0vvvf_impl_CheapTree_1_1__lsbs_E.P)) with
          | some (.inl ((t1_5, t3_4, t18_3, t20_3, t24, ()), (o0_8, o1_8, ()))) => symTail rc t1_5 t3_4 t18_3 t20_3 t24 o0_8 o1_8 | some (.inr r) => some r | none => none)
        | none => none) = some ((), (rn n G2, W, ())) := fun t ht => by
      subst ht
      rw [w64_of (x := ((mid + m : Nat) : Int) - 1) (by omega) (by omega), show ((mid + m : Nat) : Int) - 1 = ((mid + m - 1 : Nat) : Int) by omega]
      erw [r3]
      simp only
      rw [w64_of (x := ((mid + m : Nat) : Int) - (r : Int)) (by omega) (by omega), show ((mid + m : Nat) : Int) - (r : Int) = (e : Int) by omega]
      exact fin _ mov
    rcases hlo with ⟨c, l1, l2⟩ | ⟨c, l1, l2⟩
    · rw [decide_eq_true (show (mid : Int) < (m : Int) by omega)]
      exact done (w64 (((mid + m : Nat) : Int) - (b : Int)), (mid : Int)) (by rw [w64_of (by omega) (by omega), l2, show ((mid + m : Nat) : Int) - (b : Int) = (lo : Int) by omega])
    · rw [decide_eq_false (show ¬ (mid : Int) < (m : Int) by omega)]
      exact done ((a : Int), (m : Int)) (by rw [l1, l2])
  · by_cases c1 : y < mid
    · rw [s2.out x (.inl (by omega)), s2.out y (.inl c1)]; exact t1 x y p1 p2 c1
    · by_cases c2 : mid ≤ x
      · exact t2 x y c2 p2 p3
      · rw [s2.out x (.inl (by omega))]
        obtain ⟨y', y1, y2, y3⟩ := s2.to y (by omega) p3
        obtain ⟨x', x1, x2, x3⟩ := s1.to x p1 (by omega)
        rw [x3, y3, u1 y' y1]
        exact cross x' y' x1 x2 y1 y2
theorem sym_spec (W : List Int) (n : Nat) (hn : n ≤ 1048576) : ∀ (k f a m b : Nat) (F : Nat → Nat), k < f → b - a ≤ 2 ^ k → a < m → m < b → b ≤ n → VR W n F → Srt W F a m → Srt W F m b → (∀ x y, a ≤ x → x < m → m ≤ y → y < b → F x < F y) →
    ∃ G, fuelF slices_symMergeCmpFunc_int_e0vvvf_impl_CheapTree_1_1__lsbs_F f ((a : Int), (m : Int), (b : Int), ()) (rn n F, W, ()) = some ((), (rn n G, W, ())) ∧ Same3 G F a b ∧ Srt W G a b := by
  intro k
  induction k with
  | zero =>
    intro f a m b F hf hb ham hmb
    have : (2 : Nat) ^ 0 = 1 := rfl
    omega
  | succ k ih =>
    intro f a m b F hf hb ham hmb hbn hv hs1 hs2 hx
    obtain ⟨f, rfl⟩ : ∃ f', f = f' + 1 := ⟨f - 1, by omega⟩
    have hpow : (2 : Nat) ^ (k + 1) = 2 * 2 ^ k := by rw [Nat.pow_succ]; omega
    by_cases c1 : m = a + 1
    · exact sym_left W n hn _ a m b F c1 hmb hbn hv hs2 hx
    · by_cases c2 : b = m + 1
      · exact sym_right W n hn _ a m b F ham c1 c2 hbn hv hs1 hx
      · exact sym_mid W n hn _ a m b F ham hmb c1 c2 hbn hv hs1 hs2 hx fun a' m' b' F' g1 g2 g3 g4 g5 g6 g7 g8 => ih f a' m' b' F' (by omega) (by omega) g2 g3 g4 g5 g6 g7 g8

theorem slices_stableCmpFunc_int_e0vf_impl_CheapTree_1_1__lsbs_B0_at (n : Int) (blockSize : Int) (a : Int) (b : Int) (o0 : List (Int)) (o1 : List (Int)) : slices_stableCmpFunc_int_e0vf_impl_CheapTree_1_1__lsbs_B0 ((n, blockSize, a, b, ()), (o0, o1, ())) = bif (decide (b ≤ n)) then (match slices_insertionSortCmpFunc_int_e0vvf_impl_CheapTree_1_1__lsbs (a, b, ()) (o0, o1, ()) with | some ((), (o, o2, ())) => some (.inl ((n, blockSize, b, (w64 (b + blockSize)), ()), (o, o2, ()))) | none => none) else (some (.inr ((n, blockSize, a, ()), (o0, o1, ())))) := rfl
theorem slices_stableCmpFunc_int_e0vf_impl_CheapTree_1_1__lsbs_B1_at (n : Int) (blockSize : Int) (a : Int) (b : Int) (o0 : List (Int)) (o1 : List (Int)) : slices_stableCmpFunc_int_e0vf_impl_CheapTree_1_1__lsbs_B1 ((n, blockSize, a, b, ()), (o0, o1, ())) = bif (decide (b ≤ n)) then (match slices_symMergeCmpFunc_int_e0vvvf_impl_CheapTree_1_1__lsbs (a, (w64 (a + blockSize)), b, ()) (o0, o1, ()) with | some ((), (o, o2, ())) => some (.inl ((n, blockSize, b, (w64 (b + (w64 ((2 : Int) * blockSize)))), ()), (o, o2, ()))) | none => none) else (some (.inr ((n, blockSize, a, ()), (o0, o1, ())))) := rfl
theorem slices_stableCmpFunc_int_e0vf_impl_CheapTree_1_1__lsbs_B2_at (n : Int) (blockSize : Int) (o0 : List (Int)) (o1 : List (Int)) : slices_stableCmpFunc_int_e0vf_impl_CheapTree_1_1__lsbs_B2 ((n, blockSize, ()), (o0, o1, ())) = bif (decide (blockSize < n)) then (match loopO slices_stableCmpFunc_int_e0vf_impl_CheapTree_1_1__lsbs_B1 ((n, blockSize, (0 : Int), (w64 ((2 : Int) * blockSize)), ()), (o0, o1, ())) with | some ((n2, blockSize2, a, ()), (o0_2, o1_2, ())) => (bif (decide ((w64 (a + blockSize2)) < n2)) then (match slices_symMergeCmpFunc_int_e0vvvf_impl_CheapTree_1_1__lsbs (a, (w64 (a + blockSize2)), n2, ()) (o0_2, o1_2, ()) with | some ((), (o, o2, ())) => some (.inl ((n2, (w64 (blockSize2 * (2 : Int))), ()), (o, o2, ()))) | none => none) else (some (.inl ((n2, (w64 (blockSize2 * (2 : Int))), ()), (o0_2, o1_2, ()))))) | none => none) else (some (.inr ((), (o0, o1, ())))) := rfl
structure Blk (W : List Int) (F : Nat → Nat) (lo hi : Nat) : Prop where
  srt : Srt W F lo hi
  to : ∀ x, lo ≤ x → x < hi → lo ≤ F x ∧ F x < hi
  from' : ∀ v, lo ≤ v → v < hi → ∃ x, lo ≤ x ∧ x < hi ∧ F x = v
theorem Blk.congr {W : List Int} {F G : Nat → Nat} {lo hi : Nat} (h : Blk W F lo hi) (e : ∀ k, lo ≤ k → k < hi → G k = F k) : Blk W G lo hi :=
  ⟨fun x y p1 p2 p3 => by rw [e x p1 (by omega), e y (by omega) p3]; exact h.srt x y p1 p2 p3, fun x p1 p2 => by rw [e x p1 p2]; exact h.to x p1 p2, fun v p1 p2 => by
    obtain ⟨x, x1, x2, x3⟩ := h.from' v p1 p2
    exact ⟨x, x1, x2, by rw [e x x1 x2]; exact x3⟩⟩
inductive Blks (W : List Int) (F : Nat → Nat) (bs n : Nat) : Nat → Prop
  | done (lo : Nat) (h : n ≤ lo) : Blks W F bs n lo
  | more (lo : Nat) (h : lo < n) (b : Blk W F lo (min (lo + bs) n)) (t : Blks W F bs n (lo + bs)) : Blks W F bs n lo
theorem Blks.congr {W : List Int} {F G : Nat → Nat} {bs n lo : Nat} (h : Blks W F bs n lo) : (∀ k, lo ≤ k → k < n → G k = F k) → Blks W G bs n lo := by
  induction h with
  | done lo h => intro _; exact .done lo h
  | more lo h b t ih => intro e; exact .more lo h (b.congr fun k h1 h2 => e k h1 (by omega)) (ih fun k h1 h2 => e k (by omega) h2)
theorem Blks.inv {W : List Int} {F : Nat → Nat} {bs n lo : Nat} (h : Blks W F bs n lo) (hl : lo < n) : Blk W F lo (min (lo + bs) n) ∧ Blks W F bs n (lo + bs) := by
  cases h with
  | done _ h => omega
  | more _ h b t => exact ⟨b, t⟩
theorem blk_ins {W : List Int} {F G : Nat → Nat} {a b : Nat} (hid : ∀ k, a ≤ k → k < b → F k = k) (hs : Same3 G F a b) (h : Srt W G a b) : Blk W G a b :=
  ⟨h, fun x p1 p2 => by
    obtain ⟨y, y1, y2, y3⟩ := hs.to x p1 p2
    rw [y3, hid y y1 y2]; exact ⟨y1, y2⟩, fun v p1 p2 => by
    obtain ⟨x, x1, x2, x3⟩ := hs.from' v p1 p2
    exact ⟨x, x1, x2, by rw [x3, hid v p1 p2]⟩⟩
theorem blk_merge {W : List Int} {F G : Nat → Nat} {a m b : Nat} (h1 : Blk W F a m) (h2 : Blk W F m b) (hm : a ≤ m ∧ m ≤ b) (hs : Same3 G F a b) (h : Srt W G a b) : Blk W G a b :=
  ⟨h, fun x p1 p2 => by
    obtain ⟨y, y1, y2, y3⟩ := hs.to x p1 p2
    rw [y3]
    by_cases c : y < m
    · have := h1.to y y1 c; omega
    · have := h2.to y (by omega) y2; omega, fun v p1 p2 => by
    have : ∃ y, a ≤ y ∧ y < b ∧ F y = v := by
      by_cases c : v < m
      · obtain ⟨y, y1, y2, y3⟩ := h1.from' v p1 c
        exact ⟨y, y1, by omega, y3⟩
      · obtain ⟨y, y1, y2, y3⟩ := h2.from' v (by omega) p2
        exact ⟨y, by omega, y2, y3⟩
    obtain ⟨y, y1, y2, y3⟩ := this
    obtain ⟨x, x1, x2, x3⟩ := hs.from' y y1 y2
    exact ⟨x, x1, x2, by rw [x3]; exact y3⟩⟩
theorem sym_blk (W : List Int) (n : Nat) (hn : n ≤ 1048576) (F : Nat → Nat) (a m b : Nat) (ham : a < m) (hmb : m < b) (hbn : b ≤ n) (hv : VR W n F) (h1 : Blk W F a m) (h2 : Blk W F m b) :
    ∃ G, slices_symMergeCmpFunc_int_e0vvvf_impl_CheapTree_1_1__lsbs ((a : Int), (m : Int), (b : Int), ()) (rn n F, W, ()) = some ((), (rn n G, W, ())) ∧ Same3 G F a b ∧ Blk W G a b := by
  have hpw : b - a ≤ 2 ^ 20 := by
    have : (2 : Nat) ^ 20 = 1048576 := by decide
    omega
  obtain ⟨G, g1, g2, g3⟩ := sym_spec W n hn 20 1000 a m b F (by omega) hpw ham hmb hbn hv h1.srt h2.srt (fun x y p1 p2 p3 p4 => by
    have a1 := h1.to x p1 p2
    have a2 := h2.to y p3 p4
    omega)
  exact ⟨G, g1, g2, blk_merge h1 h2 (by omega) g2 g3⟩
theorem st_B0 (W : List Int) (n : Nat) (hn : n ≤ 1048576) : ∀ (d a : Nat) (F : Nat → Nat), n - a ≤ d → a ≤ n → VR W n F → (∀ k, a ≤ k → k < n → F k = k) →
    ∃ (a' : Nat) (G : Nat → Nat), loopO slices_stableCmpFunc_int_e0vf_impl_CheapTree_1_1__lsbs_B0 (((n : Int), (20 : Int), (a : Int), ((a + 20 : Nat) : Int), ()), (rn n F, W, ())) = some (((n : Int), (20 : Int), (a' : Int), ()), (rn n G, W, ())) ∧ a ≤ a' ∧ a' ≤ n ∧ n < a' + 20 ∧ VR W n G ∧
      (∀ k, a' ≤ k → k < n → G k = k) ∧ (∀ k, k < a → G k = F k) ∧ (∀ G', (∀ k, k < a' → G' k = G k) → Blks W G' 20 n a' → Blks W G' 20 n a) := by
  intro d
  induction d with
  | zero =>
    intro a F h1 h2 h3 h4
    refine ⟨a, F, loop_end ?_, Nat.le_refl _, h2, by omega, h3, h4, fun _ _ => rfl, fun G' _ h => h⟩
    rw [slices_stableCmpFunc_int_e0vf_impl_CheapTree_1_1__lsbs_B0_at]
    simp only [bif_decide]
    rw [if_neg (show ¬ ((a + 20 : Nat) : Int) ≤ (n : Int) by omega)]
  | succ d ih =>
    intro a F h1 h2 h3 h4
    by_cases c : a + 20 ≤ n
    · obtain ⟨F1, f1, f2, f3⟩ := ins_spec W n hn a (a + 20) (by omega) c F h3 (fun x y p1 p2 p3 => by rw [h4 x p1 (by omega), h4 y (by omega) (by omega)]; exact p2)
      obtain ⟨a', G, k1, k2, k3, k4, k5, k6, k7, k8⟩ := ih (a + 20) F1 (by omega) c (h3.same f2 c) (fun k p1 p2 => by rw [f2.out k (.inr p1)]; exact h4 k (by omega) p2)
      refine ⟨a', G, loop_step ?_ k1, by omega, k3, k4, k5, k6, fun k hk => by rw [k7 k (by omega), f2.out k (.inl hk)], fun G' g1 g2 => ?_⟩
      · rw [slices_stableCmpFunc_int_e0vf_impl_CheapTree_1_1__lsbs_B0_at]
        simp only [bif_decide]
        rw [if_pos (show ((a + 20 : Nat) : Int) ≤ (n : Int) by omega), f1]
        simp only
        rw [w64_of (x := ((a + 20 : Nat) : Int) + 20) (by omega) (by omega), show ((a + 20 : Nat) : Int) + 20 = ((a + 20 + 20 : Nat) : Int) by omega]
      · refine .more a (by omega) ?_ (k8 G' g1 g2)
        rw [show min (a + 20) n = a + 20 by omega]
        exact (blk_ins (fun k p1 p2 => h4 k p1 (by omega)) f2 f3).congr fun k p1 p2 => by rw [g1 k (by omega), k7 k p2]
    · refine ⟨a, F, loop_end ?_, Nat.le_refl _, h2, by omega, h3, h4, fun _ _ => rfl, fun G' _ h => h⟩
      rw [slices_stableCmpFunc_int_e0vf_impl_CheapTree_1_1__lsbs_B0_at]
      simp only [bif_decide]
      rw [if_neg (show ¬ ((a + 20 : Nat) : Int) ≤ (n : Int) by omega)]
theorem st_B1 (W : List Int) (n : Nat) (hn : n ≤ 1048576) (bs : Nat) (hb0 : 1 ≤ bs) (hb : bs ≤ 1048576) : ∀ (d a : Nat) (F : Nat → Nat), n - a ≤ d → a ≤ n → VR W n F → Blks W F bs n a →
    ∃ (a' : Nat) (G : Nat → Nat), loopO slices_stableCmpFunc_int_e0vf_impl_CheapTree_1_1__lsbs_B1 (((n : Int), (bs : Int), (a : Int), ((a + 2 * bs : Nat) : Int), ()), (rn n F, W, ())) = some (((n : Int), (bs : Int), (a' : Int), ()), (rn n G, W, ())) ∧ a ≤ a' ∧ a' ≤ n ∧ n < a' + 2 * bs ∧ VR W n G ∧
      Blks W G bs n a' ∧ (∀ k, k < a → G k = F k) ∧ (∀ G', (∀ k, k < a' → G' k = G k) → Blks W G' (2 * bs) n a' → Blks W G' (2 * bs) n a) := by
  intro d
  induction d with
  | zero =>
    intro a F h1 h2 h3 h4
    refine ⟨a, F, loop_end ?_, Nat.le_refl _, h2, by omega, h3, h4, fun _ _ => rfl, fun G' _ h => h⟩
    rw [slices_stableCmpFunc_int_e0vf_impl_CheapTree_1_1__lsbs_B1_at]
    simp only [bif_decide]
    rw [if_neg (show ¬ ((a + 2 * bs : Nat) : Int) ≤ (n : Int) by omega)]
  | succ d ih =>
    intro a F h1 h2 h3 h4
    by_cases c : a + 2 * bs ≤ n
    · obtain ⟨b1, t1⟩ := h4.inv (by omega)
      obtain ⟨b2, t2⟩ := t1.inv (by omega)
      rw [show min (a + bs) n = a + bs by omega] at b1
      rw [show min (a + bs + bs) n = a + 2 * bs by omega] at b2
      rw [show a + bs + bs = a + 2 * bs by omega] at t2
      obtain ⟨F1, f1, f2, f3⟩ := sym_blk W n hn F a (a + bs) (a + 2 * bs) (by omega) (by omega) c h3 b1 b2
      obtain ⟨a', G, k1, k2, k3, k4, k5, k6, k7, k8⟩ := ih (a + 2 * bs) F1 (by omega) c (h3.same f2 c) (t2.congr fun k p1 p2 => f2.out k (.inr p1))
      refine ⟨a', G, loop_step ?_ k1, by omega, k3, k4, k5, k6, fun k hk => by rw [k7 k (by omega), f2.out k (.inl hk)], fun G' g1 g2 => ?_⟩
      · rw [slices_stableCmpFunc_int_e0vf_impl_CheapTree_1_1__lsbs_B1_at]
        simp only [bif_decide]
        rw [if_pos (show ((a + 2 * bs : Nat) : Int) ≤ (n : Int) by omega), w64_of (x := (a : Int) + (bs : Int)) (by omega) (by omega), show (a : Int) + (bs : Int) = ((a + bs : Nat) : Int) by omega, f1]
        simp only
        rw [w64_of (x := (2 : Int) * (bs : Int)) (by omega) (by omega), w64_of (x := ((a + 2 * bs : Nat) : Int) + (2 : Int) * (bs : Int)) (by omega) (by omega), show ((a + 2 * bs : Nat) : Int) + (2 : Int) * (bs : Int) = ((a + 2 * bs + 2 * bs : Nat) : Int) by omega]
      · refine .more a (by omega) ?_ (k8 G' g1 g2)
        rw [show min (a + 2 * bs) n = a + 2 * bs by omega]
        exact f3.congr fun k p1 p2 => by rw [g1 k (by omega), k7 k p2]
    · refine ⟨a, F, loop_end ?_, Nat.le_refl _, h2, by omega, h3, h4, fun _ _ => rfl, fun G' _ h => h⟩
      rw [slices_stableCmpFunc_int_e0vf_impl_CheapTree_1_1__lsbs_B1_at]
      simp only [bif_decide]
      rw [if_neg (show ¬ ((a + 2 * bs : Nat) : Int) ≤ (n : Int) by omega)]
theorem st_B2 (W : List Int) (n : Nat) (hn : n ≤ 1048576) : ∀ (d bs : Nat) (F : Nat → Nat), n - bs ≤ d → 1 ≤ bs → VR W n F → Blks W F bs n 0 →
    ∃ G, loopO slices_stableCmpFunc_int_e0vf_impl_CheapTree_1_1__lsbs_B2 (((n : Int), (bs : Int), ()), (rn n F, W, ())) = some ((), (rn n G, W, ())) ∧ Blk W G 0 n := by
  have fin : ∀ (bs : Nat) (F : Nat → Nat), n ≤ bs → Blks W F bs n 0 → ∃ G, loopO slices_stableCmpFunc_int_e0vf_impl_CheapTree_1_1__lsbs_B2 (((n : Int), (bs : Int), ()), (rn n F, W, ())) = some ((), (rn n G, W, ())) ∧ Blk W G 0 n := fun bs F h1 h2 => by
    refine ⟨F, loop_end ?_, ?_⟩
    · rw [slices_stableCmpFunc_int_e0vf_impl_CheapTree_1_1__lsbs_B2_at]
      simp only [bif_decide]
      rw [if_neg (show ¬ (bs : Int) < (n : Int) by omega)]
    · by_cases c : 0 < n
      · have := (h2.inv c).1
        rwa [show min (0 + bs) n = n by omega] at this
      · exact ⟨fun x y p1 p2 p3 => by omega, fun x p1 p2 => by omega, fun x p1 p2 => by omega⟩
  intro d
  induction d with
  | zero => intro bs F h1 h2 h3 h4; exact fin bs F (by omega) h4
  | succ d ih =>
    intro bs F h1 h2 h3 h4
    by_cases c : bs < n
    · obtain ⟨a', G, k1, k2, k3, k4, k5, k6, k7, k8⟩ := st_B1 W n hn bs h2 (by omega) n 0 F (by omega) (Nat.zero_le _) h3 h4
      obtain ⟨G1, e1, e2, e3⟩ : ∃ G1, (if ((a' + bs : Nat) : Int) < (n : Int) then (match slices_symMergeCmpFunc_int_e0vvvf_impl_CheapTree_1_1__lsbs ((a' : Int), ((a' + bs : Nat) : Int), (n : Int), ()) (rn n G, W, ()) with | some ((), (o, o2, ())) => some (.inl (((n : Int), ((2 * bs : Nat) : Int), ()), (o, o2, ()))) | none => none) else some (.inl (((n : Int), ((2 * bs : Nat) : Int), ()), (rn n G, W, ()))) : Option (slices_stableCmpFunc_int_e0vf_impl_CheapTree_1_1__lsbs_J2.P ⊕ slices_stableCmpFunc_int_e0vf_impl_CheapTree_1_1__lsbs_O2.P)) = some (.inl (((n : Int), ((2 * bs : Nat) : Int), ()), (rn n G1, W, ()))) ∧ VR W n G1 ∧ Blks W G1 (2 * bs) n 0 := by
        by_cases c2 : a' + bs < n
        · obtain ⟨b1, t1⟩ := k6.inv (by omega)
          obtain ⟨b2, t2⟩ := t1.inv c2
          rw [show min (a' + bs) n = a' + bs by omega] at b1
          rw [show min (a' + bs + bs) n = n by omega] at b2
          obtain ⟨G1, f1, f2, f3⟩ := sym_blk W n hn G a' (a' + bs) n (by omega) c2 (Nat.le_refl _) k5 b1 b2
          refine ⟨G1, ?_, k5.same f2 (Nat.le_refl _), k8 G1 (fun k hk => f2.out k (.inl hk)) (.more a' (by omega) ?_ (.done _ (by omega)))⟩
          · rw [if_pos (by omega), f1]
          · rw [show min (a' + 2 * bs) n = n by omega]; exact f3
        · refine ⟨G, by rw [if_neg (by omega)], k5, k8 G (fun _ _ => rfl) ?_⟩
          by_cases c3 : a' < n
          · have b1 := (k6.inv c3).1
            refine .more a' c3 ?_ (.done _ (by omega))
            rw [show min (a' + bs) n = n by omega] at b1
            rw [show min (a' + 2 * bs) n = n by omega]; exact b1
          · exact .done _ (by omega)
      obtain ⟨R, r1, r2⟩ := ih (2 * bs) G1 (by omega) (by omega) e2 e3
      refine ⟨R, loop_step ?_ r1, r2⟩
      rw [slices_stableCmpFunc_int_e0vf_impl_CheapTree_1_1__lsbs_B2_at]
      simp only [bif_decide]
      rw [if_pos (show (bs : Int) < (n : Int) by omega), w64_of (x := (2 : Int) * (bs : Int)) (by omega) (by omega), show (2 : Int) * (bs : Int) = ((0 + 2 * bs : Nat) : Int) by omega]
      erw [k1]
      simp only
      rw [w64_of (x := (a' : Int) + (bs : Int)) (by omega) (by omega), show (a' : Int) + (bs : Int) = ((a' + bs : Nat) : Int) by omega, w64_of (x := (bs : Int) * (2 : Int)) (by omega) (by omega), show (bs : Int) * (2 : Int) = ((2 * bs : Nat) : Int) by omega]
      exact e1
    · exact fin bs F (by omega) h4
theorem stable_spec (W : List Int) (n : Nat) (hn : n ≤ 1048576) (hW : n ≤ W.length) : ∃ G, slices_SortStableFunc_int_int_e0f_impl_CheapTree_1_1__lsbs () (rn n (fun k => k), W, ()) = some ((), (rn n G, W, ())) ∧ Blk W G 0 n := by
  obtain ⟨a', G, k1, k2, k3, k4, k5, k6, k7, k8⟩ := st_B0 W n hn n 0 (fun k => k) (by omega) (Nat.zero_le _) (fun x hx => show x < W.length by omega) (fun _ _ _ => rfl)
  obtain ⟨F2, f1, f2, f3⟩ := ins_spec W n hn a' n k3 (Nat.le_refl _) G k5 (fun x y p1 p2 p3 => by rw [k6 x p1 (by omega), k6 y (by omega) p3]; exact p2)
  have hB : Blks W F2 20 n 0 := k8 F2 (fun k hk => f2.out k (.inl hk)) (by
    by_cases c : a' < n
    · refine .more a' c ?_ (.done _ (by omega))
      rw [show min (a' + 20) n = n by omega]
      exact blk_ins (fun k p1 p2 => k6 k p1 p2) f2 f3
    · exact .done _ (by omega))
  obtain ⟨R, r1, r2⟩ := st_B2 W n hn n 20 F2 (by omega) (by omega) (k5.same f2 (Nat.le_refl _)) hB
  refine ⟨R, ?_, r2⟩
  simp only [slices_SortStableFunc_int_int_e0f_impl_CheapTree_1_1__lsbs, slices_stableCmpFunc_int_e0vf_impl_CheapTree_1_1__lsbs, rn_len]
  erw [k1]
  simp only
  rw [f1]
  simp only
  erw [r1]

theorem spec_CheapTree_B0_at (t1 : List (Int)) (t2 : (List (List (Int))) × (List ((Int) × (Int)))) (t6 : List (Int)) (t7 : List (Int)) (t8 : Int) : spec_CheapTree_B0 ((t1, t2, t6, t7, t8, ()), ()) = bif (decide (t8 < (List.length t2.1 : Int))) then (guardB (decide ((List.length t7 + List.length [t8]) * 8 ≤ 70368744177664)) (some (.inl ((t1, t2, t6, (t7 ++ [t8]), (w64 (t8 + (1 : Int))), ()), ())))) else (some (.inr ((t1, t2, t6, t7, ()), ()))) := rfl
theorem spec_CheapTree_B1_at (t1 : List (Int)) (t2 : (List (List (Int))) × (List ((Int) × (Int)))) (t6 : List (Int)) (t7 : List (Int)) (t9 : Int) (t10 : Int) (t11 : Int) (t12 : Int) (t13 : Int) : spec_CheapTree_B1 ((t1, t2, t6, t7, t9, t10, t11, t12, t13, ()), ()) = bif (decide (t13 < (List.length t7 : Int))) then (guardB (inb t13 (List.length t7)) (bif ((List.getD t7 (Int.toNat t13) (0 : Int)) == t12) then (guardB (inb t13 (List.length t7)) (some (.inl ((t1, t2, t6, (List.set t7 (Int.toNat t13) t11), t9, t10, t11, t12, (w64 (t13 + (1 : Int))), ()), ())))) else (some (.inl ((t1, t2, t6, t7, t9, t10, t11, t12, (w64 (t13 + (1 : Int))), ()), ()))))) else (some (.inr ((t1, t2, t6, t7, t9, t10, ()), ()))) := rfl
theorem spec_CheapTree_B2_at (t1 : List (Int)) (t2 : (List (List (Int))) × (List ((Int) × (Int)))) (t6 : List (Int)) (t7 : List (Int)) (t9 : Int) (t10 : Int) : spec_CheapTree_B2 ((t1, t2, t6, t7, t9, t10, ()), ()) = bif (decide (t10 < (List.length t2.2 : Int))) then (guardB (inb t10 (List.length t2.2)) (guardB (inb ((List.getD t2.2 (Int.toNat t10) ((0 : Int), (0 : Int))).1) (List.length t7)) (guardB (inb t10 (List.length t2.2)) (guardB (inb ((List.getD t2.2 (Int.toNat t10) ((0 : Int), (0 : Int))).2) (List.length t7)) (guardB (inb t10 (List.length t1)) (bif ((List.getD t1 (Int.toNat t10) (0 : Int)) != t9) then (some (.inl ((t1, t2, t6, t7, t9, (w64 (t10 + (1 : Int))), ()), ()))) else (bif ((List.getD t7 (Int.toNat ((List.getD t2.2 (Int.toNat t10) ((0 : Int), (0 : Int))).1)) (0 : Int)) == (List.getD t7 (Int.toNat ((List.getD t2.2 (Int.toNat t10) ((0 : Int), (0 : Int))).2)) (0 : Int))) then (some (.inl ((t1, t2, t6, t7, t9, (w64 (t10 + (1 : Int))), ()), ()))) else (match spec_l1Put (t6, t10, ()) () with | some ((r, ()), ()) => (match loopO spec_CheapTree_B1 ((t1, t2, r, t7, t9, t10, (List.getD t7 (Int.toNat ((List.getD t2.2 (Int.toNat t10) ((0 : Int), (0 : Int))).1)) (0 : Int)), (List.getD t7 (Int.toNat ((List.getD t2.2 (Int.toNat t10) ((0 : Int), (0 : Int))).2)) (0 : Int)), (0 : Int), ()), ()) with | some ((t1_2, t2_2, t6_2, t7_2, t9_2, t10_2, ()), ()) => some (.inl ((t1_2, t2_2, t6_2, t7_2, t9_2, (w64 (t10_2 + (1 : Int))), ()), ())) | none => none) | none => none)))))))) else (some (.inr ((t1, t2, t6, t7, t9, ()), ()))) := rfl
theorem spec_CheapTree_B3_at (t1 : List (Int)) (t2 : (List (List (Int))) × (List ((Int) × (Int)))) (t6 : List (Int)) (t7 : List (Int)) (t9 : Int) : spec_CheapTree_B3 ((t1, t2, t6, t7, t9, ()), ()) = bif (decide (t9 ≤ (999 : Int))) then (match loopO spec_CheapTree_B2 ((t1, t2, t6, t7, t9, (0 : Int), ()), ()) with | some ((t1_2, t2_2, t6_2, t7_2, t9_2, ()), ()) => some (.inl ((t1_2, t2_2, t6_2, t7_2, (w64 (t9_2 + (1 : Int))), ()), ())) | none => none) else (some (.inr ((t6, ()), ()))) := rfl
theorem impl_CheapTree_B0_at (x : (List (List (Int))) × (List ((Int) × (Int)))) (order : List (Int)) (j : List (Int)) (out : List (Int)) (t28 : Int) (t29 : Int) : impl_CheapTree_B0 ((x, order, j, out, t28, t29, ()), ()) = bif (decide (t29 < t28)) then (guardB (inb t29 (List.length order)) (guardB (inb (List.getD order (Int.toNat t29) (0 : Int)) (List.length x.2)) (match impl_joiner_join_e0v_ls ((List.getD x.2 (Int.toNat (List.getD order (Int.toNat t29) (0 : Int))) ((0 : Int), (0 : Int))), ()) (j, ()) with | some ((r, ()), (o, ())) => (bif r then (guardB (decide ((List.length out + List.length [(List.getD order (Int.toNat t29) (0 : Int))]) * 8 ≤ 70368744177664)) (some (.inl ((x, order, o, (out ++ [(List.getD order (Int.toNat t29) (0 : Int))]), t28, (w64 (t29 + (1 : Int))), ()), ())))) else (some (.inl ((x, order, o, out, t28, (w64 (t29 + (1 : Int))), ()), ())))) | none => none))) else (some (.inr ((out, ()), ()))) := rfl
theorem impl_home_B0_at (out : List (Int)) (t6 : Int) (t7 : Int) : impl_home_B0 ((out, t6, t7, ()), ()) = bif (decide (t7 < t6)) then (guardB (decide ((List.length out + List.length [t7]) * 8 ≤ 70368744177664)) (some (.inl (((out ++ [t7]), t6, (w64 (t7 + (1 : Int))), ()), ())))) else (some (.inr ((out, ()), ()))) := rfl
theorem impl_newJoiner_B0_at (out : List (Int)) (t6 : Int) (t7 : Int) : impl_newJoiner_B0 ((out, t6, t7, ()), ()) = bif (decide (t7 < t6)) then (guardB (decide ((List.length out + List.length [t7]) * 8 ≤ 70368744177664)) (some (.inl (((out ++ [t7]), t6, (w64 (t7 + (1 : Int))), ()), ())))) else (some (.inr ((out, ()), ()))) := rfl
theorem impl_joiner_root_B0_at (j : List (Int)) (x : Int) : impl_joiner_root_B0 ((j, x, ()), ()) = guardB (inb x (List.length j)) (bif ((List.getD j (Int.toNat x) (0 : Int)) != x) then (guardB (inb x (List.length j)) (some (.inl ((j, (List.getD j (Int.toNat x) (0 : Int)), ()), ())))) else (some (.inr ((x, ()), ())))) := rfl
theorem uniqW {W : List Int} : ∀ (l1 l2 : List Nat), l1.Pairwise (Pw W) → l2.Pairwise (Pw W) → (∀ v, v ∈ l1 ↔ v ∈ l2) → l1 = l2
  | [], [], _, _, _ => rfl
  | [], b :: t, _, _, h => absurd ((h b).2 List.mem_cons_self) (by simp)
  | a :: s, [], _, _, h => absurd ((h a).1 List.mem_cons_self) (by simp)
  | a :: s, b :: t, h1, h2, h => by
    rw [List.pairwise_cons] at h1 h2
    have hab : a = b := by
      refine Classical.byContradiction fun ne => ?_
      have m1 : a ∈ t := (List.mem_cons.1 ((h a).1 List.mem_cons_self)).resolve_left ne
      have m2 : b ∈ s := (List.mem_cons.1 ((h b).2 List.mem_cons_self)).resolve_left fun e => ne e.symm
      exact ((h1.1 b m2).trans (h2.1 a m1)).ne rfl
    subst hab
    rw [uniqW s t h1.2 h2.2 fun v => ?_]
    constructor
    · intro hv
      exact (List.mem_cons.1 ((h v).1 (List.mem_cons_of_mem _ hv))).resolve_left fun e => (h1.1 v hv).ne e.symm
    · intro hv
      exact (List.mem_cons.1 ((h v).2 (List.mem_cons_of_mem _ hv))).resolve_left fun e => (h2.1 v hv).ne e.symm
/-- the reference's order -/
def byW (W : List Int) (n : Nat) : Nat → List Nat
  | 0 => []
  | w + 1 => byW W n w ++ (List.range n).filter fun k => decide (W.getD k 0 = (w : Int))
theorem byW_mem {W : List Int} {n : Nat} : ∀ {w v : Nat}, v ∈ byW W n w ↔ v < n ∧ 0 ≤ W.getD v 0 ∧ W.getD v 0 < (w : Int)
  | 0, v => by
    simp only [byW, List.not_mem_nil, false_iff]
    intro h; omega
  | w + 1, v => by
    simp only [byW, List.mem_append, byW_mem (w := w), List.mem_filter, List.mem_range, decide_eq_true_eq]
    omega
theorem byW_sorted {W : List Int} {n : Nat} : ∀ w : Nat, (byW W n w).Pairwise (Pw W)
  | 0 => List.Pairwise.nil
  | w + 1 => by
    simp only [byW, List.pairwise_append]
    refine ⟨byW_sorted w, ?_, fun a ha b hb => ?_⟩
    · have h : ((List.range n).filter fun k => decide (W.getD k 0 = (w : Int))).Pairwise (· < ·) := List.Pairwise.filter _ List.pairwise_lt_range
      refine List.Pairwise.imp_of_mem (fun {a b} ha hb hab => ?_) h
      have h1 := of_decide_eq_true (List.mem_filter.1 ha).2
      have h2 := of_decide_eq_true (List.mem_filter.1 hb).2
      unfold Pw; omega
    · have h1 := byW_mem.1 ha
      have h2 := of_decide_eq_true (List.mem_filter.1 hb).2
      unfold Pw; omega
def stepT (S : List (Int × Int)) (p : List Int × List Int) (k : Nat) : List Int × List Int :=
  if p.1.getD (S.getD k (0, 0)).1.toNat 0 = p.1.getD (S.getD k (0, 0)).2.toNat 0 then p
  else (p.1.map (fun v => if v = p.1.getD (S.getD k (0, 0)).2.toNat 0 then p.1.getD (S.getD k (0, 0)).1.toNat 0 else v), putP (k : Int) p.2)
theorem put_has {n : Int} {l : List Int} (hs : l.Pairwise (· < ·)) (h : n ∈ l) : cntLt n l < l.length ∧ l.getD (cntLt n l) 0 = n := by
  obtain ⟨i, hi, rfl⟩ := List.getElem_of_mem h
  have := cntLt_get hs hi
  rw [getD_at hi] at this
  rw [this]
  exact ⟨hi, getD_at hi 0⟩
structure OkT (N n : Nat) (p : List Int × List Int) : Prop where
  len : p.1.length = N
  srt : p.2.Pairwise (· < ·)
  mem : ∀ v ∈ p.2, 0 ≤ v ∧ v < n
theorem srt_len {n : Nat} {l : List Int} (h : l.Pairwise (· < ·)) (hm : ∀ v ∈ l, 0 ≤ v ∧ v < n) : l.length ≤ n := by
  have up : ∀ i, i < l.length → (i : Int) ≤ l.getD i 0 := by
    intro i
    induction i with
    | zero => intro hi; rw [getD_at hi]; exact (hm _ (List.getElem_mem hi)).1
    | succ i ih =>
      intro hi
      have a := ih (by omega)
      have b := List.pairwise_iff_getElem.1 h i (i + 1) (by omega) hi (by omega)
      rw [← getD_at (show i < l.length by omega) 0, ← getD_at hi 0] at b
      omega
  by_cases h0 : l.length = 0
  · omega
  · have a := up (l.length - 1) (by omega)
    rw [getD_at (show l.length - 1 < l.length by omega)] at a
    have b := (hm _ (List.getElem_mem (show l.length - 1 < l.length by omega))).2
    omega
theorem OkT.step {N n : Nat} {p : List Int × List Int} (h : OkT N n p) (S : List (Int × Int)) {k : Nat} (hk : k < n) : OkT N n (stepT S p k) := by
  unfold stepT
  split
  · exact h
  · refine ⟨by simpa using h.len, ?_, fun v hv => ?_⟩
    · by_cases c : (k : Int) ∈ p.2
      · simp only [putP]
        split
        · exact h.srt
        · rename_i hc
          exfalso
          exact hc (put_has h.srt c)
      · simp only [putP_new c]; exact ins_sorted _ _ h.srt c
    · have : v ∈ p.2 ∨ v = (k : Int) := by
        simp only [putP] at hv
        split at hv
        · exact .inl hv
        · exact (List.mem_cons.1 ((ins_perm _ _).mem_iff.1 hv)).elim .inr .inl
      rcases this with h1 | h1
      · exact h.mem v h1
      · omega
theorem OkT.fold {N n : Nat} (S : List (Int × Int)) : ∀ (L : List Nat) (p : List Int × List Int), OkT N n p → (∀ k ∈ L, k < n) → OkT N n (L.foldl (stepT S) p)
  | [], p, h, _ => h
  | k :: L, p, h, hL => OkT.fold S L _ (h.step S (hL k List.mem_cons_self)) fun j hj => hL j (List.mem_cons_of_mem _ hj)

theorem fold_mem (S : List (Int × Int)) : ∀ (L : List Nat) (p : List Int × List Int) (v : Int), v ∈ (L.foldl (stepT S) p).2 → v ∈ p.2 ∨ ∃ k : Nat, k ∈ L ∧ v = k
  | [], p, v, h => .inl h
  | k :: L, p, v, h => by
    rcases fold_mem S L _ v h with h | ⟨j, hj, rfl⟩
    · unfold stepT at h
      split at h
      · exact .inl h
      · simp only [putP] at h
        split at h
        · exact .inl h
        · rcases List.mem_cons.1 ((ins_perm _ _).mem_iff.1 h) with h | h
          · exact .inr ⟨k, List.mem_cons_self, h⟩
          · exact .inl h
    · exact .inr ⟨j, List.mem_cons_of_mem _ hj, rfl⟩
theorem map_rows (P : List Int) (f : Int → Int) : rows P.length (fun j => f (P.getD j 0)) = P.map f := by
  apply List.ext_getElem
  · simp [rows]
  · intro j h1 h2
    have hj : j < P.length := by simpa using h2
    simp only [rows, List.getElem_map, List.getElem_range]
    rw [getD_at hj]
theorem relabel_eq (W : List Int) (x : List (List Int) × List (Int × Int)) (U P : List Int) (w k a b : Int) (hN : P.length ≤ 1048576) :
    loopO spec_CheapTree_B1 ((W, x, U, P, w, k, a, b, (0 : Int), ()), ()) = some ((W, x, U, P.map (fun v => if v = b then a else v), w, k, ()), ()) := by
  have key := loop_count (B := spec_CheapTree_B1) (fun i => ((W, x, U, rows P.length (fun j => if j < i then (if P.getD j 0 = b then a else P.getD j 0) else P.getD j 0), w, k, a, b, (i : Int), ()), ())) P.length ((W, x, U, rows P.length (fun j => if P.getD j 0 = b then a else P.getD j 0), w, k, ()), ()) (fun i hi => by
    rw [spec_CheapTree_B1_at]
    simp only [bif_decide, rows_len, Int.toNat_natCast]
    rw [if_pos (show (i : Int) < (P.length : Int) by omega), guardB_true (by simp [inb] <;> omega), rows_get hi, if_neg (show ¬ i < i by omega), w64_succ (by omega)]
    by_cases h : P.getD i 0 = b
    · rw [beq_eq h, cond_true, guardB_true (by simp [inb] <;> omega), rows_set]
      rw [rows_congr (G := fun j => if j < i + 1 then (if P.getD j 0 = b then a else P.getD j 0) else P.getD j 0) fun j _ => ?_]
      by_cases e : j = i
      · rw [if_pos e, if_pos (show j < i + 1 by omega), e, if_pos h]
      · rw [if_neg e]
        by_cases e2 : j < i
        · rw [if_pos e2, if_pos (show j < i + 1 by omega)]
        · rw [if_neg e2, if_neg (show ¬ j < i + 1 by omega)]
    · rw [beq_ne h, cond_false]
      rw [rows_congr (G := fun j => if j < i + 1 then (if P.getD j 0 = b then a else P.getD j 0) else P.getD j 0) fun j _ => ?_]
      by_cases e : j = i
      · rw [if_neg (show ¬ j < i by omega), if_pos (show j < i + 1 by omega), e, if_neg h]
      · by_cases e2 : j < i
        · rw [if_pos e2, if_pos (show j < i + 1 by omega)]
        · rw [if_neg e2, if_neg (show ¬ j < i + 1 by omega)]) (by
    rw [spec_CheapTree_B1_at]
    simp only [bif_decide, rows_len]
    rw [if_neg (show ¬ (P.length : Int) < (P.length : Int) by omega)]
    rw [rows_congr (G := fun j => if P.getD j 0 = b then a else P.getD j 0) fun j hj => by rw [if_pos hj]]) 0 (Nat.zero_le _)
  rw [map_rows P (fun v => if v = b then a else v)] at key
  have h0 : rows P.length (fun j => if j < 0 then (if P.getD j 0 = b then a else P.getD j 0) else P.getD j 0) = P := by
    rw [rows_congr (G := fun j => id (P.getD j 0)) fun j _ => by rw [if_neg (by omega)]; rfl, map_rows P id, List.map_id]
  rw [h0] at key
  exact key
theorem tree_B2 (W : List Int) (x : List (List Int) × List (Int × Int)) (n N : Nat) (hn : x.2.length = n) (hn2 : n ≤ 1048576) (hN : N ≤ 1048576) (hW : W.length = n) (hS : StepsOk x.2 N) (p : List Int × List Int) (hp : OkT N n p) (w : Nat) :
    loopO spec_CheapTree_B2 ((W, x, p.2, p.1, (w : Int), (0 : Int), ()), ()) = some ((W, x, (((List.range n).filter fun k => decide (W.getD k 0 = (w : Int))).foldl (stepT x.2) p).2, (((List.range n).filter fun k => decide (W.getD k 0 = (w : Int))).foldl (stepT x.2) p).1, (w : Int), ()), ()) := by
  have key := loop_count (B := spec_CheapTree_B2) (fun i => ((W, x, (((List.range i).filter fun k => decide (W.getD k 0 = (w : Int))).foldl (stepT x.2) p).2, (((List.range i).filter fun k => decide (W.getD k 0 = (w : Int))).foldl (stepT x.2) p).1, (w : Int), (i : Int), ()), ())) n ((W, x, (((List.range n).filter fun k => decide (W.getD k 0 = (w : Int))).foldl (stepT x.2) p).2, (((List.range n).filter fun k => decide (W.getD k 0 = (w : Int))).foldl (stepT x.2) p).1, (w : Int), ()), ()) (fun i hi => by
    have hq := OkT.fold x.2 ((List.range i).filter fun k => decide (W.getD k 0 = (w : Int))) p hp (fun k hk => by have := List.mem_range.1 (List.mem_filter.1 hk).1; omega)
    rw [List.range_succ, List.filter_append, List.foldl_append]
    obtain ⟨q, hqd⟩ : ∃ q, ((List.range i).filter fun k => decide (W.getD k 0 = (w : Int))).foldl (stepT x.2) p = q := ⟨_, rfl⟩
    rw [hqd] at hq ⊢
    obtain ⟨a, b, e1, e2, e3⟩ := hS i (by omega)
    rw [spec_CheapTree_B2_at]
    simp only [bif_decide, Int.toNat_natCast, e1]
    have hl := hq.len
    rw [if_pos (show (i : Int) < (x.2.length : Int) by omega), guardB_true (by simp [inb] <;> omega), guardB_true (by simp [inb] <;> omega), guardB_true (by simp [inb] <;> omega), guardB_true (by simp [inb] <;> omega), guardB_true (by simp [inb] <;> omega), w64_succ (by omega)]
    by_cases c1 : W.getD i 0 = (w : Int)
    · rw [bne_eq c1, cond_false]
      have hf : ([i].filter fun k => decide (W.getD k 0 = (w : Int))) = [i] := by
        simp only [List.filter_cons, decide_eq_true c1, if_true, List.filter_nil]
      rw [hf]
      simp only [List.foldl_cons, List.foldl_nil, stepT, e1, Int.toNat_natCast]
      by_cases c2 : q.1.getD a 0 = q.1.getD b 0
      · rw [beq_eq c2, cond_true, if_pos c2]
      · rw [beq_ne c2, cond_false, if_neg c2, l1Put_eq q.2 (i : Int) (by have := srt_len hq.srt hq.mem; omega)]
        simp only
        erw [relabel_eq W x (putP (i : Int) q.2) q.1 (w : Int) (i : Int) (q.1.getD a 0) (q.1.getD b 0) (by omega)]
        simp only
        rw [w64_succ (by omega)]
    · rw [bne_ne c1, cond_true]
      have hf : ([i].filter fun k => decide (W.getD k 0 = (w : Int))) = [] := by
        simp only [List.filter_cons, decide_eq_false c1, Bool.false_eq_true, if_false, List.filter_nil]
      rw [hf]
      rfl) (by
    rw [spec_CheapTree_B2_at]
    simp only [bif_decide]
    rw [if_neg (show ¬ (n : Int) < (x.2.length : Int) by omega)]) 0 (Nat.zero_le _)
  exact key
theorem tree_B3 (W : List Int) (x : List (List Int) × List (Int × Int)) (n N : Nat) (hn : x.2.length = n) (hn2 : n ≤ 1048576) (hN : N ≤ 1048576) (hW : W.length = n) (hS : StepsOk x.2 N) (p : List Int × List Int) (hp : OkT N n p) :
    loopO spec_CheapTree_B3 ((W, x, p.2, p.1, (0 : Int), ()), ()) = some ((((byW W n 1000).foldl (stepT x.2) p).2, ()), ()) := by
  have key := loop_count (B := spec_CheapTree_B3) (fun w => ((W, x, ((byW W n w).foldl (stepT x.2) p).2, ((byW W n w).foldl (stepT x.2) p).1, (w : Int), ()), ())) 1000 ((((byW W n 1000).foldl (stepT x.2) p).2, ()), ()) (fun w hw => by
    have hq := OkT.fold x.2 (byW W n w) p hp (fun k hk => (byW_mem.1 hk).1)
    rw [spec_CheapTree_B3_at]
    simp only [bif_decide]
    rw [if_pos (show (w : Int) ≤ 999 by omega)]
    have := tree_B2 W x n N hn hn2 hN hW hS _ hq w
    erw [this]
    simp only
    rw [w64_succ (by omega), show byW W n (w + 1) = byW W n w ++ (List.range n).filter fun k => decide (W.getD k 0 = (w : Int)) from rfl, List.foldl_append]) (by
    rw [spec_CheapTree_B3_at]
    simp only [bif_decide]
    rw [if_neg (show ¬ ((1000 : Nat) : Int) ≤ 999 by omega)]) 0 (Nat.zero_le _)
  exact key
theorem rn_snoc (i : Nat) : rn (i + 1) (fun k => k) = rn i (fun k => k) ++ [(i : Int)] := by simp [rn, rows, List.range_succ]
theorem tree_B0 (W : List Int) (x : List (List Int) × List (Int × Int)) (hN : x.1.length ≤ 1048576) :
    loopO spec_CheapTree_B0 ((W, x, ([] : List Int), ([] : List Int), (0 : Int), ()), ()) = some ((W, x, ([] : List Int), rn x.1.length (fun k => k), ()), ()) := by
  have key := loop_count (B := spec_CheapTree_B0) (fun i => ((W, x, ([] : List Int), rn i (fun k => k), (i : Int), ()), ())) x.1.length ((W, x, ([] : List Int), rn x.1.length (fun k => k), ()), ()) (fun i hi => by
    rw [spec_CheapTree_B0_at]
    simp only [bif_decide]
    rw [if_pos (show (i : Int) < (x.1.length : Int) by omega), guardB_true (by simp only [rn_len, List.length_singleton, decide_eq_true_eq]; omega), w64_succ (by omega), rn_snoc]) (by
    rw [spec_CheapTree_B0_at]
    simp only [bif_decide]
    rw [if_neg (show ¬ (x.1.length : Int) < (x.1.length : Int) by omega)]) 0 (Nat.zero_le _)
  exact key
theorem homeR_eq (n : Nat) (hn : n ≤ 1048576) : impl_home ((n : Int), ()) () = some ((rn n (fun k => k), ()), ()) := by
  have key := loop_count (B := impl_home_B0) (fun i => ((rn i (fun k => k), (n : Int), (i : Int), ()), ())) n ((rn n (fun k => k), ()), ()) (fun i hi => by
    rw [impl_home_B0_at]
    simp only [bif_decide]
    rw [if_pos (show (i : Int) < (n : Int) by omega), guardB_true (by simp only [rn_len, List.length_singleton, decide_eq_true_eq]; omega), w64_succ (by omega), rn_snoc]) (by
    rw [impl_home_B0_at]
    simp only [bif_decide]
    rw [if_neg (show ¬ (n : Int) < (n : Int) by omega)]) 0 (Nat.zero_le _)
  simp only [impl_home]
  erw [key]
theorem newJoiner_eq (n : Nat) (hn : n ≤ 1048576) : impl_newJoiner ((n : Int), ()) () = some ((rn n (fun k => k), ()), ()) := by
  have key := loop_count (B := impl_newJoiner_B0) (fun i => ((rn i (fun k => k), (n : Int), (i : Int), ()), ())) n ((rn n (fun k => k), ()), ()) (fun i hi => by
    rw [impl_newJoiner_B0_at]
    simp only [bif_decide]
    rw [if_pos (show (i : Int) < (n : Int) by omega), guardB_true (by simp only [rn_len, List.length_singleton, decide_eq_true_eq]; omega), w64_succ (by omega), rn_snoc]) (by
    rw [impl_newJoiner_B0_at]
    simp only [bif_decide]
    rw [if_neg (show ¬ (n : Int) < (n : Int) by omega)]) 0 (Nat.zero_le _)
  simp only [impl_newJoiner]
  erw [key]

structure JI (N : Nat) (J : List Int) (R D : Nat → Nat) : Prop where
  len : J.length = N
  root : ∀ x, x < N → R x < N ∧ J.getD (R x) 0 = (R x : Int) ∧ R (R x) = R x
  fix : ∀ x, x < N → J.getD x 0 = (x : Int) → R x = x
  zero : ∀ x, x < N → J.getD x 0 = (x : Int) → D x = 0
  up : ∀ x, x < N → J.getD x 0 ≠ (x : Int) → ∃ y, y < N ∧ J.getD x 0 = (y : Int) ∧ R y = R x ∧ D x = D y + 1
theorem root_loop {N : Nat} {J : List Int} {R D : Nat → Nat} (h : JI N J R D) (hN : N ≤ 1048576) : ∀ (d x : Nat), D x ≤ d → x < N → loopO impl_joiner_root_B0 ((J, (x : Int), ()), ()) = some (((R x : Int), ()), ()) := by
  have stop : ∀ x, x < N → J.getD x 0 = (x : Int) → loopO impl_joiner_root_B0 ((J, (x : Int), ()), ()) = some (((R x : Int), ()), ()) := fun x hx e => loop_end (by
    rw [impl_joiner_root_B0_at]
    simp only [Int.toNat_natCast]
    have := h.len
    rw [guardB_true (by simp [inb] <;> omega), bne_eq e, cond_false, h.fix x hx e])
  intro d
  induction d with
  | zero =>
    intro x hd hx
    by_cases e : J.getD x 0 = (x : Int)
    · exact stop x hx e
    · obtain ⟨y, _, _, _, hy⟩ := h.up x hx e
      omega
  | succ d ih =>
    intro x hd hx
    by_cases e : J.getD x 0 = (x : Int)
    · exact stop x hx e
    · obtain ⟨y, y1, y2, y3, y4⟩ := h.up x hx e
      have := ih y (by omega) y1
      rw [y3] at this
      refine loop_step ?_ this
      rw [impl_joiner_root_B0_at]
      simp only [Int.toNat_natCast]
      have := h.len
      rw [guardB_true (by simp [inb] <;> omega), bne_ne e, cond_true, guardB_true (by simp [inb] <;> omega), y2]
theorem join_eq {N : Nat} {J : List Int} {R D : Nat → Nat} (h : JI N J R D) (hN : N ≤ 1048576) (a b : Nat) (ha : a < N) (hb : b < N) :
    impl_joiner_join_e0v_ls (((a : Int), (b : Int)), ()) (J, ()) = some ((((R a : Int) != (R b : Int)), ()), (J.set (R a) (R b : Int), ())) := by
  have ra := root_loop h hN (D a) a (Nat.le_refl _) ha
  have rb := root_loop h hN (D b) b (Nat.le_refl _) hb
  have e1 : impl_joiner_root (J, (a : Int), ()) () = some (((R a : Int), ()), ()) := by
    simp only [impl_joiner_root]
    erw [ra]
  have e2 : impl_joiner_root (J, (b : Int), ()) () = some (((R b : Int), ()), ()) := by
    simp only [impl_joiner_root]
    erw [rb]
  simp only [impl_joiner_join_e0v_ls, e1, e2]
  have h1 := h.len
  have h2 := (h.root a ha).1
  rw [guardB_true (by simp [inb] <;> omega)]
  simp only [Int.toNat_natCast]
theorem join_inv {N : Nat} {J : List Int} {R D : Nat → Nat} (h : JI N J R D) (a b : Nat) (ha : a < N) (hb : b < N) :
    ∃ R' D', JI N (J.set (R a) (R b : Int)) R' D' ∧ ∀ x, x < N → R' x = if R x = R a then R b else R x := by
  obtain ⟨a1, a2, a3⟩ := h.root a ha
  obtain ⟨b1, b2, b3⟩ := h.root b hb
  have hl := h.len
  by_cases e : R a = R b
  · refine ⟨R, D, ?_, fun x _ => ?_⟩
    · have : J.set (R a) (R b : Int) = J := by
        apply List.ext_getElem
        · simp
        · intro j h1 h2
          rw [List.getElem_set]
          split
          · rename_i hj
            rw [getD_at (show R a < J.length by omega)] at a2
            subst hj
            rw [← e]; exact a2.symm
          · rfl
      rw [this]; exact h
    · split
      · rename_i hx; rw [hx, e]
      · rfl
  · have set_a : (J.set (R a) (R b : Int)).getD (R a) 0 = (R b : Int) := by
      rw [getD_at (show R a < (J.set (R a) (R b : Int)).length by simp; omega), List.getElem_set_self]
    have set_o : ∀ x, x < N → x ≠ R a → (J.set (R a) (R b : Int)).getD x 0 = J.getD x 0 := fun x hx hne => by
      rw [getD_at (show x < (J.set (R a) (R b : Int)).length by simp; omega), List.getElem_set_ne (fun e => hne e.symm), getD_at (show x < J.length by omega)]
    refine ⟨fun x => if R x = R a then R b else R x, fun x => if R x = R a then D x + 1 else D x, ⟨by simpa using hl, fun x hx => ?_, fun x hx hf => ?_, fun x hx hf => ?_, fun x hx hf => ?_⟩, fun x _ => rfl⟩
    · obtain ⟨x1, x2, x3⟩ := h.root x hx
      by_cases c : R x = R a
      · simp only [if_pos c]
        refine ⟨b1, ?_, ?_⟩
        · rw [set_o (R b) b1 (fun e2 => e e2.symm)]; exact b2
        · rw [b3, if_neg (fun e2 => e e2.symm)]
      · simp only [if_neg c]
        refine ⟨x1, ?_, ?_⟩
        · rw [set_o (R x) x1 c]; exact x2
        · rw [x3, if_neg c]
    · by_cases c : x = R a
      · rw [c, set_a] at hf
        omega
      · rw [set_o x hx c] at hf
        have := h.fix x hx hf
        simp only [this, if_neg c]
    · by_cases c : x = R a
      · rw [c, set_a] at hf
        omega
      · rw [set_o x hx c] at hf
        have := h.fix x hx hf
        simp only [this, if_neg c]
        exact h.zero x hx hf
    · by_cases c : x = R a
      · refine ⟨R b, b1, by rw [c]; exact set_a, ?_, ?_⟩
        · rw [c]
          simp only [b3, a3, if_neg (fun e2 => e e2.symm : ¬ R b = R a), if_true]
        · rw [c]
          simp only [b3, a3, if_neg (fun e2 => e e2.symm : ¬ R b = R a), if_true]
          rw [h.zero (R a) a1 a2, h.zero (R b) b1 b2]
      · rw [set_o x hx c] at hf
        obtain ⟨y, y1, y2, y3, y4⟩ := h.up x hx hf
        refine ⟨y, y1, by rw [set_o x hx c]; exact y2, ?_, ?_⟩
        · simp only [y3]
        · simp only [y3]
          split <;> omega

theorem map_at {P : List Int} {f : Int → Int} {x : Nat} (h : x < P.length) : (P.map f).getD x 0 = f (P.getD x 0) := by
  rw [getD_at (show x < (P.map f).length by simpa using h), List.getElem_map, getD_at h]
theorem cls {rx ry ra rb : Nat} {px py pa pb : Int} (xa : rx = ra ↔ px = pa) (xb : rx = rb ↔ px = pb) (ya : ry = ra ↔ py = pa) (yb : ry = rb ↔ py = pb) (xy : rx = ry ↔ px = py) (ab : ra = rb ↔ pa = pb) :
    (if rx = ra then rb else rx) = (if ry = ra then rb else ry) ↔ (if px = pb then pa else px) = (if py = pb then pa else py) := by
  split <;> split <;> split <;> split <;> omega
theorem eqv_step {N : Nat} {P : List Int} {R R' : Nat → Nat} (hP : P.length = N) (h : ∀ x y, x < N → y < N → (R x = R y ↔ P.getD x 0 = P.getD y 0)) {a b : Nat} (ha : a < N) (hb : b < N)
    (hR : ∀ x, x < N → R' x = if R x = R a then R b else R x) :
    ∀ x y, x < N → y < N → (R' x = R' y ↔ (P.map (fun v => if v = P.getD b 0 then P.getD a 0 else v)).getD x 0 = (P.map (fun v => if v = P.getD b 0 then P.getD a 0 else v)).getD y 0) := by
  intro x y hx hy
  rw [hR x hx, hR y hy, map_at (by omega), map_at (by omega)]
  have xa := h x a hx ha
  have xb := h x b hx hb
  have ya := h y a hy ha
  have yb := h y b hy hb
  have xy := h x y hx hy
  have ab := h a b ha hb
  exact cls xa xb ya yb xy ab
theorem eqv_none {N : Nat} {P : List Int} {R R' : Nat → Nat} (h : ∀ x y, x < N → y < N → (R x = R y ↔ P.getD x 0 = P.getD y 0)) {a b : Nat} (e : R a = R b)
    (hR : ∀ x, x < N → R' x = if R x = R a then R b else R x) : ∀ x y, x < N → y < N → (R' x = R' y ↔ P.getD x 0 = P.getD y 0) := by
  have hs : ∀ x, x < N → R' x = R x := fun x hx => by
    rw [hR x hx]
    split
    · rename_i hx; rw [hx, e]
    · rfl
  intro x y hx hy
  rw [hs x hx, hs y hy]; exact h x y hx hy
theorem tree_impl (x : List (List Int) × List (Int × Int)) (n N : Nat) (hn : x.2.length = n) (hn2 : n ≤ 1048576) (hN2 : N ≤ 1048576) (hS : StepsOk x.2 N) (G : Nat → Nat) (hG : ∀ i, i < n → G i < n) (hinj : ∀ i j, i < j → j < n → G i ≠ G j) (p0 : List Int × List Int) (hp0 : OkT N n p0) (he0 : p0.2 = []) :
    ∀ (d i : Nat) (J out : List Int) (R D : Nat → Nat), i + d = n → JI N J R D → (∀ u v, u < N → v < N → (R u = R v ↔ ((((List.range i).map G).foldl (stepT x.2) p0).1.getD u 0 = (((List.range i).map G).foldl (stepT x.2) p0).1.getD v 0))) → out.Perm (((List.range i).map G).foldl (stepT x.2) p0).2 →
      ∃ out' : List Int, loopO impl_CheapTree_B0 ((x, rn n G, J, out, (n : Int), (i : Int), ()), ()) = some ((out', ()), ()) ∧ out'.Perm (((List.range n).map G).foldl (stepT x.2) p0).2 := by
  intro d
  induction d with
  | zero =>
    intro i J out R D h1 h2 h3 h4
    have : i = n := by omega
    subst this
    refine ⟨out, loop_end ?_, h4⟩
    rw [impl_CheapTree_B0_at]
    simp only [bif_decide]
    rw [if_neg (show ¬ (i : Int) < (i : Int) by omega)]
  | succ d ih =>
    intro i J out R D h1 h2 h3 h4
    have hin : i < n := by omega
    have hq := OkT.fold x.2 ((List.range i).map G) p0 hp0 (fun k hk => by
      obtain ⟨j, hj, rfl⟩ := List.mem_map.1 hk
      exact hG j (by have := List.mem_range.1 hj; omega))
    have hnew : ((G i : Nat) : Int) ∉ (((List.range i).map G).foldl (stepT x.2) p0).2 := fun hm => by
      rcases fold_mem x.2 _ _ _ hm with h | ⟨k, hk, e⟩
      · rw [he0] at h; cases h
      · obtain ⟨j, hj, rfl⟩ := List.mem_map.1 hk
        exact hinj j i (List.mem_range.1 hj) hin (by omega)
    have hnext : ((List.range (i + 1)).map G).foldl (stepT x.2) p0 = stepT x.2 (((List.range i).map G).foldl (stepT x.2) p0) (G i) := by
      rw [List.range_succ, List.map_append, List.foldl_append]; rfl
    have ihn := ih (i + 1)
    rw [hnext] at ihn
    obtain ⟨q, hqd⟩ : ∃ q, ((List.range i).map G).foldl (stepT x.2) p0 = q := ⟨_, rfl⟩
    rw [hqd] at hq hnew h3 h4 ihn
    obtain ⟨a, b, e1, e2, e3⟩ := hS (G i) (by have := hG i hin; omega)
    have hj := join_eq h2 hN2 a b (by omega) e3
    obtain ⟨R', D', k1, k2⟩ := join_inv h2 a b (by omega) e3
    have hlen : out.length ≤ n := by rw [h4.length_eq]; exact srt_len hq.srt hq.mem
    have hGi := hG i hin
    have st : impl_CheapTree_B0 ((x, rn n G, J, out, (n : Int), (i : Int), ()), ()) = some (.inl ((x, rn n G, J.set (R a) (R b : Int), (if R a = R b then out else out ++ [(G i : Int)]), (n : Int), ((i + 1 : Nat) : Int), ()), ())) := by
      rw [impl_CheapTree_B0_at]
      simp only [bif_decide, rn_len, Int.toNat_natCast]
      rw [if_pos (show (i : Int) < (n : Int) by omega), guardB_true (by simp [inb] <;> omega), rn_get hin]
      simp only [Int.toNat_natCast]
      rw [guardB_true (by simp [inb] <;> omega), e1, hj]
      simp only
      by_cases c : R a = R b
      · rw [bne_eq (show (R a : Int) = (R b : Int) by omega), cond_false, if_pos c, w64_succ (by omega)]
      · rw [bne_ne (show ¬ (R a : Int) = (R b : Int) by omega), cond_true, if_neg c, guardB_true (by simp only [List.length_singleton, decide_eq_true_eq]; omega), w64_succ (by omega)]
    have hst : stepT x.2 q (G i) = if R a = R b then q else (q.1.map (fun v => if v = q.1.getD b 0 then q.1.getD a 0 else v), ins (G i : Int) q.2) := by
      simp only [stepT, e1, Int.toNat_natCast, putP_new hnew]
      by_cases c : R a = R b
      · rw [if_pos c, if_pos ((h3 a b (by omega) e3).1 c)]
      · rw [if_neg c, if_neg fun h => c ((h3 a b (by omega) e3).2 h)]
    rw [hst] at ihn
    by_cases c : R a = R b
    · simp only [if_pos c] at ihn st
      obtain ⟨out', o1, o2⟩ := ihn _ out R' D' (by omega) k1 (eqv_none h3 c k2) h4
      exact ⟨out', loop_step st o1, o2⟩
    · simp only [if_neg c] at ihn st
      obtain ⟨out', o1, o2⟩ := ihn _ (out ++ [(G i : Int)]) R' D' (by omega) k1 (eqv_step hq.len h3 (by omega) e3 k2) ((h4.append_right _).trans (List.perm_append_comm.trans (ins_perm (G i : Int) q.2).symm))
      exact ⟨out', loop_step st o1, o2⟩
theorem FnExactCheapTree_true (x : List (List Int) × List (Int × Int)) (l : List Int) (hx : Sm (.prod (.list (.list I)) (.list (.prod I I))) x) (hl : Sm (.list I) l) : laws_FnExactCheapTree (x, l, ()) () = some ((true, ()), ()) := by
  have hl := hl.1
  simp only [laws_FnExactCheapTree, bif_decide]
  by_cases h1 : (1048576 : Int) < (l.length : Int)
  · rw [if_pos h1]
  rw [if_neg h1]
  have hl' : l.length ≤ 1048576 := by omega
  obtain ⟨r, e1, e2, e3, e4⟩ := szSpace_eq x 1048576 (by omega) (by omega) hx
  rw [e1]
  by_cases h2 : r < 0
  · simp only [if_pos h2]
  have hF := e3 (by omega)
  obtain ⟨r0, m1, m2, m3⟩ := markSpace_eq x 1 hF (by omega) (by omega)
  have m4 := markIntS_eq l r0 m2 (by omega)
  have main : ∃ (R : List Int) (b : Bool), spec_CheapTree (x, l, ()) () = some ((R, b, ()), ()) ∧ impl_CheapTree (x, l, ()) () = some ((R, b, ()), ()) ∧ R.length ≤ 1048576 := by
    simp only [spec_CheapTree, impl_CheapTree, spec_l11Weighted, impl_isWeighed, l2Space_eq x hF, IsSpace_eq x hF, l11Numbers_eq l x.2.length hl', areLoads_eq l x.2.length hl']
    cases hs : spaceB x
    · exact ⟨[], false, rfl, rfl, by simp⟩
    · cases hn : loadsB x.2.length l
      · exact ⟨[], false, rfl, rfl, by simp⟩
      · obtain ⟨p1, p2, p3⟩ := spaceB_ok hs
        obtain ⟨w1, w2⟩ := loads_ok hn
        have hS := pairsB_ok p3
        obtain ⟨p0, hp0d⟩ : ∃ p0 : List Int × List Int, (rn x.1.length (fun k => k), ([] : List Int)) = p0 := ⟨_, rfl⟩
        have hp0 : OkT x.1.length x.2.length p0 := by
          rw [← hp0d]; exact ⟨rn_len, List.Pairwise.nil, fun v hv => by cases hv⟩
        obtain ⟨G, g1, g2⟩ := stable_spec l x.2.length (by omega) (by omega)
        have hG : ∀ i, i < x.2.length → G i < x.2.length := fun i hi => (g2.to i (Nat.zero_le _) hi).2
        have hL : (List.range x.2.length).map G = byW l x.2.length 1000 := by
          refine uniqW _ _ ?_ (byW_sorted _) fun v => ?_
          · rw [List.pairwise_map]
            exact List.Pairwise.imp_of_mem (fun {a b} _ hb hab => g2.srt a b (Nat.zero_le _) hab (List.mem_range.1 hb)) List.pairwise_lt_range
          · rw [byW_mem, List.mem_map]
            constructor
            · rintro ⟨i, hi, rfl⟩
              have hi := hG i (List.mem_range.1 hi)
              have hw := w2 (l.getD (G i) 0) (by rw [getD_at (show G i < l.length by omega)]; exact List.getElem_mem _)
              omega
            · rintro ⟨hv, _⟩
              obtain ⟨i, _, i2, i3⟩ := g2.from' v (Nat.zero_le _) hv
              exact ⟨i, List.mem_range.2 i2, i3⟩
        have hJ0 : JI x.1.length (rn x.1.length (fun k => k)) (fun k => k) (fun _ => 0) := ⟨rn_len, fun u hu => ⟨hu, rn_get hu, rfl⟩, fun _ _ _ => rfl, fun _ _ _ => rfl, fun u hu hne => (hne (rn_get hu)).elim⟩
        obtain ⟨out', o1, o2⟩ := tree_impl x x.2.length x.1.length rfl (by omega) (by omega) hS G hG (fun i j hij hj => (g2.srt i j (Nat.zero_le _) hij hj).ne) p0 hp0 (by rw [← hp0d]) x.2.length 0 (rn x.1.length (fun k => k)) [] (fun k => k) (fun _ => 0) (by omega) hJ0 (fun u v hu hv => by
          rw [← hp0d]
          simp only [List.range_zero, List.map_nil, List.foldl_nil, rn_get hu, rn_get hv]
          omega) (by rw [← hp0d]; exact List.Perm.refl _)
        rw [hL] at o2
        have hfin := OkT.fold x.2 (byW l x.2.length 1000) p0 hp0 (fun k hk => (byW_mem.1 hk).1)
        have hb3 := tree_B3 l x x.2.length x.1.length rfl (by omega) (by omega) w1 hS p0 hp0
        rw [← hp0d] at hb3
        have hlen := srt_len hfin.srt hfin.mem
        refine ⟨((byW l x.2.length 1000).foldl (stepT x.2) p0).2, true, ?_, ?_, by omega⟩
        · simp only [cond_true, Bool.not_true, cond_false]
          erw [tree_B0 l x (by omega)]
          simp only
          erw [hb3]
          rw [hp0d]
        · simp only [cond_true, Bool.not_true, cond_false, Bool.and_self, homeR_eq x.2.length (by omega), newJoiner_eq x.1.length (by omega)]
          erw [g1]
          simp only [rn_len]
          erw [o1]
          simp only [slices_Sort_int_int, sortFn]
          rw [guardB_true (by simp only [decide_eq_true_eq]; have := o2.length_eq; omega)]
          simp only
          rw [sort_of_perm o2 hfin.srt]
  obtain ⟨R, b, s1, s2, s3⟩ := main
  have q1 := markIntS_eq R 1 (by omega) (by omega)
  have q2 := heldIntS_eq R.length 1 (by omega) (by omega)
  have q3 := eqIntS_gen R (by omega)
  simp only [if_neg h2, toSpace_eq x hF, toIntS_eq l hl', s1, s2, eqSpace_eq x hF, eqIntS_eq l hl', laws_FnExactCheapTree_D0, q3, Bool.not_true, cond_false, beq_self_eq_true, m1, m4]
  rw [if_neg (show ¬ (r0 + (l.length : Int)) < 0 by omega)]
  simp only [q1, q2, if_neg (show ¬ (1 + (R.length : Int)) < 0 by omega), bne_self_eq_false, cond_false]

end Go.Proofs.Ytolabkhcmcfnpaa.V
