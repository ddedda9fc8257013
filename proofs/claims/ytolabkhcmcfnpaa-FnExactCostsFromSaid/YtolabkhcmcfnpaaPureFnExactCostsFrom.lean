/-
  What the reference and the program compute agrees: plain lemmas over numbers and lists.
-/
import Derived.Test.YtolabkhcmcfnpaaTFnExactCostsFrom
import Derived.Test.YtolabkhcmcfnpaaE3
namespace Go.Proofs.Ytolabkhcmcfnpaa.V
open Go Go.Ve Go.Proofs
set_option linter.unusedVariables false
set_option linter.unusedSimpArgs false
theorem fold_len {n : Nat} (h : n ≤ 1048576) : (decide (0 ≤ (n : Int)) && decide ((n : Int) ≤ (n : Int)) && decide ((n : Int) * 8 ≤ 140737488355328)) = true ∧ (decide (0 ≤ (n : Int)) && decide ((n : Int) ≤ (n : Int)) && decide ((n : Int) * 24 ≤ 140737488355328)) = true ∧ (decide (0 ≤ (n : Int)) && decide ((n : Int) ≤ (n : Int)) && decide ((n : Int) * 16 ≤ 140737488355328)) = true := by
  refine ⟨?_, ?_, ?_⟩ <;> simp <;> omega

theorem toIntS_eq (l : List Int) (hl : l.length ≤ 1048576) : laws_toIntS (l, ()) () = some ((l, ()), ()) := by
  simp only [laws_toIntS, guardB_true (fold_len hl).1, Int.toNat_natCast]
  have key : loopO laws_toIntS_B0 ((l, fill (fun j => l.getD j 0) 0 l.length 0, ((0 : Nat) : Int), ()), ()) = some ((fill (fun j => l.getD j 0) 0 l.length l.length, ()), ()) := by
    refine loop_count (fun i => ((l, fill (fun j => l.getD j 0) 0 l.length i, (i : Int), ()), ())) l.length _ (fun i hi => ?_) ?_ 0 (Nat.zero_le _)
    · simp only [laws_toIntS_B0, bif_decide, if_pos (show (i : Int) < (l.length : Int) by omega), fill_len, guardB_true (inb_true (Int.natCast_nonneg i) (show (i : Int) < (l.length : Int) by omega)), Int.toNat_natCast, fill_set hi, w64_succ (show i < 4611686018427387904 by omega)]
    · simp only [laws_toIntS_B0, bif_decide, if_neg (show ¬ (l.length : Int) < (l.length : Int) by omega)]
  rw [fill_zero, fill_all, range_getD] at key
  erw [key]

theorem toIntSS_eq (l : List (List Int)) (hl : l.length ≤ 1048576) (h : ∀ x ∈ l, x.length ≤ 1048576) : laws_toIntSS (l, ()) () = some ((l, ()), ()) := by
  simp only [laws_toIntSS, guardB_true (fold_len hl).2.1, Int.toNat_natCast]
  have key : loopO laws_toIntSS_B0 ((l, fill (fun j => l.getD j []) [] l.length 0, ((0 : Nat) : Int), ()), ()) = some ((fill (fun j => l.getD j []) [] l.length l.length, ()), ()) := by
    refine loop_count (fun i => ((l, fill (fun j => l.getD j []) [] l.length i, (i : Int), ()), ())) l.length _ (fun i hi => ?_) ?_ 0 (Nat.zero_le _)
    · simp only [laws_toIntSS_B0, bif_decide, if_pos (show (i : Int) < (l.length : Int) by omega), fill_len, guardB_true (inb_true (Int.natCast_nonneg i) (show (i : Int) < (l.length : Int) by omega)), Int.toNat_natCast]
      rw [toIntS_eq (l.getD i []) (by rw [getD_at hi]; exact h _ (List.getElem_mem hi))]
      simp only [fill_set (f := fun j => l.getD j []) hi, w64_succ (show i < 4611686018427387904 by omega)]
    · simp only [laws_toIntSS_B0, bif_decide, if_neg (show ¬ (l.length : Int) < (l.length : Int) by omega)]
  rw [fill_zero, fill_all, range_getD] at key
  erw [key]

theorem toIntA2_eq (a : Int × Int) : laws_toIntA2 (a, ()) () = some ((a, ()), ()) := by
  obtain ⟨x, y⟩ := a
  have e0 : laws_toIntA2_B0 (((x, y), 0, ()), ((0, 0), (0, 0), ())) = some (.inl (((x, y), 1, ()), ((0, 0), (x, 0), ()))) := rfl
  have e1 : laws_toIntA2_B0 (((x, y), 1, ()), ((0, 0), (x, 0), ())) = some (.inl (((x, y), 2, ()), ((0, 0), (x, y), ()))) := rfl
  have e2 : laws_toIntA2_B0 (((x, y), 2, ()), ((0, 0), (x, y), ())) = some (.inr ((), ((0, 0), (x, y), ()))) := rfl
  simp only [laws_toIntA2, loop_step e0 (loop_step e1 (loop_end e2))]

theorem toIntA2S_eq (l : List (Int × Int)) (hl : l.length ≤ 1048576) : laws_toIntA2S (l, ()) () = some ((l, ()), ()) := by
  simp only [laws_toIntA2S, guardB_true (fold_len hl).2.2, Int.toNat_natCast]
  have key : loopO laws_toIntA2S_B0 ((l, fill (fun j => l.getD j (0, 0)) (0, 0) l.length 0, ((0 : Nat) : Int), ()), ()) = some ((fill (fun j => l.getD j (0, 0)) (0, 0) l.length l.length, ()), ()) := by
    refine loop_count (fun i => ((l, fill (fun j => l.getD j (0, 0)) (0, 0) l.length i, (i : Int), ()), ())) l.length _ (fun i hi => ?_) ?_ 0 (Nat.zero_le _)
    · simp only [laws_toIntA2S_B0, bif_decide, if_pos (show (i : Int) < (l.length : Int) by omega), fill_len, guardB_true (inb_true (Int.natCast_nonneg i) (show (i : Int) < (l.length : Int) by omega)), Int.toNat_natCast]
      rw [toIntA2_eq]
      simp only [fill_set (f := fun j => l.getD j (0, 0)) hi, w64_succ (show i < 4611686018427387904 by omega)]
    · simp only [laws_toIntA2S_B0, bif_decide, if_neg (show ¬ (l.length : Int) < (l.length : Int) by omega)]
  rw [fill_zero, fill_all, range_getD] at key
  erw [key]

theorem allUpto_true {n : Nat} : allUpto (fun _ => true) n = true := allUpto_iff.2 fun _ _ => rfl
theorem eqIntS_gen (l : List Int) (hl : l.length ≤ 2000000000000) : laws_eqIntS (l, l, ()) () = some ((true, ()), ()) := by
  have key := loop_all (B := laws_eqIntS_B0) (fun i => ((l, l, (i : Int), ()), ())) (fun _ => true) l.length (.inl ((false, ()), ())) (.inr ((), ())) (fun i hi _ => by
    simp [laws_eqIntS_B0, inb_nat, hi, guardB, w64_succ (show i < 4611686018427387904 by omega)]) (by simp [laws_eqIntS_B0])
  rw [allUpto_true] at key
  simp only [laws_eqIntS, bne_self_eq_false, cond_false]
  rw [show (0 : Int) = ((0 : Nat) : Int) from rfl, key]
  rfl
theorem eqIntS_eq (l : List Int) (hl : l.length ≤ 1048576) : laws_eqIntS (l, l, ()) () = some ((true, ()), ()) := eqIntS_gen l (by omega)
theorem eqIntSS_gen (l : List (List Int)) (hl : l.length ≤ 2000000000000) (h : ∀ x ∈ l, x.length ≤ 1048576) : laws_eqIntSS (l, l, ()) () = some ((true, ()), ()) := by
  have key := loop_all (B := laws_eqIntSS_B0) (fun i => ((l, l, (i : Int), ()), ())) (fun _ => true) l.length (.inl ((false, ()), ())) (.inr ((), ())) (fun i hi _ => by
    simp only [laws_eqIntSS_B0, bif_decide, if_pos (show (i : Int) < (l.length : Int) by omega), guardB_true (inb_true (Int.natCast_nonneg i) (show (i : Int) < (l.length : Int) by omega)), Int.toNat_natCast]
    rw [eqIntS_eq (l.getD i []) (by rw [getD_at hi]; exact h _ (List.getElem_mem hi))]
    simp [w64_succ (show i < 4611686018427387904 by omega)]) (by simp [laws_eqIntSS_B0])
  rw [allUpto_true] at key
  simp only [laws_eqIntSS, bne_self_eq_false, cond_false]
  rw [show (0 : Int) = ((0 : Nat) : Int) from rfl, key]
  rfl
theorem eqIntSS_eq (l : List (List Int)) (hl : l.length ≤ 1048576) (h : ∀ x ∈ l, x.length ≤ 1048576) : laws_eqIntSS (l, l, ()) () = some ((true, ()), ()) := eqIntSS_gen l (by omega) h
theorem eqIntA2_eq (a : Int × Int) : laws_eqIntA2 (a, a, ()) () = some ((true, ()), ()) := by
  obtain ⟨x, y⟩ := a
  have e0 : laws_eqIntA2_B0 (((x, y), (x, y), 0, ()), ()) = some (.inl (((x, y), (x, y), 1, ()), ())) := by
    simp [laws_eqIntA2_B0, guardB]; rfl
  have e1 : laws_eqIntA2_B0 (((x, y), (x, y), 1, ()), ()) = some (.inl (((x, y), (x, y), 2, ()), ())) := by
    simp [laws_eqIntA2_B0, guardB]; rfl
  have e2 : laws_eqIntA2_B0 (((x, y), (x, y), 2, ()), ()) = some (.inr (.inr ((), ()))) := rfl
  simp only [laws_eqIntA2, loop_step e0 (loop_step e1 (loop_end e2))]
theorem eqIntA2S_eq (l : List (Int × Int)) (hl : l.length ≤ 1048576) : laws_eqIntA2S (l, l, ()) () = some ((true, ()), ()) := by
  have key := loop_all (B := laws_eqIntA2S_B0) (fun i => ((l, l, (i : Int), ()), ())) (fun _ => true) l.length (.inl ((false, ()), ())) (.inr ((), ())) (fun i hi _ => by
    simp only [laws_eqIntA2S_B0, bif_decide, if_pos (show (i : Int) < (l.length : Int) by omega), guardB_true (inb_true (Int.natCast_nonneg i) (show (i : Int) < (l.length : Int) by omega)), Int.toNat_natCast]
    rw [eqIntA2_eq]
    simp [w64_succ (show i < 4611686018427387904 by omega)]) (by simp [laws_eqIntA2S_B0])
  rw [allUpto_true] at key
  simp only [laws_eqIntA2S, bne_self_eq_false, cond_false]
  rw [show (0 : Int) = ((0 : Nat) : Int) from rfl, key]
  rfl

/-- what is asked of a Space that is looked at: not too great -/
structure Few (x : List (List Int) × List (Int × Int)) : Prop where
  states : x.1.length ≤ 1048576
  state : ∀ s ∈ x.1, s.length ≤ 1048576
  steps : x.2.length ≤ 1048576
theorem szIntS_eq (l : List Int) (n : Int) (h0 : 0 ≤ n) (hn : n ≤ 1048576) (hl : l.length ≤ 140737488351232) : laws_szIntS (l, n, ()) () = some (((if (l.length : Int) ≤ n then n - l.length else -1), ()), ()) := by
  simp only [laws_szIntS, w64_of (x := n - (l.length : Int)) (by omega) (by omega), bif_decide]
  by_cases h : (l.length : Int) ≤ n
  · rw [if_neg (by omega), if_pos h]
  · rw [if_pos (by omega), if_neg h]
theorem szIntA2S_eq (l : List (Int × Int)) (n : Int) (h0 : 0 ≤ n) (hn : n ≤ 1048576) (hl : l.length ≤ 140737488351232) : laws_szIntA2S (l, n, ()) () = some (((if (l.length : Int) ≤ n then n - l.length else -1), ()), ()) := by
  simp only [laws_szIntA2S, w64_of (x := n - (l.length : Int)) (by omega) (by omega), bif_decide]
  by_cases h : (l.length : Int) ≤ n
  · rw [if_neg (by omega), if_pos h]
  · rw [if_pos (by omega), if_neg h]
theorem szIntSS_eq (l : List (List Int)) (n : Int) (h0 : 0 ≤ n) (hn : n ≤ 1048576) (hl : l.length ≤ 140737488351232) (hs : ∀ x ∈ l, x.length ≤ 140737488351232) :
    ∃ r : Int, laws_szIntSS (l, n, ()) () = some ((r, ()), ()) ∧ r ≤ 1048576 ∧ (0 ≤ r → (l.length : Int) ≤ n ∧ ∀ x ∈ l, (x.length : Int) ≤ n) ∧ (r < 0 → r = -1) := by
  simp only [laws_szIntSS, w64_of (x := n - (l.length : Int)) (by omega) (by omega), bif_decide]
  by_cases h : n - (l.length : Int) < 0
  · rw [if_pos h]; exact ⟨-1, rfl, by omega, fun h => by omega, fun _ => rfl⟩
  · rw [if_neg h]
    obtain ⟨q, h1, h2⟩ := loop_inv (B := laws_szIntSS_B0) (fun p => ∃ (m : Int) (i : Nat), p = ((l, m, (i : Int), ()), ()) ∧ 0 ≤ m ∧ m ≤ n ∧ i ≤ l.length ∧ ∀ j, j < i → ((l.getD j []).length : Int) ≤ n)
      (fun p => l.length - p.1.2.2.1.toNat) (fun q => match q with
        | .inl ((t, ()), ()) => (fun t : Int => t = -1) t
        | .inr ((m, ()), ()) => (fun m : Int => 0 ≤ m ∧ m ≤ n ∧ ∀ j, j < l.length → ((l.getD j []).length : Int) ≤ n) m) (by
      rintro p ⟨m, i, rfl, h3, h4, h5, h6⟩
      by_cases hi : i < l.length
      · simp only [laws_szIntSS_B0, bif_decide, if_pos (show (i : Int) < (l.length : Int) by omega), guardB_true (inb_true (Int.natCast_nonneg i) (show (i : Int) < (l.length : Int) by omega)), Int.toNat_natCast]
        rw [szIntS_eq (l.getD i []) m h3 (by omega) (by rw [getD_at hi]; exact hs _ (List.getElem_mem hi))]
        by_cases h7 : ((l.getD i []).length : Int) ≤ m
        · rw [if_pos h7]
          simp only [if_neg (show ¬ (m - ((l.getD i []).length : Int)) < 0 by omega), w64_succ (show i < 4611686018427387904 by omega)]
          refine .inl ⟨_, rfl, ⟨_, i + 1, rfl, by omega, by omega, by omega, fun j hj => ?_⟩, ?_⟩
          · rcases Nat.lt_or_ge j i with h | h
            · exact h6 j h
            · rw [show j = i by omega]; omega
          · simp only [Int.toNat_natCast]; omega
        · rw [if_neg h7]
          exact .inr ⟨_, rfl, rfl⟩
      · have hi : i = l.length := by omega
        subst hi
        simp only [laws_szIntSS_B0, bif_decide, if_neg (show ¬ (l.length : Int) < (l.length : Int) by omega)]
        exact .inr ⟨_, rfl, h3, h4, h6⟩) ((l, n - (l.length : Int), 0, ()), ()) ⟨n - (l.length : Int), 0, rfl, by omega, by omega, by omega, fun j hj => by omega⟩
    rw [h1]
    rcases q with ⟨⟨t, ⟨⟩⟩, ⟨⟩⟩ | ⟨⟨m, ⟨⟩⟩, ⟨⟩⟩
    · dsimp only at h2
      exact ⟨t, rfl, by omega, fun h => by omega, fun _ => h2⟩
    · dsimp only at h2
      refine ⟨m, rfl, by have := h2.2.1; omega, fun _ => ⟨by omega, fun x hx => ?_⟩, fun h => by have := h2.1; omega⟩
      obtain ⟨j, hj, rfl⟩ := List.getElem_of_mem hx
      have := h2.2.2 j hj
      rw [getD_at hj] at this
      exact this
theorem szSpace_eq (x : List (List Int) × List (Int × Int)) (n : Int) (h0 : 0 ≤ n) (hn : n ≤ 1048576) (hx : Sm (.prod (.list (.list I)) (.list (.prod I I))) x) :
    ∃ r : Int, laws_szSpace (x, n, ()) () = some ((r, ()), ()) ∧ r ≤ 1048576 ∧ (0 ≤ r → Few x) ∧ (r < 0 → r = -1) := by
  obtain ⟨a, b⟩ := x
  obtain ⟨⟨h1, h2⟩, h3, h4⟩ := hx
  obtain ⟨r, e1, e2, e3, e4⟩ := szIntSS_eq a n h0 hn h1 (fun x hx => (h2 x hx).1)
  simp only [laws_szSpace, e1, bif_decide]
  by_cases h : r < 0
  · rw [if_pos h]; exact ⟨-1, rfl, by omega, fun h => by omega, fun _ => rfl⟩
  · rw [if_neg h]
    have := e3 (by omega)
    rw [szIntA2S_eq b r (by omega) e2 h3]
    by_cases h5 : (b.length : Int) ≤ r
    · rw [if_pos h5]
      simp only [if_neg (show ¬ (r - (b.length : Int)) < 0 by omega)]
      exact ⟨_, rfl, by omega, fun _ => ⟨by show a.length ≤ _; omega, fun s hs => by have := this.2 s hs; omega, by show b.length ≤ _; omega⟩, fun h => by omega⟩
    · rw [if_neg h5]
      exact ⟨-1, rfl, by omega, fun h => by omega, fun _ => rfl⟩
theorem toSpace_eq (x : List (List Int) × List (Int × Int)) (h : Few x) : laws_toSpace (x, ()) () = some ((x, ()), ()) := by
  obtain ⟨a, b⟩ := x
  simp only [laws_toSpace, toIntSS_eq a h.states h.state, toIntA2S_eq b h.steps]
theorem eqSpace_eq (x : List (List Int) × List (Int × Int)) (h : Few x) : laws_eqSpace (x, x, ()) () = some ((true, ()), ()) := by
  obtain ⟨a, b⟩ := x
  simp only [laws_eqSpace, eqIntSS_eq a h.states h.state, eqIntA2S_eq b h.steps]
  rfl

def inR (x a b : Int) : Bool := decide (a ≤ x) && decide (x ≤ b)
theorem l1In_eq (x a b : Int) : spec_l1In (x, a, b, ()) () = some ((inR x a b, ()), ()) := by
  simp only [spec_l1In, inR]
  by_cases h : a ≤ x <;> simp [h]
theorem between_eq (x a b : Int) : impl_between (x, a, b, ()) () = some ((inR x a b, ()), ()) := by
  simp only [impl_between, inR]
  by_cases h : a ≤ x <;> simp [h]
theorem cmp_eq (x y : Int) : cmp_Compare_int (x, y, ()) () = some (((if x < y then -1 else if y < x then 1 else 0), ()), ()) := by
  simp only [cmp_Compare_int, cmp_isNaN_int, bne_self_eq_false, cond_false, bif_decide]
  split
  · rfl
  · split <;> rfl

def goodN (n : Int) : Bool := inR n (-99) 99
def goodState (s : List Int) : Bool := decide (s.length ≤ 24) && s.all goodN
theorem allUpto_getD {f : Int → Bool} {s : List Int} : allUpto (fun i => f (s.getD i 0)) s.length = s.all f := by
  rw [Bool.eq_iff_iff, allUpto_iff, List.all_eq_true]
  constructor
  · intro h x hx
    obtain ⟨i, hi, rfl⟩ := List.getElem_of_mem hx
    have := h i hi
    rwa [getD_at hi] at this
  · intro h i hi
    rw [getD_at hi]
    exact h _ (List.getElem_mem hi)
theorem l2State_eq (s : List Int) (hs : s.length ≤ 1048576) : spec_l2State (s, ()) () = some ((goodState s, ()), ()) := by
  have key := loop_all (B := spec_l2State_B0) (fun i => ((s, (i : Int), ()), ())) (fun i => goodN (s.getD i 0)) s.length (.inl ((false, ()), ())) (.inr ((s, ()), ())) (fun i hi _ => by
    simp only [spec_l2State_B0, bif_decide, if_pos (show (i : Int) < (s.length : Int) by omega), guardB_true (inb_true (Int.natCast_nonneg i) (show (i : Int) < (s.length : Int) by omega)), Int.toNat_natCast, l1In_eq _ _ _, w64_succ (show i < 4611686018427387904 by omega), goodN]
    cases inR (s.getD i 0) (-99) 99 <;> rfl) (by simp [spec_l2State_B0])
  rw [allUpto_getD] at key
  simp only [spec_l2State]
  erw [key]
  have e : decide ((s.length : Int) ≤ 24) = decide (s.length ≤ 24) := by rw [decide_eq_decide]; omega
  cases h : s.all goodN
  · simp [goodState, h]
  · simp [goodState, h, e]
/-- where is the first one? -/
def firstIdx (p : Nat → Bool) : Nat → Nat → Int
  | _, 0 => -1
  | k, d + 1 => if p k then k else firstIdx p (k + 1) d
theorem firstIdx_neg {p : Nat → Bool} : ∀ {d k : Nat}, (decide ((0 : Int) ≤ firstIdx p k d) = !(allUpto (fun i => !p (k + i)) d))
  | 0, k => by simp [firstIdx, allUpto]
  | d + 1, k => by
    by_cases h : p k
    · rw [show firstIdx p k (d + 1) = k by simp [firstIdx, h]]
      have : allUpto (fun i => !p (k + i)) (d + 1) = false := by
        cases e : allUpto (fun i => !p (k + i)) (d + 1)
        · rfl
        · have := allUpto_iff.1 e 0 (by omega); simp [h] at this
      rw [this]; simp
    · rw [show firstIdx p k (d + 1) = firstIdx p (k + 1) d by simp [firstIdx, h], firstIdx_neg]
      congr 1
      rw [Bool.eq_iff_iff, allUpto_iff, allUpto_iff]
      constructor
      · intro g i hi
        cases i with
        | zero => simpa using h
        | succ i => have := g i (by omega); rw [show k + 1 + i = k + (i + 1) by omega] at this; exact this
      · intro g i hi
        have := g (i + 1) (by omega)
        rw [show k + (i + 1) = k + 1 + i by omega] at this; exact this
theorem loop_idx {P Q : Type} {B : P → Option (P ⊕ Q)} (st : Nat → P) (p : Nat → Bool) (n : Nat) (found : Int → Q) (fin : Q) (step : ∀ i, i < n → B (st i) = some (bif p i then .inr (found i) else .inl (st (i + 1)))) (stop : B (st n) = some (.inr fin)) :
    loopO B (st 0) = some (if firstIdx p 0 n < 0 then fin else found (firstIdx p 0 n)) := by
  suffices h : ∀ d k, k + d = n → loopO B (st k) = some (if firstIdx p k d < 0 then fin else found (firstIdx p k d)) from h n 0 (by omega)
  intro d
  induction d with
  | zero => intro k hk; have : k = n := by omega
            subst this; simpa [firstIdx] using loop_end stop
  | succ d ih =>
    intro k hk
    have h := step k (by omega)
    cases e : p k
    · rw [e] at h; rw [show firstIdx p k (d + 1) = firstIdx p (k + 1) d by simp [firstIdx, e]]; exact loop_step h (ih (k + 1) (by omega))
    · rw [e] at h; rw [show firstIdx p k (d + 1) = k by simp [firstIdx, e], if_neg (by omega)]; exact loop_end h
theorem isState_eq (s : List Int) (hs : s.length ≤ 1048576) : impl_isState (s, ()) () = some ((goodState s, ()), ()) := by
  have k1 : ∀ n : Int, impl_isState_1 (n, ()) () = some (((!goodN n), ()), ()) := fun n => by simp only [impl_isState_1, between_eq _ _ _, goodN]
  have key := loop_idx (B := slices_IndexFunc_int_int_2_vf_impl_isState_1_B0) (fun i => ((s, (s.length : Int), (i : Int), ()), ())) (fun i => !goodN (s.getD i 0)) s.length (fun i => .inl ((i, ()), ())) (.inr ((), ())) (fun i hi => by
    simp only [slices_IndexFunc_int_int_2_vf_impl_isState_1_B0, bif_decide, if_pos (show (i : Int) < (s.length : Int) by omega), guardB_true (inb_true (Int.natCast_nonneg i) (show (i : Int) < (s.length : Int) by omega)), Int.toNat_natCast, k1, w64_succ (show i < 4611686018427387904 by omega)]
    cases goodN (s.getD i 0) <;> rfl) (by simp [slices_IndexFunc_int_int_2_vf_impl_isState_1_B0])
  have k2 : slices_IndexFunc_int_int_2_vf_impl_isState_1 (s, ()) () = some ((firstIdx (fun i => !goodN (s.getD i 0)) 0 s.length, ()), ()) := by
    simp only [slices_IndexFunc_int_int_2_vf_impl_isState_1]
    erw [key]
    by_cases h : firstIdx (fun i => !goodN (s.getD i 0)) 0 s.length < 0
    · rw [if_pos h]
      have : ∀ d k, firstIdx (fun i => !goodN (s.getD i 0)) k d < 0 → firstIdx (fun i => !goodN (s.getD i 0)) k d = -1 := by
        intro d
        induction d with
        | zero => intro k _; rfl
        | succ d ih =>
          intro k hk
          simp only [firstIdx] at hk ⊢
          split
          · rename_i h; rw [if_pos h] at hk; omega
          · rename_i h; rw [if_neg h] at hk; exact ih _ hk
      rw [this _ _ h]
    · rw [if_neg h]
  simp only [impl_isState, slices_ContainsFunc_int_int_2_vf_impl_isState_1, k2, firstIdx_neg, bif_decide]
  have e : allUpto (fun i => !!goodN (s.getD (0 + i) 0)) s.length = s.all goodN := by
    rw [← allUpto_getD]; congr 1; funext i; simp
  rw [e]
  by_cases h : s.length ≤ 24
  · rw [if_pos (by omega)]; simp [goodState, h]
  · rw [if_neg (by omega)]; simp [goodState, h]

def lexDiff : List Int → List Int → Option Bool
  | a :: l, b :: k => if a = b then lexDiff l k else some (decide (a < b))
  | _, _ => none
def lexLt (a b : List Int) : Bool := match lexDiff a b with
  | some t => t
  | none => decide (a.length < b.length)
def lexCmp : List Int → List Int → Int
  | a :: l, b :: k => if a < b then -1 else if b < a then 1 else lexCmp l k
  | [], [] => 0
  | [], _ :: _ => -1
  | _ :: _, [] => 1
theorem lexCmp_lt : ∀ (a b : List Int), decide ((0 : Int) ≤ lexCmp a b) = !lexLt a b
  | a :: l, b :: k => by
    by_cases h : a < b
    · simp [lexCmp, lexLt, lexDiff, h, show ¬ a = b by omega]
    · by_cases h2 : b < a
      · simp [lexCmp, lexLt, lexDiff, h, h2, show ¬ a = b by omega]
      · have e : a = b := by omega
        subst e
        rw [show lexCmp (a :: l) (a :: k) = lexCmp l k by simp [lexCmp], lexCmp_lt l k]
        simp only [lexLt, lexDiff, if_pos, List.length_cons]
        cases lexDiff l k <;> simp
  | [], [] => by simp [lexCmp, lexLt, lexDiff]
  | [], _ :: _ => by simp [lexCmp, lexLt, lexDiff]
  | _ :: _, [] => by simp [lexCmp, lexLt, lexDiff]
theorem l2Before_eq (a b : List Int) (ha : a.length ≤ 1048576) : spec_l2Before (a, b, ()) () = some ((lexLt a b, ()), ()) := by
  have key : ∀ d i, i + d = a.length → loopO spec_l2Before_B0 ((a, b, (i : Int), ()), ()) = some (match lexDiff (a.drop i) (b.drop i) with
      | some t => .inl ((t, ()), ())
      | none => .inr ((a, b, ()), ())) := by
    intro d
    induction d with
    | zero =>
      intro i hi
      have : i = a.length := by omega
      subst this
      refine loop_end ?_
      simp [spec_l2Before_B0, lexDiff]
    | succ d ih =>
      intro i hi
      have h1 : i < a.length := by omega
      by_cases h2 : i < b.length
      · rw [List.drop_eq_getElem_cons h1, List.drop_eq_getElem_cons h2]
        simp only [lexDiff]
        by_cases h3 : a[i] = b[i]
        · rw [if_pos h3]
          refine loop_step ?_ (ih (i + 1) (by omega))
          simp [spec_l2Before_B0, inb_nat, guardB, h1, h2, h3, w64_succ (show i < 4611686018427387904 by omega)]
        · rw [if_neg h3]
          refine loop_end ?_
          simp [spec_l2Before_B0, inb_nat, guardB, h1, h2, bne_ne h3]
      · have : lexDiff (a.drop i) (b.drop i) = none := by
          rw [List.drop_eq_nil_of_le (show b.length ≤ i by omega)]
          cases a.drop i <;> rfl
        rw [this]
        refine loop_end ?_
        simp [spec_l2Before_B0, inb_nat, guardB, h1, h2]
  simp only [spec_l2Before]
  erw [key a.length 0 (by omega)]
  simp only [List.drop_zero, lexLt]
  cases lexDiff a b <;> simp
theorem Compare_eq (a b : List Int) (ha : a.length ≤ 1048576) : slices_Compare_int_int (a, b, ()) () = some ((lexCmp a b, ()), ()) := by
  have key : ∀ d i, i + d = a.length → ∃ q, loopO slices_Compare_int_int_B0 ((a, b, a, (a.length : Int), (i : Int), ()), ()) = some q ∧ ((q = .inl ((lexCmp (a.drop i) (b.drop i), ()), ())) ∨ (q = .inr ((a, b, ()), ()) ∧ (i ≤ b.length → lexCmp (a.drop i) (b.drop i) = if a.length < b.length then -1 else 0))) := by
    intro d
    induction d with
    | zero =>
      intro i hi
      have : i = a.length := by omega
      subst this
      refine ⟨_, loop_end (q := .inr ((a, b, ()), ())) (by simp [slices_Compare_int_int_B0]), .inr ⟨rfl, fun hb => ?_⟩⟩
      rw [List.drop_length]
      by_cases h : a.length < b.length
      · rw [List.drop_eq_getElem_cons h, if_pos h]; rfl
      · rw [List.drop_eq_nil_of_le (by omega), if_neg h]; rfl
    | succ d ih =>
      intro i hi
      have h1 : i < a.length := by omega
      by_cases h2 : i < b.length
      · rw [List.drop_eq_getElem_cons h1, List.drop_eq_getElem_cons h2]
        simp only [lexCmp]
        have e : slices_Compare_int_int_B0 ((a, b, a, (a.length : Int), (i : Int), ()), ()) = some (if (if a[i] < b[i] then (-1 : Int) else if b[i] < a[i] then 1 else 0) = 0 then .inl ((a, b, a, (a.length : Int), ((i + 1 : Nat) : Int), ()), ()) else .inr (.inl (((if a[i] < b[i] then (-1 : Int) else if b[i] < a[i] then 1 else 0), ()), ()))) := by
          simp only [slices_Compare_int_int_B0, bif_decide, if_pos (show (i : Int) < (a.length : Int) by omega), if_neg (show ¬ (b.length : Int) ≤ (i : Int) by omega), guardB_true (inb_true (Int.natCast_nonneg i) (show (i : Int) < (a.length : Int) by omega)), guardB_true (inb_true (Int.natCast_nonneg i) (show (i : Int) < (b.length : Int) by omega)), Int.toNat_natCast, getD_at h1, getD_at h2, cmp_eq _ _, w64_succ (show i < 4611686018427387904 by omega)]
          by_cases h3 : a[i] < b[i]
          · simp [h3]
          · by_cases h4 : b[i] < a[i]
            · simp [h3, h4]
            · simp [h3, h4]
        by_cases h3 : a[i] < b[i]
        · simp only [if_pos h3] at e ⊢
          exact ⟨_, loop_end e, .inl rfl⟩
        · by_cases h4 : b[i] < a[i]
          · simp only [if_neg h3, if_pos h4] at e ⊢
            exact ⟨_, loop_end e, .inl rfl⟩
          · simp only [if_neg h3, if_neg h4, if_pos] at e ⊢
            obtain ⟨q, q1, q2⟩ := ih (i + 1) (by omega)
            refine ⟨q, loop_step e q1, q2.imp id fun ⟨r1, r2⟩ => ⟨r1, fun _ => r2 (by omega)⟩⟩
      · refine ⟨_, loop_end (q := .inl ((1, ()), ())) (by simp [slices_Compare_int_int_B0, inb_nat, guardB, h1, show b.length ≤ i by omega]), .inl ?_⟩
        rw [List.drop_eq_nil_of_le (show b.length ≤ i by omega), List.drop_eq_getElem_cons h1]
        rfl
  obtain ⟨q, q1, q2⟩ := key a.length 0 (by omega)
  simp only [slices_Compare_int_int]
  erw [q1]
  simp only [List.drop_zero] at q2
  rcases q2 with rfl | ⟨rfl, q2⟩
  · rfl
  · rw [q2 (Nat.zero_le _)]
    simp only [bif_decide, Int.ofNat_lt]
    split <;> rfl

def edgeB (a b : Int × Int) : Bool := decide (a.1 < b.1) || (decide (a.1 = b.1) && decide (a.2 < b.2))
theorem l2Edge_eq (a b : Int × Int) : spec_l2Edge (a, b, ()) () = some ((edgeB a b, ()), ()) := by
  simp only [spec_l2Edge, edgeB]
  by_cases h : a.1 < b.1
  · simp [h]
  · by_cases h2 : a.1 = b.1
    · simp [h, h2]
    · simp [h, h2, beq_ne h2]
theorem cmpOr_eq (x y : Int) : cmp_Or_int ([x, y], ()) () = some (((if x = 0 then y else x), ()), ()) := by
  simp only [cmp_Or_int]
  have e0 : cmp_Or_int_B0 ((0, [x, y], ([x, y].length : Int), 0, ()), ()) = some (if x = 0 then .inl ((0, [x, y], ([x, y].length : Int), 1, ()), ()) else .inr (.inl ((x, ()), ()))) := by
    by_cases h : x = 0
    · simp [cmp_Or_int_B0, inb, guardB, h]; rfl
    · simp [cmp_Or_int_B0, inb, guardB, h, bne_ne h]
  have e1 : cmp_Or_int_B0 ((0, [x, y], ([x, y].length : Int), 1, ()), ()) = some (if y = 0 then .inl ((0, [x, y], ([x, y].length : Int), 2, ()), ()) else .inr (.inl ((y, ()), ()))) := by
    by_cases h : y = 0
    · simp [cmp_Or_int_B0, inb, guardB, h]; rfl
    · simp [cmp_Or_int_B0, inb, guardB, h, bne_ne h]
  have e2 : cmp_Or_int_B0 ((0, [x, y], ([x, y].length : Int), 2, ()), ()) = some (.inr (.inr ((0, ()), ()))) := by
    simp [cmp_Or_int_B0]
  by_cases h : x = 0
  · rw [if_pos h] at e0 ⊢
    by_cases g : y = 0
    · rw [if_pos g] at e1
      rw [loop_step e0 (loop_step e1 (loop_end e2)), g]
    · rw [if_neg g] at e1
      rw [loop_step e0 (loop_end e1)]
  · rw [if_neg h] at e0 ⊢
    rw [loop_end e0]
theorem comparePairs_eq (a b : Int × Int) : ∃ r : Int, impl_comparePairs (a, b, ()) () = some ((r, ()), ()) ∧ (decide ((0 : Int) ≤ r) = !edgeB a b) ∧ (r = 0 ↔ a = b) := by
  obtain ⟨a1, a2⟩ := a
  obtain ⟨b1, b2⟩ := b
  simp only [impl_comparePairs, cmp_eq _ _, cmpOr_eq _ _]
  refine ⟨_, rfl, ?_, ?_⟩
  · simp only [edgeB]
    by_cases h : a1 < b1
    · simp [h]
    · by_cases h2 : b1 < a1
      · have : ¬ a1 = b1 := by omega
        simp [h, h2, this]
      · have : a1 = b1 := by omega
        subst this
        by_cases h3 : a2 < b2
        · simp [h3]
        · by_cases h4 : b2 < a2 <;> simp [h3, h4]
  · simp only [Prod.mk.injEq]
    by_cases h : a1 < b1
    · simp [h]; omega
    · by_cases h2 : b1 < a1
      · simp [h, h2]; omega
      · have : a1 = b1 := by omega
        subst this
        by_cases h3 : a2 < b2
        · simp [h3]; omega
        · by_cases h4 : b2 < a2
          · simp [h3, h4]; omega
          · simp [h3, h4]; omega
def pairB (l : List (Int × Int)) (n : Int) (i : Nat) : Bool :=
  decide (0 ≤ (l.getD i (0, 0)).1) && (decide ((l.getD i (0, 0)).1 < (l.getD i (0, 0)).2) && (decide ((l.getD i (0, 0)).2 < n) && (decide (i = 0) || edgeB (l.getD (i - 1) (0, 0)) (l.getD i (0, 0)))))
def pairsB (l : List (Int × Int)) (n : Int) : Bool := allUpto (pairB l n) l.length
theorem l2Pairs_eq (l : List (Int × Int)) (n : Int) (hl : l.length ≤ 1048576) (h0 : -1048576 ≤ n) (hn : n ≤ 1048576) : spec_l2Pairs (l, n, ()) () = some ((pairsB l n, ()), ()) := by
  have key := loop_all (B := spec_l2Pairs_B0) (fun i => ((l, n, (i : Int), ()), ())) (pairB l n) l.length (.inl ((false, ()), ())) (.inr ((), ())) (fun i hi _ => by
    obtain ⟨e, he⟩ : ∃ e : Int × Int, l.getD i (0, 0) = e := ⟨_, rfl⟩
    simp only [spec_l2Pairs_B0, bif_decide, if_pos (show (i : Int) < (l.length : Int) by omega), guardB_true (inb_true (Int.natCast_nonneg i) (show (i : Int) < (l.length : Int) by omega)), Int.toNat_natCast, l1In_eq _ _ _, w64_succ (show i < 4611686018427387904 by omega), w64_of (x := n - 1) (by omega) (by omega), pairB, inR, he]
    by_cases h1 : 0 ≤ e.1
    · by_cases h2 : e.1 ≤ n - 1
      · by_cases h3 : 0 ≤ e.2
        · by_cases h4 : e.2 ≤ n - 1
          · by_cases h5 : e.2 ≤ e.1
            · simp [h1, h2, h3, h4, h5, show ¬ e.1 < e.2 by omega]
            · by_cases h6 : i = 0
              · subst h6
                simp [h1, h2, h3, h4, h5, show e.1 < e.2 by omega, show e.2 < n by omega]
              · rw [w64_pred (by omega) (by omega), guardB_true (inb_true (Int.natCast_nonneg _) (show ((i - 1 : Nat) : Int) < (l.length : Int) by omega)), Int.toNat_natCast, l2Edge_eq]
                cases edgeB (l.getD (i - 1) (0, 0)) e <;> simp [h1, h2, h3, h4, h5, h6, show e.1 < e.2 by omega, show e.2 < n by omega, show 0 < i by omega]
          · simp [h1, h2, h3, h4, show ¬ e.2 < n by omega]
        · simp [h1, h2, h3, show ¬ e.1 < e.2 by omega]
      · simp only [h1, h2, decide_true, decide_false, Bool.and_false, Bool.not_false, cond_true, Bool.true_and]
        by_cases h3 : e.1 < e.2
        · simp [h3, show ¬ e.2 < n by omega]
        · simp [h3]
    · simp [h1]) (by simp [spec_l2Pairs_B0])
  simp only [spec_l2Pairs]
  erw [key]
  simp only [pairsB]
  cases allUpto (pairB l n) l.length <;> rfl
theorem isPairs_eq (l : List (Int × Int)) (n : Int) (hl : l.length ≤ 1048576) : impl_isPairs (l, n, ()) () = some ((pairsB l n, ()), ()) := by
  have key := loop_all (B := impl_isPairs_B0) (fun i => ((l, n, l, (l.length : Int), (i : Int), ()), ())) (pairB l n) l.length (.inl ((false, ()), ())) (.inr ((), ())) (fun i hi _ => by
    obtain ⟨e, he⟩ : ∃ e : Int × Int, l.getD i (0, 0) = e := ⟨_, rfl⟩
    simp only [impl_isPairs_B0, bif_decide, if_pos (show (i : Int) < (l.length : Int) by omega), guardB_true (inb_true (Int.natCast_nonneg i) (show (i : Int) < (l.length : Int) by omega)), Int.toNat_natCast, w64_succ (show i < 4611686018427387904 by omega), pairB, he]
    by_cases h1 : e.1 < 0
    · simp [h1, show ¬ 0 ≤ e.1 by omega]
    · by_cases h2 : e.2 ≤ e.1
      · simp [h1, h2, show ¬ e.1 < e.2 by omega]
      · by_cases h3 : n ≤ e.2
        · simp [h1, h2, h3, show ¬ e.2 < n by omega]
        · by_cases h6 : i = 0
          · subst h6
            simp [h1, h2, h3, show 0 ≤ e.1 by omega, show e.1 < e.2 by omega, show e.2 < n by omega]
          · obtain ⟨r, r1, r2, _⟩ := comparePairs_eq (l.getD (i - 1) (0, 0)) e
            rw [w64_pred (by omega) (by omega), guardB_true (inb_true (Int.natCast_nonneg _) (show ((i - 1 : Nat) : Int) < (l.length : Int) by omega)), Int.toNat_natCast, r1]
            simp only [if_neg h1, if_neg h2, if_neg h3, if_pos (show (0 : Int) < (i : Int) by omega), ← bif_decide, r2]
            cases edgeB (l.getD (i - 1) (0, 0)) e <;> simp [h6, show 0 ≤ e.1 by omega, show e.1 < e.2 by omega, show e.2 < n by omega]) (by simp [impl_isPairs_B0])
  simp only [impl_isPairs]
  erw [key]
  simp only [pairsB]
  cases allUpto (pairB l n) l.length <;> rfl

def stateB (L : List (List Int)) (i : Nat) : Bool := goodState (L.getD i []) && (decide (i = 0) || lexLt (L.getD (i - 1) []) (L.getD i []))
def spaceB (x : List (List Int) × List (Int × Int)) : Bool := decide (x.1.length ≤ 300) && (decide (x.2.length ≤ 6000) && (allUpto (stateB x.1) x.1.length && pairsB x.2 x.1.length))
theorem l2Space_eq (x : List (List Int) × List (Int × Int)) (hx : Few x) : spec_l2Space (x, ()) () = some ((spaceB x, ()), ()) := by
  obtain ⟨L, S⟩ := x
  have hL := hx.states
  have hs := hx.state
  have hS := hx.steps
  dsimp only at hL hs hS
  have hlen : ∀ i, i < L.length → (L.getD i []).length ≤ 1048576 := fun i hi => by rw [getD_at hi]; exact hs _ (List.getElem_mem hi)
  have key := loop_all (B := spec_l2Space_B0) (fun i => (((L, S), (i : Int), ()), ())) (stateB L) L.length (.inl ((false, ()), ())) (.inr (((L, S), ()), ())) (fun i hi _ => by
    simp only [spec_l2Space_B0, bif_decide, if_pos (show (i : Int) < (L.length : Int) by omega), guardB_true (inb_true (Int.natCast_nonneg i) (show (i : Int) < (L.length : Int) by omega)), Int.toNat_natCast, l2State_eq _ (hlen i hi), w64_succ (show i < 4611686018427387904 by omega), stateB]
    by_cases h6 : i = 0
    · subst h6
      cases goodState (L.getD 0 []) <;> simp
    · rw [w64_pred (by omega) (by omega), guardB_true (inb_true (Int.natCast_nonneg _) (show ((i - 1 : Nat) : Int) < (L.length : Int) by omega)), Int.toNat_natCast, l2Before_eq _ _ (hlen (i - 1) (by omega))]
      cases goodState (L.getD i []) <;> cases lexLt (L.getD (i - 1) []) (L.getD i []) <;> simp [h6, show 0 < i by omega]) (by simp [spec_l2Space_B0])
  simp only [spec_l2Space, bif_decide, spaceB]
  by_cases h1 : L.length ≤ 300
  · rw [if_neg (by omega)]
    by_cases h2 : S.length ≤ 6000
    · rw [if_neg (by omega)]
      erw [key]
      simp only [h1, h2, decide_true, Bool.true_and]
      cases h3 : allUpto (stateB L) L.length
      · rfl
      · simp only [cond_true, l2Pairs_eq S (L.length : Int) hS (by omega) (by omega), Bool.true_and]
    · rw [if_pos (by omega)]; simp [h2]
  · rw [if_pos (by omega)]; simp [h1]
theorem IsSpace_eq (x : List (List Int) × List (Int × Int)) (hx : Few x) : impl_IsSpace (x, ()) () = some ((spaceB x, ()), ()) := by
  obtain ⟨L, S⟩ := x
  have hL := hx.states
  have hs := hx.state
  have hS := hx.steps
  dsimp only at hL hs hS
  have hlen : ∀ i, i < L.length → (L.getD i []).length ≤ 1048576 := fun i hi => by rw [getD_at hi]; exact hs _ (List.getElem_mem hi)
  have key := loop_all (B := impl_IsSpace_B0) (fun i => (((L, S), L, (L.length : Int), (i : Int), ()), ())) (stateB L) L.length (.inl ((false, ()), ())) (.inr (((L, S), ()), ())) (fun i hi _ => by
    simp only [impl_IsSpace_B0, if_pos (show (i : Int) < (L.length : Int) by omega), guardB_true (inb_true (Int.natCast_nonneg i) (show (i : Int) < (L.length : Int) by omega)), Int.toNat_natCast, isState_eq _ (hlen i hi), w64_succ (show i < 4611686018427387904 by omega), stateB]
    by_cases h6 : i = 0
    · subst h6
      cases goodState (L.getD 0 []) <;> simp [hi]
    · rw [w64_pred (by omega) (by omega), guardB_true (inb_true (Int.natCast_nonneg _) (show ((i - 1 : Nat) : Int) < (L.length : Int) by omega)), Int.toNat_natCast, Compare_eq _ _ (hlen (i - 1) (by omega))]
      simp only [lexCmp_lt]
      cases goodState (L.getD i []) <;> cases lexLt (L.getD (i - 1) []) (L.getD i []) <;> simp [h6, hi, show 0 < i by omega]) (by simp [impl_IsSpace_B0])
  simp only [impl_IsSpace, bif_decide, spaceB]
  by_cases h1 : L.length ≤ 300
  · rw [if_neg (by omega)]
    by_cases h2 : S.length ≤ 6000
    · rw [if_neg (by omega)]
      erw [key]
      simp only [h1, h2, decide_true, Bool.true_and]
      cases h3 : allUpto (stateB L) L.length
      · rfl
      · simp only [cond_true, isPairs_eq S (L.length : Int) hS, Bool.true_and]
    · rw [if_pos (by omega)]; simp [h2]
  · rw [if_pos (by omega)]; simp [h1]

theorem sort_sorted (l : List Int) : (l.mergeSort fun a b => decide (a ≤ b)).Pairwise (· ≤ ·) := by
  have := List.pairwise_mergeSort (le := fun a b : Int => decide (a ≤ b)) (fun a b c h1 h2 => by simp at *; omega) (fun a b => by simp; omega) l
  exact this.imp fun h => by simpa using h
theorem isPlace_eq (x : List (List Int) × List (Int × Int)) (i : Int) (hx : x.1.length ≤ 1048576) : impl_Space_isPlace (x, i, ()) () = some ((inR i 0 ((x.1.length : Int) - 1), ()), ()) := by
  simp only [impl_Space_isPlace, between_eq _ _ _, w64_of (x := (x.1.length : Int) - 1) (by omega) (by omega)]
theorem firstIdx_range {p : Nat → Bool} : ∀ (d k : Nat), firstIdx p k d < 0 → firstIdx p k d = -1
  | 0, k, _ => rfl
  | d + 1, k, h => by
    simp only [firstIdx] at h ⊢
    split
    · rename_i g; rw [if_pos g] at h; omega
    · rename_i g; rw [if_neg g] at h; exact firstIdx_range d (k + 1) h
def rows {α : Type} (n : Nat) (F : Nat → α) : List α := (List.range n).map F
theorem rows_len {α : Type} {n : Nat} {F : Nat → α} : (rows n F).length = n := by simp [rows]
theorem rows_get {α : Type} {n i : Nat} {F : Nat → α} (h : i < n) (d : α) : (rows n F).getD i d = F i := by simp [rows, List.getD, h]
theorem rows_set {α : Type} {n i : Nat} {F : Nat → α} (v : α) : (rows n F).set i v = rows n (fun j => if j = i then v else F j) := by
  apply List.ext_getElem
  · simp [rows]
  · intro j h1 h2
    simp only [rows, List.getElem_set, List.getElem_map, List.getElem_range]
    by_cases h : i = j
    · subst h; simp
    · rw [if_neg h, if_neg (fun e => h e.symm)]
theorem rows_congr {α : Type} {n : Nat} {F G : Nat → α} (h : ∀ j, j < n → F j = G j) : rows n F = rows n G := by
  apply List.map_congr_left
  intro j hj
  exact h j (by simpa using hj)
theorem rows_rep {α : Type} {n : Nat} (d : α) : List.replicate n d = rows n (fun _ => d) := by
  apply List.ext_getElem
  · simp [rows]
  · intro j h1 h2; simp [rows]
theorem take_one {α : Type} {l : List α} {i : Nat} (h : i < l.length) (d : α) : l.take (i + 1) = l.take i ++ [l.getD i d] := by
  rw [getD_at h, List.take_succ_eq_append_getElem h]
def inc (S : List (Int × Int)) (j : Nat) : List Int := (S.filter fun e => decide (e.2 = (j : Int))).map (·.1)
def outg (S : List (Int × Int)) (j : Nat) : List Int := (S.filter fun e => decide (e.1 = (j : Int))).map (·.2)
def nbr (S : List (Int × Int)) (j : Nat) : List Int := inc S j ++ outg S j
def listsP (S : List (Int × Int)) (n : Nat) : List (List Int) := rows n (nbr S)
theorem inc_len (T : List (Int × Int)) (j : Nat) : (inc T j).length ≤ T.length := by simp only [inc, List.length_map]; exact List.length_filter_le _ _
theorem outg_len (T : List (Int × Int)) (j : Nat) : (outg T j).length ≤ T.length := by simp only [outg, List.length_map]; exact List.length_filter_le _ _
/-- steps: pairs of places -/
def StepsOk (S : List (Int × Int)) (n : Nat) : Prop := ∀ i, i < S.length → ∃ a b : Nat, S.getD i (0, 0) = ((a : Int), (b : Int)) ∧ a < b ∧ b < n
theorem pairsB_at {S : List (Int × Int)} {n : Nat} (h : pairsB S n = true) (i : Nat) (hi : i < S.length) : pairB S n i = true := allUpto_iff.1 h i hi
theorem pairsB_ok {S : List (Int × Int)} {n : Nat} (h : pairsB S n = true) : StepsOk S n := by
  intro i hi
  have := pairsB_at h i hi
  simp only [pairB, Bool.and_eq_true, decide_eq_true_eq] at this
  obtain ⟨h1, h2, h3, _⟩ := this
  generalize S.getD i (0, 0) = e at h1 h2 h3
  obtain ⟨a, b⟩ := e
  simp only at h1 h2 h3
  exact ⟨a.toNat, b.toNat, by rw [Int.toNat_of_nonneg h1, Int.toNat_of_nonneg (by omega)], by omega, by omega⟩
theorem edge_lt {S : List (Int × Int)} {n : Nat} (h : pairsB S n = true) : ∀ d i, i + 1 + d < S.length → edgeB (S.getD i (0, 0)) (S.getD (i + 1 + d) (0, 0)) = true := by
  have one : ∀ i, i + 1 < S.length → edgeB (S.getD i (0, 0)) (S.getD (i + 1) (0, 0)) = true := by
    intro i hi
    have := pairsB_at h (i + 1) hi
    simp only [pairB, Bool.and_eq_true, Bool.or_eq_true, decide_eq_true_eq] at this
    rcases this.2.2.2 with h0 | h0
    · omega
    · simpa using h0
  have tr : ∀ a b c : Int × Int, edgeB a b = true → edgeB b c = true → edgeB a c = true := by
    intro a b c h1 h2
    simp only [edgeB, Bool.or_eq_true, Bool.and_eq_true, decide_eq_true_eq] at *
    omega
  intro d
  induction d with
  | zero => intro i hi; exact one i hi
  | succ d ih => intro i hi; exact tr _ _ _ (ih i (by omega)) (one (i + 1 + d) hi)
theorem steps_pairwise {S : List (Int × Int)} {n : Nat} (h : pairsB S n = true) : S.Pairwise fun a b => edgeB a b = true := by
  rw [List.pairwise_iff_getElem]
  intro i j hi hj hij
  have := edge_lt h (j - i - 1) i (by omega)
  rw [show i + 1 + (j - i - 1) = j by omega, getD_at hi, getD_at hj] at this
  exact this
theorem steps_mem {S : List (Int × Int)} {n : Nat} (h : StepsOk S n) {e : Int × Int} (he : e ∈ S) : 0 ≤ e.1 ∧ e.1 < e.2 ∧ e.2 < n := by
  obtain ⟨i, hi, rfl⟩ := List.getElem_of_mem he
  obtain ⟨a, b, h1, h2, h3⟩ := h i hi
  rw [getD_at hi] at h1
  rw [h1]
  simp only
  omega
theorem nbr_sorted {S : List (Int × Int)} {n : Nat} (h : pairsB S n = true) (j : Nat) : (nbr S j).Pairwise (· < ·) := by
  have hp := steps_pairwise h
  have hok := pairsB_ok h
  rw [nbr, List.pairwise_append]
  refine ⟨?_, ?_, ?_⟩
  · rw [inc, List.pairwise_map]
    refine ((hp.sublist List.filter_sublist).imp_of_mem fun {a b} ha hb hab => ?_)
    simp only [List.mem_filter, decide_eq_true_eq] at ha hb
    simp only [edgeB, Bool.or_eq_true, Bool.and_eq_true, decide_eq_true_eq] at hab
    omega
  · rw [outg, List.pairwise_map]
    refine ((hp.sublist List.filter_sublist).imp_of_mem fun {a b} ha hb hab => ?_)
    simp only [List.mem_filter, decide_eq_true_eq] at ha hb
    simp only [edgeB, Bool.or_eq_true, Bool.and_eq_true, decide_eq_true_eq] at hab
    omega
  · intro a ha b hb
    simp only [inc, outg, List.mem_map, List.mem_filter, decide_eq_true_eq] at ha hb
    obtain ⟨e, ⟨he, e1⟩, rfl⟩ := ha
    obtain ⟨f, ⟨hf, f1⟩, rfl⟩ := hb
    have := steps_mem hok he
    have := steps_mem hok hf
    omega
def raw (S : List (Int × Int)) (j : Nat) : List Int := S.flatMap fun e => (if e.1 = (j : Int) then [e.2] else []) ++ (if e.2 = (j : Int) then [e.1] else [])
theorem raw_perm : ∀ (S : List (Int × Int)) (j : Nat), (raw S j).Perm (nbr S j)
  | [], j => by simp [raw, nbr, inc, outg]
  | e :: S, j => by
    have ih := raw_perm S j
    simp only [raw, List.flatMap_cons] at ih ⊢
    simp only [nbr, inc, outg, List.filter_cons] at ih ⊢
    by_cases h1 : e.1 = (j : Int)
    · by_cases h2 : e.2 = (j : Int)
      · simp only [h1, h2, if_true, decide_true, List.map_cons, List.cons_append, List.nil_append]
        exact ((ih.cons (j : Int)).cons (j : Int)).trans (List.perm_middle.symm.cons _)
      · simp only [h1, h2, if_true, if_false, decide_true, decide_false, List.map_cons, List.cons_append, List.nil_append, List.append_nil, Bool.false_eq_true]
        exact (ih.cons _).trans List.perm_middle.symm
    · by_cases h2 : e.2 = (j : Int)
      · simp only [h1, h2, if_true, if_false, decide_true, decide_false, List.map_cons, List.cons_append, List.nil_append, List.append_nil, Bool.false_eq_true]
        exact ih.cons _
      · simp only [h1, h2, if_false, decide_false, List.nil_append, Bool.false_eq_true]
        exact ih
theorem sort_of_perm {l k : List Int} (h : l.Perm k) (hk : k.Pairwise (· < ·)) : l.mergeSort (fun a b => decide (a ≤ b)) = k := by
  refine List.Perm.eq_of_pairwise (le := (· ≤ ·)) ?_ (sort_sorted l) (hk.imp fun h => Int.le_of_lt h) ((List.mergeSort_perm l _).trans h)
  intro a b _ _ h1 h2
  omega
theorem raw_snoc (T : List (Int × Int)) (a b j : Nat) (hab : a < b) : raw (T ++ [((a : Int), (b : Int))]) j = if j = b then raw T j ++ [(a : Int)] else if j = a then raw T j ++ [(b : Int)] else raw T j := by
  simp only [raw, List.flatMap_append, List.flatMap_cons, List.flatMap_nil, List.append_nil]
  by_cases h : j = b
  · subst h; simp [show ¬ (a : Int) = (j : Int) by omega]
  · by_cases h2 : j = a
    · subst h2; simp [show ¬ (b : Int) = (j : Int) by omega, h]
    · simp [h, h2, show ¬ (b : Int) = (j : Int) by omega, show ¬ (a : Int) = (j : Int) by omega]
theorem raw_len (T : List (Int × Int)) (j : Nat) : (raw T j).length ≤ 2 * T.length := by
  rw [(raw_perm T j).length_eq, nbr, List.length_append]
  have := inc_len T j
  have := outg_len T j
  omega
theorem roads_eq (x : List (List Int) × List (Int × Int)) (hp : pairsB x.2 x.1.length = true) (hn : x.1.length ≤ 1048576) (hs : x.2.length ≤ 1048576) : impl_Space_roads (x, ()) () = some ((listsP x.2 x.1.length, ()), ()) := by
  obtain ⟨L, S⟩ := x
  simp only at hp hn hs
  have hS := pairsB_ok hp
  simp only [impl_Space_roads, guardB_true (fold_len hn).2.1, Int.toNat_natCast]
  have k0 : loopO impl_Space_roads_B0 ((rows L.length (raw (S.take 0)), S, (S.length : Int), ((0 : Nat) : Int), ()), ()) = some ((rows L.length (raw (S.take S.length)), ()), ()) := by
    refine loop_count (fun i => ((rows L.length (raw (S.take i)), S, (S.length : Int), (i : Int), ()), ())) S.length _ (fun i hi => ?_) ?_ 0 (Nat.zero_le _)
    · obtain ⟨a, b, he, hab, hb⟩ := hS i hi
      have hl := fun j => raw_len (S.take i) j
      simp only [List.length_take] at hl
      have g1 : decide ((List.length (raw (S.take i) a) + List.length [(b : Int)]) * 8 ≤ 70368744177664) = true := by
        have := hl a
        simp only [List.length_singleton, decide_eq_true_eq]
        omega
      have g2 : decide ((List.length (raw (S.take i) b) + List.length [(a : Int)]) * 8 ≤ 70368744177664) = true := by
        have := hl b
        simp only [List.length_singleton, decide_eq_true_eq]
        omega
      simp only [impl_Space_roads_B0, bif_decide, if_pos (show (i : Int) < (S.length : Int) by omega), guardB_true (inb_true (Int.natCast_nonneg i) (show (i : Int) < (S.length : Int) by omega)), Int.toNat_natCast, he, rows_len, guardB_true (inb_true (Int.natCast_nonneg a) (show (a : Int) < (L.length : Int) by omega)), guardB_true (inb_true (Int.natCast_nonneg b) (show (b : Int) < (L.length : Int) by omega)), rows_get (show a < L.length by omega), rows_get (show b < L.length by omega), Nat.beq_refl, Bool.and_self, guardB_true rfl, w64_succ (show i < 4611686018427387904 by omega), rows_set, if_neg (show ¬ b = a by omega), guardB_true g1, guardB_true g2]
      rw [take_one hi (0, 0), he]
      have : rows L.length (fun j => if j = b then raw (S.take i) b ++ [(a : Int)] else if j = a then raw (S.take i) a ++ [(b : Int)] else raw (S.take i) j) = rows L.length (raw (S.take i ++ [((a : Int), (b : Int))])) := rows_congr fun j _ => by
        rw [raw_snoc _ _ _ _ hab]
        by_cases h : j = b
        · subst h; rw [if_pos rfl, if_pos rfl]
        · by_cases h2 : j = a
          · subst h2; simp [h]
          · simp only [if_neg h, if_neg h2]
      rw [this]
    · simp only [impl_Space_roads_B0, bif_decide, if_neg (show ¬ (S.length : Int) < (S.length : Int) by omega)]
  have k1 : loopO impl_Space_roads_B1 ((rows L.length (fun j => if j < 0 then nbr S j else raw S j), (L.length : Int), ((0 : Nat) : Int), ()), ()) = some ((rows L.length (fun j => if j < L.length then nbr S j else raw S j), ()), ()) := by
    refine loop_count (fun i => ((rows L.length (fun j => if j < i then nbr S j else raw S j), (L.length : Int), (i : Int), ()), ())) L.length _ (fun i hi => ?_) ?_ 0 (Nat.zero_le _)
    · have hl := raw_len S i
      simp only [impl_Space_roads_B1, bif_decide, if_pos (show (i : Int) < (L.length : Int) by omega), rows_len, guardB_true (inb_true (Int.natCast_nonneg i) (show (i : Int) < (L.length : Int) by omega)), Int.toNat_natCast, rows_get hi, if_neg (show ¬ i < i by omega), slices_Sort_int_int, sortFn]
      rw [guardB_true (by simp only [decide_eq_true_eq]; omega)]
      simp only [sort_of_perm (raw_perm S i) (nbr_sorted hp i), rows_set, w64_succ (show i < 4611686018427387904 by omega)]
      have : rows L.length (fun j => if j = i then nbr S i else if j < i then nbr S j else raw S j) = rows L.length (fun j => if j < i + 1 then nbr S j else raw S j) := rows_congr fun j _ => by
        by_cases h : j = i
        · subst h; rw [if_pos rfl, if_pos (by omega)]
        · by_cases h2 : j < i
          · rw [if_neg h, if_pos h2, if_pos (by omega)]
          · rw [if_neg h, if_neg h2, if_neg (by omega)]
      rw [this]
    · simp only [impl_Space_roads_B1, bif_decide, if_neg (show ¬ (L.length : Int) < (L.length : Int) by omega)]
  rw [List.take_length] at k0
  have z0 : rows L.length (raw (S.take 0)) = List.replicate L.length [] := by rw [rows_rep]; exact rows_congr fun j _ => rfl
  have z1 : rows L.length (fun j => if j < 0 then nbr S j else raw S j) = rows L.length (raw S) := rows_congr fun j _ => by simp
  have z2 : rows L.length (fun j => if j < L.length then nbr S j else raw S j) = rows L.length (nbr S) := rows_congr fun j hj => by simp [hj]
  rw [z0] at k0
  rw [z1, z2] at k1
  erw [k0]
  simp only [rows_len]
  erw [k1]
  rfl

def iota (k : Int) (n : Nat) : List Int := rows n fun i => k + (i : Int)
def tot : List (List Int) → Nat
  | [] => 0
  | l :: L => l.length + tot L
def iotas (k : Int) : List (List Int) → List (List Int)
  | [] => []
  | l :: L => iota k l.length :: iotas (k + (l.length : Int)) L
theorem tot_snoc : ∀ (L : List (List Int)) (l : List Int), tot (L ++ [l]) = tot L + l.length
  | [], l => by simp [tot]
  | x :: L, l => by simp only [List.cons_append, tot, tot_snoc L l]; omega
theorem iotas_snoc : ∀ (L : List (List Int)) (l : List Int) (k : Int), iotas k (L ++ [l]) = iotas k L ++ [iota (k + (tot L : Int)) l.length]
  | [], l, k => by simp [iotas, tot]
  | x :: L, l, k => by
    simp only [List.cons_append, iotas, tot, iotas_snoc L l]
    rw [show k + (x.length : Int) + (tot L : Int) = k + ((x.length + tot L : Nat) : Int) by omega]
theorem iotas_len : ∀ (L : List (List Int)) (k : Int), (iotas k L).length = L.length
  | [], k => rfl
  | x :: L, k => by simp [iotas, iotas_len L]
theorem tot_take (L : List (List Int)) : ∀ i, tot (L.take i) ≤ tot L
  | 0 => by simp [tot]
  | i + 1 => by
    cases L with
    | nil => simp [tot]
    | cons x L =>
      simp only [List.take_succ_cons, tot]
      have := tot_take L i
      omega
theorem tot_bound {m : Nat} : ∀ (L : List (List Int)), (∀ l ∈ L, l.length ≤ m) → tot L ≤ L.length * m
  | [], _ => by simp [tot]
  | x :: L, h => by
    simp only [tot, List.length_cons, Nat.add_mul, Nat.one_mul]
    have := tot_bound L fun l hl => h l (by simp [hl])
    have := h x (by simp)
    omega
theorem w64_nat {x : Int} (h0 : 0 ≤ x) (h : x ≤ 4611686018427387904) : w64 (x + 1) = x + 1 := w64_of (by omega) (by omega)
theorem markIntS_eq (l : List Int) (k : Int) (h0 : 0 ≤ k) (hk : k + (l.length : Int) ≤ 4611686018427387000) : laws_markIntS_e0v_ls (k, ()) (l, ()) = some ((k + (l.length : Int), ()), (iota k l.length, ())) := by
  have key := loop_count (B := laws_markIntS_e0v_ls_B0) (fun i => ((k + (i : Int), (i : Int), ()), (rows l.length (fun j => if j < i then k + (j : Int) else l.getD j 0), ()))) l.length ((k + (l.length : Int), ()), (rows l.length (fun j => if j < l.length then k + (j : Int) else l.getD j 0), ())) (fun i hi => by
    simp only [laws_markIntS_e0v_ls_B0, rows_len, bif_decide, if_pos (show (i : Int) < (l.length : Int) by omega), guardB_true (inb_true (Int.natCast_nonneg i) (show (i : Int) < (l.length : Int) by omega)), Int.toNat_natCast, w64_succ (show i < 4611686018427387904 by omega), w64_nat (x := k + (i : Int)) (by omega) (by omega), rows_set]
    have : rows l.length (fun j => if j = i then k + (i : Int) else if j < i then k + (j : Int) else l.getD j 0) = rows l.length (fun j => if j < i + 1 then k + (j : Int) else l.getD j 0) := rows_congr fun j _ => by
      by_cases h : j = i
      · subst h; rw [if_pos rfl, if_pos (by omega)]
      · by_cases h2 : j < i
        · rw [if_neg h, if_pos h2, if_pos (by omega)]
        · rw [if_neg h, if_neg h2, if_neg (by omega)]
    rw [this, show k + (i : Int) + 1 = k + ((i + 1 : Nat) : Int) by omega]) (by simp only [laws_markIntS_e0v_ls_B0, rows_len, bif_decide, if_neg (show ¬ (l.length : Int) < (l.length : Int) by omega)]) 0 (Nat.zero_le _)
  have z0 : rows l.length (fun j => if j < 0 then k + (j : Int) else l.getD j 0) = l := by
    rw [show rows l.length (fun j => if j < 0 then k + (j : Int) else l.getD j 0) = rows l.length (fun j => l.getD j 0) from rows_congr fun j _ => by simp]
    exact range_getD l 0
  have z1 : rows l.length (fun j => if j < l.length then k + (j : Int) else l.getD j 0) = iota k l.length := rows_congr fun j hj => by simp [hj]
  rw [z0, z1] at key
  simp only [laws_markIntS_e0v_ls]
  rw [show k + ((0 : Nat) : Int) = k by omega] at key
  erw [key]
theorem heldIntS_eq (n : Nat) (k : Int) (h0 : 0 ≤ k) (hk : k + (n : Int) ≤ 4611686018427387000) : laws_heldIntS (iota k n, k, ()) () = some ((k + (n : Int), ()), ()) := by
  have key := loop_count (B := laws_heldIntS_B0) (fun i => ((iota k n, k + (i : Int), (i : Int), ()), ())) n (.inr ((k + (n : Int), ()), ())) (fun i hi => by
    simp only [laws_heldIntS_B0, iota, rows_len, bif_decide, if_pos (show (i : Int) < (n : Int) by omega), guardB_true (inb_true (Int.natCast_nonneg i) (show (i : Int) < (n : Int) by omega)), Int.toNat_natCast, w64_succ (show i < 4611686018427387904 by omega), w64_nat (x := k + (i : Int)) (by omega) (by omega), rows_get hi]
    rw [bne_eq rfl, show k + (i : Int) + 1 = k + ((i + 1 : Nat) : Int) by omega]
    rfl) (by simp only [laws_heldIntS_B0, iota, rows_len, bif_decide, if_neg (show ¬ (n : Int) < (n : Int) by omega)]) 0 (Nat.zero_le _)
  simp only [laws_heldIntS]
  rw [show k + ((0 : Nat) : Int) = k by omega] at key
  erw [key]
theorem set_mid {α : Type} (A B : List α) (x y : α) : (A ++ x :: B).set A.length y = A ++ y :: B := by simp
theorem markIntSS_eq (L : List (List Int)) (k : Int) (h0 : 0 ≤ k) (hk : k + (tot L : Int) ≤ 4611686018427386000) (hL : L.length ≤ 2000000000000) : laws_markIntSS_e0v_l1 (k, ()) (L, ()) = some ((k + (tot L : Int), ()), (iotas k L, ())) := by
  have key := loop_count (B := laws_markIntSS_e0v_l1_B0) (fun i => ((k + (tot (L.take i) : Int), (i : Int), ()), (iotas k (L.take i) ++ L.drop i, ()))) L.length ((k + (tot (L.take L.length) : Int), ()), (iotas k (L.take L.length) ++ L.drop L.length, ())) (fun i hi => by
    have hlen : (iotas k (L.take i) ++ L.drop i).length = L.length := by simp only [List.length_append, iotas_len, List.length_take, List.length_drop]; omega
    have hli : (iotas k (L.take i)).length = i := by simp only [iotas_len, List.length_take]; omega
    have hget : (iotas k (L.take i) ++ L.drop i).getD i [] = L.getD i [] := by
      rw [getD_at hi, getD_at (by omega), List.getElem_append_right (by omega)]
      simp [hli]
    have ht := tot_take L (i + 1)
    rw [take_one hi [], tot_snoc] at ht
    simp only [laws_markIntSS_e0v_l1_B0, hlen, bif_decide, if_pos (show (i : Int) < (L.length : Int) by omega), guardB_true (inb_true (Int.natCast_nonneg i) (show (i : Int) < (L.length : Int) by omega)), Int.toNat_natCast, hget]
    rw [markIntS_eq _ _ (by omega) (by omega)]
    simp only [w64_succ (show i < 4611686018427387904 by omega)]
    have hset : (iotas k (L.take i) ++ L.drop i).set i (iota (k + (tot (L.take i) : Int)) (L.getD i []).length) = iotas k (L.take (i + 1)) ++ L.drop (i + 1) := by
      rw [List.drop_eq_getElem_cons hi, take_one hi [], iotas_snoc, List.append_assoc]
      have := set_mid (iotas k (L.take i)) (L.drop (i + 1)) L[i] (iota (k + (tot (L.take i) : Int)) (L.getD i []).length)
      rw [hli] at this
      rw [this]
      rfl
    rw [hset, take_one hi [], tot_snoc, show k + (tot (L.take i) : Int) + ((L.getD i []).length : Int) = k + ((tot (L.take i) + (L.getD i []).length : Nat) : Int) by omega]) (by
      have hlen : (iotas k (L.take L.length) ++ L.drop L.length).length = L.length := by simp only [List.length_append, iotas_len, List.length_take, List.length_drop]; omega
      simp only [laws_markIntSS_e0v_l1_B0, hlen, bif_decide, if_neg (show ¬ (L.length : Int) < (L.length : Int) by omega)]) 0 (Nat.zero_le _)
  simp only [List.take_length, List.drop_length, List.append_nil, List.take_zero, List.drop_zero, iotas, List.nil_append, tot] at key
  rw [show k + ((0 : Nat) : Int) = k by omega] at key
  simp only [laws_markIntSS_e0v_l1]
  erw [key]
theorem markA2_step (l : List (Int × Int)) (k : Int) (i : Nat) (hi : i < l.length) (h0 : 0 ≤ k) (hk : k ≤ 4611686018427387000) : ∃ l' : List (Int × Int), l'.length = l.length ∧ loopO laws_markIntA2S_e0v_ls_B0 ((k, (i : Int), 0, ()), (l, ())) = some ((k + 2, (i : Int), ()), (l', ())) := by
  have e0 : laws_markIntA2S_e0v_ls_B0 ((k, (i : Int), 0, ()), (l, ())) = some (.inl ((k + 1, (i : Int), 1, ()), (l.set i (k, (l.getD i (0, 0)).2), ()))) := by
    simp only [laws_markIntA2S_e0v_ls_B0, guardB_true (inb_true (Int.natCast_nonneg i) (show (i : Int) < (l.length : Int) by omega)), Int.toNat_natCast, w64_nat h0 (by omega)]
    rfl
  have e1 : laws_markIntA2S_e0v_ls_B0 ((k + 1, (i : Int), 1, ()), (l.set i (k, (l.getD i (0, 0)).2), ())) = some (.inl ((k + 2, (i : Int), 2, ()), ((l.set i (k, (l.getD i (0, 0)).2)).set i (((l.set i (k, (l.getD i (0, 0)).2)).getD i (0, 0)).1, k + 1), ()))) := by
    simp only [laws_markIntA2S_e0v_ls_B0, List.length_set, guardB_true (inb_true (Int.natCast_nonneg i) (show (i : Int) < (l.length : Int) by omega)), Int.toNat_natCast, w64_nat (x := k + 1) (by omega) (by omega)]
    rw [show k + 1 + 1 = k + 2 by omega]
    rfl
  refine ⟨_, ?_, loop_step e0 (loop_step e1 (loop_end rfl))⟩
  simp
theorem markA2S_eq (l : List (Int × Int)) (k : Int) (h0 : 0 ≤ k) (hk : k ≤ 4611686018000000000) (hl : l.length ≤ 1048576) : ∃ l' : List (Int × Int), laws_markIntA2S_e0v_ls (k, ()) (l, ()) = some ((k + 2 * (l.length : Int), ()), (l', ())) := by
  suffices h : ∀ d i, i + d = l.length → ∀ (m : List (Int × Int)) (k : Int), m.length = l.length → 0 ≤ k → k + 2 * (d : Int) ≤ 4611686018427387000 → ∃ l' : List (Int × Int), loopO laws_markIntA2S_e0v_ls_B1 ((k, (i : Int), ()), (m, ())) = some ((k + 2 * (d : Int), ()), (l', ())) by
    obtain ⟨l', h⟩ := h l.length 0 (by omega) l k rfl h0 (by omega)
    refine ⟨l', ?_⟩
    simp only [laws_markIntA2S_e0v_ls]
    erw [h]
  intro d
  induction d with
  | zero =>
    intro i hi m k hm h0 hk
    refine ⟨m, loop_end ?_⟩
    simp only [laws_markIntA2S_e0v_ls_B1, bif_decide, if_neg (show ¬ (i : Int) < (m.length : Int) by omega)]
    rw [show k + 2 * ((0 : Nat) : Int) = k by omega]
  | succ d ih =>
    intro i hi m k hm h0 hk
    obtain ⟨m', h1, h2⟩ := markA2_step m k i (by omega) h0 (by omega)
    obtain ⟨l', h3⟩ := ih (i + 1) (by omega) m' (k + 2) (by omega) (by omega) (by omega)
    refine ⟨l', ?_⟩
    rw [show k + 2 * ((d + 1 : Nat) : Int) = k + 2 + 2 * (d : Int) by omega]
    refine loop_step ?_ h3
    simp only [laws_markIntA2S_e0v_ls_B1, bif_decide, if_pos (show (i : Int) < (m.length : Int) by omega)]
    erw [h2]
    simp only [w64_succ (show i < 4611686018427387904 by omega)]
theorem markSpace_eq (x : List (List Int) × List (Int × Int)) (k : Int) (h : Few x) (h0 : 0 ≤ k) (hk : k ≤ 1000) : ∃ r : Int, laws_markSpace_op21v (x, k, ()) () = some ((r, ()), ()) ∧ 0 ≤ r ∧ r ≤ 2000000000000 := by
  obtain ⟨A, B⟩ := x
  have h1 := h.states
  have h2 := h.steps
  dsimp only at h1 h2
  have ht : tot A ≤ 1048576 * 1048576 := Nat.le_trans (tot_bound A (m := 1048576) h.state) (Nat.mul_le_mul_right _ h1)
  have e1 := markIntSS_eq A k h0 (by omega) (by omega)
  obtain ⟨l', e2⟩ := markA2S_eq B (k + (tot A : Int)) (by omega) (by omega) h2
  simp only [laws_markSpace_op21v, e1, e2]
  exact ⟨_, rfl, by omega, by omega⟩

theorem spec_l11Numbers_B0_at (list : List (Int)) (n : Int) (i : Int) : spec_l11Numbers_B0 ((list, n, i, ()), ()) = bif (decide (i < (List.length list : Int))) then (guardB (inb i (List.length list)) (match spec_l1In ((List.getD list (Int.toNat i) (0 : Int)), (0 : Int), (999 : Int), ()) () with | some ((r, ()), ()) => (bif (!r) then (some (.inr (.inl ((false, ()), ())))) else (some (.inl ((list, n, (w64 (i + (1 : Int))), ()), ())))) | none => none)) else (some (.inr (.inr ((list, n, ()), ())))) := rfl
theorem slices_IndexFunc_int_int_2_vf_impl_areLoads_1_B0_at (s : List (Int)) (t7 : Int) (t8 : Int) : slices_IndexFunc_int_int_2_vf_impl_areLoads_1_B0 ((s, t7, t8, ()), ()) = bif (decide (t8 < t7)) then (guardB (inb t8 (List.length s)) (match impl_areLoads_1 ((List.getD s (Int.toNat t8) (0 : Int)), ()) () with | some ((r, ()), ()) => (bif r then (some (.inr (.inl ((t8, ()), ())))) else (some (.inl ((s, t7, (w64 (t8 + (1 : Int))), ()), ())))) | none => none)) else (some (.inr (.inr ((), ())))) := rfl
def loadB (n : Int) : Bool := inR n 0 999
def loadsB (m : Nat) (l : List Int) : Bool := decide (l.length = m) && l.all loadB
theorem l11Numbers_eq (l : List Int) (m : Nat) (hl : l.length ≤ 1048576) : spec_l11Numbers (l, (m : Int), ()) () = some ((loadsB m l, ()), ()) := by
  have key := loop_all (B := spec_l11Numbers_B0) (fun i => ((l, (m : Int), (i : Int), ()), ())) (fun i => loadB (l.getD i 0)) l.length (.inl ((false, ()), ())) (.inr ((l, (m : Int), ()), ())) (fun i hi _ => by
    rw [spec_l11Numbers_B0_at]
    simp only [bif_decide, if_pos (show (i : Int) < (l.length : Int) by omega), guardB_true (inb_true (Int.natCast_nonneg i) (show (i : Int) < (l.length : Int) by omega)), Int.toNat_natCast, l1In_eq _ _ _, w64_succ (show i < 4611686018427387904 by omega), loadB]
    cases inR (l.getD i 0) 0 999 <;> rfl) (by rw [spec_l11Numbers_B0_at]; simp)
  rw [allUpto_getD] at key
  simp only [spec_l11Numbers]
  erw [key]
  have e : ((l.length : Int) == (m : Int)) = decide (l.length = m) := by
    by_cases h : l.length = m
    · simp [h]
    · rw [beq_ne (by omega), decide_eq_false h]
  cases h : l.all loadB
  · simp [loadsB, h]
  · simp [loadsB, h, e]
theorem areLoads_eq (l : List Int) (m : Nat) (hl : l.length ≤ 1048576) : impl_areLoads (l, (m : Int), ()) () = some ((loadsB m l, ()), ()) := by
  have k1 : ∀ n : Int, impl_areLoads_1 (n, ()) () = some (((!loadB n), ()), ()) := fun n => by simp only [impl_areLoads_1, between_eq _ _ _, loadB]
  have key := loop_idx (B := slices_IndexFunc_int_int_2_vf_impl_areLoads_1_B0) (fun i => ((l, (l.length : Int), (i : Int), ()), ())) (fun i => !loadB (l.getD i 0)) l.length (fun i => .inl ((i, ()), ())) (.inr ((), ())) (fun i hi => by
    rw [slices_IndexFunc_int_int_2_vf_impl_areLoads_1_B0_at]
    simp only [bif_decide, if_pos (show (i : Int) < (l.length : Int) by omega), guardB_true (inb_true (Int.natCast_nonneg i) (show (i : Int) < (l.length : Int) by omega)), Int.toNat_natCast, k1, w64_succ (show i < 4611686018427387904 by omega)]
    cases loadB (l.getD i 0) <;> rfl) (by rw [slices_IndexFunc_int_int_2_vf_impl_areLoads_1_B0_at]; simp)
  have k2 : slices_IndexFunc_int_int_2_vf_impl_areLoads_1 (l, ()) () = some ((firstIdx (fun i => !loadB (l.getD i 0)) 0 l.length, ()), ()) := by
    simp only [slices_IndexFunc_int_int_2_vf_impl_areLoads_1]
    erw [key]
    by_cases h : firstIdx (fun i => !loadB (l.getD i 0)) 0 l.length < 0
    · rw [if_pos h, firstIdx_range _ _ h]
    · rw [if_neg h]
  have e : allUpto (fun i => !!loadB (l.getD (0 + i) 0)) l.length = l.all loadB := by
    rw [← allUpto_getD]; congr 1; funext i; simp
  simp only [impl_areLoads, slices_ContainsFunc_int_int_2_vf_impl_areLoads_1, k2, firstIdx_neg, e]
  by_cases h : l.length = m
  · rw [show ((l.length : Int) == (m : Int)) = true by simp [h]]; simp [loadsB, h]
  · rw [show ((l.length : Int) == (m : Int)) = false from beq_ne (by omega)]; simp [loadsB, h]
theorem l2Place_eq (x : List (List Int) × List (Int × Int)) (i : Int) (hF : Few x) : spec_l2Place (x, i, ()) () = some (((spaceB x && inR i 0 ((x.1.length : Int) - 1)), ()), ()) := by
  have hn := hF.states
  simp only [spec_l2Place, l2Space_eq x hF, l1In_eq _ _ _, w64_of (x := (x.1.length : Int) - 1) (by omega) (by omega)]
  cases spaceB x <;> rfl
def Lt2 (a b : Int × Int) : Prop := a.1 < b.1 ∨ (a.1 = b.1 ∧ a.2 < b.2)
theorem edgeB_iff {a b : Int × Int} : edgeB a b = true ↔ Lt2 a b := by
  simp only [edgeB, Lt2, Bool.or_eq_true, Bool.and_eq_true, decide_eq_true_eq]
instance (a b : Int × Int) : Decidable (Lt2 a b) := decidable_of_iff _ edgeB_iff
def tv (T : List (Int × Int)) (b : Int) : Int × Int := T.getD b.toNat (0, 0)
def dn (D : List Bool) (b : Int) : Bool := D.getD b.toNat false
theorem tv_set {T : List (Int × Int)} {a b : Int} {z : Int × Int} (ha : 0 ≤ a) (ha' : a < T.length) (hb : 0 ≤ b) : tv (T.set a.toNat z) b = if b = a then z else tv T b := by
  simp only [tv]
  by_cases h : b = a
  · subst h
    rw [if_pos rfl, getD_at (by rw [List.length_set]; omega), List.getElem_set_self]
  · rw [if_neg h]
    by_cases hl : b.toNat < T.length
    · rw [getD_at (by rw [List.length_set]; omega), getD_at hl, List.getElem_set_ne (by omega)]
    · simp [List.getD, List.getElem?_eq_none (show T.length ≤ b.toNat by omega), List.getElem?_eq_none (show (T.set a.toNat z).length ≤ b.toNat by rw [List.length_set]; omega)]
theorem dn_set {D : List Bool} {a b : Int} (ha : 0 ≤ a) (ha' : a < D.length) (hb : 0 ≤ b) : dn (D.set a.toNat true) b = if b = a then true else dn D b := by
  simp only [dn]
  by_cases h : b = a
  · subst h
    rw [if_pos rfl, getD_at (by rw [List.length_set]; omega), List.getElem_set_self]
  · rw [if_neg h]
    by_cases hl : b.toNat < D.length
    · rw [getD_at (by rw [List.length_set]; omega), getD_at hl, List.getElem_set_ne (by omega)]
    · simp [List.getD, List.getElem?_eq_none (show D.length ≤ b.toNat by omega), List.getElem?_eq_none (show (D.set a.toNat true).length ≤ b.toNat by rw [List.length_set]; omega)]
def Arc (S : List (Int × Int)) (W : List Int) (a b c : Int) : Prop := ∃ k, k < S.length ∧ (S.getD k (0, 0) = (a, b) ∨ S.getD k (0, 0) = (b, a)) ∧ W.getD k 0 = c
/-- the steps and their weights -/
structure Wtd (S : List (Int × Int)) (W : List Int) (n : Nat) : Prop where
  ok : StepsOk S n
  uniq : ∀ a b c c', Arc S W a b c → Arc S W a b c' → c = c'
  wgt : ∀ a b c, Arc S W a b c → 0 ≤ c ∧ c ≤ 999
theorem Arc.range {S : List (Int × Int)} {W : List Int} {n : Nat} (h : StepsOk S n) {a b c : Int} (hA : Arc S W a b c) : 0 ≤ a ∧ a < n ∧ 0 ≤ b ∧ b < n ∧ a ≠ b := by
  obtain ⟨k, hk, e, _⟩ := hA
  obtain ⟨x, y, e', h1, h2⟩ := h k hk
  rcases e with e | e
  · rw [e'] at e; injection e with e1 e2; omega
  · rw [e'] at e; injection e with e1 e2; omega
theorem Arc.symm {S : List (Int × Int)} {W : List Int} {a b c : Int} (hA : Arc S W a b c) : Arc S W b a c := by
  obtain ⟨k, hk, e, h⟩ := hA
  exact ⟨k, hk, e.symm, h⟩
/-- the least tolls -/
structure IsTolls (S : List (Int × Int)) (W : List Int) (n : Nat) (i : Int) (T : List (Int × Int)) : Prop where
  len : T.length = n
  zero : tv T i = (0, 0)
  none : ∀ b : Int, 0 ≤ b → b < n → (tv T b).1 < 0 → tv T b = (-1, 0)
  fix : ∀ a b c : Int, Arc S W a b c → 0 ≤ (tv T a).1 → 0 ≤ (tv T b).1 ∧ ¬ Lt2 ((tv T a).1 + c, (tv T a).2 + 1) (tv T b)
  tight : ∀ b : Int, 0 ≤ b → b < n → 0 ≤ (tv T b).1 → b ≠ i → ∃ a c, Arc S W a b c ∧ 0 ≤ (tv T a).1 ∧ tv T b = ((tv T a).1 + c, (tv T a).2 + 1)
  bound : ∀ b : Int, 0 ≤ b → b < n → 0 ≤ (tv T b).1 → 0 ≤ (tv T b).2 ∧ (tv T b).2 ≤ n ∧ (tv T b).1 ≤ 999 * (tv T b).2
def cntT : List Bool → Nat
  | [] => 0
  | b :: l => (if b then 1 else 0) + cntT l
theorem cntT_le : ∀ l : List Bool, cntT l ≤ l.length
  | [] => by simp [cntT]
  | b :: l => by have := cntT_le l; simp only [cntT, List.length_cons]; split <;> omega
theorem cntT_set : ∀ (l : List Bool) (k : Nat), k < l.length → l.getD k false = false → cntT (l.set k true) = cntT l + 1
  | [], k, h, _ => by simp at h
  | b :: l, 0, h, e => by
    have : b = false := by simpa [List.getD] using e
    subst this
    simp [cntT]; omega
  | b :: l, k + 1, h, e => by
    have := cntT_set l k (by simpa using h) (by simpa [List.getD] using e)
    simp only [List.set_cons_succ, cntT, this]; omega
/-- while the program looks for them: what is done, and what has been looked at from the one that is just done -/
structure DInv (S : List (Int × Int)) (W : List Int) (n : Nat) (i : Int) (T : List (Int × Int)) (D : List Bool) (a0 : Int) (P : Int → Prop) : Prop where
  len : T.length = n
  lenD : D.length = n
  zero : tv T i = (0, 0)
  none : ∀ b : Int, 0 ≤ b → b < n → (tv T b).1 < 0 → tv T b = (-1, 0) ∧ dn D b = false
  fix : ∀ a b c : Int, Arc S W a b c → dn D a = true → (a = a0 → P b) → 0 ≤ (tv T b).1 ∧ ¬ Lt2 ((tv T a).1 + c, (tv T a).2 + 1) (tv T b)
  tight : ∀ b : Int, 0 ≤ b → b < n → 0 ≤ (tv T b).1 → b ≠ i → ∃ a c, Arc S W a b c ∧ dn D a = true ∧ tv T b = ((tv T a).1 + c, (tv T a).2 + 1)
  order : ∀ a b : Int, 0 ≤ a → a < n → 0 ≤ b → b < n → dn D a = true → dn D b = false → 0 ≤ (tv T b).1 → ¬ Lt2 (tv T b) (tv T a)
  top : ∀ a : Int, 0 ≤ a → a < n → dn D a = true → 0 ≤ a0 → dn D a0 = true → ¬ Lt2 (tv T a0) (tv T a)
  bound : ∀ b : Int, 0 ≤ b → b < n → 0 ≤ (tv T b).1 → 0 ≤ (tv T b).2 ∧ (tv T b).2 ≤ cntT D ∧ (tv T b).1 ≤ 999 * (tv T b).2
  low : ∀ b : Int, 0 ≤ b → b < n → 0 ≤ a0 → dn D b = true → 0 ≤ a0 → (tv T a0).2 + 1 ≤ cntT D
theorem DInv.relax {S : List (Int × Int)} {W : List Int} {n : Nat} (hW : Wtd S W n) {i : Int} (hi : 0 ≤ i ∧ i < n) {T : List (Int × Int)} {D : List Bool} {a0 : Int} {P : Int → Prop} (h : DInv S W n i T D a0 P) {b c : Int} (hA : Arc S W a0 b c) (hd : dn D a0 = true) :
    DInv S W n i (if (tv T b).1 < 0 ∨ Lt2 ((tv T a0).1 + c, (tv T a0).2 + 1) (tv T b) then T.set b.toNat ((tv T a0).1 + c, (tv T a0).2 + 1) else T) D a0 (fun x => P x ∨ x = b) := by
  obtain ⟨r1, r2, r3, r4, r5⟩ := hA.range hW.ok
  obtain ⟨c0, c1⟩ := hW.wgt _ _ _ hA
  have hf0 : 0 ≤ (tv T a0).1 := by
    refine Classical.byContradiction fun g => ?_
    have := (h.none a0 r1 r2 (by omega)).2
    rw [hd] at this; cases this
  obtain ⟨q1, q2, q3⟩ := h.bound a0 r1 r2 hf0
  have q4 := h.low a0 r1 r2 r1 hd r1
  by_cases hc : (tv T b).1 < 0 ∨ Lt2 ((tv T a0).1 + c, (tv T a0).2 + 1) (tv T b)
  · rw [if_pos hc]
    have hbl : b < T.length := by rw [h.len]; exact r4
    have hs : ∀ x, 0 ≤ x → tv (T.set b.toNat ((tv T a0).1 + c, (tv T a0).2 + 1)) x = if x = b then ((tv T a0).1 + c, (tv T a0).2 + 1) else tv T x := fun x hx => tv_set r3 hbl hx
    have hnd : dn D b = false := by
      cases e : dn D b
      · rfl
      · exfalso
        have h1 := h.top b r3 r4 e r1 hd
        have h2 : 0 ≤ (tv T b).1 := by
          refine Classical.byContradiction fun g => ?_
          have := (h.none b r3 r4 (by omega)).2
          rw [e] at this; cases this
        simp only [Lt2] at hc h1
        omega
    have hib : i ≠ b := fun e => by
      subst e
      rw [h.zero] at hc
      simp only [Lt2] at hc
      omega
    have ne : ∀ x, 0 ≤ x → dn D x = true → tv (T.set b.toNat ((tv T a0).1 + c, (tv T a0).2 + 1)) x = tv T x := fun x hx hdx => by
      rw [hs x hx, if_neg]
      intro e; subst e; rw [hnd] at hdx; cases hdx
    refine { len := by rw [List.length_set]; exact h.len, lenD := h.lenD, zero := ?_, none := ?_, fix := ?_, tight := ?_, order := ?_, top := ?_, bound := ?_, low := ?_ }
    · rw [hs i hi.1, if_neg hib]; exact h.zero
    · intro x hx hx' hn
      rw [hs x hx] at hn ⊢
      by_cases e : x = b
      · rw [if_pos e] at hn; simp only at hn; omega
      · rw [if_neg e] at hn ⊢; exact h.none x hx hx' hn
    · intro x y z hxy hdx hP
      obtain ⟨s1, s2, s3, s4, s5⟩ := hxy.range hW.ok
      rw [ne x s1 hdx, hs y s3]
      by_cases e : y = b
      · subst e
        rw [if_pos rfl]
        refine ⟨by simp only; omega, ?_⟩
        by_cases ex : x = a0
        · subst ex
          have := hW.uniq _ _ _ _ hA hxy
          subst this
          simp [Lt2]
        · obtain ⟨f1, f2⟩ := h.fix x y z hxy hdx (fun e => absurd e ex)
          simp only [Lt2] at hc f2 ⊢
          omega
      · rw [if_neg e]
        exact h.fix x y z hxy hdx (fun ex => (hP ex).resolve_right e)
    · intro x hx hx' hf hne
      rw [hs x hx] at hf ⊢
      by_cases e : x = b
      · subst e
        rw [if_pos rfl]
        exact ⟨a0, c, hA, hd, by rw [ne a0 r1 hd]⟩
      · rw [if_neg e] at hf ⊢
        obtain ⟨a, z, t1, t2, t3⟩ := h.tight x hx hx' hf hne
        exact ⟨a, z, t1, t2, by rw [ne a (t1.range hW.ok).1 t2]; exact t3⟩
    · intro x y hx hx' hy hy' hdx hdy hf
      rw [ne x hx hdx]
      rw [hs y hy] at hf ⊢
      by_cases e : y = b
      · rw [if_pos e]
        have := h.top x hx hx' hdx r1 hd
        simp only [Lt2] at this ⊢
        omega
      · rw [if_neg e] at hf ⊢; exact h.order x y hx hx' hy hy' hdx hdy hf
    · intro x hx hx' hdx h0 h1
      rw [ne x hx hdx, ne a0 r1 hd]
      exact h.top x hx hx' hdx h0 h1
    · intro x hx hx' hf
      rw [hs x hx] at hf ⊢
      by_cases e : x = b
      · rw [if_pos e]; simp only; omega
      · rw [if_neg e] at hf ⊢; exact h.bound x hx hx' hf
    · intro x hx hx' h0 hdx _
      rw [ne a0 r1 hd]
      exact q4
  · rw [if_neg hc]
    simp only [not_or] at hc
    refine ⟨h.len, h.lenD, h.zero, h.none, fun x y z hxy hdx hP => ?_, h.tight, h.order, h.top, h.bound, h.low⟩
    by_cases ex : x = a0
    · subst ex
      rcases hP rfl with hP | hP
      · exact h.fix x y z hxy hdx (fun _ => hP)
      · subst hP
        have := hW.uniq _ _ _ _ hA hxy
        subst this
        exact ⟨by omega, hc.2⟩
    · exact h.fix x y z hxy hdx (fun e => absurd e ex)
/-- the next one is done -/
theorem DInv.next {S : List (Int × Int)} {W : List Int} {n : Nat} (hW : Wtd S W n) {i : Int} {T : List (Int × Int)} {D : List Bool} {a0 : Int} {P : Int → Prop} (h : DInv S W n i T D a0 P) (hP : ∀ b c, Arc S W a0 b c → P b) {a : Int} (h0 : 0 ≤ a) (h1 : a < n) (hf : 0 ≤ (tv T a).1) (hd : dn D a = false)
    (hm : ∀ b : Int, 0 ≤ b → b < n → 0 ≤ (tv T b).1 → dn D b = false → ¬ Lt2 (tv T b) (tv T a)) : DInv S W n i T (D.set a.toNat true) a (fun _ => False) := by
  have ds : ∀ x, 0 ≤ x → dn (D.set a.toNat true) x = if x = a then true else dn D x := fun x hx => dn_set h0 (by rw [h.lenD]; exact h1) hx
  have hc : cntT (D.set a.toNat true) = cntT D + 1 := cntT_set D a.toNat (by rw [h.lenD]; omega) hd
  have hb := h.bound a h0 h1 hf
  refine { len := h.len, lenD := by rw [List.length_set]; exact h.lenD, zero := h.zero, none := ?_, fix := ?_, tight := ?_, order := ?_, top := ?_, bound := ?_, low := ?_ }
  · intro x hx hx' hn
    obtain ⟨q1, q2⟩ := h.none x hx hx' hn
    refine ⟨q1, ?_⟩
    rw [ds x hx, if_neg]
    · exact q2
    · intro e; subst e; omega
  · intro x y z hxy hdx hF
    obtain ⟨s1, s2, s3, s4, s5⟩ := hxy.range hW.ok
    rw [ds x s1] at hdx
    by_cases e : x = a
    · exact (hF e).elim
    · rw [if_neg e] at hdx
      exact h.fix x y z hxy hdx (fun e => hP y z (e ▸ hxy))
  · intro x hx hx' hf' hne
    obtain ⟨y, z, t1, t2, t3⟩ := h.tight x hx hx' hf' hne
    refine ⟨y, z, t1, ?_, t3⟩
    rw [ds y (t1.range hW.ok).1, t2]
    simp
  · intro x y hx hx' hy hy' hdx hdy hf'
    rw [ds x hx] at hdx
    rw [ds y hy] at hdy
    by_cases e : y = a
    · rw [if_pos e] at hdy; cases hdy
    · rw [if_neg e] at hdy
      by_cases e' : x = a
      · subst e'; exact hm y hy hy' hf' hdy
      · rw [if_neg e'] at hdx; exact h.order x y hx hx' hy hy' hdx hdy hf'
  · intro x hx hx' hdx _ _
    rw [ds x hx] at hdx
    by_cases e : x = a
    · subst e; simp [Lt2]
    · rw [if_neg e] at hdx; exact h.order x a hx hx' h0 h1 hdx hd hf
  · intro x hx hx' hf'
    obtain ⟨b1, b2, b3⟩ := h.bound x hx hx' hf'
    exact ⟨b1, by omega, b3⟩
  · intro x hx hx' _ _ _
    omega
theorem DInv.done {S : List (Int × Int)} {W : List Int} {n : Nat} (hW : Wtd S W n) {i : Int} {T : List (Int × Int)} {D : List Bool} {a0 : Int} {P : Int → Prop} (h : DInv S W n i T D a0 P) (hP : ∀ b c, Arc S W a0 b c → P b) (hall : ∀ b : Int, 0 ≤ b → b < n → 0 ≤ (tv T b).1 → dn D b = true) : IsTolls S W n i T where
  len := h.len
  zero := h.zero
  none b h0 h1 hn := (h.none b h0 h1 hn).1
  fix a b c hA hf := h.fix a b c hA (hall a (hA.range hW.ok).1 (hA.range hW.ok).2.1 hf) (fun e => hP b c (e ▸ hA))
  tight b h0 h1 hf hne := by
    obtain ⟨a, c, t1, t2, t3⟩ := h.tight b h0 h1 hf hne
    refine ⟨a, c, t1, ?_, t3⟩
    refine Classical.byContradiction fun g => ?_
    have := (h.none a (t1.range hW.ok).1 (t1.range hW.ok).2.1 (by omega)).2
    rw [t2] at this; cases this
  bound b h0 h1 hf := by
    obtain ⟨b1, b2, b3⟩ := h.bound b h0 h1 hf
    have := cntT_le D
    rw [h.lenD] at this
    exact ⟨b1, by omega, b3⟩

theorem and_low {x : Int} (h0 : 0 ≤ x) (h : x < 4294967296) : (BitVec.ofInt 64 x &&& BitVec.ofInt 64 (4294967295 : Int)).toNat = x.toNat := by
  obtain ⟨m, rfl⟩ : ∃ m : Nat, x = m := ⟨x.toNat, by omega⟩
  have hm : m < 2 ^ 32 := by omega
  have e : (BitVec.ofInt 64 (m : Int)) = BitVec.ofNat 64 m := by simp
  rw [e, show BitVec.ofInt 64 (4294967295 : Int) = BitVec.ofNat 64 (2 ^ 32 - 1) by decide, BitVec.toNat_and, BitVec.toNat_ofNat, BitVec.toNat_ofNat]
  rw [Nat.mod_eq_of_lt (show m < 2 ^ 64 by omega), Nat.mod_eq_of_lt (show 2 ^ 32 - 1 < 2 ^ 64 by decide), Nat.and_two_pow_sub_one_eq_mod, Nat.mod_eq_of_lt hm]
  simp
theorem wrapU {x : Int} (h0 : 0 ≤ x) (h : x < 18446744073709551616) : IntKind.wrap .u64 x = x := by
  simp only [IntKind.wrap, IntKind.bits, IntKind.signed]
  simp
  omega
theorem Mul_small (x y : Int) (hx : 0 ≤ x) (hx' : x < 2097152) (hy : 0 ≤ y) (hy' : y < 2097152) : bits_Mul (x, y, ()) () = some ((0, x * y, ()), ()) := by
  have e1 : Int.fdiv x (2 ^ (min 32 64)) = 0 := by
    rw [show (2 : Int) ^ (min 32 64) = 4294967296 by decide, Int.fdiv_eq_ediv_of_nonneg _ (by decide)]; omega
  have e2 : Int.fdiv y (2 ^ (min 32 64)) = 0 := by
    rw [show (2 : Int) ^ (min 32 64) = 4294967296 by decide, Int.fdiv_eq_ediv_of_nonneg _ (by decide)]; omega
  have hxy0 : 0 ≤ x * y := Int.mul_nonneg hx hy
  have hxy : x * y ≤ 2097152 * 2097152 := Int.mul_le_mul (by omega) (by omega) hy (by decide)
  have a1 := and_low hx (by omega)
  have a2 := and_low hy (by omega)
  have z : IntKind.wrap .u64 0 = 0 := wrapU (by decide) (by decide)
  have q1 : IntKind.wrap .u64 (x.toNat : Int) = x := by rw [wrapU (by omega) (by omega)]; omega
  have q2 : IntKind.wrap .u64 (y.toNat : Int) = y := by rw [wrapU (by omega) (by omega)]; omega
  have q3 : IntKind.wrap .u64 (x * y) = x * y := wrapU hxy0 (by omega)
  have hd0 : 0 ≤ Int.fdiv (x * y) (2 ^ (min 32 64)) ∧ Int.fdiv (x * y) (2 ^ (min 32 64)) < 4294967296 := by
    rw [show (2 : Int) ^ (min 32 64) = 4294967296 by decide, Int.fdiv_eq_ediv_of_nonneg _ (by decide)]; omega
  obtain ⟨D, hD⟩ : ∃ D : Int, Int.fdiv (x * y) (2 ^ (min 32 64)) = D := ⟨_, rfl⟩
  rw [hD] at hd0
  have q4 : IntKind.wrap .u64 D = D := wrapU hd0.1 (by omega)
  have a3 := and_low hd0.1 hd0.2
  have q5 : IntKind.wrap .u64 (D.toNat : Int) = D := by rw [wrapU (by omega) (by omega)]; omega
  have e3 : Int.fdiv D (2 ^ (min 32 64)) = 0 := by
    rw [show (2 : Int) ^ (min 32 64) = 4294967296 by decide, Int.fdiv_eq_ediv_of_nonneg _ (by decide)]; omega
  simp only [bits_Mul, bits_Mul64, e1, e2, a1, a2, q1, q2, q3, hD, Int.zero_mul, Int.mul_zero, z, Int.zero_add, Int.add_zero, q4, a3, q5, e3]
theorem rep_take {α : Type} (n m : Nat) (v z : α) (h : m ≤ n) : (List.replicate m v ++ List.replicate (n - m) z).length = n := by simp; omega
theorem slices_Repeat_impl_toll_impl_toll_B0_at (newslice : List ((Int) × (Int))) (n : Int) : slices_Repeat_impl_toll_impl_toll_B0 ((newslice, n, ()), ()) = bif (decide (n < (List.length newslice : Int))) then (guardB (decide (0 ≤ n) && decide (n ≤ (List.length newslice : Int)) && decide ((List.length newslice : Int) ≤ (List.length newslice : Int))) (guardB (decide (0 ≤ (0 : Int)) && decide ((0 : Int) ≤ n) && decide (n ≤ (List.length newslice : Int))) (guardB (decide ((Int.toNat n) ≤ (Int.toNat (List.length newslice : Int))) && decide ((Int.toNat (List.length newslice : Int)) ≤ List.length newslice)) (some (.inl (((List.take (Int.toNat n) newslice ++ List.take (min (List.length (List.drop 0 (List.take (Int.toNat n) newslice))) ((Int.toNat (List.length newslice : Int)) - (Int.toNat n))) (List.drop 0 (List.take (Int.toNat n) newslice)) ++ List.drop ((Int.toNat n) + (min (List.length (List.drop 0 (List.take (Int.toNat n) newslice))) ((Int.toNat (List.length newslice : Int)) - (Int.toNat n)))) newslice), (w64 (n + (((min (List.length (List.drop 0 (List.take (Int.toNat n) newslice))) ((Int.toNat (List.length newslice : Int)) - (Int.toNat n))) : Nat) : Int))), ()), ())))))) else (some (.inr ((newslice, ()), ()))) := rfl
theorem rep_stepG {α : Type} (n m : Nat) (v z : α) (h0 : 0 < m) (h : m < n) :
    (List.take m (List.replicate m v ++ List.replicate (n - m) z) ++ List.take (min (List.length (List.drop 0 (List.take m (List.replicate m v ++ List.replicate (n - m) z)))) (n - m)) (List.drop 0 (List.take m (List.replicate m v ++ List.replicate (n - m) z))) ++ List.drop (m + (min (List.length (List.drop 0 (List.take m (List.replicate m v ++ List.replicate (n - m) z)))) (n - m))) (List.replicate m v ++ List.replicate (n - m) z))
      = List.replicate (m + min m (n - m)) v ++ List.replicate (n - (m + min m (n - m))) z := by
  have ht : List.take m (List.replicate m v ++ List.replicate (n - m) z) = List.replicate m v := by
    rw [List.take_append_of_le_length (by simp)]; simp
  rw [ht, List.drop_zero, List.length_replicate, List.take_replicate, show min (min m (n - m)) m = min m (n - m) by omega, List.drop_append, List.drop_replicate, List.drop_replicate, List.length_replicate, show m - (m + min m (n - m)) = 0 by omega, show m + min m (n - m) - m = min m (n - m) by omega, show n - m - min m (n - m) = n - (m + min m (n - m)) by omega, List.replicate_append_replicate]
  simp
theorem RepeatT_eq (v : Int × Int) (n : Nat) (hn : n ≤ 1048576) : slices_Repeat_impl_toll_impl_toll ([v], (n : Int), ()) () = some ((List.replicate n v, ()), ()) := by
  have hw : w64 (n : Int) = n := w64_of (by omega) (by omega)
  have hm : bits_Mul ((1 : Int), (n : Int), ()) () = some ((0, 1 * (n : Int), ()), ()) := Mul_small 1 n (by decide) (by decide) (by omega) (by omega)
  have u1 : IntKind.wrap .u64 ((List.length [v] : Nat) : Int) = 1 := wrapU (by simp) (by simp)
  have u2 : IntKind.wrap .u64 (n : Int) = n := wrapU (by omega) (by omega)
  simp only [slices_Repeat_impl_toll_impl_toll, u1, u2, hm, Int.one_mul, hw, bif_decide, Int.toNat_natCast, List.length_replicate]
  rw [if_neg (show ¬ ((n : Int) < 0) by omega), if_neg (show ¬ ((0 : Int) < 0) by omega), if_neg (show ¬ ((9223372036854775807 : Int) < n) by omega), guardB_true (by simp <;> omega), guardB_true (by simp)]
  have key : ∀ (d m : Nat), n - m ≤ d → m ≤ n → 0 < m → loopO slices_Repeat_impl_toll_impl_toll_B0 ((List.replicate m v ++ List.replicate (n - m) ((0 : Int), (0 : Int)), (m : Int), ()), ()) = some ((List.replicate n v, ()), ()) := by
    intro d
    induction d with
    | zero =>
      intro m hd hm h0
      refine loop_end ?_
      have : m = n := by omega
      subst this
      rw [slices_Repeat_impl_toll_impl_toll_B0_at]; simp
    | succ d ih =>
      intro m hd hm h0
      by_cases hmn : m = n
      · subst hmn
        refine loop_end ?_
        rw [slices_Repeat_impl_toll_impl_toll_B0_at]; simp
      · have hl := rep_take n m v ((0 : Int), (0 : Int)) hm
        refine loop_step (p' := ((List.replicate (m + min m (n - m)) v ++ List.replicate (n - (m + min m (n - m))) ((0 : Int), (0 : Int)), ((m + min m (n - m) : Nat) : Int), ()), ())) ?_ (ih (m + min m (n - m)) (by omega) (by omega) (by omega))
        rw [slices_Repeat_impl_toll_impl_toll_B0_at]
        simp only [hl, bif_decide, Int.toNat_natCast]
        rw [if_pos (by omega), guardB_true (by simp <;> omega), guardB_true (by simp <;> omega), guardB_true (by simp <;> omega), rep_stepG n m v ((0 : Int), (0 : Int)) h0 (by omega)]
        have hmin : min (List.length (List.drop 0 (List.take m (List.replicate m v ++ List.replicate (n - m) ((0 : Int), (0 : Int)))))) (n - m) = min m (n - m) := by simp <;> omega
        rw [hmin, w64_of (by omega) (by omega)]
        simp
  by_cases hz : n = 0
  · subst hz
    have : loopO slices_Repeat_impl_toll_impl_toll_B0 (([], 0, ()), ()) = some (([], ()), ()) := loop_end (by rw [slices_Repeat_impl_toll_impl_toll_B0_at]; simp)
    simp [this]
  · have hs : (List.take 0 (List.replicate n ((0 : Int), (0 : Int))) ++ List.take (min (List.length [v]) (n - 0)) [v] ++ List.drop (0 + min (List.length [v]) (n - 0)) (List.replicate n ((0 : Int), (0 : Int)))) = List.replicate 1 v ++ List.replicate (n - 1) ((0 : Int), (0 : Int)) := by
      have : min (List.length [v]) (n - 0) = 1 := by simp; omega
      rw [this]
      simp
    have hc : ((min (List.length [v]) (n - 0) : Nat) : Int) = ((1 : Nat) : Int) := by
      have : min (List.length [v]) (n - 0) = 1 := by simp; omega
      rw [this]
    rw [hs, hc, key n 1 (by omega) (by omega) (by omega)]

theorem half_eq {i j : Nat} (h : i + j < 4611686018427387904) : w64 (Int.fdiv (IntKind.wrap .u64 (w64 ((i : Int) + (j : Int)))) (2 ^ (min 1 64))) = (((i + j) / 2 : Nat) : Int) := by
  rw [w64_of (x := (i : Int) + (j : Int)) (by omega) (by omega), wrapU (by omega) (by omega), show (2 : Int) ^ (min 1 64) = 2 by decide, Int.fdiv_eq_ediv_of_nonneg _ (by decide), w64_of (by omega) (by omega)]
  omega
theorem slices_BinarySearchFunc_2_int_2_int_2_int_vvf_impl_comparePairs_B0_at (x : List ((Int) × (Int))) (target : (Int) × (Int)) (n : Int) (i : Int) (j : Int) : slices_BinarySearchFunc_2_int_2_int_2_int_vvf_impl_comparePairs_B0 ((x, target, n, i, j, ()), ()) = bif (decide (i < j)) then (guardB (inb (w64 (Int.fdiv (IntKind.wrap .u64 (w64 (i + j))) (2 ^ (min 1 64)))) (List.length x)) (match impl_comparePairs ((List.getD x (Int.toNat (w64 (Int.fdiv (IntKind.wrap .u64 (w64 (i + j))) (2 ^ (min 1 64))))) ((0 : Int), (0 : Int))), target, ()) () with | some ((r, ()), ()) => (bif (decide (r < (0 : Int))) then (some (.inl ((x, target, n, (w64 ((w64 (Int.fdiv (IntKind.wrap .u64 (w64 (i + j))) (2 ^ (min 1 64)))) + (1 : Int))), j, ()), ()))) else (some (.inl ((x, target, n, i, (w64 (Int.fdiv (IntKind.wrap .u64 (w64 (i + j))) (2 ^ (min 1 64)))), ()), ())))) | none => none)) else (some (.inr ((x, target, n, i, ()), ()))) := rfl
theorem edgeB_irr (a : Int × Int) : edgeB a a = false := by simp [edgeB]
theorem edgeB_asymm {a b : Int × Int} (h : edgeB a b = true) : edgeB b a = false := by
  simp only [edgeB, Bool.or_eq_true, Bool.and_eq_true, decide_eq_true_eq] at h
  simp only [edgeB, Bool.or_eq_false_iff, Bool.and_eq_false_iff, decide_eq_false_iff_not]
  omega
theorem findPair2 {S : List (Int × Int)} (hs : S.Pairwise fun a b => edgeB a b = true) (hl : S.length ≤ 1048576) {e : Int × Int} (he : e ∈ S) : ∃ q : Nat, q < S.length ∧ S.getD q (0, 0) = e ∧ slices_BinarySearchFunc_2_int_2_int_2_int_vvf_impl_comparePairs (S, e, ()) () = some (((q : Int), true, ()), ()) := by
  obtain ⟨q, hq, eq⟩ := List.getElem_of_mem he
  have side : ∀ h (hh : h < S.length), edgeB (S.getD h (0, 0)) e = decide (h < q) := by
    intro h hh
    rw [getD_at hh]
    by_cases c : h < q
    · rw [decide_eq_true c, ← eq]; exact List.pairwise_iff_getElem.1 hs h q hh hq c
    · rw [decide_eq_false c]
      by_cases d : h = q
      · subst d; rw [← eq]; exact edgeB_irr _
      · have := List.pairwise_iff_getElem.1 hs q h hq hh (by omega)
        rw [← eq]; exact edgeB_asymm this
  have key : ∀ (d i j : Nat), j - i ≤ d → i ≤ q → q ≤ j → j ≤ S.length → loopO slices_BinarySearchFunc_2_int_2_int_2_int_vvf_impl_comparePairs_B0 ((S, e, (S.length : Int), (i : Int), (j : Int), ()), ()) = some ((S, e, (S.length : Int), (q : Int), ()), ()) := by
    intro d
    induction d with
    | zero =>
      intro i j hd h1 h2 h3
      refine loop_end ?_
      rw [slices_BinarySearchFunc_2_int_2_int_2_int_vvf_impl_comparePairs_B0_at]
      simp only [bif_decide]
      rw [if_neg (by omega), show i = q by omega]
    | succ d ih =>
      intro i j hd h1 h2 h3
      by_cases hij : i < j
      · have hh : (i + j) / 2 < S.length := by omega
        have hsd := side _ hh
        obtain ⟨r, r1, r2, _⟩ := comparePairs_eq (S.getD ((i + j) / 2) (0, 0)) e
        rw [hsd] at r2
        have step : slices_BinarySearchFunc_2_int_2_int_2_int_vvf_impl_comparePairs_B0 ((S, e, (S.length : Int), (i : Int), (j : Int), ()), ()) = some (.inl (if r < 0 then ((S, e, (S.length : Int), (((i + j) / 2 + 1 : Nat) : Int), (j : Int), ()), ()) else ((S, e, (S.length : Int), (i : Int), (((i + j) / 2 : Nat) : Int), ()), ()))) := by
          rw [slices_BinarySearchFunc_2_int_2_int_2_int_vvf_impl_comparePairs_B0_at]
          simp only [bif_decide, half_eq (show i + j < 4611686018427387904 by omega), Int.toNat_natCast, w64_succ (show (i + j) / 2 < 4611686018427387904 by omega)]
          rw [if_pos (by omega), guardB_true (by simp [inb] <;> omega), r1]
          simp only
          by_cases h : r < 0
          · rw [if_pos h, if_pos h]
          · rw [if_neg h, if_neg h]
        by_cases h : r < 0
        · rw [if_pos h] at step
          have : (i + j) / 2 < q := by
            rw [decide_eq_false (show ¬ (0 : Int) ≤ r by omega)] at r2
            simpa using r2
          exact loop_step step (ih _ _ (by omega) (by omega) h2 h3)
        · rw [if_neg h] at step
          have : ¬ (i + j) / 2 < q := by
            rw [decide_eq_true (show (0 : Int) ≤ r by omega)] at r2
            simpa using r2
          exact loop_step step (ih _ _ (by omega) h1 (by omega) (by omega))
      · refine loop_end ?_
        rw [slices_BinarySearchFunc_2_int_2_int_2_int_vvf_impl_comparePairs_B0_at]
        simp only [bif_decide]
        rw [if_neg (by omega), show i = q by omega]
  have k0 := key S.length 0 S.length (by omega) (Nat.zero_le _) (by omega) (Nat.le_refl _)
  obtain ⟨r, r1, _, r3⟩ := comparePairs_eq (S.getD q (0, 0)) e
  have hr : r = 0 := r3.2 (by rw [getD_at hq]; exact eq)
  refine ⟨q, hq, by rw [getD_at hq]; exact eq, ?_⟩
  simp only [slices_BinarySearchFunc_2_int_2_int_2_int_vvf_impl_comparePairs]
  erw [k0]
  simp only [bif_decide, Int.toNat_natCast]
  rw [if_pos (show ((q : Nat) : Int) < (S.length : Int) by omega), guardB_true (by simp [inb] <;> omega), r1]
  simp only [hr]
  rfl

theorem impl_Space_tolls_D0_at (t1 : List (Int)) (t2 : Int) (t3 : (List (List (Int))) × (List ((Int) × (Int)))) (t16 : (Int) × (Int)) (t20 : Int) (t24 : Int) (t26 : (List (List (Int))) × (List ((Int) × (Int)))) : impl_Space_tolls_D0 ((t1, t2, t3, t16, t20, t24, t26, ()), ()) = impl_Space_tolls_D1 ((t1, t2, t3, [t16], t20, t24, t26, ()), ()) := rfl
theorem impl_Space_tolls_D1_at (t1 : List (Int)) (t2 : Int) (t3 : (List (List (Int))) × (List ((Int) × (Int)))) (t17 : List ((Int) × (Int))) (t20 : Int) (t24 : Int) (t26 : (List (List (Int))) × (List ((Int) × (Int)))) : impl_Space_tolls_D1 ((t1, t2, t3, t17, t20, t24, t26, ()), ()) = match slices_Repeat_impl_toll_impl_toll (t17, t20, ()) () with | some ((r, ()), ()) => impl_Space_tolls_D2 ((t1, t2, t3, r, t24, t26, ()), ()) | none => none := rfl
theorem impl_Space_tolls_D2_at (t1 : List (Int)) (t2 : Int) (t3 : (List (List (Int))) × (List ((Int) × (Int)))) (t21 : List ((Int) × (Int))) (t24 : Int) (t26 : (List (List (Int))) × (List ((Int) × (Int)))) : impl_Space_tolls_D2 ((t1, t2, t3, t21, t24, t26, ()), ()) = guardB (decide (0 ≤ t24) && decide (t24 ≤ t24) && decide (t24 * 1 ≤ 140737488355328)) (match impl_Space_roads (t26, ()) () with | some ((r, ()), ()) => some ((t1, t2, t3, t21, (List.replicate (Int.toNat t24) false), r, ()), ()) | none => none) := rfl
theorem impl_Space_tolls_D3_at (t1 : List (Int)) (t3 : (List (List (Int))) × (List ((Int) × (Int)))) (t8 : List (Bool)) (t9 : List (List (Int))) (t10 : Int) (t14 : Int) (t72 : List (Int)) (t73 : Int) (t74 : Int) (t81 : Nat) (t83 : (List (List (Int))) × (List ((Int) × (Int)))) (t84 : List (Int)) (t85 : Int) (t86 : Int) (t92 : Nat) (t7 : List ((Int) × (Int))) : impl_Space_tolls_D3 ((t1, t3, t8, t9, t10, t14, t72, t73, t74, t81, t83, t84, t85, t86, t92, ()), (t7, ())) = impl_Space_tolls_D4 ((t1, t3, t8, t9, t10, t14, t72, t73, t74, (List.getD t7 t81 ((0 : Int), (0 : Int))).1, t83, t84, t85, t86, t92, ()), (t7, ())) := rfl
theorem impl_Space_tolls_D4_at (t1 : List (Int)) (t3 : (List (List (Int))) × (List ((Int) × (Int)))) (t8 : List (Bool)) (t9 : List (List (Int))) (t10 : Int) (t14 : Int) (t72 : List (Int)) (t73 : Int) (t74 : Int) (t82 : Int) (t83 : (List (List (Int))) × (List ((Int) × (Int)))) (t84 : List (Int)) (t85 : Int) (t86 : Int) (t92 : Nat) (t7 : List ((Int) × (Int))) : impl_Space_tolls_D4 ((t1, t3, t8, t9, t10, t14, t72, t73, t74, t82, t83, t84, t85, t86, t92, ()), (t7, ())) = match impl_Space_weight (t83, t84, t85, t86, ()) () with | some ((r, ()), ()) => some ((t1, t3, t7, t8, t9, t10, t14, ((w64 (t82 + r)), (w64 (((List.getD t7 t92 ((0 : Int), (0 : Int))).2) + (1 : Int)))), t72, t73, t74, ()), ()) | none => none := rfl
theorem impl_Space_tolls_B0_at (t1 : List (Int)) (t3 : (List (List (Int))) × (List ((Int) × (Int)))) (t7 : List ((Int) × (Int))) (t8 : List (Bool)) (t9 : List (List (Int))) (t10 : Int) (t33 : Int) (t34 : Int) : impl_Space_tolls_B0 ((t1, t3, t7, t8, t9, t10, t33, t34, ()), ()) = bif (decide (t34 < t33)) then (guardB (inb t34 (List.length t7)) (bif (decide ((0 : Int) ≤ ((List.getD t7 (Int.toNat t34) ((0 : Int), (0 : Int))).1))) then (guardB (inb t34 (List.length t8)) (bif (!(List.getD t8 (Int.toNat t34) false)) then (bif (decide (t10 < (0 : Int))) then (some (.inl ((t1, t3, t7, t8, t9, t34, t33, (w64 (t34 + (1 : Int))), ()), ()))) else (guardB (inb t10 (List.length t7)) (match impl_toll_less ((List.getD t7 (Int.toNat t34) ((0 : Int), (0 : Int))), (List.getD t7 (Int.toNat t10) ((0 : Int), (0 : Int))), ()) () with | some ((r, ()), ()) => (bif r then (some (.inl ((t1, t3, t7, t8, t9, t34, t33, (w64 (t34 + (1 : Int))), ()), ()))) else (some (.inl ((t1, t3, t7, t8, t9, t10, t33, (w64 (t34 + (1 : Int))), ()), ())))) | none => none))) else (some (.inl ((t1, t3, t7, t8, t9, t10, t33, (w64 (t34 + (1 : Int))), ()), ()))))) else (some (.inl ((t1, t3, t7, t8, t9, t10, t33, (w64 (t34 + (1 : Int))), ()), ()))))) else (some (.inr ((t1, t3, t7, t8, t9, t10, ()), ()))) := rfl
theorem impl_Space_tolls_B1_at (t1 : List (Int)) (t3 : (List (List (Int))) × (List ((Int) × (Int)))) (t7 : List ((Int) × (Int))) (t8 : List (Bool)) (t9 : List (List (Int))) (t10 : Int) (t72 : List (Int)) (t73 : Int) (t74 : Int) : impl_Space_tolls_B1 ((t1, t3, t7, t8, t9, t10, t72, t73, t74, ()), ()) = bif (decide (t74 < t73)) then (guardB (inb t74 (List.length t72)) (guardB (inb t10 (List.length t7)) (guardB (inb t10 (List.length t7)) (match impl_Space_tolls_D3 ((t1, t3, t8, t9, t10, (List.getD t72 (Int.toNat t74) (0 : Int)), t72, t73, t74, (Int.toNat t10), t3, t1, t10, (List.getD t72 (Int.toNat t74) (0 : Int)), (Int.toNat t10), ()), (t7, ())) with | some ((t1_2, t3_2, t7_2, t8_2, t9_2, t10_2, t14, t15, t72_2, t73_2, t74_2, ()), ()) => guardB (inb t14 (List.length t7_2)) (bif (decide (((List.getD t7_2 (Int.toNat t14) ((0 : Int), (0 : Int))).1) < (0 : Int))) then (guardB (inb t14 (List.length t7_2)) (some (.inl ((t1_2, t3_2, (List.set t7_2 (Int.toNat t14) t15), t8_2, t9_2, t10_2, t72_2, t73_2, (w64 (t74_2 + (1 : Int))), ()), ())))) else (guardB (inb t14 (List.length t7_2)) (match impl_toll_less (t15, (List.getD t7_2 (Int.toNat t14) ((0 : Int), (0 : Int))), ()) () with | some ((r, ()), ()) => (bif r then (guardB (inb t14 (List.length t7_2)) (some (.inl ((t1_2, t3_2, (List.set t7_2 (Int.toNat t14) t15), t8_2, t9_2, t10_2, t72_2, t73_2, (w64 (t74_2 + (1 : Int))), ()), ())))) else (some (.inl ((t1_2, t3_2, t7_2, t8_2, t9_2, t10_2, t72_2, t73_2, (w64 (t74_2 + (1 : Int))), ()), ())))) | none => none))) | none => none)))) else (some (.inr ((t1, t3, t7, t8, t9, ()), ()))) := rfl
theorem impl_Space_tolls_B2_at (t1 : List (Int)) (t3 : (List (List (Int))) × (List ((Int) × (Int)))) (t7 : List ((Int) × (Int))) (t8 : List (Bool)) (t9 : List (List (Int))) : impl_Space_tolls_B2 ((t1, t3, t7, t8, t9, ()), ()) = match loopO impl_Space_tolls_B0 ((t1, t3, t7, t8, t9, (-1 : Int), (List.length t7 : Int), (0 : Int), ()), ()) with | some ((t1_2, t3_2, t7_2, t8_2, t9_2, t10, ()), ()) => (bif (decide (t10 < (0 : Int))) then (some (.inr ((t7_2, ()), ()))) else (guardB (inb t10 (List.length t8_2)) (guardB (inb t10 (List.length t9_2)) (match loopO impl_Space_tolls_B1 ((t1_2, t3_2, t7_2, (List.set t8_2 (Int.toNat t10) true), t9_2, t10, (List.getD t9_2 (Int.toNat t10) ([] : (List Int))), (List.length (List.getD t9_2 (Int.toNat t10) ([] : (List Int))) : Int), (0 : Int), ()), ()) with | some ((t1_3, t3_3, t7_3, t8_3, t9_3, ()), ()) => some (.inl ((t1_3, t3_3, t7_3, t8_3, t9_3, ()), ())) | none => none)))) | none => none := rfl

theorem wtd_of {S : List (Int × Int)} {W : List Int} {n : Nat} (hp : pairsB S n = true) (hl : W.length = S.length) (hw : ∀ v ∈ W, 0 ≤ v ∧ v ≤ 999) : Wtd S W n := by
  have hok := pairsB_ok hp
  have hpw := steps_pairwise hp
  refine ⟨hok, fun a b c c' ⟨k, h1, h2, h3⟩ ⟨k', h1', h2', h3'⟩ => ?_, fun a b c ⟨k, h1, _, h3⟩ => ?_⟩
  · obtain ⟨x, y, e, o1, _⟩ := hok k h1
    obtain ⟨x', y', e', o1', _⟩ := hok k' h1'
    have hsame : S.getD k (0, 0) = S.getD k' (0, 0) := by
      rcases h2 with h2 | h2 <;> rcases h2' with h2' | h2'
      · rw [h2, h2']
      · rw [e] at h2; rw [e'] at h2'
        injection h2 with a1 a2; injection h2' with b1 b2; omega
      · rw [e] at h2; rw [e'] at h2'
        injection h2 with a1 a2; injection h2' with b1 b2; omega
      · rw [h2, h2']
    have hk : k = k' := by
      rw [getD_at h1, getD_at h1'] at hsame
      rcases Nat.lt_trichotomy k k' with g | g | g
      · have := List.pairwise_iff_getElem.1 hpw k k' h1 h1' g
        rw [hsame, edgeB_irr] at this; cases this
      · exact g
      · have := List.pairwise_iff_getElem.1 hpw k' k h1' h1 g
        rw [hsame, edgeB_irr] at this; cases this
    subst hk
    rw [← h3, ← h3']
  · have hk : k < W.length := by omega
    rw [← h3, getD_at hk]
    exact hw _ (List.getElem_mem hk)
theorem nbr_arc {S : List (Int × Int)} {W : List Int} {n : Nat} (hok : StepsOk S n) {a b : Int} (ha : 0 ≤ a) : b ∈ nbr S a.toNat ↔ ∃ c, Arc S W a b c := by
  have hta : ((a.toNat : Nat) : Int) = a := Int.toNat_of_nonneg ha
  simp only [nbr, inc, outg, List.mem_append, List.mem_map, List.mem_filter, decide_eq_true_eq, hta]
  constructor
  · rintro (⟨e, ⟨h1, h2⟩, h3⟩ | ⟨e, ⟨h1, h2⟩, h3⟩)
    · obtain ⟨k, hk, ek⟩ := List.getElem_of_mem h1
      exact ⟨_, k, hk, .inr (by rw [getD_at hk, ek, ← h2, ← h3]), rfl⟩
    · obtain ⟨k, hk, ek⟩ := List.getElem_of_mem h1
      exact ⟨_, k, hk, .inl (by rw [getD_at hk, ek, ← h2, ← h3]), rfl⟩
  · rintro ⟨c, k, hk, e, _⟩
    have hm := List.getElem_mem hk
    rw [getD_at hk] at e
    rcases e with e | e
    · right; exact ⟨_, ⟨hm, by rw [e]⟩, by rw [e]⟩
    · left; exact ⟨_, ⟨hm, by rw [e]⟩, by rw [e]⟩
theorem less_eq (a b : Int × Int) : impl_toll_less (a, b, ()) () = some ((edgeB a b, ()), ()) := by
  obtain ⟨a1, a2⟩ := a
  obtain ⟨b1, b2⟩ := b
  simp only [impl_toll_less, cmp_eq _ _, cmpOr_eq _ _, edgeB]
  by_cases h : a1 < b1
  · simp [h]
  · by_cases h2 : b1 < a1
    · have : ¬ a1 = b1 := by omega
      simp [h, h2, this]
    · have : a1 = b1 := by omega
      subst this
      by_cases h3 : a2 < b2
      · simp [h3]
      · by_cases h4 : b2 < a2 <;> simp [h3, h4]
theorem weight_arc (x : List (List Int) × List (Int × Int)) {W : List Int} {n : Nat} (hp : pairsB x.2 n = true) (hl : W.length = x.2.length) (h2 : x.2.length ≤ 1048576) {a b c : Int} (hA : Arc x.2 W a b c) (hW : Wtd x.2 W n) : impl_Space_weight (x, W, a, b, ()) () = some ((c, ()), ()) := by
  obtain ⟨k, hk, e, hc⟩ := hA
  obtain ⟨u, v, eu, o1, o2⟩ := hW.ok k hk
  have hpair : impl_pair (a, b, ()) () = some ((x.2.getD k (0, 0), ()), ()) := by
    simp only [impl_pair, bif_decide]
    rcases e with e | e
    · rw [e]
      rw [eu] at e
      injection e with e1 e2
      rw [if_neg (show ¬ b < a by omega), if_pos (show a < b by omega)]
    · rw [e]
      rw [eu] at e
      injection e with e1 e2
      rw [if_pos (show b < a by omega), if_neg (show ¬ a < b by omega)]
  obtain ⟨q, hq, eq, hf⟩ := findPair2 (steps_pairwise hp) h2 (e := x.2.getD k (0, 0)) (by rw [getD_at hk]; exact List.getElem_mem hk)
  have hqc : W.getD q 0 = c := by
    refine hW.uniq a b _ _ ⟨q, hq, ?_, rfl⟩ ⟨k, hk, e, hc⟩
    rw [eq]; exact e
  simp only [impl_Space_weight, hpair, hf, Int.toNat_natCast]
  rw [guardB_true (inb_true (by omega) (by omega)), hqc]
/-- the best one so far -/
def BestUpto (T : List (Int × Int)) (D : List Bool) (k : Nat) (best : Int) : Prop :=
  (best = -1 ∧ ∀ b : Int, 0 ≤ b → b < k → 0 ≤ (tv T b).1 → dn D b = true) ∨
  (0 ≤ best ∧ best < k ∧ 0 ≤ (tv T best).1 ∧ dn D best = false ∧ ∀ b : Int, 0 ≤ b → b < k → 0 ≤ (tv T b).1 → dn D b = false → ¬ Lt2 (tv T b) (tv T best))
theorem best_loop (x : List (List Int) × List (Int × Int)) (W : List Int) (L : List (List Int)) {T : List (Int × Int)} {D : List Bool} {n : Nat} (hT : T.length = n) (hD : D.length = n) (hn : n ≤ 1048576) : ∀ (d k : Nat) (best : Int), k + d = n → BestUpto T D k best →
    ∃ best', loopO impl_Space_tolls_B0 ((W, x, T, D, L, best, (n : Int), (k : Int), ()), ()) = some ((W, x, T, D, L, best', ()), ()) ∧ BestUpto T D n best'
  | 0, k, best, hk, hb => by
    have : k = n := by omega
    subst this
    refine ⟨best, loop_end ?_, hb⟩
    rw [impl_Space_tolls_B0_at]
    simp only [bif_decide]
    rw [if_neg (by omega)]
  | d + 1, k, best, hk, hb => by
    have hkn : k < n := by omega
    have on : ∀ best2 : Int, impl_Space_tolls_B0 ((W, x, T, D, L, best, (n : Int), (k : Int), ()), ()) = some (.inl ((W, x, T, D, L, best2, (n : Int), ((k + 1 : Nat) : Int), ()), ())) → BestUpto T D (k + 1) best2 → ∃ best', loopO impl_Space_tolls_B0 ((W, x, T, D, L, best, (n : Int), (k : Int), ()), ()) = some ((W, x, T, D, L, best', ()), ()) ∧ BestUpto T D n best' := by
      intro best2 h1 h2
      obtain ⟨b', q1, q2⟩ := best_loop x W L hT hD hn d (k + 1) best2 (by omega) h2
      exact ⟨b', loop_step h1 q1, q2⟩
    have e1 : T.getD k (0, 0) = tv T (k : Int) := by simp only [tv, Int.toNat_natCast]
    have e2 : D.getD k false = dn D (k : Int) := by simp only [dn, Int.toNat_natCast]
    have skip : (¬ 0 ≤ (tv T (k : Int)).1 ∨ dn D (k : Int) = true) → BestUpto T D (k + 1) best := fun hs => by
      rcases hb with ⟨b1, b2⟩ | ⟨b1, b2, b3, b4, b5⟩
      · refine .inl ⟨b1, fun b h0 h1 hf => ?_⟩
        by_cases hbk : b = k
        · subst hbk; exact hs.resolve_left (fun g => g hf)
        · exact b2 b h0 (by omega) hf
      · refine .inr ⟨b1, by omega, b3, b4, fun b h0 h1 hf hd => ?_⟩
        by_cases hbk : b = k
        · subst hbk
          rcases hs with hs | hs
          · exact absurd hf hs
          · rw [hs] at hd; cases hd
        · exact b5 b h0 (by omega) hf hd
    by_cases c1 : 0 ≤ (tv T (k : Int)).1
    · cases c2 : dn D (k : Int)
      · by_cases c3 : best < 0
        · refine on (k : Int) ?_ (.inr ⟨by omega, by omega, c1, c2, fun b h0 h1 hf hd => ?_⟩)
          · rw [impl_Space_tolls_B0_at]
            simp only [bif_decide, Int.toNat_natCast, e1, e2, c2]
            rw [if_pos (by omega), guardB_true (inb_true (by omega) (by omega)), if_pos c1, guardB_true (inb_true (by omega) (by omega))]
            simp only [Bool.not_false, cond_true]
            rw [if_pos c3, w64_succ (by omega)]
          · by_cases hbk : b = k
            · subst hbk; simp [Lt2]
            · rcases hb with ⟨_, b2⟩ | ⟨b1, _⟩
              · have := b2 b h0 (by omega) hf
                rw [hd] at this; cases this
              · omega
        · obtain ⟨b1, b2, b3, b4, b5⟩ := hb.resolve_left (fun g => by omega)
          have e3 : T.getD best.toNat (0, 0) = tv T best := rfl
          have st : impl_Space_tolls_B0 ((W, x, T, D, L, best, (n : Int), (k : Int), ()), ()) = some (bif edgeB (tv T (k : Int)) (tv T best) then .inl ((W, x, T, D, L, (k : Int), (n : Int), ((k + 1 : Nat) : Int), ()), ()) else .inl ((W, x, T, D, L, best, (n : Int), ((k + 1 : Nat) : Int), ()), ())) := by
            rw [impl_Space_tolls_B0_at]
            simp only [bif_decide, Int.toNat_natCast, e1, e2, e3, c2]
            rw [if_pos (by omega), guardB_true (inb_true (by omega) (by omega)), if_pos c1, guardB_true (inb_true (by omega) (by omega))]
            simp only [Bool.not_false, cond_true]
            rw [if_neg c3, guardB_true (inb_true b1 (by omega)), less_eq, w64_succ (by omega)]
            cases edgeB (tv T (k : Int)) (tv T best) <;> rfl
          cases c4 : edgeB (tv T (k : Int)) (tv T best)
          · rw [c4] at st
            have c4' : ¬ Lt2 (tv T (k : Int)) (tv T best) := fun g => by rw [edgeB_iff.2 g] at c4; cases c4
            refine on best st (.inr ⟨b1, by omega, b3, b4, fun b h0 h1 hf hd => ?_⟩)
            by_cases hbk : b = k
            · subst hbk; exact c4'
            · exact b5 b h0 (by omega) hf hd
          · rw [c4] at st
            have c4' := edgeB_iff.1 c4
            refine on (k : Int) st (.inr ⟨by omega, by omega, c1, c2, fun b h0 h1 hf hd => ?_⟩)
            by_cases hbk : b = k
            · subst hbk; simp [Lt2]
            · have := b5 b h0 (by omega) hf hd
              simp only [Lt2] at this c4' ⊢
              omega
      · refine on best ?_ (skip (.inr c2))
        rw [impl_Space_tolls_B0_at]
        simp only [bif_decide, Int.toNat_natCast, e1, e2, c2]
        rw [if_pos (by omega), guardB_true (inb_true (by omega) (by omega)), if_pos c1, guardB_true (inb_true (by omega) (by omega))]
        simp only [Bool.not_true, cond_false]
        rw [w64_succ (by omega)]
    · refine on best ?_ (skip (.inl c1))
      rw [impl_Space_tolls_B0_at]
      simp only [bif_decide, Int.toNat_natCast, e1, e2]
      rw [if_pos (by omega), guardB_true (inb_true (by omega) (by omega)), if_neg c1, w64_succ (by omega)]
theorem DInv.mono {S : List (Int × Int)} {W : List Int} {n : Nat} {i : Int} {T : List (Int × Int)} {D : List Bool} {a0 : Int} {P Q : Int → Prop} (h : DInv S W n i T D a0 P) (hPQ : ∀ b, Q b → P b) : DInv S W n i T D a0 Q :=
  ⟨h.len, h.lenD, h.zero, h.none, fun a b c hA hd hq => h.fix a b c hA hd fun e => hPQ b (hq e), h.tight, h.order, h.top, h.bound, h.low⟩
theorem relax_loop (x : List (List Int) × List (Int × Int)) {W : List Int} {n : Nat} (hp : pairsB x.2 n = true) (hl : W.length = x.2.length) (h2 : x.2.length ≤ 1048576) (hn : n ≤ 1048576) (hW : Wtd x.2 W n) (L : List (List Int)) {i : Int} (hi : 0 ≤ i ∧ i < n) {D : List Bool} {a0 : Int} (h0 : 0 ≤ a0) (h1 : a0 < n) (hd : dn D a0 = true) {row : List Int} (hrow : row = nbr x.2 a0.toNat) (hrl : row.length ≤ 3000000) : ∀ (d k : Nat) (T : List (Int × Int)), k + d = row.length → DInv x.2 W n i T D a0 (fun b => b ∈ row.take k) →
    ∃ T', loopO impl_Space_tolls_B1 ((W, x, T, D, L, a0, row, (row.length : Int), (k : Int), ()), ()) = some ((W, x, T', D, L, ()), ()) ∧ DInv x.2 W n i T' D a0 (fun b => b ∈ row)
  | 0, k, T, hk, hI => by
    have : k = row.length := by omega
    subst this
    rw [List.take_length] at hI
    refine ⟨T, loop_end ?_, hI⟩
    rw [impl_Space_tolls_B1_at]
    simp only [bif_decide]
    rw [if_neg (by omega)]
  | d + 1, k, T, hk, hI => by
    have hkr : k < row.length := by omega
    have hm : row.getD k 0 ∈ row := by rw [getD_at hkr]; exact List.getElem_mem hkr
    have hm2 : row.getD k 0 ∈ nbr x.2 a0.toNat := by rw [← hrow]; exact hm
    obtain ⟨c, hA⟩ := (nbr_arc (W := W) hW.ok h0).1 hm2
    obtain ⟨_, _, r3, r4, _⟩ := hA.range hW.ok
    obtain ⟨c0, c1⟩ := hW.wgt _ _ _ hA
    have hf0 : 0 ≤ (tv T a0).1 := by
      refine Classical.byContradiction fun g => ?_
      have := (hI.none a0 h0 h1 (by omega)).2
      rw [hd] at this; cases this
    obtain ⟨q1, q2, q3⟩ := hI.bound a0 h0 h1 hf0
    have q4 := cntT_le D
    rw [hI.lenD] at q4
    have e1 : T.getD a0.toNat (0, 0) = tv T a0 := rfl
    have e2 : T.getD (row.getD k 0).toNat (0, 0) = tv T (row.getD k 0) := rfl
    have hT := hI.len
    have wt := weight_arc x hp hl h2 hA hW
    have hR := (hI.relax hW hi hA hd).mono (Q := fun b => b ∈ row.take (k + 1)) (fun b hb => by
      rw [take_one hkr 0, List.mem_append, List.mem_singleton] at hb; exact hb)
    have st : impl_Space_tolls_B1 ((W, x, T, D, L, a0, row, (row.length : Int), (k : Int), ()), ()) = some (.inl ((W, x, (if (tv T (row.getD k 0)).1 < 0 ∨ Lt2 ((tv T a0).1 + c, (tv T a0).2 + 1) (tv T (row.getD k 0)) then T.set (row.getD k 0).toNat ((tv T a0).1 + c, (tv T a0).2 + 1) else T), D, L, a0, row, (row.length : Int), ((k + 1 : Nat) : Int), ()), ())) := by
      rw [impl_Space_tolls_B1_at]
      simp only [bif_decide, Int.toNat_natCast]
      rw [if_pos (by omega), guardB_true (inb_true (by omega) (by omega)), guardB_true (inb_true h0 (by omega)), guardB_true (inb_true h0 (by omega)), impl_Space_tolls_D3_at, impl_Space_tolls_D4_at, wt]
      simp only [e1, e2]
      rw [w64_of (by omega) (by omega), w64_of (by omega) (by omega), guardB_true (inb_true r3 (by omega))]
      by_cases g1 : (tv T (row.getD k 0)).1 < 0
      · rw [if_pos g1, if_pos (.inl g1), guardB_true (inb_true r3 (by omega)), w64_succ (by omega)]
      · rw [if_neg g1, guardB_true (inb_true r3 (by omega)), less_eq]
        simp only
        cases g2 : edgeB ((tv T a0).1 + c, (tv T a0).2 + 1) (tv T (row.getD k 0))
        · have g2' : ¬ Lt2 ((tv T a0).1 + c, (tv T a0).2 + 1) (tv T (row.getD k 0)) := fun g => by rw [edgeB_iff.2 g] at g2; cases g2
          rw [if_neg (by rintro (g | g); exact g1 g; exact g2' g)]
          simp only [cond_false, w64_succ (show k < 4611686018427387904 by omega)]
        · rw [if_pos (.inr (edgeB_iff.1 g2))]
          simp only [cond_true]
          rw [guardB_true (inb_true r3 (by omega)), w64_succ (by omega)]
    obtain ⟨T', t1, t2⟩ := relax_loop x hp hl h2 hn hW L hi h0 h1 hd hrow hrl d (k + 1) _ (by omega) hR
    exact ⟨T', loop_step st t1, t2⟩
theorem tolls_eq (x : List (List Int) × List (Int × Int)) {W : List Int} (hp : pairsB x.2 x.1.length = true) (hl : W.length = x.2.length) (hw : ∀ v ∈ W, 0 ≤ v ∧ v ≤ 999) (h2 : x.2.length ≤ 1048576) (hn : x.1.length ≤ 1048576) {i : Int} (hi : 0 ≤ i ∧ i < x.1.length) :
    ∃ T, impl_Space_tolls (x, W, i, ()) () = some ((T, ()), ()) ∧ IsTolls x.2 W x.1.length i T := by
  have hW := wtd_of hp hl hw
  obtain ⟨n, hnn⟩ : ∃ n, n = x.1.length := ⟨_, rfl⟩
  rw [← hnn] at hp hW hi hn ⊢
  have hroads := roads_eq x (hnn ▸ hp) (hnn ▸ hn) h2
  have hrows : ∀ a : Int, 0 ≤ a → a < n → (listsP x.2 n).getD a.toNat [] = nbr x.2 a.toNat := fun a h0 h1 => rows_get (by omega) _
  have key := loop_inv (B := impl_Space_tolls_B2) (fun p => ∃ (T : List (Int × Int)) (D : List Bool) (a0 : Int) (P : Int → Prop), p = ((W, x, T, D, listsP x.2 n, ()), ()) ∧ DInv x.2 W n i T D a0 P ∧ ∀ b c, Arc x.2 W a0 b c → P b) (fun p => n - cntT p.1.2.2.2.1) (fun q => ∃ T, q = ((T, ()), ()) ∧ IsTolls x.2 W n i T) (by
    rintro p ⟨T, D, a0, P, rfl, hI, hP⟩
    obtain ⟨best, b1, b2⟩ := best_loop x W (listsP x.2 n) hI.len hI.lenD hn n 0 (-1) (by omega) (.inl ⟨rfl, fun b h0 h1 _ => by omega⟩)
    rw [impl_Space_tolls_B2_at, hI.len]
    erw [b1]
    simp only [bif_decide]
    rcases b2 with ⟨rfl, b3⟩ | ⟨b3, b4, b5, b6, b7⟩
    · right
      exact ⟨_, by rw [if_pos (show (-1 : Int) < 0 by omega)], T, rfl, hI.done hW hP b3⟩
    · left
      have hN := hI.next hW hP b3 b4 b5 b6 b7
      have hc : cntT (D.set best.toNat true) = cntT D + 1 := cntT_set D best.toNat (by rw [hI.lenD]; omega) b6
      have hle := cntT_le (D.set best.toNat true)
      rw [List.length_set, hI.lenD] at hle
      have hrow := hrows best b3 b4
      have hrl : (nbr x.2 best.toNat).length ≤ 3000000 := by
        have h3 := inc_len x.2 best.toNat
        have h4 := outg_len x.2 best.toNat
        simp only [nbr, List.length_append]
        omega
      obtain ⟨T', t1, t2⟩ := relax_loop x hp hl h2 hn hW (listsP x.2 n) hi b3 b4 (by rw [dn_set b3 (by rw [hI.lenD]; exact b4) b3, if_pos rfl]) rfl hrl (nbr x.2 best.toNat).length 0 T (by omega) (hN.mono (by simp))
      refine ⟨((W, x, T', D.set best.toNat true, listsP x.2 n, ()), ()), ?_, ⟨T', _, best, _, rfl, t2, fun b c hA => (nbr_arc hW.ok b3).2 ⟨c, hA⟩⟩, by show n - cntT (D.set best.toNat true) < n - cntT D; omega⟩
      rw [if_neg (Int.not_lt.2 b3), guardB_true (inb_true b3 (by rw [hI.lenD]; exact b4)), guardB_true (inb_true b3 (by simp only [listsP, rows_len]; exact b4)), hrow]
      erw [t1])
  have hT0 : DInv x.2 W n i ((List.replicate n ((-1 : Int), (0 : Int))).set i.toNat (0, 0)) (List.replicate n false) (-1) (fun _ => False) := by
    have hv : ∀ b : Int, 0 ≤ b → b < n → tv ((List.replicate n ((-1 : Int), (0 : Int))).set i.toNat (0, 0)) b = if b = i then (0, 0) else (-1, 0) := fun b h0 h1 => by
      rw [tv_set hi.1 (by rw [List.length_replicate]; exact hi.2) h0]
      split
      · rfl
      · simp only [tv]
        rw [getD_at (by rw [List.length_replicate]; omega), List.getElem_replicate]
    have hd : ∀ b : Int, dn (List.replicate n false) b = false := fun b => by
      simp only [dn]
      by_cases h : b.toNat < n
      · rw [getD_at (by rw [List.length_replicate]; exact h), List.getElem_replicate]
      · simp [List.getD, List.getElem?_eq_none (show (List.replicate n false).length ≤ b.toNat by rw [List.length_replicate]; omega)]
    refine ⟨by simp, by simp, by rw [hv i hi.1 hi.2, if_pos rfl], fun b h0 h1 hn => ⟨?_, hd b⟩, fun a b c _ h => (by rw [hd] at h; cases h), fun b h0 h1 hf hne => ?_, fun a b _ _ _ _ h => (by rw [hd] at h; cases h), fun a _ _ h => (by rw [hd] at h; cases h), fun b h0 h1 hf => ?_, fun b _ _ h => (by omega)⟩
    · rw [hv b h0 h1] at hn ⊢
      by_cases e : b = i
      · rw [if_pos e] at hn; simp at hn
      · rw [if_neg e]
    · rw [hv b h0 h1, if_neg hne] at hf; simp at hf
    · rw [hv b h0 h1] at hf ⊢
      by_cases e : b = i
      · rw [if_pos e]; simp
      · rw [if_neg e] at hf; simp at hf
  obtain ⟨q, q1, T, q2, q3⟩ := key ((W, x, (List.replicate n ((-1 : Int), (0 : Int))).set i.toNat (0, 0), List.replicate n false, listsP x.2 n, ()), ()) ⟨_, _, -1, _, rfl, hT0, fun b c hA => by have := (hA.range hW.ok).1; omega⟩
  subst q2
  refine ⟨T, ?_, q3⟩
  simp only [impl_Space_tolls, ← hnn]
  rw [impl_Space_tolls_D0_at, impl_Space_tolls_D1_at, RepeatT_eq _ n hn]
  simp only
  rw [impl_Space_tolls_D2_at, guardB_true (by simp <;> omega), hroads, ← hnn]
  simp only [Int.toNat_natCast]
  rw [guardB_true (inb_true hi.1 (by rw [List.length_replicate]; exact hi.2))]
  erw [q1]

theorem spec_l11Pairs_B0_at (t1 : List (Int)) (t2 : Int) (t3 : (List (List (Int))) × (List ((Int) × (Int)))) (t7 : List ((Int) × (Int))) (t8 : Int) : spec_l11Pairs_B0 ((t1, t2, t3, t7, t8, ()), ()) = bif (decide (t8 < (List.length t3.1 : Int))) then (guardB (decide ((List.length t7 + List.length [((-1 : Int), (-1 : Int))]) * 16 ≤ 70368744177664)) (some (.inl ((t1, t2, t3, (t7 ++ [((-1 : Int), (-1 : Int))]), (w64 (t8 + (1 : Int))), ()), ())))) else (some (.inr ((t1, t2, t3, t7, ()), ()))) := rfl
theorem spec_l11Pairs_B1_at (t1 : List (Int)) (t3 : (List (List (Int))) × (List ((Int) × (Int)))) (t7 : List ((Int) × (Int))) (t9 : Bool) (t10 : Int) (t11 : Int) : spec_l11Pairs_B1 ((t1, t3, t7, t9, t10, t11, ()), ()) = bif (decide (t11 < (2 : Int))) then (guardB (inb t10 (List.length t3.2)) (guardB (decide (0 ≤ t11) && decide (t11 < 2)) (guardB (inb t10 (List.length t3.2)) (guardB (decide (0 ≤ (w64 ((1 : Int) - t11))) && decide ((w64 ((1 : Int) - t11)) < 2)) (guardB (inb (bif Nat.beq (Int.toNat t11) 0 then (List.getD t3.2 (Int.toNat t10) ((0 : Int), (0 : Int))).1 else (List.getD t3.2 (Int.toNat t10) ((0 : Int), (0 : Int))).2) (List.length t7)) (guardB (inb t10 (List.length t1)) (guardB (inb (bif Nat.beq (Int.toNat t11) 0 then (List.getD t3.2 (Int.toNat t10) ((0 : Int), (0 : Int))).1 else (List.getD t3.2 (Int.toNat t10) ((0 : Int), (0 : Int))).2) (List.length t7)) (guardB (inb (bif Nat.beq (Int.toNat t11) 0 then (List.getD t3.2 (Int.toNat t10) ((0 : Int), (0 : Int))).1 else (List.getD t3.2 (Int.toNat t10) ((0 : Int), (0 : Int))).2) (List.length t7)) (bif (decide ((0 : Int) ≤ ((List.getD t7 (Int.toNat (bif Nat.beq (Int.toNat t11) 0 then (List.getD t3.2 (Int.toNat t10) ((0 : Int), (0 : Int))).1 else (List.getD t3.2 (Int.toNat t10) ((0 : Int), (0 : Int))).2)) ((0 : Int), (0 : Int))).1))) then (guardB (inb (bif Nat.beq (Int.toNat (w64 ((1 : Int) - t11))) 0 then (List.getD t3.2 (Int.toNat t10) ((0 : Int), (0 : Int))).1 else (List.getD t3.2 (Int.toNat t10) ((0 : Int), (0 : Int))).2) (List.length t7)) (bif (decide (((List.getD t7 (Int.toNat (bif Nat.beq (Int.toNat (w64 ((1 : Int) - t11))) 0 then (List.getD t3.2 (Int.toNat t10) ((0 : Int), (0 : Int))).1 else (List.getD t3.2 (Int.toNat t10) ((0 : Int), (0 : Int))).2)) ((0 : Int), (0 : Int))).1) < (0 : Int))) then (guardB (inb (bif Nat.beq (Int.toNat (w64 ((1 : Int) - t11))) 0 then (List.getD t3.2 (Int.toNat t10) ((0 : Int), (0 : Int))).1 else (List.getD t3.2 (Int.toNat t10) ((0 : Int), (0 : Int))).2) (List.length t7)) (some (.inl ((t1, t3, (List.set t7 (Int.toNat (bif Nat.beq (Int.toNat (w64 ((1 : Int) - t11))) 0 then (List.getD t3.2 (Int.toNat t10) ((0 : Int), (0 : Int))).1 else (List.getD t3.2 (Int.toNat t10) ((0 : Int), (0 : Int))).2)) ((w64 (((List.getD t7 (Int.toNat (bif Nat.beq (Int.toNat t11) 0 then (List.getD t3.2 (Int.toNat t10) ((0 : Int), (0 : Int))).1 else (List.getD t3.2 (Int.toNat t10) ((0 : Int), (0 : Int))).2)) ((0 : Int), (0 : Int))).1) + (List.getD t1 (Int.toNat t10) (0 : Int)))), (w64 (((List.getD t7 (Int.toNat (bif Nat.beq (Int.toNat t11) 0 then (List.getD t3.2 (Int.toNat t10) ((0 : Int), (0 : Int))).1 else (List.getD t3.2 (Int.toNat t10) ((0 : Int), (0 : Int))).2)) ((0 : Int), (0 : Int))).2) + (1 : Int))))), true, t10, (w64 (t11 + (1 : Int))), ()), ())))) else (guardB (inb (bif Nat.beq (Int.toNat (w64 ((1 : Int) - t11))) 0 then (List.getD t3.2 (Int.toNat t10) ((0 : Int), (0 : Int))).1 else (List.getD t3.2 (Int.toNat t10) ((0 : Int), (0 : Int))).2) (List.length t7)) (match spec_l2Edge (((w64 (((List.getD t7 (Int.toNat (bif Nat.beq (Int.toNat t11) 0 then (List.getD t3.2 (Int.toNat t10) ((0 : Int), (0 : Int))).1 else (List.getD t3.2 (Int.toNat t10) ((0 : Int), (0 : Int))).2)) ((0 : Int), (0 : Int))).1) + (List.getD t1 (Int.toNat t10) (0 : Int)))), (w64 (((List.getD t7 (Int.toNat (bif Nat.beq (Int.toNat t11) 0 then (List.getD t3.2 (Int.toNat t10) ((0 : Int), (0 : Int))).1 else (List.getD t3.2 (Int.toNat t10) ((0 : Int), (0 : Int))).2)) ((0 : Int), (0 : Int))).2) + (1 : Int)))), (List.getD t7 (Int.toNat (bif Nat.beq (Int.toNat (w64 ((1 : Int) - t11))) 0 then (List.getD t3.2 (Int.toNat t10) ((0 : Int), (0 : Int))).1 else (List.getD t3.2 (Int.toNat t10) ((0 : Int), (0 : Int))).2)) ((0 : Int), (0 : Int))), ()) () with | some ((r, ()), ()) => (bif r then (guardB (inb (bif Nat.beq (Int.toNat (w64 ((1 : Int) - t11))) 0 then (List.getD t3.2 (Int.toNat t10) ((0 : Int), (0 : Int))).1 else (List.getD t3.2 (Int.toNat t10) ((0 : Int), (0 : Int))).2) (List.length t7)) (some (.inl ((t1, t3, (List.set t7 (Int.toNat (bif Nat.beq (Int.toNat (w64 ((1 : Int) - t11))) 0 then (List.getD t3.2 (Int.toNat t10) ((0 : Int), (0 : Int))).1 else (List.getD t3.2 (Int.toNat t10) ((0 : Int), (0 : Int))).2)) ((w64 (((List.getD t7 (Int.toNat (bif Nat.beq (Int.toNat t11) 0 then (List.getD t3.2 (Int.toNat t10) ((0 : Int), (0 : Int))).1 else (List.getD t3.2 (Int.toNat t10) ((0 : Int), (0 : Int))).2)) ((0 : Int), (0 : Int))).1) + (List.getD t1 (Int.toNat t10) (0 : Int)))), (w64 (((List.getD t7 (Int.toNat (bif Nat.beq (Int.toNat t11) 0 then (List.getD t3.2 (Int.toNat t10) ((0 : Int), (0 : Int))).1 else (List.getD t3.2 (Int.toNat t10) ((0 : Int), (0 : Int))).2)) ((0 : Int), (0 : Int))).2) + (1 : Int))))), true, t10, (w64 (t11 + (1 : Int))), ()), ())))) else (some (.inl ((t1, t3, t7, t9, t10, (w64 (t11 + (1 : Int))), ()), ())))) | none => none)))) else (some (.inl ((t1, t3, t7, t9, t10, (w64 (t11 + (1 : Int))), ()), ())))))))))))) else (some (.inr ((t1, t3, t7, t9, t10, ()), ()))) := rfl
theorem spec_l11Pairs_B2_at (t1 : List (Int)) (t3 : (List (List (Int))) × (List ((Int) × (Int)))) (t7 : List ((Int) × (Int))) (t9 : Bool) (t10 : Int) : spec_l11Pairs_B2 ((t1, t3, t7, t9, t10, ()), ()) = bif (decide (t10 < (List.length t3.2 : Int))) then (match loopO spec_l11Pairs_B1 ((t1, t3, t7, t9, t10, (0 : Int), ()), ()) with | some ((t1_2, t3_2, t7_2, t9_2, t10_2, ()), ()) => some (.inl ((t1_2, t3_2, t7_2, t9_2, (w64 (t10_2 + (1 : Int))), ()), ())) | none => none) else (some (.inr ((t1, t3, t7, t9, ()), ()))) := rfl
theorem spec_l11Pairs_B3_at (t1 : List (Int)) (t3 : (List (List (Int))) × (List ((Int) × (Int)))) (t7 : List ((Int) × (Int))) (t9 : Bool) : spec_l11Pairs_B3 ((t1, t3, t7, t9, ()), ()) = bif t9 then (match loopO spec_l11Pairs_B2 ((t1, t3, t7, false, (0 : Int), ()), ()) with | some ((t1_2, t3_2, t7_2, t9_2, ()), ()) => some (.inl ((t1_2, t3_2, t7_2, t9_2, ()), ())) | none => none) else (some (.inr ((t7, ()), ()))) := rfl

def ArcAt (S : List (Int × Int)) (W : List Int) (k : Nat) (a b c : Int) : Prop := (S.getD k (0, 0) = (a, b) ∨ S.getD k (0, 0) = (b, a)) ∧ W.getD k 0 = c
def rx (O : List (Int × Int)) (a b c : Int) : List (Int × Int) × Bool :=
  if 0 ≤ (tv O a).1 ∧ ((tv O b).1 < 0 ∨ Lt2 ((tv O a).1 + c, (tv O a).2 + 1) (tv O b)) then (O.set b.toNat ((tv O a).1 + c, (tv O a).2 + 1), true) else (O, false)
/-- what a table says is the toll of a way -/
structure Snd (T : List (Int × Int)) (n : Nat) (i : Int) (m : Int) (O : List (Int × Int)) : Prop where
  len : O.length = n
  zero : tv O i = (0, 0)
  snd : ∀ b : Int, 0 ≤ b → b < n → tv O b = (-1, -1) ∨ (0 ≤ (tv T b).1 ∧ 0 ≤ (tv O b).1 ∧ ¬ Lt2 (tv O b) (tv T b) ∧ 0 ≤ (tv O b).2 ∧ (tv O b).2 ≤ m ∧ (tv O b).1 ≤ 999 * m)
section
variable {S : List (Int × Int)} {W : List Int} {n : Nat} {i : Int} {T O : List (Int × Int)} {m a b c : Int}
theorem rx_tv (hO : O.length = n) (hb : 0 ≤ b ∧ b < n) {x : Int} (hx : 0 ≤ x) : tv (rx O a b c).1 x = if (rx O a b c).2 = true ∧ x = b then ((tv O a).1 + c, (tv O a).2 + 1) else tv O x := by
  unfold rx
  split
  · simp only [true_and]
    exact tv_set hb.1 (by rw [hO]; exact hb.2) hx
  · simp
theorem rx_fire : (rx O a b c).2 = true ↔ 0 ≤ (tv O a).1 ∧ ((tv O b).1 < 0 ∨ Lt2 ((tv O a).1 + c, (tv O a).2 + 1) (tv O b)) := by
  unfold rx; split <;> simp_all
theorem rx_still (h : (rx O a b c).2 = false) : (rx O a b c).1 = O := by
  unfold rx at h ⊢; split at h
  · cases h
  · rename_i g; rw [if_neg g]
theorem rx_len (hO : O.length = n) : (rx O a b c).1.length = n := by
  unfold rx; split
  · rw [List.length_set]; exact hO
  · exact hO
theorem rx_old (hT : IsTolls S W n i T) (hW : Wtd S W n) (hA : Arc S W a b c) (hO : Snd T n i m O) (h : tv O b = tv T b) : (rx O a b c).2 = false := by
  obtain ⟨r1, r2, r3, r4, r5⟩ := hA.range hW.ok
  cases e : (rx O a b c).2
  · rfl
  · exfalso
    obtain ⟨f1, f2⟩ := rx_fire.1 e
    rcases hO.snd a r1 r2 with g | ⟨g1, g2, g3, g4, _⟩
    · rw [g] at f1; simp at f1
    · obtain ⟨k1, k2⟩ := hT.fix a b c hA g1
      rw [h] at f2
      simp only [Lt2] at f2 g3 k2
      omega
theorem rx_keep (hT : IsTolls S W n i T) (hW : Wtd S W n) (hA : Arc S W a b c) (hO : Snd T n i m O) {x : Int} (hx : 0 ≤ x) (h : tv O x = tv T x) : tv (rx O a b c).1 x = tv T x := by
  obtain ⟨r1, r2, r3, r4, r5⟩ := hA.range hW.ok
  rw [rx_tv hO.len ⟨r3, r4⟩ hx]
  by_cases e : (rx O a b c).2 = true ∧ x = b
  · obtain ⟨e1, rfl⟩ := e
    rw [rx_old hT hW hA hO h] at e1; cases e1
  · rw [if_neg e]; exact h
theorem rx_tight (hT : IsTolls S W n i T) (hW : Wtd S W n) (hA : Arc S W a b c) (hO : Snd T n i m O) (h : tv O a = tv T a) (hf : 0 ≤ (tv T a).1) (ht : tv T b = ((tv T a).1 + c, (tv T a).2 + 1)) : tv (rx O a b c).1 b = tv T b := by
  obtain ⟨r1, r2, r3, r4, r5⟩ := hA.range hW.ok
  obtain ⟨w1, w2⟩ := hW.wgt a b c hA
  rw [rx_tv hO.len ⟨r3, r4⟩ r3]
  by_cases e : (rx O a b c).2 = true
  · rw [if_pos ⟨e, rfl⟩, h, ht]
  · rw [if_neg (fun g => e g.1)]
    rw [rx_fire, h, ← ht] at e
    rcases hO.snd b r3 r4 with g | ⟨g1, g2, g3, _⟩
    · exact absurd ⟨hf, .inl (by rw [g]; decide)⟩ e
    · have g4 : ¬ Lt2 (tv T b) (tv O b) := fun g4 => e ⟨hf, .inr g4⟩
      generalize tv O b = p at g2 g3 g4
      generalize tv T b = q at g3 g4
      obtain ⟨p1, p2⟩ := p
      obtain ⟨q1, q2⟩ := q
      simp only [Lt2] at g3 g4
      rw [Prod.mk.injEq]
      omega
theorem rx_snd (hT : IsTolls S W n i T) (hW : Wtd S W n) (hi : 0 ≤ i ∧ i < n) (hA : Arc S W a b c) (hO : Snd T n i m O) (hm : 0 ≤ m) : Snd T n i (m + 1) (rx O a b c).1 := by
  obtain ⟨r1, r2, r3, r4, r5⟩ := hA.range hW.ok
  obtain ⟨w1, w2⟩ := hW.wgt a b c hA
  refine ⟨rx_len hO.len, ?_, fun x hx hx' => ?_⟩
  · rw [rx_keep hT hW hA hO hi.1 (by rw [hO.zero, hT.zero]), hT.zero]
  · rw [rx_tv hO.len ⟨r3, r4⟩ hx]
    by_cases e : (rx O a b c).2 = true ∧ x = b
    · obtain ⟨e1, rfl⟩ := e
      rw [if_pos ⟨e1, rfl⟩]
      right
      obtain ⟨f1, f2⟩ := rx_fire.1 e1
      rcases hO.snd a r1 r2 with g | ⟨g1, g2, g3, g4, g5, g6⟩
      · rw [g] at f1; simp at f1
      · obtain ⟨k1, k2⟩ := hT.fix a x c hA g1
        simp only [Lt2] at g3 k2 ⊢
        refine ⟨k1, by omega, by omega, by omega, by omega, by omega⟩
    · rw [if_neg e]
      rcases hO.snd x hx hx' with g | ⟨g1, g2, g3, g4, g5, g6⟩
      · exact .inl g
      · exact .inr ⟨g1, g2, g3, g4, by omega, by omega⟩
/-- in a round: r of them are behind, k steps have been looked at -/
structure RI (S : List (Int × Int)) (W : List Int) (n : Nat) (i : Int) (T O0 : List (Int × Int)) (r : Int) (k : Nat) (O : List (Int × Int)) (ch : Bool) : Prop where
  snd : Snd T n i (12000 * r + 2 * k) O
  low : ∀ x : Int, 0 ≤ x → x < n → 0 ≤ (tv T x).1 → (tv T x).2 ≤ r → tv O x = tv T x
  nxt : ∀ x y z k', k' < k → ArcAt S W k' x y z → 0 ≤ (tv T x).1 → (tv T x).2 = r → tv T y = ((tv T x).1 + z, (tv T x).2 + 1) → tv O y = tv T y
  flag : ch = false → O = O0 ∧ ∀ x y z k', k' < k → ArcAt S W k' x y z → 0 ≤ (tv O0 x).1 → 0 ≤ (tv O0 y).1 ∧ ¬ Lt2 ((tv O0 x).1 + z, (tv O0 x).2 + 1) (tv O0 y)
  late : (n : Int) ≤ r → ch = false
theorem RI.step (hT : IsTolls S W n i T) (hW : Wtd S W n) (hi : 0 ≤ i ∧ i < n) {O0 : List (Int × Int)} {r : Int} (hr : 0 ≤ r) {k : Nat} {ch : Bool} (h : RI S W n i T O0 r k O ch) (hk : k < S.length) (hA : ArcAt S W k a b c) :
    RI S W n i T O0 r (k + 1) (rx (rx O a b c).1 b a c).1 (ch || (rx O a b c).2 || (rx (rx O a b c).1 b a c).2) := by
  have A1 : Arc S W a b c := ⟨k, hk, hA.1, hA.2⟩
  have A2 : Arc S W b a c := A1.symm
  have s1 := rx_snd hT hW hi A1 h.snd (by omega)
  have s2 := rx_snd hT hW hi A2 s1 (by omega)
  have kp : ∀ x : Int, 0 ≤ x → tv O x = tv T x → tv (rx (rx O a b c).1 b a c).1 x = tv T x := fun x hx e => rx_keep hT hW A2 s1 hx (rx_keep hT hW A1 h.snd hx e)
  have hlate : (n : Int) ≤ r → (ch || (rx O a b c).2 || (rx (rx O a b c).1 b a c).2) = false := fun hn => by
    have all : ∀ x : Int, 0 ≤ x → x < n → 0 ≤ (tv T x).1 → tv O x = tv T x := fun x h0 h1 hf => h.low x h0 h1 hf (by have := (hT.bound x h0 h1 hf).2.1; omega)
    have q : ∀ x y z, Arc S W x y z → ∀ O' m', Snd T n i m' O' → (∀ x : Int, 0 ≤ x → x < n → 0 ≤ (tv T x).1 → tv O' x = tv T x) → (rx O' x y z).2 = false := by
      intro x y z hxy O' m' hS' hall
      obtain ⟨t1, t2, t3, t4, _⟩ := hxy.range hW.ok
      by_cases hy : 0 ≤ (tv T y).1
      · exact rx_old hT hW hxy hS' (hall y t3 t4 hy)
      · cases e : (rx O' x y z).2
        · rfl
        · exfalso
          obtain ⟨f1, _⟩ := rx_fire.1 e
          rcases hS'.snd x t1 t2 with g | ⟨g1, _⟩
          · rw [g] at f1; simp at f1
          · exact hy (hT.fix x y z hxy g1).1
    have e1 := q a b c A1 O _ h.snd all
    have e2 := q b a c A2 (rx O a b c).1 _ s1 (fun x h0 h1 hf => rx_keep hT hW A1 h.snd h0 (all x h0 h1 hf))
    rw [h.late hn, e1, e2]; rfl
  refine ⟨?_, fun x h0 h1 hf hl => kp x h0 (h.low x h0 h1 hf hl), fun x y z k' hk' hxy hf hx2 ht => ?_, fun hfl => ?_, hlate⟩
  · have : (12000 * r + 2 * ((k + 1 : Nat) : Int)) = 12000 * r + 2 * (k : Int) + 1 + 1 := by omega
    rw [this]; exact s2
  · by_cases e : k' < k
    · have A : Arc S W x y z := ⟨k', by omega, hxy.1, hxy.2⟩
      exact kp y (A.range hW.ok).2.2.1 (h.nxt x y z k' e hxy hf hx2 ht)
    · have e : k' = k := by omega
      subst e
      obtain ⟨r1, r2, r3, r4, r5⟩ := A1.range hW.ok
      have hz : z = c := by rw [← hxy.2, ← hA.2]
      subst hz
      have hor : (x = a ∧ y = b) ∨ (x = b ∧ y = a) := by
        rcases hxy.1 with e1 | e1 <;> rcases hA.1 with e2 | e2 <;> rw [e2] at e1 <;> injection e1 with p1 p2
        · exact .inl ⟨p1.symm, p2.symm⟩
        · exact .inr ⟨p1.symm, p2.symm⟩
        · exact .inr ⟨p2.symm, p1.symm⟩
        · exact .inl ⟨p2.symm, p1.symm⟩
      rcases hor with ⟨rfl, rfl⟩ | ⟨rfl, rfl⟩
      · have hxO := h.low x r1 r2 hf (by omega)
        exact rx_keep hT hW A2 s1 r3 (rx_tight hT hW A1 h.snd hxO hf ht)
      · have hxO := rx_keep hT hW A1 h.snd r3 (h.low x r3 r4 hf (by omega))
        exact rx_tight hT hW A2 s1 hxO hf ht
  · simp only [Bool.or_eq_false_iff] at hfl
    obtain ⟨⟨f1, f2⟩, f3⟩ := hfl
    obtain ⟨g1, g2⟩ := h.flag f1
    have e1 := rx_still f2
    have e2 := rx_still f3
    rw [e1] at e2 f3
    refine ⟨by rw [e1, e2]; exact g1, fun x y z k' hk' hxy hf => ?_⟩
    by_cases e : k' < k
    · exact g2 x y z k' e hxy hf
    · have e : k' = k := by omega
      subst e
      have hz : z = c := by rw [← hxy.2, ← hA.2]
      subst hz
      have nf1 : ¬ (0 ≤ (tv O a).1 ∧ ((tv O b).1 < 0 ∨ Lt2 ((tv O a).1 + z, (tv O a).2 + 1) (tv O b))) := fun g => by rw [rx_fire.2 g] at f2; cases f2
      have nf2 : ¬ (0 ≤ (tv O b).1 ∧ ((tv O a).1 < 0 ∨ Lt2 ((tv O b).1 + z, (tv O b).2 + 1) (tv O a))) := fun g => by rw [rx_fire.2 g] at f3; cases f3
      rw [← g1] at hf ⊢
      rcases hxy.1 with e1 | e1 <;> rcases hA.1 with e2 | e2 <;> rw [e2] at e1 <;> injection e1 with p1 p2 <;> subst p1 <;> subst p2
      · exact ⟨by have := not_and.1 nf1 hf; omega, fun g => nf1 ⟨hf, .inr g⟩⟩
      · exact ⟨by have := not_and.1 nf2 hf; omega, fun g => nf2 ⟨hf, .inr g⟩⟩
      · exact ⟨by have := not_and.1 nf2 hf; omega, fun g => nf2 ⟨hf, .inr g⟩⟩
      · exact ⟨by have := not_and.1 nf1 hf; omega, fun g => nf1 ⟨hf, .inr g⟩⟩
/-- the table that the reference hands back -/
def cv (T : List (Int × Int)) : List (Int × Int) := T.map fun t => if 0 ≤ t.1 then t else (-1, -1)
theorem cv_tv (hl : T.length = n) (hb : 0 ≤ b ∧ b < n) : tv (cv T) b = if 0 ≤ (tv T b).1 then tv T b else (-1, -1) := by
  have e : tv T b = T[b.toNat]'(by rw [hl]; omega) := getD_at (by rw [hl]; omega) _
  rw [show tv (cv T) b = (cv T)[b.toNat]'(by simp only [cv, List.length_map, hl]; omega) from getD_at (by simp only [cv, List.length_map, hl]; omega) _]
  simp only [cv, List.getElem_map, e]
theorem ext_tv (h1 : T.length = n) (h2 : O.length = n) (h : ∀ b : Int, 0 ≤ b → b < n → tv O b = tv T b) : O = T := by
  apply List.ext_getElem (by omega)
  intro k hk hk'
  have := h (k : Int) (by omega) (by omega)
  simp only [tv, Int.toNat_natCast] at this
  rwa [getD_at hk, getD_at hk'] at this
theorem RI.fin (hT : IsTolls S W n i T) (hW : Wtd S W n) {O0 : List (Int × Int)} {r : Int} {k : Nat} (h : RI S W n i T O0 r k O false) (hk : k = S.length) : O = cv T := by
  obtain ⟨g1, g2⟩ := h.flag rfl
  subst hk
  have key : ∀ d : Nat, ∀ x : Int, 0 ≤ x → x < n → 0 ≤ (tv T x).1 → (tv T x).2 ≤ d → tv O x = tv T x := by
    intro d
    induction d with
    | zero =>
      intro x h0 h1 hf hd
      by_cases hx : x = i
      · subst hx; rw [hT.zero, h.snd.zero]
      · obtain ⟨a, c, hA, t2, t3⟩ := hT.tight x h0 h1 hf hx
        have := (hT.bound a (hA.range hW.ok).1 (hA.range hW.ok).2.1 t2).1
        rw [t3] at hd
        simp only at hd
        omega
    | succ d ih =>
      intro x h0 h1 hf hd
      by_cases hx : x = i
      · subst hx; rw [hT.zero, h.snd.zero]
      · obtain ⟨a, c, hA, t2, t3⟩ := hT.tight x h0 h1 hf hx
        have hOa := ih a (hA.range hW.ok).1 (hA.range hW.ok).2.1 t2 (by rw [t3] at hd; simp only at hd; omega)
        obtain ⟨k', hk', hor, hc⟩ := hA
        have hfix := g2 a x c k' hk' ⟨hor, hc⟩
        rw [← g1, hOa] at hfix
        obtain ⟨f1, f2⟩ := hfix t2
        rw [← t3] at f2
        rcases h.snd.snd x h0 h1 with g | ⟨_, _, g3, _⟩
        · rw [g] at f1; simp at f1
        · generalize tv O x = p at f2 g3
          generalize tv T x = q at f2 g3
          obtain ⟨p1, p2⟩ := p
          obtain ⟨q1, q2⟩ := q
          simp only [Lt2] at f2 g3
          rw [Prod.mk.injEq]
          omega
  refine ext_tv (n := n) (by simp [cv, hT.len]) h.snd.len fun b h0 h1 => ?_
  rw [cv_tv hT.len ⟨h0, h1⟩]
  by_cases hf : 0 ≤ (tv T b).1
  · rw [if_pos hf]
    exact key n b h0 h1 hf (hT.bound b h0 h1 hf).2.1
  · rw [if_neg hf]
    rcases h.snd.snd b h0 h1 with g | ⟨g, _⟩
    · exact g
    · exact absurd g hf
end
theorem sel0 {α : Type} (p q : α) : (bif Nat.beq (Int.toNat (0 : Int)) 0 then p else q) = p := rfl
theorem sel1 {α : Type} (p q : α) : (bif Nat.beq (Int.toNat (1 : Int)) 0 then p else q) = q := rfl
theorem w10 : w64 ((1 : Int) - 0) = 1 := by decide
theorem w11 : w64 ((1 : Int) - 1) = 0 := by decide
theorem w01 : w64 ((0 : Int) + 1) = 1 := by decide
theorem w12 : w64 ((1 : Int) + 1) = 2 := by decide
theorem pairs_turn (x : List (List Int) × List (Int × Int)) (W : List Int) {O : List (Int × Int)} {n : Nat} (ch : Bool) {k : Nat} (hk : k < x.2.length) (hkw : k < W.length) (hO : O.length = n) {a b c : Int} (hS : x.2.getD k (0, 0) = (a, b)) (hc : W.getD k 0 = c) (ha : 0 ≤ a ∧ a < n) (hb : 0 ≤ b ∧ b < n) (h1 : 0 ≤ (tv O a).1 → (tv O a).1 ≤ 1000000000000) (h2 : (tv O a).1 < 0 → (tv O a).1 = -1) (h3 : -1 ≤ (tv O a).2 ∧ (tv O a).2 ≤ 1000000000000) (hcw : 0 ≤ c ∧ c ≤ 999) :
    spec_l11Pairs_B1 ((W, x, O, ch, (k : Int), 0, ()), ()) = some (.inl ((W, x, (rx O a b c).1, ch || (rx O a b c).2, (k : Int), 1, ()), ())) := by
  have i1 : inb (k : Int) x.2.length = true := inb_true (by omega) (by omega)
  have i2 : inb (k : Int) W.length = true := inb_true (by omega) (by omega)
  have i3 : inb a O.length = true := inb_true ha.1 (by omega)
  have i4 : inb b O.length = true := inb_true hb.1 (by omega)
  have e1 : O.getD a.toNat (0, 0) = tv O a := rfl
  have e2 : O.getD b.toNat (0, 0) = tv O b := rfl
  rw [spec_l11Pairs_B1_at]
  simp only [Int.toNat_natCast, hS, hc, sel0, w10, sel1, w01, i1, i2, i3, i4, e1, e2, guardB, cond_true, l2Edge_eq, bif_decide]
  have d2 : (decide ((0 : Int) ≤ 0) && decide ((0 : Int) < 2)) = true := by decide
  have d3 : (decide ((0 : Int) ≤ 1) && decide ((1 : Int) < 2)) = true := by decide
  rw [if_pos (show (0 : Int) < 2 by decide)]
  simp only [d2, d3, cond_true]
  by_cases g0 : 0 ≤ (tv O a).1
  · have hw1 : w64 ((tv O a).1 + c) = (tv O a).1 + c := w64_of (by omega) (by have := h1 g0; omega)
    have hw2 : w64 ((tv O a).2 + 1) = (tv O a).2 + 1 := w64_of (by omega) (by omega)
    simp only [hw1, hw2]
    rw [if_pos g0]
    by_cases g1 : (tv O b).1 < 0
    · have hf : rx O a b c = (O.set b.toNat ((tv O a).1 + c, (tv O a).2 + 1), true) := if_pos ⟨g0, .inl g1⟩
      rw [if_pos g1, hf, Bool.or_true]
    · rw [if_neg g1]
      cases g2 : edgeB ((tv O a).1 + c, (tv O a).2 + 1) (tv O b)
      · have hf : rx O a b c = (O, false) := if_neg (by rintro ⟨_, g | g⟩; exact g1 g; rw [edgeB_iff.2 g] at g2; cases g2)
        rw [l2Edge_eq, g2, hf, Bool.or_false]; rfl
      · have hf : rx O a b c = (O.set b.toNat ((tv O a).1 + c, (tv O a).2 + 1), true) := if_pos ⟨g0, .inr (edgeB_iff.1 g2)⟩
        rw [l2Edge_eq, g2, hf, Bool.or_true]; rfl
  · have hf : rx O a b c = (O, false) := if_neg (fun g => g0 g.1)
    rw [if_neg g0, hf, Bool.or_false]
theorem pairs_turn1 (x : List (List Int) × List (Int × Int)) (W : List Int) {O : List (Int × Int)} {n : Nat} (ch : Bool) {k : Nat} (hk : k < x.2.length) (hkw : k < W.length) (hO : O.length = n) {a b c : Int} (hS : x.2.getD k (0, 0) = (b, a)) (hc : W.getD k 0 = c) (ha : 0 ≤ a ∧ a < n) (hb : 0 ≤ b ∧ b < n) (h1 : 0 ≤ (tv O a).1 → (tv O a).1 ≤ 1000000000000) (h2 : (tv O a).1 < 0 → (tv O a).1 = -1) (h3 : -1 ≤ (tv O a).2 ∧ (tv O a).2 ≤ 1000000000000) (hcw : 0 ≤ c ∧ c ≤ 999) :
    spec_l11Pairs_B1 ((W, x, O, ch, (k : Int), 1, ()), ()) = some (.inl ((W, x, (rx O a b c).1, ch || (rx O a b c).2, (k : Int), 2, ()), ())) := by
  have i1 : inb (k : Int) x.2.length = true := inb_true (by omega) (by omega)
  have i2 : inb (k : Int) W.length = true := inb_true (by omega) (by omega)
  have i3 : inb a O.length = true := inb_true ha.1 (by omega)
  have i4 : inb b O.length = true := inb_true hb.1 (by omega)
  have e1 : O.getD a.toNat (0, 0) = tv O a := rfl
  have e2 : O.getD b.toNat (0, 0) = tv O b := rfl
  rw [spec_l11Pairs_B1_at]
  simp only [Int.toNat_natCast, hS, hc, sel1, w11, sel0, w12, i1, i2, i3, i4, e1, e2, guardB, cond_true, l2Edge_eq, bif_decide]
  have d2 : (decide ((0 : Int) ≤ 0) && decide ((0 : Int) < 2)) = true := by decide
  have d3 : (decide ((0 : Int) ≤ 1) && decide ((1 : Int) < 2)) = true := by decide
  rw [if_pos (show (1 : Int) < 2 by decide)]
  simp only [d2, d3, cond_true]
  by_cases g0 : 0 ≤ (tv O a).1
  · have hw1 : w64 ((tv O a).1 + c) = (tv O a).1 + c := w64_of (by omega) (by have := h1 g0; omega)
    have hw2 : w64 ((tv O a).2 + 1) = (tv O a).2 + 1 := w64_of (by omega) (by omega)
    simp only [hw1, hw2]
    rw [if_pos g0]
    by_cases g1 : (tv O b).1 < 0
    · have hf : rx O a b c = (O.set b.toNat ((tv O a).1 + c, (tv O a).2 + 1), true) := if_pos ⟨g0, .inl g1⟩
      rw [if_pos g1, hf, Bool.or_true]
    · rw [if_neg g1]
      cases g2 : edgeB ((tv O a).1 + c, (tv O a).2 + 1) (tv O b)
      · have hf : rx O a b c = (O, false) := if_neg (by rintro ⟨_, g | g⟩; exact g1 g; rw [edgeB_iff.2 g] at g2; cases g2)
        rw [l2Edge_eq, g2, hf, Bool.or_false]; rfl
      · have hf : rx O a b c = (O.set b.toNat ((tv O a).1 + c, (tv O a).2 + 1), true) := if_pos ⟨g0, .inr (edgeB_iff.1 g2)⟩
        rw [l2Edge_eq, g2, hf, Bool.or_true]; rfl
  · have hf : rx O a b c = (O, false) := if_neg (fun g => g0 g.1)
    rw [if_neg g0, hf, Bool.or_false]

theorem pairs_k (x : List (List Int) × List (Int × Int)) {W : List Int} {n : Nat} {i : Int} {T O0 O : List (Int × Int)} (hT : IsTolls x.2 W n i T) (hW : Wtd x.2 W n) (hi : 0 ≤ i ∧ i < n) (hl : W.length = x.2.length) (h6 : x.2.length ≤ 6000) {r : Int} (hr : 0 ≤ r ∧ r ≤ 1000) {k : Nat} {ch : Bool} (h : RI x.2 W n i T O0 r k O ch) (hk : k < x.2.length) :
    ∃ O' ch', loopO spec_l11Pairs_B1 ((W, x, O, ch, (k : Int), 0, ()), ()) = some ((W, x, O', ch', (k : Int), ()), ()) ∧ RI x.2 W n i T O0 r (k + 1) O' ch' := by
  obtain ⟨a, b, hS, o1, o2⟩ := hW.ok k hk
  have hA : ArcAt x.2 W k (a : Int) (b : Int) (W.getD k 0) := ⟨.inl hS, rfl⟩
  have A1 : Arc x.2 W (a : Int) (b : Int) (W.getD k 0) := ⟨k, hk, .inl hS, rfl⟩
  have hc := hW.wgt _ _ _ A1
  have s1 := rx_snd hT hW hi A1 h.snd (by omega)
  have lim : ∀ {O' : List (Int × Int)} {m : Int} {y : Int}, Snd T n i m O' → 0 ≤ m → m ≤ 100000000 → 0 ≤ y → y < n → (0 ≤ (tv O' y).1 → (tv O' y).1 ≤ 1000000000000) ∧ ((tv O' y).1 < 0 → (tv O' y).1 = -1) ∧ -1 ≤ (tv O' y).2 ∧ (tv O' y).2 ≤ 1000000000000 := fun hs h0 hm hy hy' => by
    rcases hs.snd _ hy hy' with g | ⟨_, g2, _, g4, g5, g6⟩
    · rw [g]; simp
    · exact ⟨fun _ => by omega, fun _ => by omega, by omega, by omega⟩
  obtain ⟨l1, l2, l3⟩ := lim (y := (a : Int)) h.snd (by omega) (by omega) (by omega) (by omega)
  obtain ⟨l4, l5, l6⟩ := lim (y := (b : Int)) s1 (by omega) (by omega) (by omega) (by omega)
  have e0 := pairs_turn x W ch hk (by omega) h.snd.len hS rfl ⟨by omega, by omega⟩ ⟨by omega, by omega⟩ l1 l2 l3 hc
  have e1 := pairs_turn1 x W (ch || (rx O (a : Int) (b : Int) (W.getD k 0)).2) hk (by omega) s1.len (a := (b : Int)) (b := (a : Int)) hS rfl ⟨by omega, by omega⟩ ⟨by omega, by omega⟩ l4 l5 l6 hc
  refine ⟨_, _, loop_step e0 (loop_step e1 (loop_end ?_)), h.step hT hW hi hr.1 hk hA⟩
  rw [spec_l11Pairs_B1_at]
  rfl
theorem pairs_round (x : List (List Int) × List (Int × Int)) {W : List Int} {n : Nat} {i : Int} {T O0 : List (Int × Int)} (hT : IsTolls x.2 W n i T) (hW : Wtd x.2 W n) (hi : 0 ≤ i ∧ i < n) (hl : W.length = x.2.length) (h6 : x.2.length ≤ 6000) {r : Int} (hr : 0 ≤ r ∧ r ≤ 1000) : ∀ (d k : Nat) (O : List (Int × Int)) (ch : Bool), k + d = x.2.length → RI x.2 W n i T O0 r k O ch →
    ∃ O' ch', loopO spec_l11Pairs_B2 ((W, x, O, ch, (k : Int), ()), ()) = some ((W, x, O', ch', ()), ()) ∧ RI x.2 W n i T O0 r x.2.length O' ch'
  | 0, k, O, ch, hk, h => by
    have : k = x.2.length := by omega
    subst this
    refine ⟨O, ch, loop_end ?_, h⟩
    rw [spec_l11Pairs_B2_at]
    simp only [bif_decide]
    rw [if_neg (by omega)]
  | d + 1, k, O, ch, hk, h => by
    obtain ⟨O1, c1, q1, q2⟩ := pairs_k x hT hW hi hl h6 hr h (by omega)
    obtain ⟨O', c', q3, q4⟩ := pairs_round x hT hW hi hl h6 hr d (k + 1) O1 c1 (by omega) q2
    refine ⟨O', c', loop_step ?_ q3, q4⟩
    rw [spec_l11Pairs_B2_at]
    simp only [bif_decide]
    rw [if_pos (by omega)]
    erw [q1]
    simp only [w64_succ (show k < 4611686018427387904 by omega)]
/-- between rounds -/
structure RB (S : List (Int × Int)) (W : List Int) (n : Nat) (i : Int) (T : List (Int × Int)) (r : Int) (O : List (Int × Int)) (ch : Bool) : Prop where
  r0 : 0 ≤ r
  snd : Snd T n i (12000 * r) O
  low : ∀ x : Int, 0 ≤ x → x < n → 0 ≤ (tv T x).1 → (tv T x).2 ≤ r → tv O x = tv T x
  on : ch = true → r ≤ n
  off : ch = false → O = cv T
theorem pairs_all (x : List (List Int) × List (Int × Int)) {W : List Int} {n : Nat} (hn : n ≤ 300) {i : Int} {T : List (Int × Int)} (hT : IsTolls x.2 W n i T) (hW : Wtd x.2 W n) (hi : 0 ≤ i ∧ i < n) (hl : W.length = x.2.length) (h6 : x.2.length ≤ 6000) : ∀ (d : Nat) (r : Int) (O : List (Int × Int)), (n : Int) + 1 - r ≤ d → RB x.2 W n i T r O true → loopO spec_l11Pairs_B3 ((W, x, O, true, ()), ()) = some ((cv T, ()), ())
  | 0, r, O, hd, h => by have := h.on rfl; omega
  | d + 1, r, O, hd, h => by
    have h0 := h.r0
    have h1 := h.on rfl
    have hI : RI x.2 W n i T O r 0 O false := by
      refine ⟨by simpa using h.snd, h.low, fun _ _ _ _ hk => by omega, fun _ => ⟨rfl, fun _ _ _ _ hk => by omega⟩, fun _ => rfl⟩
    obtain ⟨O', ch', q1, q2⟩ := pairs_round x hT hW hi hl h6 ⟨h0, by omega⟩ x.2.length 0 O false (by omega) hI
    have st : spec_l11Pairs_B3 ((W, x, O, true, ()), ()) = some (.inl ((W, x, O', ch', ()), ())) := by
      rw [spec_l11Pairs_B3_at]
      simp only [cond_true]
      erw [q1]
    cases hc : ch'
    · rw [hc] at q2 st
      have := q2.fin hT hW rfl
      subst this
      refine loop_step st (loop_end ?_)
      rw [spec_l11Pairs_B3_at]
      rfl
    · rw [hc] at q2 st
      have hrn : r < n := by
        refine Classical.byContradiction fun g => ?_
        have := q2.late (by omega)
        cases this
      refine loop_step st (pairs_all x hn hT hW hi hl h6 d (r + 1) O' (by omega) ⟨by omega, ?_, fun y y0 y1 hf hy => ?_, fun _ => by omega, fun g => by cases g⟩)
      · have hs := q2.snd
        refine ⟨hs.len, hs.zero, fun b b0 b1 => ?_⟩
        rcases hs.snd b b0 b1 with g | ⟨g1, g2, g3, g4, g5, g6⟩
        · exact .inl g
        · exact .inr ⟨g1, g2, g3, g4, by omega, by omega⟩
      · by_cases hle : (tv T y).2 ≤ r
        · exact q2.low y y0 y1 hf hle
        · have hyi : y ≠ i := fun e => by subst e; rw [hT.zero] at hle; simp only at hle; omega
          obtain ⟨a, c, ⟨k', hk', hor, hcw⟩, t2, t3⟩ := hT.tight y y0 y1 hf hyi
          exact q2.nxt a y c k' hk' ⟨hor, hcw⟩ t2 (by rw [t3] at hle hy; simp only at hle hy; omega) t3
theorem pairs_eq (x : List (List Int) × List (Int × Int)) {W : List Int} (hn : x.1.length ≤ 300) {i : Int} {T : List (Int × Int)} (hT : IsTolls x.2 W x.1.length i T) (hW : Wtd x.2 W x.1.length) (hi : 0 ≤ i ∧ i < x.1.length) (hl : W.length = x.2.length) (h6 : x.2.length ≤ 6000) : spec_l11Pairs (x, W, i, ()) () = some ((cv T, ()), ()) := by
  have k0 := loop_count (B := spec_l11Pairs_B0) (fun k => ((W, i, x, List.replicate k ((-1 : Int), (-1 : Int)), (k : Int), ()), ())) x.1.length ((W, i, x, List.replicate x.1.length ((-1 : Int), (-1 : Int)), ()), ()) (fun k hk => by
    rw [spec_l11Pairs_B0_at]
    simp only [bif_decide, List.length_replicate]
    rw [if_pos (by omega), guardB_true (by simp only [List.length_singleton, decide_eq_true_eq]; omega), w64_succ (by omega), ← List.replicate_succ']) (by
    rw [spec_l11Pairs_B0_at]
    simp only [bif_decide]
    rw [if_neg (by omega)]) 0 (Nat.zero_le _)
  have hv : ∀ b : Int, 0 ≤ b → b < x.1.length → tv ((List.replicate x.1.length ((-1 : Int), (-1 : Int))).set i.toNat (0, 0)) b = if b = i then (0, 0) else (-1, -1) := fun b h0 h1 => by
    rw [tv_set hi.1 (by rw [List.length_replicate]; exact hi.2) h0]
    split
    · rfl
    · simp only [tv]
      rw [getD_at (by rw [List.length_replicate]; omega), List.getElem_replicate]
  have hB : RB x.2 W x.1.length i T 0 ((List.replicate x.1.length ((-1 : Int), (-1 : Int))).set i.toNat (0, 0)) true := by
    refine ⟨by omega, ⟨by simp, by rw [hv i hi.1 hi.2, if_pos rfl], fun b h0 h1 => ?_⟩, fun y h0 h1 hf hy => ?_, fun _ => by omega, fun g => by cases g⟩
    · rw [hv b h0 h1]
      by_cases e : b = i
      · subst e
        rw [if_pos rfl, hT.zero]
        right
        simp [Lt2]
      · rw [if_neg e]; exact .inl rfl
    · rw [hv y h0 h1]
      by_cases e : y = i
      · subst e; rw [if_pos rfl, hT.zero]
      · exfalso
        obtain ⟨a, c, hA, t2, t3⟩ := hT.tight y h0 h1 hf e
        have := (hT.bound a (hA.range hW.ok).1 (hA.range hW.ok).2.1 t2).1
        rw [t3] at hy
        simp only at hy
        omega
  have k1 := pairs_all x hn hT hW hi hl h6 (x.1.length + 1) 0 _ (by omega) hB
  simp only [spec_l11Pairs]
  erw [k0]
  simp only
  rw [guardB_true (inb_true hi.1 (by rw [List.length_replicate]; exact hi.2))]
  erw [k1]

theorem spec_CostsFrom_B0_at (out : List (Int)) (pairs : List ((Int) × (Int))) (k : Int) : spec_CostsFrom_B0 ((out, pairs, k, ()), ()) = bif (decide (k < (List.length pairs : Int))) then (guardB (inb k (List.length pairs)) (guardB (decide ((List.length out + List.length [(List.getD pairs (Int.toNat k) ((0 : Int), (0 : Int))).1]) * 8 ≤ 70368744177664)) (some (.inl (((out ++ [(List.getD pairs (Int.toNat k) ((0 : Int), (0 : Int))).1]), pairs, (w64 (k + (1 : Int))), ()), ()))))) else (some (.inr ((out, ()), ()))) := rfl
theorem impl_CostsFrom_B0_at (out : List (Int)) (t25 : List ((Int) × (Int))) (t26 : Int) (t27 : Int) : impl_CostsFrom_B0 ((out, t25, t26, t27, ()), ()) = bif (decide (t27 < t26)) then (guardB (inb t27 (List.length t25)) (guardB (decide ((List.length out + List.length [(List.getD t25 (Int.toNat t27) ((0 : Int), (0 : Int))).1]) * 8 ≤ 70368744177664)) (some (.inl (((out ++ [(List.getD t25 (Int.toNat t27) ((0 : Int), (0 : Int))).1]), t25, t26, (w64 (t27 + (1 : Int))), ()), ()))))) else (some (.inr ((out, ()), ()))) := rfl

theorem cv_costs {S : List (Int × Int)} {W : List Int} {n : Nat} {i : Int} {T : List (Int × Int)} (hT : IsTolls S W n i T) : (cv T).map (·.1) = T.map (·.1) := by
  simp only [cv, List.map_map]
  refine List.map_congr_left fun t ht => ?_
  obtain ⟨k, hk, e⟩ := List.getElem_of_mem ht
  have hl := hT.len
  simp only [Function.comp]
  by_cases h : 0 ≤ t.1
  · rw [if_pos h]
  · rw [if_neg h]
    have := hT.none (k : Int) (by omega) (by omega)
    have ev : tv T (k : Int) = t := by simp only [tv, Int.toNat_natCast]; rw [getD_at hk, e]
    rw [ev] at this
    rw [this (by omega)]
theorem spec_out (P : List (Int × Int)) (hP : P.length ≤ 1048576) : loopO spec_CostsFrom_B0 (([], P, 0, ()), ()) = some ((P.map (·.1), ()), ()) := by
  have := loop_count (B := spec_CostsFrom_B0) (fun k => (((P.take k).map (·.1), P, (k : Int), ()), ())) P.length ((P.map (·.1), ()), ()) (fun k hk => by
    have hle : ((P.take k).map (·.1)).length ≤ 1048576 := by rw [List.length_map, List.length_take]; omega
    rw [spec_CostsFrom_B0_at]
    simp only [bif_decide, Int.toNat_natCast]
    rw [if_pos (by omega), guardB_true (by simp [inb] <;> omega), guardB_true (by simp only [List.length_singleton, decide_eq_true_eq]; omega), w64_succ (by omega), take_one hk (0, 0), List.map_append]
    rfl) (by
    rw [spec_CostsFrom_B0_at]
    simp only [bif_decide]
    rw [if_neg (by omega), List.take_length]) 0 (Nat.zero_le _)
  simpa using this
theorem impl_out (P : List (Int × Int)) (hP : P.length ≤ 1048576) : loopO impl_CostsFrom_B0 (([], P, (P.length : Int), 0, ()), ()) = some ((P.map (·.1), ()), ()) := by
  have := loop_count (B := impl_CostsFrom_B0) (fun k => (((P.take k).map (·.1), P, (P.length : Int), (k : Int), ()), ())) P.length ((P.map (·.1), ()), ()) (fun k hk => by
    have hle : ((P.take k).map (·.1)).length ≤ 1048576 := by rw [List.length_map, List.length_take]; omega
    rw [impl_CostsFrom_B0_at]
    simp only [bif_decide, Int.toNat_natCast]
    rw [if_pos (by omega), guardB_true (by simp [inb] <;> omega), guardB_true (by simp only [List.length_singleton, decide_eq_true_eq]; omega), w64_succ (by omega), take_one hk (0, 0), List.map_append]
    rfl) (by
    rw [impl_CostsFrom_B0_at]
    simp only [bif_decide]
    rw [if_neg (by omega), List.take_length]) 0 (Nat.zero_le _)
  simpa using this
theorem loads_ok {S : Nat} {l : List Int} (h : loadsB S l = true) : l.length = S ∧ ∀ v ∈ l, 0 ≤ v ∧ v ≤ 999 := by
  simp only [loadsB, Bool.and_eq_true, decide_eq_true_eq, List.all_eq_true] at h
  refine ⟨h.1, fun v hv => ?_⟩
  have := h.2 v hv
  simpa [loadB, inR] using this
theorem spaceB_ok {x : List (List Int) × List (Int × Int)} (h : spaceB x = true) : x.1.length ≤ 300 ∧ x.2.length ≤ 6000 ∧ pairsB x.2 x.1.length = true := by
  simp only [spaceB, Bool.and_eq_true, decide_eq_true_eq] at h
  exact ⟨h.1, h.2.1, h.2.2.2⟩
theorem FnExactCostsFrom_true (x : List (List Int) × List (Int × Int)) (l : List Int) (i : Int) (hx : Sm (.prod (.list (.list I)) (.list (.prod I I))) x) (hl : Sm (.list I) l) (_ : Sm I i) : laws_FnExactCostsFrom (x, l, i, ()) () = some ((true, ()), ()) := by
  have hl := hl.1
  simp only [laws_FnExactCostsFrom, bif_decide]
  by_cases h1 : (1048576 : Int) < (l.length : Int)
  · rw [if_pos h1]
  rw [if_neg h1]
  have hl' : l.length ≤ 1048576 := by omega
  obtain ⟨r, e1, e2, e3, e4⟩ := szSpace_eq x 1048576 (by omega) (by omega) hx
  rw [e1]
  by_cases h2 : r < 0
  · simp only [if_pos h2]
  have hF := e3 (by omega)
  obtain ⟨r0, m1, m2, m3⟩ := markSpace_eq x 1 hF (by omega) (by omega)
  have m4 := markIntS_eq l r0 m2 (by omega)
  have main : ∃ (R : List Int) (b : Bool), spec_CostsFrom (x, l, i, ()) () = some ((R, b, ()), ()) ∧ impl_CostsFrom (x, l, i, ()) () = some ((R, b, ()), ()) ∧ R.length ≤ 1048576 := by
    simp only [spec_CostsFrom, impl_CostsFrom, spec_l11Weighted, impl_isWeighed, l2Space_eq x hF, IsSpace_eq x hF, l11Numbers_eq l x.2.length hl', areLoads_eq l x.2.length hl', l2Place_eq x i hF, isPlace_eq x i hF.states]
    cases hs : spaceB x
    · exact ⟨[], false, rfl, rfl, by simp⟩
    · cases hn : loadsB x.2.length l
      · exact ⟨[], false, rfl, rfl, by simp⟩
      · cases hi : inR i 0 ((x.1.length : Int) - 1)
        · exact ⟨[], false, rfl, rfl, by simp⟩
        · obtain ⟨p1, p2, p3⟩ := spaceB_ok hs
          obtain ⟨w1, w2⟩ := loads_ok hn
          have hir : 0 ≤ i ∧ i < x.1.length := by
            simp only [inR, Bool.and_eq_true, decide_eq_true_eq] at hi
            omega
          obtain ⟨T, t1, t2⟩ := tolls_eq x p3 w1 w2 hF.steps hF.states hir
          have hp := pairs_eq x p1 t2 (wtd_of p3 w1 w2) hir w1 p2
          have hlen := t2.len
          simp only [cond_true, Bool.not_true, cond_false, Bool.and_self, t1, hp]
          refine ⟨T.map (·.1), true, ?_, ?_, by rw [List.length_map]; omega⟩
          · have hc : (cv T).length ≤ 1048576 := by simp only [cv, List.length_map]; omega
            erw [spec_out (cv T) hc]
            rw [cv_costs t2]
          · erw [impl_out T (by omega)]
  obtain ⟨R, b, s1, s2, s3⟩ := main
  have q1 := markIntS_eq R 1 (by omega) (by omega)
  have q2 := heldIntS_eq R.length 1 (by omega) (by omega)
  have q3 := eqIntS_gen R (by omega)
  simp only [if_neg h2, toSpace_eq x hF, toIntS_eq l hl', s1, s2, eqSpace_eq x hF, eqIntS_eq l hl', laws_FnExactCostsFrom_D0, q3, Bool.not_true, cond_false, beq_self_eq_true, m1, m4]
  rw [if_neg (show ¬ (r0 + (l.length : Int)) < 0 by omega)]
  simp only [q1, q2, if_neg (show ¬ (1 + (R.length : Int)) < 0 by omega), bne_self_eq_false, cond_false]

end Go.Proofs.Ytolabkhcmcfnpaa.V
