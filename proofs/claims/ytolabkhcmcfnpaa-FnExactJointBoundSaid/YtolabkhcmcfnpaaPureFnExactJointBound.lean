/-
  What the reference and the program compute agrees: plain lemmas over numbers and lists.
-/
import Derived.Test.YtolabkhcmcfnpaaTFnExactJointBound
import Derived.Test.YtolabkhcmcfnpaaE3
namespace Go.Proofs.Ytolabkhcmcfnpaa.V
open Go Go.Ve Go.Proofs
set_option linter.unusedVariables false
set_option linter.unusedSimpArgs false
theorem fold_len {n : Nat} (h : n ≤ 1048576) : (decide (0 ≤ (n : Int)) && decide ((n : Int) ≤ (n : Int)) && decide ((n : Int) * 8 ≤ 140737488355328)) = true ∧ (decide (0 ≤ (n : Int)) && decide ((n : Int) ≤ (n : Int)) && decide ((n : Int) * 24 ≤ 140737488355328)) = true ∧ (decide (0 ≤ (n : Int)) && decide ((n : Int) ≤ (n : Int)) && decide ((n : Int) * 16 ≤ 140737488355328)) = true := by
  refine ⟨?_, ?_, ?_⟩ <;> simp <;> omega

theorem toIntS_eq (l : List Int) (hl : l.length ≤ 1048576) : laws_toIntS (l, ()) () = some ((l, ()), ()) := by
  simp only [laws_toIntS, guardB_true (fold_len hl).1, Int.toNat_natCast]
  have key : loopO laws_toIntS_B0 ((l, fill (fun j => l.getD j 0) 0 l.length 0, ((0 : Nat) : Int), ()), ()) = some ((fill (fun j => l.getD j 0) 0 l.length l.length, ()), ()) := by
    refine loop_count (fun i => ((l, fill (fun j => l.getD j 0) 0 l.length i, (i : Int), ()), ())) l.length _ (fun i hi => ?_) ?_ 0 (Nat.zero_le _)
    · simp only [laws_toIntS_B0, bif_decide, if_pos (show (i : Int) < (l.length : Int) by omega), fill_len, guardB_true (inb_true (Int.natCast_nonneg i) (show (i : Int) < (l.length : Int) by omega)), Int.toNat_natCast, fill_set hi, w64_succ (show i < 4611686018427387904 by omega)]
    · simp only [laws_toIntS_B0, bif_decide, if_neg (show ¬ (l.length : Int) < (l.length : Int) by omega)]
  rw [fill_zero, fill_all, range_getD] at key
  erw [key]

theorem toIntSS_eq (l : List (List Int)) (hl : l.length ≤ 1048576) (h : ∀ x ∈ l, x.length ≤ 1048576) : laws_toIntSS (l, ()) () = some ((l, ()), ()) := by
  simp only [laws_toIntSS, guardB_true (fold_len hl).2.1, Int.toNat_natCast]
  have key : loopO laws_toIntSS_B0 ((l, fill (fun j => l.getD j []) [] l.length 0, ((0 : Nat) : Int), ()), ()) = some ((fill (fun j => l.getD j []) [] l.length l.length, ()), ()) := by
    refine loop_count (fun i => ((l, fill (fun j => l.getD j []) [] l.length i, (i : Int), ()), ())) l.length _ (fun i hi => ?_) ?_ 0 (Nat.zero_le _)
    · simp only [laws_toIntSS_B0, bif_decide, if_pos (show (i : Int) < (l.length : Int) by omega), fill_len, guardB_true (inb_true (Int.natCast_nonneg i) (show (i : Int) < (l.length : Int) by omega)), Int.toNat_natCast]
      rw [toIntS_eq (l.getD i []) (by rw [getD_at hi]; exact h _ (List.getElem_mem hi))]
      simp only [fill_set (f := fun j => l.getD j []) hi, w64_succ (show i < 4611686018427387904 by omega)]
    · simp only [laws_toIntSS_B0, bif_decide, if_neg (show ¬ (l.length : Int) < (l.length : Int) by omega)]
  rw [fill_zero, fill_all, range_getD] at key
  erw [key]

theorem toIntA2_eq (a : Int × Int) : laws_toIntA2 (a, ()) () = some ((a, ()), ()) := by
  obtain ⟨x, y⟩ := a
  have e0 : laws_toIntA2_B0 (((x, y), 0, ()), ((0, 0), (0, 0), ())) = some (.inl (((x, y), 1, ()), ((0, 0), (x, 0), ()))) := rfl
  have e1 : laws_toIntA2_B0 (((x, y), 1, ()), ((0, 0), (x, 0), ())) = some (.inl (((x, y), 2, ()), ((0, 0), (x, y), ()))) := rfl
  have e2 : laws_toIntA2_B0 (((x, y), 2, ()), ((0, 0), (x, y), ())) = some (.inr ((), ((0, 0), (x, y), ()))) := rfl
  simp only [laws_toIntA2, loop_step e0 (loop_step e1 (loop_end e2))]

theorem toIntA2S_eq (l : List (Int × Int)) (hl : l.length ≤ 1048576) : laws_toIntA2S (l, ()) () = some ((l, ()), ()) := by
  simp only [laws_toIntA2S, guardB_true (fold_len hl).2.2, Int.toNat_natCast]
  have key : loopO laws_toIntA2S_B0 ((l, fill (fun j => l.getD j (0, 0)) (0, 0) l.length 0, ((0 : Nat) : Int), ()), ()) = some ((fill (fun j => l.getD j (0, 0)) (0, 0) l.length l.length, ()), ()) := by
    refine loop_count (fun i => ((l, fill (fun j => l.getD j (0, 0)) (0, 0) l.length i, (i : Int), ()), ())) l.length _ (fun i hi => ?_) ?_ 0 (Nat.zero_le _)
    · simp only [laws_toIntA2S_B0, bif_decide, if_pos (show (i : Int) < (l.length : Int) by omega), fill_len, guardB_true (inb_true (Int.natCast_nonneg i) (show (i : Int) < (l.length : Int) by omega)), Int.toNat_natCast]
      rw [toIntA2_eq]
      simp only [fill_set (f := fun j => l.getD j (0, 0)) hi, w64_succ (show i < 4611686018427387904 by omega)]
    · simp only [laws_toIntA2S_B0, bif_decide, if_neg (show ¬ (l.length : Int) < (l.length : Int) by omega)]
  rw [fill_zero, fill_all, range_getD] at key
  erw [key]

theorem allUpto_true {n : Nat} : allUpto (fun _ => true) n = true := allUpto_iff.2 fun _ _ => rfl
theorem eqIntS_gen (l : List Int) (hl : l.length ≤ 2000000000000) : laws_eqIntS (l, l, ()) () = some ((true, ()), ()) := by
  have key := loop_all (B := laws_eqIntS_B0) (fun i => ((l, l, (i : Int), ()), ())) (fun _ => true) l.length (.inl ((false, ()), ())) (.inr ((), ())) (fun i hi _ => by
    simp [laws_eqIntS_B0, inb_nat, hi, guardB, w64_succ (show i < 4611686018427387904 by omega)]) (by simp [laws_eqIntS_B0])
  rw [allUpto_true] at key
  simp only [laws_eqIntS, bne_self_eq_false, cond_false]
  rw [show (0 : Int) = ((0 : Nat) : Int) from rfl, key]
  rfl
theorem eqIntS_eq (l : List Int) (hl : l.length ≤ 1048576) : laws_eqIntS (l, l, ()) () = some ((true, ()), ()) := eqIntS_gen l (by omega)
theorem eqIntSS_gen (l : List (List Int)) (hl : l.length ≤ 2000000000000) (h : ∀ x ∈ l, x.length ≤ 1048576) : laws_eqIntSS (l, l, ()) () = some ((true, ()), ()) := by
  have key := loop_all (B := laws_eqIntSS_B0) (fun i => ((l, l, (i : Int), ()), ())) (fun _ => true) l.length (.inl ((false, ()), ())) (.inr ((), ())) (fun i hi _ => by
    simp only [laws_eqIntSS_B0, bif_decide, if_pos (show (i : Int) < (l.length : Int) by omega), guardB_true (inb_true (Int.natCast_nonneg i) (show (i : Int) < (l.length : Int) by omega)), Int.toNat_natCast]
    rw [eqIntS_eq (l.getD i []) (by rw [getD_at hi]; exact h _ (List.getElem_mem hi))]
    simp [w64_succ (show i < 4611686018427387904 by omega)]) (by simp [laws_eqIntSS_B0])
  rw [allUpto_true] at key
  simp only [laws_eqIntSS, bne_self_eq_false, cond_false]
  rw [show (0 : Int) = ((0 : Nat) : Int) from rfl, key]
  rfl
theorem eqIntSS_eq (l : List (List Int)) (hl : l.length ≤ 1048576) (h : ∀ x ∈ l, x.length ≤ 1048576) : laws_eqIntSS (l, l, ()) () = some ((true, ()), ()) := eqIntSS_gen l (by omega) h
theorem eqIntA2_eq (a : Int × Int) : laws_eqIntA2 (a, a, ()) () = some ((true, ()), ()) := by
  obtain ⟨x, y⟩ := a
  have e0 : laws_eqIntA2_B0 (((x, y), (x, y), 0, ()), ()) = some (.inl (((x, y), (x, y), 1, ()), ())) := by
    simp [laws_eqIntA2_B0, guardB]; rfl
  have e1 : laws_eqIntA2_B0 (((x, y), (x, y), 1, ()), ()) = some (.inl (((x, y), (x, y), 2, ()), ())) := by
    simp [laws_eqIntA2_B0, guardB]; rfl
  have e2 : laws_eqIntA2_B0 (((x, y), (x, y), 2, ()), ()) = some (.inr (.inr ((), ()))) := rfl
  simp only [laws_eqIntA2, loop_step e0 (loop_step e1 (loop_end e2))]
theorem eqIntA2S_eq (l : List (Int × Int)) (hl : l.length ≤ 1048576) : laws_eqIntA2S (l, l, ()) () = some ((true, ()), ()) := by
  have key := loop_all (B := laws_eqIntA2S_B0) (fun i => ((l, l, (i : Int), ()), ())) (fun _ => true) l.length (.inl ((false, ()), ())) (.inr ((), ())) (fun i hi _ => by
    simp only [laws_eqIntA2S_B0, bif_decide, if_pos (show (i : Int) < (l.length : Int) by omega), guardB_true (inb_true (Int.natCast_nonneg i) (show (i : Int) < (l.length : Int) by omega)), Int.toNat_natCast]
    rw [eqIntA2_eq]
    simp [w64_succ (show i < 4611686018427387904 by omega)]) (by simp [laws_eqIntA2S_B0])
  rw [allUpto_true] at key
  simp only [laws_eqIntA2S, bne_self_eq_false, cond_false]
  rw [show (0 : Int) = ((0 : Nat) : Int) from rfl, key]
  rfl

/-- what is asked of a Space that is looked at: not too great -/
structure Few (x : List (List Int) × List (Int × Int)) : Prop where
  states : x.1.length ≤ 1048576
  state : ∀ s ∈ x.1, s.length ≤ 1048576
  steps : x.2.length ≤ 1048576
theorem szIntS_eq (l : List Int) (n : Int) (h0 : 0 ≤ n) (hn : n ≤ 1048576) (hl : l.length ≤ 140737488351232) : laws_szIntS (l, n, ()) () = some (((if (l.length : Int) ≤ n then n - l.length else -1), ()), ()) := by
  simp only [laws_szIntS, w64_of (x := n - (l.length : Int)) (by omega) (by omega), bif_decide]
  by_cases h : (l.length : Int) ≤ n
  · rw [if_neg (by omega), if_pos h]
  · rw [if_pos (by omega), if_neg h]
theorem szIntA2S_eq (l : List (Int × Int)) (n : Int) (h0 : 0 ≤ n) (hn : n ≤ 1048576) (hl : l.length ≤ 140737488351232) : laws_szIntA2S (l, n, ()) () = some (((if (l.length : Int) ≤ n then n - l.length else -1), ()), ()) := by
  simp only [laws_szIntA2S, w64_of (x := n - (l.length : Int)) (by omega) (by omega), bif_decide]
  by_cases h : (l.length : Int) ≤ n
  · rw [if_neg (by omega), if_pos h]
  · rw [if_pos (by omega), if_neg h]
theorem szIntSS_eq (l : List (List Int)) (n : Int) (h0 : 0 ≤ n) (hn : n ≤ 1048576) (hl : l.length ≤ 140737488351232) (hs : ∀ x ∈ l, x.length ≤ 140737488351232) :
    ∃ r : Int, laws_szIntSS (l, n, ()) () = some ((r, ()), ()) ∧ r ≤ 1048576 ∧ (0 ≤ r → (l.length : Int) ≤ n ∧ ∀ x ∈ l, (x.length : Int) ≤ n) ∧ (r < 0 → r = -1) := by
  simp only [laws_szIntSS, w64_of (x := n - (l.length : Int)) (by omega) (by omega), bif_decide]
  by_cases h : n - (l.length : Int) < 0
  · rw [if_pos h]; exact ⟨-1, rfl, by omega, fun h => by omega, fun _ => rfl⟩
  · rw [if_neg h]
    obtain ⟨q, h1, h2⟩ := loop_inv (B := laws_szIntSS_B0) (fun p => ∃ (m : Int) (i : Nat), p = ((l, m, (i : Int), ()), ()) ∧ 0 ≤ m ∧ m ≤ n ∧ i ≤ l.length ∧ ∀ j, j < i → ((l.getD j []).length : Int) ≤ n)
      (fun p => l.length - p.1.2.2.1.toNat) (fun q => match q with
        | .inl ((t, ()), ()) => (fun t : Int => t = -1) t
        | .inr ((m, ()), ()) => (fun m : Int => 0 ≤ m ∧ m ≤ n ∧ ∀ j, j < l.length → ((l.getD j []).length : Int) ≤ n) m) (by
      rintro p ⟨m, i, rfl, h3, h4, h5, h6⟩
      by_cases hi : i < l.length
      · simp only [laws_szIntSS_B0, bif_decide, if_pos (show (i : Int) < (l.length : Int) by omega), guardB_true (inb_true (Int.natCast_nonneg i) (show (i : Int) < (l.length : Int) by omega)), Int.toNat_natCast]
        rw [szIntS_eq (l.getD i []) m h3 (by omega) (by rw [getD_at hi]; exact hs _ (List.getElem_mem hi))]
        by_cases h7 : ((l.getD i []).length : Int) ≤ m
        · rw [if_pos h7]
          simp only [if_neg (show ¬ (m - ((l.getD i []).length : Int)) < 0 by omega), w64_succ (show i < 4611686018427387904 by omega)]
          refine .inl ⟨_, rfl, ⟨_, i + 1, rfl, by omega, by omega, by omega, fun j hj => ?_⟩, ?_⟩
          · rcases Nat.lt_or_ge j i with h | h
            · exact h6 j h
            · rw [show j = i by omega]; omega
          · simp only [Int.toNat_natCast]; omega
        · rw [if_neg h7]
          exact .inr ⟨_, rfl, rfl⟩
      · have hi : i = l.length := by omega
        subst hi
        simp only [laws_szIntSS_B0, bif_decide, if_neg (show ¬ (l.length : Int) < (l.length : Int) by omega)]
        exact .inr ⟨_, rfl, h3, h4, h6⟩) ((l, n - (l.length : Int), 0, ()), ()) ⟨n - (l.length : Int), 0, rfl, by omega, by omega, by omega, fun j hj => by omega⟩
    rw [h1]
    rcases q with ⟨⟨t, ⟨⟩⟩, ⟨⟩⟩ | ⟨⟨m, ⟨⟩⟩, ⟨⟩⟩
    · dsimp only at h2
      exact ⟨t, rfl, by omega, fun h => by omega, fun _ => h2⟩
    · dsimp only at h2
      refine ⟨m, rfl, by have := h2.2.1; omega, fun _ => ⟨by omega, fun x hx => ?_⟩, fun h => by have := h2.1; omega⟩
      obtain ⟨j, hj, rfl⟩ := List.getElem_of_mem hx
      have := h2.2.2 j hj
      rw [getD_at hj] at this
      exact this
theorem szSpace_eq (x : List (List Int) × List (Int × Int)) (n : Int) (h0 : 0 ≤ n) (hn : n ≤ 1048576) (hx : Sm (.prod (.list (.list I)) (.list (.prod I I))) x) :
    ∃ r : Int, laws_szSpace (x, n, ()) () = some ((r, ()), ()) ∧ r ≤ 1048576 ∧ (0 ≤ r → Few x) ∧ (r < 0 → r = -1) := by
  obtain ⟨a, b⟩ := x
  obtain ⟨⟨h1, h2⟩, h3, h4⟩ := hx
  obtain ⟨r, e1, e2, e3, e4⟩ := szIntSS_eq a n h0 hn h1 (fun x hx => (h2 x hx).1)
  simp only [laws_szSpace, e1, bif_decide]
  by_cases h : r < 0
  · rw [if_pos h]; exact ⟨-1, rfl, by omega, fun h => by omega, fun _ => rfl⟩
  · rw [if_neg h]
    have := e3 (by omega)
    rw [szIntA2S_eq b r (by omega) e2 h3]
    by_cases h5 : (b.length : Int) ≤ r
    · rw [if_pos h5]
      simp only [if_neg (show ¬ (r - (b.length : Int)) < 0 by omega)]
      exact ⟨_, rfl, by omega, fun _ => ⟨by show a.length ≤ _; omega, fun s hs => by have := this.2 s hs; omega, by show b.length ≤ _; omega⟩, fun h => by omega⟩
    · rw [if_neg h5]
      exact ⟨-1, rfl, by omega, fun h => by omega, fun _ => rfl⟩
theorem toSpace_eq (x : List (List Int) × List (Int × Int)) (h : Few x) : laws_toSpace (x, ()) () = some ((x, ()), ()) := by
  obtain ⟨a, b⟩ := x
  simp only [laws_toSpace, toIntSS_eq a h.states h.state, toIntA2S_eq b h.steps]
theorem eqSpace_eq (x : List (List Int) × List (Int × Int)) (h : Few x) : laws_eqSpace (x, x, ()) () = some ((true, ()), ()) := by
  obtain ⟨a, b⟩ := x
  simp only [laws_eqSpace, eqIntSS_eq a h.states h.state, eqIntA2S_eq b h.steps]
  rfl
def inR (x a b : Int) : Bool := decide (a ≤ x) && decide (x ≤ b)
theorem l1In_eq (x a b : Int) : spec_l1In (x, a, b, ()) () = some ((inR x a b, ()), ()) := by
  simp only [spec_l1In, inR]
  by_cases h : a ≤ x <;> simp [h]
theorem between_eq (x a b : Int) : impl_between (x, a, b, ()) () = some ((inR x a b, ()), ()) := by
  simp only [impl_between, inR]
  by_cases h : a ≤ x <;> simp [h]
theorem cmp_eq (x y : Int) : cmp_Compare_int (x, y, ()) () = some (((if x < y then -1 else if y < x then 1 else 0), ()), ()) := by
  simp only [cmp_Compare_int, cmp_isNaN_int, bne_self_eq_false, cond_false, bif_decide]
  split
  · rfl
  · split <;> rfl

def goodN (n : Int) : Bool := inR n (-99) 99
def goodState (s : List Int) : Bool := decide (s.length ≤ 24) && s.all goodN
theorem allUpto_getD {f : Int → Bool} {s : List Int} : allUpto (fun i => f (s.getD i 0)) s.length = s.all f := by
  rw [Bool.eq_iff_iff, allUpto_iff, List.all_eq_true]
  constructor
  · intro h x hx
    obtain ⟨i, hi, rfl⟩ := List.getElem_of_mem hx
    have := h i hi
    rwa [getD_at hi] at this
  · intro h i hi
    rw [getD_at hi]
    exact h _ (List.getElem_mem hi)
theorem l2State_eq (s : List Int) (hs : s.length ≤ 1048576) : spec_l2State (s, ()) () = some ((goodState s, ()), ()) := by
  have key := loop_all (B := spec_l2State_B0) (fun i => ((s, (i : Int), ()), ())) (fun i => goodN (s.getD i 0)) s.length (.inl ((false, ()), ())) (.inr ((s, ()), ())) (fun i hi _ => by
    simp only [spec_l2State_B0, bif_decide, if_pos (show (i : Int) < (s.length : Int) by omega), guardB_true (inb_true (Int.natCast_nonneg i) (show (i : Int) < (s.length : Int) by omega)), Int.toNat_natCast, l1In_eq _ _ _, w64_succ (show i < 4611686018427387904 by omega), goodN]
    cases inR (s.getD i 0) (-99) 99 <;> rfl) (by simp [spec_l2State_B0])
  rw [allUpto_getD] at key
  simp only [spec_l2State]
  erw [key]
  have e : decide ((s.length : Int) ≤ 24) = decide (s.length ≤ 24) := by rw [decide_eq_decide]; omega
  cases h : s.all goodN
  · simp [goodState, h]
  · simp [goodState, h, e]
/-- where is the first one? -/
def firstIdx (p : Nat → Bool) : Nat → Nat → Int
  | _, 0 => -1
  | k, d + 1 => if p k then k else firstIdx p (k + 1) d
theorem firstIdx_neg {p : Nat → Bool} : ∀ {d k : Nat}, (decide ((0 : Int) ≤ firstIdx p k d) = !(allUpto (fun i => !p (k + i)) d))
  | 0, k => by simp [firstIdx, allUpto]
  | d + 1, k => by
    by_cases h : p k
    · rw [show firstIdx p k (d + 1) = k by simp [firstIdx, h]]
      have : allUpto (fun i => !p (k + i)) (d + 1) = false := by
        cases e : allUpto (fun i => !p (k + i)) (d + 1)
        · rfl
        · have := allUpto_iff.1 e 0 (by omega); simp [h] at this
      rw [this]; simp
    · rw [show firstIdx p k (d + 1) = firstIdx p (k + 1) d by simp [firstIdx, h], firstIdx_neg]
      congr 1
      rw [Bool.eq_iff_iff, allUpto_iff, allUpto_iff]
      constructor
      · intro g i hi
        cases i with
        | zero => simpa using h
        | succ i => have := g i (by omega); rw [show k + 1 + i = k + (i + 1) by omega] at this; exact this
      · intro g i hi
        have := g (i + 1) (by omega)
        rw [show k + (i + 1) = k + 1 + i by omega] at this; exact this
theorem loop_idx {P Q : Type} {B : P → Option (P ⊕ Q)} (st : Nat → P) (p : Nat → Bool) (n : Nat) (found : Int → Q) (fin : Q) (step : ∀ i, i < n → B (st i) = some (bif p i then .inr (found i) else .inl (st (i + 1)))) (stop : B (st n) = some (.inr fin)) :
    loopO B (st 0) = some (if firstIdx p 0 n < 0 then fin else found (firstIdx p 0 n)) := by
  suffices h : ∀ d k, k + d = n → loopO B (st k) = some (if firstIdx p k d < 0 then fin else found (firstIdx p k d)) from h n 0 (by omega)
  intro d
  induction d with
  | zero => intro k hk; have : k = n := by omega
            subst this; simpa [firstIdx] using loop_end stop
  | succ d ih =>
    intro k hk
    have h := step k (by omega)
    cases e : p k
    · rw [e] at h; rw [show firstIdx p k (d + 1) = firstIdx p (k + 1) d by simp [firstIdx, e]]; exact loop_step h (ih (k + 1) (by omega))
    · rw [e] at h; rw [show firstIdx p k (d + 1) = k by simp [firstIdx, e], if_neg (by omega)]; exact loop_end h
theorem isState_eq (s : List Int) (hs : s.length ≤ 1048576) : impl_isState (s, ()) () = some ((goodState s, ()), ()) := by
  have k1 : ∀ n : Int, impl_isState_1 (n, ()) () = some (((!goodN n), ()), ()) := fun n => by simp only [impl_isState_1, between_eq _ _ _, goodN]
  have key := loop_idx (B := slices_IndexFunc_int_int_2_vf_impl_isState_1_B0) (fun i => ((s, (s.length : Int), (i : Int), ()), ())) (fun i => !goodN (s.getD i 0)) s.length (fun i => .inl ((i, ()), ())) (.inr ((), ())) (fun i hi => by
    simp only [slices_IndexFunc_int_int_2_vf_impl_isState_1_B0, bif_decide, if_pos (show (i : Int) < (s.length : Int) by omega), guardB_true (inb_true (Int.natCast_nonneg i) (show (i : Int) < (s.length : Int) by omega)), Int.toNat_natCast, k1, w64_succ (show i < 4611686018427387904 by omega)]
    cases goodN (s.getD i 0) <;> rfl) (by simp [slices_IndexFunc_int_int_2_vf_impl_isState_1_B0])
  have k2 : slices_IndexFunc_int_int_2_vf_impl_isState_1 (s, ()) () = some ((firstIdx (fun i => !goodN (s.getD i 0)) 0 s.length, ()), ()) := by
    simp only [slices_IndexFunc_int_int_2_vf_impl_isState_1]
    erw [key]
    by_cases h : firstIdx (fun i => !goodN (s.getD i 0)) 0 s.length < 0
    · rw [if_pos h]
      have : ∀ d k, firstIdx (fun i => !goodN (s.getD i 0)) k d < 0 → firstIdx (fun i => !goodN (s.getD i 0)) k d = -1 := by
        intro d
        induction d with
        | zero => intro k _; rfl
        | succ d ih =>
          intro k hk
          simp only [firstIdx] at hk ⊢
          split
          · rename_i h; rw [if_pos h] at hk; omega
          · rename_i h; rw [if_neg h] at hk; exact ih _ hk
      rw [this _ _ h]
    · rw [if_neg h]
  simp only [impl_isState, slices_ContainsFunc_int_int_2_vf_impl_isState_1, k2, firstIdx_neg, bif_decide]
  have e : allUpto (fun i => !!goodN (s.getD (0 + i) 0)) s.length = s.all goodN := by
    rw [← allUpto_getD]; congr 1; funext i; simp
  rw [e]
  by_cases h : s.length ≤ 24
  · rw [if_pos (by omega)]; simp [goodState, h]
  · rw [if_neg (by omega)]; simp [goodState, h]

def lexDiff : List Int → List Int → Option Bool
  | a :: l, b :: k => if a = b then lexDiff l k else some (decide (a < b))
  | _, _ => none
def lexLt (a b : List Int) : Bool := match lexDiff a b with
  | some t => t
  | none => decide (a.length < b.length)
def lexCmp : List Int → List Int → Int
  | a :: l, b :: k => if a < b then -1 else if b < a then 1 else lexCmp l k
  | [], [] => 0
  | [], _ :: _ => -1
  | _ :: _, [] => 1
theorem lexCmp_lt : ∀ (a b : List Int), decide ((0 : Int) ≤ lexCmp a b) = !lexLt a b
  | a :: l, b :: k => by
    by_cases h : a < b
    · simp [lexCmp, lexLt, lexDiff, h, show ¬ a = b by omega]
    · by_cases h2 : b < a
      · simp [lexCmp, lexLt, lexDiff, h, h2, show ¬ a = b by omega]
      · have e : a = b := by omega
        subst e
        rw [show lexCmp (a :: l) (a :: k) = lexCmp l k by simp [lexCmp], lexCmp_lt l k]
        simp only [lexLt, lexDiff, if_pos, List.length_cons]
        cases lexDiff l k <;> simp
  | [], [] => by simp [lexCmp, lexLt, lexDiff]
  | [], _ :: _ => by simp [lexCmp, lexLt, lexDiff]
  | _ :: _, [] => by simp [lexCmp, lexLt, lexDiff]
theorem l2Before_eq (a b : List Int) (ha : a.length ≤ 1048576) : spec_l2Before (a, b, ()) () = some ((lexLt a b, ()), ()) := by
  have key : ∀ d i, i + d = a.length → loopO spec_l2Before_B0 ((a, b, (i : Int), ()), ()) = some (match lexDiff (a.drop i) (b.drop i) with
      | some t => .inl ((t, ()), ())
      | none => .inr ((a, b, ()), ())) := by
    intro d
    induction d with
    | zero =>
      intro i hi
      have : i = a.length := by omega
      subst this
      refine loop_end ?_
      simp [spec_l2Before_B0, lexDiff]
    | succ d ih =>
      intro i hi
      have h1 : i < a.length := by omega
      by_cases h2 : i < b.length
      · rw [List.drop_eq_getElem_cons h1, List.drop_eq_getElem_cons h2]
        simp only [lexDiff]
        by_cases h3 : a[i] = b[i]
        · rw [if_pos h3]
          refine loop_step ?_ (ih (i + 1) (by omega))
          simp [spec_l2Before_B0, inb_nat, guardB, h1, h2, h3, w64_succ (show i < 4611686018427387904 by omega)]
        · rw [if_neg h3]
          refine loop_end ?_
          simp [spec_l2Before_B0, inb_nat, guardB, h1, h2, bne_ne h3]
      · have : lexDiff (a.drop i) (b.drop i) = none := by
          rw [List.drop_eq_nil_of_le (show b.length ≤ i by omega)]
          cases a.drop i <;> rfl
        rw [this]
        refine loop_end ?_
        simp [spec_l2Before_B0, inb_nat, guardB, h1, h2]
  simp only [spec_l2Before]
  erw [key a.length 0 (by omega)]
  simp only [List.drop_zero, lexLt]
  cases lexDiff a b <;> simp
theorem Compare_eq (a b : List Int) (ha : a.length ≤ 1048576) : slices_Compare_int_int (a, b, ()) () = some ((lexCmp a b, ()), ()) := by
  have key : ∀ d i, i + d = a.length → ∃ q, loopO slices_Compare_int_int_B0 ((a, b, a, (a.length : Int), (i : Int), ()), ()) = some q ∧ ((q = .inl ((lexCmp (a.drop i) (b.drop i), ()), ())) ∨ (q = .inr ((a, b, ()), ()) ∧ (i ≤ b.length → lexCmp (a.drop i) (b.drop i) = if a.length < b.length then -1 else 0))) := by
    intro d
    induction d with
    | zero =>
      intro i hi
      have : i = a.length := by omega
      subst this
      refine ⟨_, loop_end (q := .inr ((a, b, ()), ())) (by simp [slices_Compare_int_int_B0]), .inr ⟨rfl, fun hb => ?_⟩⟩
      rw [List.drop_length]
      by_cases h : a.length < b.length
      · rw [List.drop_eq_getElem_cons h, if_pos h]; rfl
      · rw [List.drop_eq_nil_of_le (by omega), if_neg h]; rfl
    | succ d ih =>
      intro i hi
      have h1 : i < a.length := by omega
      by_cases h2 : i < b.length
      · rw [List.drop_eq_getElem_cons h1, List.drop_eq_getElem_cons h2]
        simp only [lexCmp]
        have e : slices_Compare_int_int_B0 ((a, b, a, (a.length : Int), (i : Int), ()), ()) = some (if (if a[i] < b[i] then (-1 : Int) else if b[i] < a[i] then 1 else 0) = 0 then .inl ((a, b, a, (a.length : Int), ((i + 1 : Nat) : Int), ()), ()) else .inr (.inl (((if a[i] < b[i] then (-1 : Int) else if b[i] < a[i] then 1 else 0), ()), ()))) := by
          simp only [slices_Compare_int_int_B0, bif_decide, if_pos (show (i : Int) < (a.length : Int) by omega), if_neg (show ¬ (b.length : Int) ≤ (i : Int) by omega), guardB_true (inb_true (Int.natCast_nonneg i) (show (i : Int) < (a.length : Int) by omega)), guardB_true (inb_true (Int.natCast_nonneg i) (show (i : Int) < (b.length : Int) by omega)), Int.toNat_natCast, getD_at h1, getD_at h2, cmp_eq _ _, w64_succ (show i < 4611686018427387904 by omega)]
          by_cases h3 : a[i] < b[i]
          · simp [h3]
          · by_cases h4 : b[i] < a[i]
            · simp [h3, h4]
            · simp [h3, h4]
        by_cases h3 : a[i] < b[i]
        · simp only [if_pos h3] at e ⊢
          exact ⟨_, loop_end e, .inl rfl⟩
        · by_cases h4 : b[i] < a[i]
          · simp only [if_neg h3, if_pos h4] at e ⊢
            exact ⟨_, loop_end e, .inl rfl⟩
          · simp only [if_neg h3, if_neg h4, if_pos] at e ⊢
            obtain ⟨q, q1, q2⟩ := ih (i + 1) (by omega)
            refine ⟨q, loop_step e q1, q2.imp id fun ⟨r1, r2⟩ => ⟨r1, fun _ => r2 (by omega)⟩⟩
      · refine ⟨_, loop_end (q := .inl ((1, ()), ())) (by simp [slices_Compare_int_int_B0, inb_nat, guardB, h1, show b.length ≤ i by omega]), .inl ?_⟩
        rw [List.drop_eq_nil_of_le (show b.length ≤ i by omega), List.drop_eq_getElem_cons h1]
        rfl
  obtain ⟨q, q1, q2⟩ := key a.length 0 (by omega)
  simp only [slices_Compare_int_int]
  erw [q1]
  simp only [List.drop_zero] at q2
  rcases q2 with rfl | ⟨rfl, q2⟩
  · rfl
  · rw [q2 (Nat.zero_le _)]
    simp only [bif_decide, Int.ofNat_lt]
    split <;> rfl

def edgeB (a b : Int × Int) : Bool := decide (a.1 < b.1) || (decide (a.1 = b.1) && decide (a.2 < b.2))
theorem l2Edge_eq (a b : Int × Int) : spec_l2Edge (a, b, ()) () = some ((edgeB a b, ()), ()) := by
  simp only [spec_l2Edge, edgeB]
  by_cases h : a.1 < b.1
  · simp [h]
  · by_cases h2 : a.1 = b.1
    · simp [h, h2]
    · simp [h, h2, beq_ne h2]
theorem cmpOr_eq (x y : Int) : cmp_Or_int ([x, y], ()) () = some (((if x = 0 then y else x), ()), ()) := by
  simp only [cmp_Or_int]
  have e0 : cmp_Or_int_B0 ((0, [x, y], ([x, y].length : Int), 0, ()), ()) = some (if x = 0 then .inl ((0, [x, y], ([x, y].length : Int), 1, ()), ()) else .inr (.inl ((x, ()), ()))) := by
    by_cases h : x = 0
    · simp [cmp_Or_int_B0, inb, guardB, h]; rfl
    · simp [cmp_Or_int_B0, inb, guardB, h, bne_ne h]
  have e1 : cmp_Or_int_B0 ((0, [x, y], ([x, y].length : Int), 1, ()), ()) = some (if y = 0 then .inl ((0, [x, y], ([x, y].length : Int), 2, ()), ()) else .inr (.inl ((y, ()), ()))) := by
    by_cases h : y = 0
    · simp [cmp_Or_int_B0, inb, guardB, h]; rfl
    · simp [cmp_Or_int_B0, inb, guardB, h, bne_ne h]
  have e2 : cmp_Or_int_B0 ((0, [x, y], ([x, y].length : Int), 2, ()), ()) = some (.inr (.inr ((0, ()), ()))) := by
    simp [cmp_Or_int_B0]
  by_cases h : x = 0
  · rw [if_pos h] at e0 ⊢
    by_cases g : y = 0
    · rw [if_pos g] at e1
      rw [loop_step e0 (loop_step e1 (loop_end e2)), g]
    · rw [if_neg g] at e1
      rw [loop_step e0 (loop_end e1)]
  · rw [if_neg h] at e0 ⊢
    rw [loop_end e0]
theorem comparePairs_eq (a b : Int × Int) : ∃ r : Int, impl_comparePairs (a, b, ()) () = some ((r, ()), ()) ∧ (decide ((0 : Int) ≤ r) = !edgeB a b) ∧ (r = 0 ↔ a = b) := by
  obtain ⟨a1, a2⟩ := a
  obtain ⟨b1, b2⟩ := b
  simp only [impl_comparePairs, cmp_eq _ _, cmpOr_eq _ _]
  refine ⟨_, rfl, ?_, ?_⟩
  · simp only [edgeB]
    by_cases h : a1 < b1
    · simp [h]
    · by_cases h2 : b1 < a1
      · have : ¬ a1 = b1 := by omega
        simp [h, h2, this]
      · have : a1 = b1 := by omega
        subst this
        by_cases h3 : a2 < b2
        · simp [h3]
        · by_cases h4 : b2 < a2 <;> simp [h3, h4]
  · simp only [Prod.mk.injEq]
    by_cases h : a1 < b1
    · simp [h]; omega
    · by_cases h2 : b1 < a1
      · simp [h, h2]; omega
      · have : a1 = b1 := by omega
        subst this
        by_cases h3 : a2 < b2
        · simp [h3]; omega
        · by_cases h4 : b2 < a2
          · simp [h3, h4]; omega
          · simp [h3, h4]; omega
def pairB (l : List (Int × Int)) (n : Int) (i : Nat) : Bool :=
  decide (0 ≤ (l.getD i (0, 0)).1) && (decide ((l.getD i (0, 0)).1 < (l.getD i (0, 0)).2) && (decide ((l.getD i (0, 0)).2 < n) && (decide (i = 0) || edgeB (l.getD (i - 1) (0, 0)) (l.getD i (0, 0)))))
def pairsB (l : List (Int × Int)) (n : Int) : Bool := allUpto (pairB l n) l.length
theorem l2Pairs_eq (l : List (Int × Int)) (n : Int) (hl : l.length ≤ 1048576) (h0 : -1048576 ≤ n) (hn : n ≤ 1048576) : spec_l2Pairs (l, n, ()) () = some ((pairsB l n, ()), ()) := by
  have key := loop_all (B := spec_l2Pairs_B0) (fun i => ((l, n, (i : Int), ()), ())) (pairB l n) l.length (.inl ((false, ()), ())) (.inr ((), ())) (fun i hi _ => by
    obtain ⟨e, he⟩ : ∃ e : Int × Int, l.getD i (0, 0) = e := ⟨_, rfl⟩
    simp only [spec_l2Pairs_B0, bif_decide, if_pos (show (i : Int) < (l.length : Int) by omega), guardB_true (inb_true (Int.natCast_nonneg i) (show (i : Int) < (l.length : Int) by omega)), Int.toNat_natCast, l1In_eq _ _ _, w64_succ (show i < 4611686018427387904 by omega), w64_of (x := n - 1) (by omega) (by omega), pairB, inR, he]
    by_cases h1 : 0 ≤ e.1
    · by_cases h2 : e.1 ≤ n - 1
      · by_cases h3 : 0 ≤ e.2
        · by_cases h4 : e.2 ≤ n - 1
          · by_cases h5 : e.2 ≤ e.1
            · simp [h1, h2, h3, h4, h5, show ¬ e.1 < e.2 by omega]
            · by_cases h6 : i = 0
              · subst h6
                simp [h1, h2, h3, h4, h5, show e.1 < e.2 by omega, show e.2 < n by omega]
              · rw [w64_pred (by omega) (by omega), guardB_true (inb_true (Int.natCast_nonneg _) (show ((i - 1 : Nat) : Int) < (l.length : Int) by omega)), Int.toNat_natCast, l2Edge_eq]
                cases edgeB (l.getD (i - 1) (0, 0)) e <;> simp [h1, h2, h3, h4, h5, h6, show e.1 < e.2 by omega, show e.2 < n by omega, show 0 < i by omega]
          · simp [h1, h2, h3, h4, show ¬ e.2 < n by omega]
        · simp [h1, h2, h3, show ¬ e.1 < e.2 by omega]
      · simp only [h1, h2, decide_true, decide_false, Bool.and_false, Bool.not_false, cond_true, Bool.true_and]
        by_cases h3 : e.1 < e.2
        · simp [h3, show ¬ e.2 < n by omega]
        · simp [h3]
    · simp [h1]) (by simp [spec_l2Pairs_B0])
  simp only [spec_l2Pairs]
  erw [key]
  simp only [pairsB]
  cases allUpto (pairB l n) l.length <;> rfl
theorem isPairs_eq (l : List (Int × Int)) (n : Int) (hl : l.length ≤ 1048576) : impl_isPairs (l, n, ()) () = some ((pairsB l n, ()), ()) := by
  have key := loop_all (B := impl_isPairs_B0) (fun i => ((l, n, l, (l.length : Int), (i : Int), ()), ())) (pairB l n) l.length (.inl ((false, ()), ())) (.inr ((), ())) (fun i hi _ => by
    obtain ⟨e, he⟩ : ∃ e : Int × Int, l.getD i (0, 0) = e := ⟨_, rfl⟩
    simp only [impl_isPairs_B0, bif_decide, if_pos (show (i : Int) < (l.length : Int) by omega), guardB_true (inb_true (Int.natCast_nonneg i) (show (i : Int) < (l.length : Int) by omega)), Int.toNat_natCast, w64_succ (show i < 4611686018427387904 by omega), pairB, he]
    by_cases h1 : e.1 < 0
    · simp [h1, show ¬ 0 ≤ e.1 by omega]
    · by_cases h2 : e.2 ≤ e.1
      · simp [h1, h2, show ¬ e.1 < e.2 by omega]
      · by_cases h3 : n ≤ e.2
        · simp [h1, h2, h3, show ¬ e.2 < n by omega]
        · by_cases h6 : i = 0
          · subst h6
            simp [h1, h2, h3, show 0 ≤ e.1 by omega, show e.1 < e.2 by omega, show e.2 < n by omega]
          · obtain ⟨r, r1, r2, _⟩ := comparePairs_eq (l.getD (i - 1) (0, 0)) e
            rw [w64_pred (by omega) (by omega), guardB_true (inb_true (Int.natCast_nonneg _) (show ((i - 1 : Nat) : Int) < (l.length : Int) by omega)), Int.toNat_natCast, r1]
            simp only [if_neg h1, if_neg h2, if_neg h3, if_pos (show (0 : Int) < (i : Int) by omega), ← bif_decide, r2]
            cases edgeB (l.getD (i - 1) (0, 0)) e <;> simp [h6, show 0 ≤ e.1 by omega, show e.1 < e.2 by omega, show e.2 < n by omega]) (by simp [impl_isPairs_B0])
  simp only [impl_isPairs]
  erw [key]
  simp only [pairsB]
  cases allUpto (pairB l n) l.length <;> rfl

def stateB (L : List (List Int)) (i : Nat) : Bool := goodState (L.getD i []) && (decide (i = 0) || lexLt (L.getD (i - 1) []) (L.getD i []))
def spaceB (x : List (List Int) × List (Int × Int)) : Bool := decide (x.1.length ≤ 300) && (decide (x.2.length ≤ 6000) && (allUpto (stateB x.1) x.1.length && pairsB x.2 x.1.length))
theorem l2Space_eq (x : List (List Int) × List (Int × Int)) (hx : Few x) : spec_l2Space (x, ()) () = some ((spaceB x, ()), ()) := by
  obtain ⟨L, S⟩ := x
  have hL := hx.states
  have hs := hx.state
  have hS := hx.steps
  dsimp only at hL hs hS
  have hlen : ∀ i, i < L.length → (L.getD i []).length ≤ 1048576 := fun i hi => by rw [getD_at hi]; exact hs _ (List.getElem_mem hi)
  have key := loop_all (B := spec_l2Space_B0) (fun i => (((L, S), (i : Int), ()), ())) (stateB L) L.length (.inl ((false, ()), ())) (.inr (((L, S), ()), ())) (fun i hi _ => by
    simp only [spec_l2Space_B0, bif_decide, if_pos (show (i : Int) < (L.length : Int) by omega), guardB_true (inb_true (Int.natCast_nonneg i) (show (i : Int) < (L.length : Int) by omega)), Int.toNat_natCast, l2State_eq _ (hlen i hi), w64_succ (show i < 4611686018427387904 by omega), stateB]
    by_cases h6 : i = 0
    · subst h6
      cases goodState (L.getD 0 []) <;> simp
    · rw [w64_pred (by omega) (by omega), guardB_true (inb_true (Int.natCast_nonneg _) (show ((i - 1 : Nat) : Int) < (L.length : Int) by omega)), Int.toNat_natCast, l2Before_eq _ _ (hlen (i - 1) (by omega))]
      cases goodState (L.getD i []) <;> cases lexLt (L.getD (i - 1) []) (L.getD i []) <;> simp [h6, show 0 < i by omega]) (by simp [spec_l2Space_B0])
  simp only [spec_l2Space, bif_decide, spaceB]
  by_cases h1 : L.length ≤ 300
  · rw [if_neg (by omega)]
    by_cases h2 : S.length ≤ 6000
    · rw [if_neg (by omega)]
      erw [key]
      simp only [h1, h2, decide_true, Bool.true_and]
      cases h3 : allUpto (stateB L) L.length
      · rfl
      · simp only [cond_true, l2Pairs_eq S (L.length : Int) hS (by omega) (by omega), Bool.true_and]
    · rw [if_pos (by omega)]; simp [h2]
  · rw [if_pos (by omega)]; simp [h1]
theorem IsSpace_eq (x : List (List Int) × List (Int × Int)) (hx : Few x) : impl_IsSpace (x, ()) () = some ((spaceB x, ()), ()) := by
  obtain ⟨L, S⟩ := x
  have hL := hx.states
  have hs := hx.state
  have hS := hx.steps
  dsimp only at hL hs hS
  have hlen : ∀ i, i < L.length → (L.getD i []).length ≤ 1048576 := fun i hi => by rw [getD_at hi]; exact hs _ (List.getElem_mem hi)
  have key := loop_all (B := impl_IsSpace_B0) (fun i => (((L, S), L, (L.length : Int), (i : Int), ()), ())) (stateB L) L.length (.inl ((false, ()), ())) (.inr (((L, S), ()), ())) (fun i hi _ => by
    simp only [impl_IsSpace_B0, if_pos (show (i : Int) < (L.length : Int) by omega), guardB_true (inb_true (Int.natCast_nonneg i) (show (i : Int) < (L.length : Int) by omega)), Int.toNat_natCast, isState_eq _ (hlen i hi), w64_succ (show i < 4611686018427387904 by omega), stateB]
    by_cases h6 : i = 0
    · subst h6
      cases goodState (L.getD 0 []) <;> simp [hi]
    · rw [w64_pred (by omega) (by omega), guardB_true (inb_true (Int.natCast_nonneg _) (show ((i - 1 : Nat) : Int) < (L.length : Int) by omega)), Int.toNat_natCast, Compare_eq _ _ (hlen (i - 1) (by omega))]
      simp only [lexCmp_lt]
      cases goodState (L.getD i []) <;> cases lexLt (L.getD (i - 1) []) (L.getD i []) <;> simp [h6, hi, show 0 < i by omega]) (by simp [impl_IsSpace_B0])
  simp only [impl_IsSpace, bif_decide, spaceB]
  by_cases h1 : L.length ≤ 300
  · rw [if_neg (by omega)]
    by_cases h2 : S.length ≤ 6000
    · rw [if_neg (by omega)]
      erw [key]
      simp only [h1, h2, decide_true, Bool.true_and]
      cases h3 : allUpto (stateB L) L.length
      · rfl
      · simp only [cond_true, isPairs_eq S (L.length : Int) hS, Bool.true_and]
    · rw [if_pos (by omega)]; simp [h2]
  · rw [if_pos (by omega)]; simp [h1]
theorem l1Has_eq (l : List Int) (n : Int) (hl : l.length ≤ 1048576) : spec_l1Has (l, n, ()) () = some ((decide (n ∈ l), ()), ()) := by
  have key := loop_all (B := spec_l1Has_B0) (fun i => ((l, n, (i : Int), ()), ())) (fun i => !decide (l.getD i 0 = n)) l.length (.inl ((true, ()), ())) (.inr ((), ())) (fun i hi _ => by
    simp only [spec_l1Has_B0, bif_decide, if_pos (show (i : Int) < (l.length : Int) by omega), guardB_true (inb_true (Int.natCast_nonneg i) (show (i : Int) < (l.length : Int) by omega)), Int.toNat_natCast, w64_succ (show i < 4611686018427387904 by omega)]
    by_cases h : l.getD i 0 = n
    · rw [beq_eq h, decide_eq_true h]; rfl
    · rw [beq_ne h, decide_eq_false h]; rfl) (by simp [spec_l1Has_B0])
  have e : decide (n ∈ l) = !allUpto (fun i => !decide (l.getD i 0 = n)) l.length := by
    rw [Bool.eq_iff_iff, decide_eq_true_iff, Bool.not_eq_true', ← Bool.not_eq_true, allUpto_iff]
    constructor
    · intro h g
      obtain ⟨i, hi, rfl⟩ := List.getElem_of_mem h
      have := g i hi
      rw [getD_at hi] at this
      simp at this
    · intro h
      refine Classical.byContradiction fun g => h fun i hi => ?_
      rw [getD_at hi]
      simp only [Bool.not_eq_true', decide_eq_false_iff_not]
      intro e
      exact g (e ▸ List.getElem_mem hi)
  simp only [spec_l1Has]
  erw [key]
  rw [e]
  cases allUpto (fun i => !decide (l.getD i 0 = n)) l.length <;> rfl
def agentsB (n : Nat) (l : List Int) : Bool := inR l.length 1 3 && (decide l.Nodup && l.all fun i => inR i 0 ((n : Int) - 1))
theorem take_mem_nodup : ∀ (l : List Int), (∀ i, i < l.length → l.getD i 0 ∉ l.take i) ↔ l.Nodup
  | l => by
    rw [List.nodup_iff_pairwise_ne, List.pairwise_iff_getElem]
    constructor
    · intro h i j hi hj hij e
      refine h j hj ?_
      rw [getD_at hj, ← e]
      exact List.mem_take_iff_getElem.2 ⟨i, by omega, rfl⟩
    · intro h i hi hm
      rw [getD_at hi] at hm
      obtain ⟨k, hk, e⟩ := List.mem_take_iff_getElem.1 hm
      exact h k i (by omega) hi (by omega) e
theorem l11Agents_eq (x : List (List Int) × List (Int × Int)) (l : List Int) (hx : x.1.length ≤ 1048576) (hl : l.length ≤ 1048576) : spec_l11Agents (x, l, ()) () = some ((agentsB x.1.length l, ()), ()) := by
  have key := loop_all (B := spec_l11Agents_B0) (fun i => ((l, x, (i : Int), ()), ())) (fun i => inR (l.getD i 0) 0 ((x.1.length : Int) - 1) && !decide (l.getD i 0 ∈ l.take i)) l.length (.inl ((false, ()), ())) (.inr ((l, ()), ())) (fun i hi _ => by
    simp only [spec_l11Agents_B0, bif_decide, if_pos (show (i : Int) < (l.length : Int) by omega), guardB_true (inb_true (Int.natCast_nonneg i) (show (i : Int) < (l.length : Int) by omega)), Int.toNat_natCast, w64_succ (show i < 4611686018427387904 by omega), w64_of (x := (x.1.length : Int) - 1) (by omega) (by omega), l1In_eq _ _ _, l1Has_eq (l.take i) (l.getD i 0) (by simp; omega)]
    rw [guardB_true (by simp; omega)]
    cases inR (l.getD i 0) 0 ((x.1.length : Int) - 1)
    · rfl
    · by_cases h : l.getD i 0 ∈ l.take i
      · simp only [decide_eq_true h, if_pos h]; rfl
      · simp only [decide_eq_false h, if_neg h]; rfl) (by simp [spec_l11Agents_B0])
  simp only [spec_l11Agents]
  erw [key]
  have e : allUpto (fun i => inR (l.getD i 0) 0 ((x.1.length : Int) - 1) && !decide (l.getD i 0 ∈ l.take i)) l.length = (decide l.Nodup && l.all fun i => inR i 0 ((x.1.length : Int) - 1)) := by
    rw [Bool.eq_iff_iff, allUpto_iff]
    simp only [Bool.and_eq_true, Bool.not_eq_true', decide_eq_false_iff_not, decide_eq_true_iff, ← take_mem_nodup, List.all_eq_true]
    constructor
    · intro h
      refine ⟨fun i hi => (h i hi).2, fun y hy => ?_⟩
      obtain ⟨i, hi, rfl⟩ := List.getElem_of_mem hy
      have := (h i hi).1
      rwa [getD_at hi] at this
    · rintro ⟨h1, h2⟩ i hi
      exact ⟨by rw [getD_at hi]; exact h2 _ (List.getElem_mem hi), h1 i hi⟩
  rw [e]
  simp only [agentsB]
  cases h : (decide l.Nodup && l.all fun i => inR i 0 ((x.1.length : Int) - 1))
  · simp
  · simp only [cond_true, l1In_eq _ _ _, Bool.and_true]
theorem compact_nodup (zs : List Int) (hs : zs.Pairwise (· ≤ ·)) : (Lib.compact zs).length = zs.length ↔ zs.Nodup := by
  have e : (Lib.compact zs).length = ((List.range zs.length).filter (Lib.keeps zs.toArray)).length := by simp [Lib.compact, Lib.compactUpTo]
  rw [e]
  have e2 : zs.length = (List.range zs.length).length := by simp
  conv => lhs; rhs; rw [e2]
  rw [List.length_filter_eq_length_iff]
  constructor
  · intro h
    rw [List.nodup_iff_pairwise_ne, List.pairwise_iff_getElem]
    rw [List.pairwise_iff_getElem] at hs
    intro i j hi hj hij e
    have hk := h (i + 1) (by simp; omega)
    have h1 : zs[i] ≤ zs[i + 1] := hs i (i + 1) hi (by omega) (by omega)
    have h2 : zs[i + 1] ≤ zs[j] := by
      rcases Nat.lt_or_ge (i + 1) j with g | g
      · exact hs (i + 1) j (by omega) hj g
      · have : j = i + 1 := by omega
        subst this; exact Int.le_refl _
    have h3 : zs[i + 1] = zs[i] := by omega
    simp [Lib.keeps, h3, hi, show i + 1 < zs.length by omega] at hk
  · intro h i hi
    rw [List.nodup_iff_pairwise_ne, List.pairwise_iff_getElem] at h
    have hi : i < zs.length := by simpa using hi
    rcases Nat.eq_zero_or_pos i with g | g
    · subst g; simp [Lib.keeps]
    · have := h (i - 1) i (by omega) hi (by omega)
      simp [Lib.keeps, hi, show i - 1 < zs.length by omega]
      exact .inr fun e => this e.symm
theorem sort_sorted (l : List Int) : (l.mergeSort fun a b => decide (a ≤ b)).Pairwise (· ≤ ·) := by
  have := List.pairwise_mergeSort (le := fun a b : Int => decide (a ≤ b)) (fun a b c h1 h2 => by simp at *; omega) (fun a b => by simp; omega) l
  exact this.imp fun h => by simpa using h
theorem sort_compact (l : List Int) : ((Lib.compact (l.mergeSort fun a b => decide (a ≤ b))).length = l.length) ↔ l.Nodup := by
  have h := compact_nodup _ (sort_sorted l)
  rw [List.length_mergeSort] at h
  rw [h, (List.mergeSort_perm l _).nodup_iff]
theorem isPlace_eq (x : List (List Int) × List (Int × Int)) (i : Int) (hx : x.1.length ≤ 1048576) : impl_Space_isPlace (x, i, ()) () = some ((inR i 0 ((x.1.length : Int) - 1), ()), ()) := by
  simp only [impl_Space_isPlace, between_eq _ _ _, w64_of (x := (x.1.length : Int) - 1) (by omega) (by omega)]
theorem firstIdx_range {p : Nat → Bool} : ∀ (d k : Nat), firstIdx p k d < 0 → firstIdx p k d = -1
  | 0, k, _ => rfl
  | d + 1, k, h => by
    simp only [firstIdx] at h ⊢
    split
    · rename_i g; rw [if_pos g] at h; omega
    · rename_i g; rw [if_neg g] at h; exact firstIdx_range d (k + 1) h
theorem areAgents_eq (x : List (List Int) × List (Int × Int)) (l : List Int) (hx : x.1.length ≤ 1048576) (hl : l.length ≤ 1048576) : impl_Space_areAgents (x, l, ()) () = some ((agentsB x.1.length l, ()), ()) := by
  have k1 : ∀ i : Int, impl_Space_areAgents_1_vc (i, x, ()) () = some (((!inR i 0 ((x.1.length : Int) - 1)), ()), ()) := fun i => by simp only [impl_Space_areAgents_1_vc, isPlace_eq x i hx]
  have key := loop_idx (B := slices_IndexFunc_int_int_2_vf_impl_Space_areAgents_1_0__bs_B0) (fun i => ((l, (l.length : Int), (i : Int), ()), (x, ()))) (fun i => !inR (l.getD i 0) 0 ((x.1.length : Int) - 1)) l.length (fun i => .inl ((i, ()), (x, ()))) (.inr ((), (x, ()))) (fun i hi => by
    simp only [slices_IndexFunc_int_int_2_vf_impl_Space_areAgents_1_0__bs_B0, bif_decide, if_pos (show (i : Int) < (l.length : Int) by omega), guardB_true (inb_true (Int.natCast_nonneg i) (show (i : Int) < (l.length : Int) by omega)), Int.toNat_natCast, k1 _, w64_succ (show i < 4611686018427387904 by omega)]
    cases inR (l.getD i 0) 0 ((x.1.length : Int) - 1) <;> rfl) (by simp [slices_IndexFunc_int_int_2_vf_impl_Space_areAgents_1_0__bs_B0])
  have k2 : slices_IndexFunc_int_int_2_vf_impl_Space_areAgents_1_0__bs (l, ()) (x, ()) = some ((firstIdx (fun i => !inR (l.getD i 0) 0 ((x.1.length : Int) - 1)) 0 l.length, ()), (x, ())) := by
    simp only [slices_IndexFunc_int_int_2_vf_impl_Space_areAgents_1_0__bs]
    erw [key]
    by_cases h : firstIdx (fun i => !inR (l.getD i 0) 0 ((x.1.length : Int) - 1)) 0 l.length < 0
    · rw [if_pos h, firstIdx_range _ _ h]
    · rw [if_neg h]
  have e : allUpto (fun i => inR (l.getD (0 + i) 0) 0 ((x.1.length : Int) - 1)) l.length = l.all fun i => inR i 0 ((x.1.length : Int) - 1) := by
    rw [← allUpto_getD]; congr 1; funext i; simp
  simp only [impl_Space_areAgents, between_eq _ _ _, agentsB, slices_Sorted_int, slices_Compact_int_int, sortedFn, compactFn]
  cases h1 : inR (l.length : Int) 1 3
  · rfl
  · rw [guardB_true (by simp; omega)]
    simp only [cond_true, slices_ContainsFunc_int_int_2_vf_impl_Space_areAgents_1_0__bs, k2, firstIdx_neg, e, Bool.not_not, Bool.true_and]
    by_cases h2 : l.Nodup
    · have h3 := (sort_compact l).2 h2
      rw [beq_eq (by rw [h3])]
      simp [h2]
    · rw [beq_ne (fun h3 => h2 ((sort_compact l).1 (Int.ofNat_inj.1 h3)))]
      simp [h2]
def rows {α : Type} (n : Nat) (F : Nat → α) : List α := (List.range n).map F
theorem rows_len {α : Type} {n : Nat} {F : Nat → α} : (rows n F).length = n := by simp [rows]
theorem rows_get {α : Type} {n i : Nat} {F : Nat → α} (h : i < n) (d : α) : (rows n F).getD i d = F i := by simp [rows, List.getD, h]
theorem rows_set {α : Type} {n i : Nat} {F : Nat → α} (v : α) : (rows n F).set i v = rows n (fun j => if j = i then v else F j) := by
  apply List.ext_getElem
  · simp [rows]
  · intro j h1 h2
    simp only [rows, List.getElem_set, List.getElem_map, List.getElem_range]
    by_cases h : i = j
    · subst h; simp
    · rw [if_neg h, if_neg (fun e => h e.symm)]
theorem rows_congr {α : Type} {n : Nat} {F G : Nat → α} (h : ∀ j, j < n → F j = G j) : rows n F = rows n G := by
  apply List.map_congr_left
  intro j hj
  exact h j (by simpa using hj)
theorem rows_rep {α : Type} {n : Nat} (d : α) : List.replicate n d = rows n (fun _ => d) := by
  apply List.ext_getElem
  · simp [rows]
  · intro j h1 h2; simp [rows]
theorem take_one {α : Type} {l : List α} {i : Nat} (h : i < l.length) (d : α) : l.take (i + 1) = l.take i ++ [l.getD i d] := by
  rw [getD_at h, List.take_succ_eq_append_getElem h]
def inc (S : List (Int × Int)) (j : Nat) : List Int := (S.filter fun e => decide (e.2 = (j : Int))).map (·.1)
def outg (S : List (Int × Int)) (j : Nat) : List Int := (S.filter fun e => decide (e.1 = (j : Int))).map (·.2)
def nbr (S : List (Int × Int)) (j : Nat) : List Int := inc S j ++ outg S j
def listsP (S : List (Int × Int)) (n : Nat) : List (List Int) := rows n (nbr S)
theorem inc_snoc (T : List (Int × Int)) (a b j : Nat) : inc (T ++ [((a : Int), (b : Int))]) j = if j = b then inc T j ++ [(a : Int)] else inc T j := by
  simp only [inc, List.filter_append, List.map_append]
  by_cases h : j = b
  · subst h; simp
  · rw [if_neg h]; simp [show ¬ (b : Int) = (j : Int) by omega]
theorem outg_snoc (T : List (Int × Int)) (a b j : Nat) : outg (T ++ [((a : Int), (b : Int))]) j = if j = a then outg T j ++ [(b : Int)] else outg T j := by
  simp only [outg, List.filter_append, List.map_append]
  by_cases h : j = a
  · subst h; simp
  · rw [if_neg h]; simp [show ¬ (a : Int) = (j : Int) by omega]
theorem inc_len (T : List (Int × Int)) (j : Nat) : (inc T j).length ≤ T.length := by simp only [inc, List.length_map]; exact List.length_filter_le _ _
theorem outg_len (T : List (Int × Int)) (j : Nat) : (outg T j).length ≤ T.length := by simp only [outg, List.length_map]; exact List.length_filter_le _ _
/-- steps: pairs of places -/
def StepsOk (S : List (Int × Int)) (n : Nat) : Prop := ∀ i, i < S.length → ∃ a b : Nat, S.getD i (0, 0) = ((a : Int), (b : Int)) ∧ a < b ∧ b < n
theorem pairsB_at {S : List (Int × Int)} {n : Nat} (h : pairsB S n = true) (i : Nat) (hi : i < S.length) : pairB S n i = true := allUpto_iff.1 h i hi
theorem pairsB_ok {S : List (Int × Int)} {n : Nat} (h : pairsB S n = true) : StepsOk S n := by
  intro i hi
  have := pairsB_at h i hi
  simp only [pairB, Bool.and_eq_true, decide_eq_true_eq] at this
  obtain ⟨h1, h2, h3, _⟩ := this
  generalize S.getD i (0, 0) = e at h1 h2 h3
  obtain ⟨a, b⟩ := e
  simp only at h1 h2 h3
  exact ⟨a.toNat, b.toNat, by rw [Int.toNat_of_nonneg h1, Int.toNat_of_nonneg (by omega)], by omega, by omega⟩
theorem edge_lt {S : List (Int × Int)} {n : Nat} (h : pairsB S n = true) : ∀ d i, i + 1 + d < S.length → edgeB (S.getD i (0, 0)) (S.getD (i + 1 + d) (0, 0)) = true := by
  have one : ∀ i, i + 1 < S.length → edgeB (S.getD i (0, 0)) (S.getD (i + 1) (0, 0)) = true := by
    intro i hi
    have := pairsB_at h (i + 1) hi
    simp only [pairB, Bool.and_eq_true, Bool.or_eq_true, decide_eq_true_eq] at this
    rcases this.2.2.2 with h0 | h0
    · omega
    · simpa using h0
  have tr : ∀ a b c : Int × Int, edgeB a b = true → edgeB b c = true → edgeB a c = true := by
    intro a b c h1 h2
    simp only [edgeB, Bool.or_eq_true, Bool.and_eq_true, decide_eq_true_eq] at *
    omega
  intro d
  induction d with
  | zero => intro i hi; exact one i hi
  | succ d ih => intro i hi; exact tr _ _ _ (ih i (by omega)) (one (i + 1 + d) hi)
theorem steps_pairwise {S : List (Int × Int)} {n : Nat} (h : pairsB S n = true) : S.Pairwise fun a b => edgeB a b = true := by
  rw [List.pairwise_iff_getElem]
  intro i j hi hj hij
  have := edge_lt h (j - i - 1) i (by omega)
  rw [show i + 1 + (j - i - 1) = j by omega, getD_at hi, getD_at hj] at this
  exact this
theorem steps_mem {S : List (Int × Int)} {n : Nat} (h : StepsOk S n) {e : Int × Int} (he : e ∈ S) : 0 ≤ e.1 ∧ e.1 < e.2 ∧ e.2 < n := by
  obtain ⟨i, hi, rfl⟩ := List.getElem_of_mem he
  obtain ⟨a, b, h1, h2, h3⟩ := h i hi
  rw [getD_at hi] at h1
  rw [h1]
  simp only
  omega
theorem nbr_sorted {S : List (Int × Int)} {n : Nat} (h : pairsB S n = true) (j : Nat) : (nbr S j).Pairwise (· < ·) := by
  have hp := steps_pairwise h
  have hok := pairsB_ok h
  rw [nbr, List.pairwise_append]
  refine ⟨?_, ?_, ?_⟩
  · rw [inc, List.pairwise_map]
    refine ((hp.sublist List.filter_sublist).imp_of_mem fun {a b} ha hb hab => ?_)
    simp only [List.mem_filter, decide_eq_true_eq] at ha hb
    simp only [edgeB, Bool.or_eq_true, Bool.and_eq_true, decide_eq_true_eq] at hab
    omega
  · rw [outg, List.pairwise_map]
    refine ((hp.sublist List.filter_sublist).imp_of_mem fun {a b} ha hb hab => ?_)
    simp only [List.mem_filter, decide_eq_true_eq] at ha hb
    simp only [edgeB, Bool.or_eq_true, Bool.and_eq_true, decide_eq_true_eq] at hab
    omega
  · intro a ha b hb
    simp only [inc, outg, List.mem_map, List.mem_filter, decide_eq_true_eq] at ha hb
    obtain ⟨e, ⟨he, e1⟩, rfl⟩ := ha
    obtain ⟨f, ⟨hf, f1⟩, rfl⟩ := hb
    have := steps_mem hok he
    have := steps_mem hok hf
    omega
theorem l2Lists_eq (x : List (List Int) × List (Int × Int)) (hS : StepsOk x.2 x.1.length) (hn : x.1.length ≤ 1048576) (hs : x.2.length ≤ 1048576) : spec_l2Lists (x, ()) () = some ((listsP x.2 x.1.length, ()), ()) := by
  obtain ⟨L, S⟩ := x
  simp only at hS hn hs
  simp only [spec_l2Lists, guardB_true (fold_len hn).2.1, Int.toNat_natCast]
  have k0 : loopO spec_l2Lists_B0 (((L, S), rows L.length (inc (S.take 0)), ((0 : Nat) : Int), ()), ()) = some (((L, S), rows L.length (inc (S.take S.length)), ()), ()) := by
    refine loop_count (fun i => (((L, S), rows L.length (inc (S.take i)), (i : Int), ()), ())) S.length _ (fun i hi => ?_) ?_ 0 (Nat.zero_le _)
    · obtain ⟨a, b, he, hab, hb⟩ := hS i hi
      have hg : guardB (decide ((List.length (inc (S.take i) b) + List.length [(a : Int)]) * 8 ≤ 70368744177664)) = (id : Option (spec_l2Lists_J0.P ⊕ spec_l2Lists_O0.P) → _) := by
        funext z
        refine guardB_true ?_
        have := inc_len (S.take i) b
        simp only [List.length_take] at this
        simp only [List.length_singleton, decide_eq_true_eq]
        omega
      simp only [spec_l2Lists_B0, bif_decide, if_pos (show (i : Int) < (S.length : Int) by omega), guardB_true (inb_true (Int.natCast_nonneg i) (show (i : Int) < (S.length : Int) by omega)), Int.toNat_natCast, he, rows_len, guardB_true (inb_true (Int.natCast_nonneg b) (show (b : Int) < (L.length : Int) by omega)), rows_get (show b < L.length by omega), Nat.beq_refl, Bool.and_self, guardB_true rfl, w64_succ (show i < 4611686018427387904 by omega), rows_set]
      rw [hg]
      simp only [id]
      rw [take_one hi (0, 0), he]
      have : rows L.length (fun j => if j = b then inc (S.take i) b ++ [(a : Int)] else inc (S.take i) j) = rows L.length (inc (S.take i ++ [((a : Int), (b : Int))])) := rows_congr fun j _ => by
        rw [inc_snoc]
        by_cases h : j = b
        · subst h; rfl
        · simp only [if_neg h]
      rw [this]
    · simp only [spec_l2Lists_B0, bif_decide, if_neg (show ¬ (S.length : Int) < (S.length : Int) by omega)]
  have k1 : loopO spec_l2Lists_B1 (((L, S), rows L.length (fun j => inc S j ++ outg (S.take 0) j), ((0 : Nat) : Int), ()), ()) = some ((rows L.length (fun j => inc S j ++ outg (S.take S.length) j), ()), ()) := by
    refine loop_count (fun i => (((L, S), rows L.length (fun j => inc S j ++ outg (S.take i) j), (i : Int), ()), ())) S.length _ (fun i hi => ?_) ?_ 0 (Nat.zero_le _)
    · obtain ⟨a, b, he, hab, hb⟩ := hS i hi
      have hg : guardB (decide ((List.length (inc S a ++ outg (S.take i) a) + List.length [(b : Int)]) * 8 ≤ 70368744177664)) = (id : Option (spec_l2Lists_J2.P ⊕ spec_l2Lists_O1.P) → _) := by
        funext z
        refine guardB_true ?_
        have := inc_len S a
        have := outg_len (S.take i) a
        simp only [List.length_take] at this
        simp only [List.length_singleton, List.length_append, decide_eq_true_eq]
        omega
      simp only [spec_l2Lists_B1, bif_decide, if_pos (show (i : Int) < (S.length : Int) by omega), guardB_true (inb_true (Int.natCast_nonneg i) (show (i : Int) < (S.length : Int) by omega)), Int.toNat_natCast, he, rows_len, guardB_true (inb_true (Int.natCast_nonneg a) (show (a : Int) < (L.length : Int) by omega)), rows_get (show a < L.length by omega), Nat.beq_refl, Bool.and_self, guardB_true rfl, w64_succ (show i < 4611686018427387904 by omega), rows_set]
      rw [hg]
      simp only [id]
      rw [take_one hi (0, 0), he]
      have : rows L.length (fun j => if j = a then (inc S a ++ outg (S.take i) a) ++ [(b : Int)] else inc S j ++ outg (S.take i) j) = rows L.length (fun j => inc S j ++ outg (S.take i ++ [((a : Int), (b : Int))]) j) := rows_congr fun j _ => by
        rw [outg_snoc]
        by_cases h : j = a
        · subst h; simp
        · simp only [if_neg h]
      rw [this]
    · simp only [spec_l2Lists_B1, bif_decide, if_neg (show ¬ (S.length : Int) < (S.length : Int) by omega)]
  rw [List.take_length] at k0 k1
  have z0 : rows L.length (inc (S.take 0)) = List.replicate L.length [] := by rw [rows_rep]; exact rows_congr fun j _ => rfl
  have z1 : rows L.length (fun j => inc S j ++ outg (S.take 0) j) = rows L.length (inc S) := rows_congr fun j _ => by simp [outg]
  rw [z0] at k0
  rw [z1] at k1
  erw [k0]
  simp only
  erw [k1]
  rfl
def raw (S : List (Int × Int)) (j : Nat) : List Int := S.flatMap fun e => (if e.1 = (j : Int) then [e.2] else []) ++ (if e.2 = (j : Int) then [e.1] else [])
theorem raw_perm : ∀ (S : List (Int × Int)) (j : Nat), (raw S j).Perm (nbr S j)
  | [], j => by simp [raw, nbr, inc, outg]
  | e :: S, j => by
    have ih := raw_perm S j
    simp only [raw, List.flatMap_cons] at ih ⊢
    simp only [nbr, inc, outg, List.filter_cons] at ih ⊢
    by_cases h1 : e.1 = (j : Int)
    · by_cases h2 : e.2 = (j : Int)
      · simp only [h1, h2, if_true, decide_true, List.map_cons, List.cons_append, List.nil_append]
        exact ((ih.cons (j : Int)).cons (j : Int)).trans (List.perm_middle.symm.cons _)
      · simp only [h1, h2, if_true, if_false, decide_true, decide_false, List.map_cons, List.cons_append, List.nil_append, List.append_nil, Bool.false_eq_true]
        exact (ih.cons _).trans List.perm_middle.symm
    · by_cases h2 : e.2 = (j : Int)
      · simp only [h1, h2, if_true, if_false, decide_true, decide_false, List.map_cons, List.cons_append, List.nil_append, List.append_nil, Bool.false_eq_true]
        exact ih.cons _
      · simp only [h1, h2, if_false, decide_false, List.nil_append, Bool.false_eq_true]
        exact ih
theorem sort_of_perm {l k : List Int} (h : l.Perm k) (hk : k.Pairwise (· < ·)) : l.mergeSort (fun a b => decide (a ≤ b)) = k := by
  refine List.Perm.eq_of_pairwise (le := (· ≤ ·)) ?_ (sort_sorted l) (hk.imp fun h => Int.le_of_lt h) ((List.mergeSort_perm l _).trans h)
  intro a b _ _ h1 h2
  omega
theorem raw_snoc (T : List (Int × Int)) (a b j : Nat) (hab : a < b) : raw (T ++ [((a : Int), (b : Int))]) j = if j = b then raw T j ++ [(a : Int)] else if j = a then raw T j ++ [(b : Int)] else raw T j := by
  simp only [raw, List.flatMap_append, List.flatMap_cons, List.flatMap_nil, List.append_nil]
  by_cases h : j = b
  · subst h; simp [show ¬ (a : Int) = (j : Int) by omega]
  · by_cases h2 : j = a
    · subst h2; simp [show ¬ (b : Int) = (j : Int) by omega, h]
    · simp [h, h2, show ¬ (b : Int) = (j : Int) by omega, show ¬ (a : Int) = (j : Int) by omega]
theorem raw_len (T : List (Int × Int)) (j : Nat) : (raw T j).length ≤ 2 * T.length := by
  rw [(raw_perm T j).length_eq, nbr, List.length_append]
  have := inc_len T j
  have := outg_len T j
  omega
theorem roads_eq (x : List (List Int) × List (Int × Int)) (hp : pairsB x.2 x.1.length = true) (hn : x.1.length ≤ 1048576) (hs : x.2.length ≤ 1048576) : impl_Space_roads (x, ()) () = some ((listsP x.2 x.1.length, ()), ()) := by
  obtain ⟨L, S⟩ := x
  simp only at hp hn hs
  have hS := pairsB_ok hp
  simp only [impl_Space_roads, guardB_true (fold_len hn).2.1, Int.toNat_natCast]
  have k0 : loopO impl_Space_roads_B0 ((rows L.length (raw (S.take 0)), S, (S.length : Int), ((0 : Nat) : Int), ()), ()) = some ((rows L.length (raw (S.take S.length)), ()), ()) := by
    refine loop_count (fun i => ((rows L.length (raw (S.take i)), S, (S.length : Int), (i : Int), ()), ())) S.length _ (fun i hi => ?_) ?_ 0 (Nat.zero_le _)
    · obtain ⟨a, b, he, hab, hb⟩ := hS i hi
      have hl := fun j => raw_len (S.take i) j
      simp only [List.length_take] at hl
      have g1 : decide ((List.length (raw (S.take i) a) + List.length [(b : Int)]) * 8 ≤ 70368744177664) = true := by
        have := hl a
        simp only [List.length_singleton, decide_eq_true_eq]
        omega
      have g2 : decide ((List.length (raw (S.take i) b) + List.length [(a : Int)]) * 8 ≤ 70368744177664) = true := by
        have := hl b
        simp only [List.length_singleton, decide_eq_true_eq]
        omega
      simp only [impl_Space_roads_B0, bif_decide, if_pos (show (i : Int) < (S.length : Int) by omega), guardB_true (inb_true (Int.natCast_nonneg i) (show (i : Int) < (S.length : Int) by omega)), Int.toNat_natCast, he, rows_len, guardB_true (inb_true (Int.natCast_nonneg a) (show (a : Int) < (L.length : Int) by omega)), guardB_true (inb_true (Int.natCast_nonneg b) (show (b : Int) < (L.length : Int) by omega)), rows_get (show a < L.length by omega), rows_get (show b < L.length by omega), Nat.beq_refl, Bool.and_self, guardB_true rfl, w64_succ (show i < 4611686018427387904 by omega), rows_set, if_neg (show ¬ b = a by omega), guardB_true g1, guardB_true g2]
      rw [take_one hi (0, 0), he]
      have : rows L.length (fun j => if j = b then raw (S.take i) b ++ [(a : Int)] else if j = a then raw (S.take i) a ++ [(b : Int)] else raw (S.take i) j) = rows L.length (raw (S.take i ++ [((a : Int), (b : Int))])) := rows_congr fun j _ => by
        rw [raw_snoc _ _ _ _ hab]
        by_cases h : j = b
        · subst h; rw [if_pos rfl, if_pos rfl]
        · by_cases h2 : j = a
          · subst h2; simp [h]
          · simp only [if_neg h, if_neg h2]
      rw [this]
    · simp only [impl_Space_roads_B0, bif_decide, if_neg (show ¬ (S.length : Int) < (S.length : Int) by omega)]
  have k1 : loopO impl_Space_roads_B1 ((rows L.length (fun j => if j < 0 then nbr S j else raw S j), (L.length : Int), ((0 : Nat) : Int), ()), ()) = some ((rows L.length (fun j => if j < L.length then nbr S j else raw S j), ()), ()) := by
    refine loop_count (fun i => ((rows L.length (fun j => if j < i then nbr S j else raw S j), (L.length : Int), (i : Int), ()), ())) L.length _ (fun i hi => ?_) ?_ 0 (Nat.zero_le _)
    · have hl := raw_len S i
      simp only [impl_Space_roads_B1, bif_decide, if_pos (show (i : Int) < (L.length : Int) by omega), rows_len, guardB_true (inb_true (Int.natCast_nonneg i) (show (i : Int) < (L.length : Int) by omega)), Int.toNat_natCast, rows_get hi, if_neg (show ¬ i < i by omega), slices_Sort_int_int, sortFn]
      rw [guardB_true (by simp only [decide_eq_true_eq]; omega)]
      simp only [sort_of_perm (raw_perm S i) (nbr_sorted hp i), rows_set, w64_succ (show i < 4611686018427387904 by omega)]
      have : rows L.length (fun j => if j = i then nbr S i else if j < i then nbr S j else raw S j) = rows L.length (fun j => if j < i + 1 then nbr S j else raw S j) := rows_congr fun j _ => by
        by_cases h : j = i
        · subst h; rw [if_pos rfl, if_pos (by omega)]
        · by_cases h2 : j < i
          · rw [if_neg h, if_pos h2, if_pos (by omega)]
          · rw [if_neg h, if_neg h2, if_neg (by omega)]
      rw [this]
    · simp only [impl_Space_roads_B1, bif_decide, if_neg (show ¬ (L.length : Int) < (L.length : Int) by omega)]
  rw [List.take_length] at k0
  have z0 : rows L.length (raw (S.take 0)) = List.replicate L.length [] := by rw [rows_rep]; exact rows_congr fun j _ => rfl
  have z1 : rows L.length (fun j => if j < 0 then nbr S j else raw S j) = rows L.length (raw S) := rows_congr fun j _ => by simp
  have z2 : rows L.length (fun j => if j < L.length then nbr S j else raw S j) = rows L.length (nbr S) := rows_congr fun j hj => by simp [hj]
  rw [z0] at k0
  rw [z1, z2] at k1
  erw [k0]
  simp only [rows_len]
  erw [k1]
  rfl
theorem nbr_len {S : List (Int × Int)} (hs : S.length ≤ 6000) (j : Nat) : (nbr S j).length ≤ 12000 := by
  rw [nbr, List.length_append]
  have := inc_len S j
  have := outg_len S j
  omega
/-- places of agents -/
def AgOk (n : Nat) (agents : List Int) : Prop := agents.length ≤ 3 ∧ ∀ a ∈ agents, 0 ≤ a ∧ a < n
theorem agentsB_ok {n : Nat} {l : List Int} (h : agentsB n l = true) : AgOk n l := by
  simp only [agentsB, inR, Bool.and_eq_true, decide_eq_true_eq, List.all_eq_true] at h
  exact ⟨by omega, fun a ha => by have := h.2.2 a ha; omega⟩
theorem and_low {x : Int} (h0 : 0 ≤ x) (h : x < 4294967296) : (BitVec.ofInt 64 x &&& BitVec.ofInt 64 (4294967295 : Int)).toNat = x.toNat := by
  obtain ⟨m, rfl⟩ : ∃ m : Nat, x = m := ⟨x.toNat, by omega⟩
  have hm : m < 2 ^ 32 := by omega
  have e : (BitVec.ofInt 64 (m : Int)) = BitVec.ofNat 64 m := by simp
  rw [e, show BitVec.ofInt 64 (4294967295 : Int) = BitVec.ofNat 64 (2 ^ 32 - 1) by decide, BitVec.toNat_and, BitVec.toNat_ofNat, BitVec.toNat_ofNat]
  rw [Nat.mod_eq_of_lt (show m < 2 ^ 64 by omega), Nat.mod_eq_of_lt (show 2 ^ 32 - 1 < 2 ^ 64 by decide), Nat.and_two_pow_sub_one_eq_mod, Nat.mod_eq_of_lt hm]
  simp
theorem wrapU {x : Int} (h0 : 0 ≤ x) (h : x < 18446744073709551616) : IntKind.wrap .u64 x = x := by
  simp only [IntKind.wrap, IntKind.bits, IntKind.signed]
  simp
  omega
theorem Mul_small (x y : Int) (hx : 0 ≤ x) (hx' : x < 2097152) (hy : 0 ≤ y) (hy' : y < 2097152) : bits_Mul (x, y, ()) () = some ((0, x * y, ()), ()) := by
  have e1 : Int.fdiv x (2 ^ (min 32 64)) = 0 := by
    rw [show (2 : Int) ^ (min 32 64) = 4294967296 by decide, Int.fdiv_eq_ediv_of_nonneg _ (by decide)]; omega
  have e2 : Int.fdiv y (2 ^ (min 32 64)) = 0 := by
    rw [show (2 : Int) ^ (min 32 64) = 4294967296 by decide, Int.fdiv_eq_ediv_of_nonneg _ (by decide)]; omega
  have hxy0 : 0 ≤ x * y := Int.mul_nonneg hx hy
  have hxy : x * y ≤ 2097152 * 2097152 := Int.mul_le_mul (by omega) (by omega) hy (by decide)
  have a1 := and_low hx (by omega)
  have a2 := and_low hy (by omega)
  have z : IntKind.wrap .u64 0 = 0 := wrapU (by decide) (by decide)
  have q1 : IntKind.wrap .u64 (x.toNat : Int) = x := by rw [wrapU (by omega) (by omega)]; omega
  have q2 : IntKind.wrap .u64 (y.toNat : Int) = y := by rw [wrapU (by omega) (by omega)]; omega
  have q3 : IntKind.wrap .u64 (x * y) = x * y := wrapU hxy0 (by omega)
  have hd0 : 0 ≤ Int.fdiv (x * y) (2 ^ (min 32 64)) ∧ Int.fdiv (x * y) (2 ^ (min 32 64)) < 4294967296 := by
    rw [show (2 : Int) ^ (min 32 64) = 4294967296 by decide, Int.fdiv_eq_ediv_of_nonneg _ (by decide)]; omega
  obtain ⟨D, hD⟩ : ∃ D : Int, Int.fdiv (x * y) (2 ^ (min 32 64)) = D := ⟨_, rfl⟩
  rw [hD] at hd0
  have q4 : IntKind.wrap .u64 D = D := wrapU hd0.1 (by omega)
  have a3 := and_low hd0.1 hd0.2
  have q5 : IntKind.wrap .u64 (D.toNat : Int) = D := by rw [wrapU (by omega) (by omega)]; omega
  have e3 : Int.fdiv D (2 ^ (min 32 64)) = 0 := by
    rw [show (2 : Int) ^ (min 32 64) = 4294967296 by decide, Int.fdiv_eq_ediv_of_nonneg _ (by decide)]; omega
  simp only [bits_Mul, bits_Mul64, e1, e2, a1, a2, q1, q2, q3, hD, Int.zero_mul, Int.mul_zero, z, Int.zero_add, Int.add_zero, q4, a3, q5, e3]
theorem rep_take {α : Type} (n m : Nat) (v z : α) (h : m ≤ n) : (List.replicate m v ++ List.replicate (n - m) z).length = n := by simp; omega
theorem rep_step (n m : Nat) (v z : Int) (h0 : 0 < m) (h : m < n) :
    (List.take m (List.replicate m v ++ List.replicate (n - m) z) ++ List.take (min (List.length (List.drop 0 (List.take m (List.replicate m v ++ List.replicate (n - m) z)))) (n - m)) (List.drop 0 (List.take m (List.replicate m v ++ List.replicate (n - m) z))) ++ List.drop (m + (min (List.length (List.drop 0 (List.take m (List.replicate m v ++ List.replicate (n - m) z)))) (n - m))) (List.replicate m v ++ List.replicate (n - m) z))
      = List.replicate (m + min m (n - m)) v ++ List.replicate (n - (m + min m (n - m))) z := by
  have ht : List.take m (List.replicate m v ++ List.replicate (n - m) z) = List.replicate m v := by
    rw [List.take_append_of_le_length (by simp)]; simp
  rw [ht, List.drop_zero, List.length_replicate, List.take_replicate, show min (min m (n - m)) m = min m (n - m) by omega, List.drop_append, List.drop_replicate, List.drop_replicate, List.length_replicate, show m - (m + min m (n - m)) = 0 by omega, show m + min m (n - m) - m = min m (n - m) by omega, show n - m - min m (n - m) = n - (m + min m (n - m)) by omega, List.replicate_append_replicate]
  simp
theorem Rep_B0 (newslice : List Int) (n : Int) : slices_Repeat_int_int_B0 ((newslice, n, ()), ()) = bif (decide (n < (List.length newslice : Int))) then (guardB (decide (0 ≤ n) && decide (n ≤ (List.length newslice : Int)) && decide ((List.length newslice : Int) ≤ (List.length newslice : Int))) (guardB (decide (0 ≤ (0 : Int)) && decide ((0 : Int) ≤ n) && decide (n ≤ (List.length newslice : Int))) (guardB (decide ((Int.toNat n) ≤ (Int.toNat (List.length newslice : Int))) && decide ((Int.toNat (List.length newslice : Int)) ≤ List.length newslice)) (some (.inl (((List.take (Int.toNat n) newslice ++ List.take (min (List.length (List.drop 0 (List.take (Int.toNat n) newslice))) ((Int.toNat (List.length newslice : Int)) - (Int.toNat n))) (List.drop 0 (List.take (Int.toNat n) newslice)) ++ List.drop ((Int.toNat n) + (min (List.length (List.drop 0 (List.take (Int.toNat n) newslice))) ((Int.toNat (List.length newslice : Int)) - (Int.toNat n)))) newslice), (w64 (n + (((min (List.length (List.drop 0 (List.take (Int.toNat n) newslice))) ((Int.toNat (List.length newslice : Int)) - (Int.toNat n))) : Nat) : Int))), ()), ())))))) else (some (.inr ((newslice, ()), ()))) := rfl
theorem Repeat_eq (v : Int) (n : Nat) (hn : n ≤ 1048576) : slices_Repeat_int_int ([v], (n : Int), ()) () = some ((List.replicate n v, ()), ()) := by
  have hw : w64 (n : Int) = n := w64_of (by omega) (by omega)
  have hm : bits_Mul ((1 : Int), (n : Int), ()) () = some ((0, 1 * (n : Int), ()), ()) := Mul_small 1 n (by decide) (by decide) (by omega) (by omega)
  have u1 : IntKind.wrap .u64 ((List.length [v] : Nat) : Int) = 1 := wrapU (by simp) (by simp)
  have u2 : IntKind.wrap .u64 (n : Int) = n := wrapU (by omega) (by omega)
  simp only [slices_Repeat_int_int, u1, u2, hm, Int.one_mul, hw, bif_decide, Int.toNat_natCast, List.length_replicate]
  rw [if_neg (show ¬ ((n : Int) < 0) by omega), if_neg (show ¬ ((0 : Int) < 0) by omega), if_neg (show ¬ ((9223372036854775807 : Int) < n) by omega), guardB_true (by simp <;> omega), guardB_true (by simp)]
  have key : ∀ (d m : Nat), n - m ≤ d → m ≤ n → 0 < m → loopO slices_Repeat_int_int_B0 ((List.replicate m v ++ List.replicate (n - m) 0, (m : Int), ()), ()) = some ((List.replicate n v, ()), ()) := by
    intro d
    induction d with
    | zero =>
      intro m hd hm h0
      refine loop_end ?_
      have : m = n := by omega
      subst this
      rw [Rep_B0]; simp
    | succ d ih =>
      intro m hd hm h0
      by_cases hmn : m = n
      · subst hmn
        refine loop_end ?_
        rw [Rep_B0]; simp
      · have hl := rep_take n m v (0 : Int) hm
        refine loop_step (p' := ((List.replicate (m + min m (n - m)) v ++ List.replicate (n - (m + min m (n - m))) 0, ((m + min m (n - m) : Nat) : Int), ()), ())) ?_ (ih (m + min m (n - m)) (by omega) (by omega) (by omega))
        rw [Rep_B0]
        simp only [hl, bif_decide, Int.toNat_natCast]
        rw [if_pos (by omega), guardB_true (by simp <;> omega), guardB_true (by simp <;> omega), guardB_true (by simp <;> omega), rep_step n m v 0 h0 (by omega)]
        have hmin : min (List.length (List.drop 0 (List.take m (List.replicate m v ++ List.replicate (n - m) (0 : Int))))) (n - m) = min m (n - m) := by simp <;> omega
        rw [hmin, w64_of (by omega) (by omega)]
        simp
  by_cases hz : n = 0
  · subst hz
    have : loopO slices_Repeat_int_int_B0 (([], 0, ()), ()) = some (([], ()), ()) := loop_end (by rw [Rep_B0]; simp)
    simp [this]
  · have hs : (List.take 0 (List.replicate n (0 : Int)) ++ List.take (min (List.length [v]) (n - 0)) [v] ++ List.drop (0 + min (List.length [v]) (n - 0)) (List.replicate n 0)) = List.replicate 1 v ++ List.replicate (n - 1) 0 := by
      have : min (List.length [v]) (n - 0) = 1 := by simp; omega
      rw [this]
      simp
    have hc : ((min (List.length [v]) (n - 0) : Nat) : Int) = ((1 : Nat) : Int) := by
      have : min (List.length [v]) (n - 0) = 1 := by simp; omega
      rw [this]
    rw [hs, hc, key n 1 (by omega) (by omega) (by omega)]
theorem spec_l2Spread_B0_at (t0 : List (List (Int))) (t1 : Int) (t5 : List (Int)) (t6 : Int) : spec_l2Spread_B0 ((t0, t1, t5, t6, ()), ()) = bif (decide (t6 < (List.length t5 : Int))) then (guardB (inb t6 (List.length t5)) (some (.inl ((t0, t1, (List.set t5 (Int.toNat t6) (-1 : Int)), (w64 (t6 + (1 : Int))), ()), ())))) else (some (.inr ((t0, t1, t5, ()), ()))) := rfl
theorem spec_l2Spread_B1_at (t0 : List (List (Int))) (t5 : List (Int)) (t7 : List (Int)) (t8 : Int) (t9 : List (Int)) (t10 : Int) : spec_l2Spread_B1 ((t0, t5, t7, t8, t9, t10, ()), ()) = bif (decide (t10 < (List.length t9 : Int))) then (guardB (inb t10 (List.length t9)) (guardB (inb (List.getD t9 (Int.toNat t10) (0 : Int)) (List.length t5)) (bif (decide ((List.getD t5 (Int.toNat (List.getD t9 (Int.toNat t10) (0 : Int))) (0 : Int)) < (0 : Int))) then (guardB (inb t10 (List.length t9)) (guardB (inb t8 (List.length t7)) (guardB (inb (List.getD t7 (Int.toNat t8) (0 : Int)) (List.length t5)) (guardB (inb (List.getD t9 (Int.toNat t10) (0 : Int)) (List.length t5)) (guardB (inb t10 (List.length t9)) (guardB (decide ((List.length t7 + List.length [(List.getD t9 (Int.toNat t10) (0 : Int))]) * 8 ≤ 70368744177664)) (some (.inl ((t0, (List.set t5 (Int.toNat (List.getD t9 (Int.toNat t10) (0 : Int))) (w64 ((List.getD t5 (Int.toNat (List.getD t7 (Int.toNat t8) (0 : Int))) (0 : Int)) + (1 : Int)))), (t7 ++ [(List.getD t9 (Int.toNat t10) (0 : Int))]), t8, t9, (w64 (t10 + (1 : Int))), ()), ()))))))))) else (some (.inl ((t0, t5, t7, t8, t9, (w64 (t10 + (1 : Int))), ()), ())))))) else (some (.inr ((t0, t5, t7, t8, ()), ()))) := rfl
theorem spec_l2Spread_B2_at (t0 : List (List (Int))) (t5 : List (Int)) (t7 : List (Int)) (t8 : Int) : spec_l2Spread_B2 ((t0, t5, t7, t8, ()), ()) = bif (decide (t8 < (List.length t7 : Int))) then (guardB (inb t8 (List.length t7)) (guardB (inb (List.getD t7 (Int.toNat t8) (0 : Int)) (List.length t0)) (match loopO spec_l2Spread_B1 ((t0, t5, t7, t8, (List.getD t0 (Int.toNat (List.getD t7 (Int.toNat t8) (0 : Int))) ([] : (List Int))), (0 : Int), ()), ()) with | some ((t0_2, t5_2, t7_2, t8_2, ()), ()) => some (.inl ((t0_2, t5_2, t7_2, (w64 (t8_2 + (1 : Int))), ()), ())) | none => none))) else (some (.inr ((t5, ()), ()))) := rfl
theorem impl_spread_B0_at (roads : List (List (Int))) (out : List (Int)) (queue : List (Int)) (i : Int) (t30 : List (Int)) (t31 : Int) (t32 : Int) : impl_spread_B0 ((roads, out, queue, i, t30, t31, t32, ()), ()) = bif (decide (t32 < t31)) then (guardB (inb t32 (List.length t30)) (guardB (inb (List.getD t30 (Int.toNat t32) (0 : Int)) (List.length out)) (bif (decide ((List.getD out (Int.toNat (List.getD t30 (Int.toNat t32) (0 : Int))) (0 : Int)) < (0 : Int))) then (guardB (inb i (List.length out)) (guardB (inb (List.getD t30 (Int.toNat t32) (0 : Int)) (List.length out)) (guardB (decide ((List.length queue + List.length [(List.getD t30 (Int.toNat t32) (0 : Int))]) * 8 ≤ 70368744177664)) (some (.inl ((roads, (List.set out (Int.toNat (List.getD t30 (Int.toNat t32) (0 : Int))) (w64 ((List.getD out (Int.toNat i) (0 : Int)) + (1 : Int)))), (queue ++ [(List.getD t30 (Int.toNat t32) (0 : Int))]), i, t30, t31, (w64 (t32 + (1 : Int))), ()), ())))))) else (some (.inl ((roads, out, queue, i, t30, t31, (w64 (t32 + (1 : Int))), ()), ())))))) else (some (.inr ((roads, out, queue, ()), ()))) := rfl
theorem impl_spread_B1_at (roads : List (List (Int))) (out : List (Int)) (queue : List (Int)) : impl_spread_B1 ((roads, out, queue, ()), ()) = bif (decide ((0 : Int) < (List.length queue : Int))) then (guardB (inb (0 : Int) (List.length queue)) (guardB (decide (0 ≤ (1 : Int)) && decide ((1 : Int) ≤ (List.length queue : Int)) && decide ((List.length queue : Int) ≤ (List.length queue : Int))) (guardB (inb (List.getD queue 0 (0 : Int)) (List.length roads)) (match loopO impl_spread_B0 ((roads, out, (List.drop 1 (List.take (Int.toNat (List.length queue : Int)) queue)), (List.getD queue 0 (0 : Int)), (List.getD roads (Int.toNat (List.getD queue 0 (0 : Int))) ([] : (List Int))), (List.length (List.getD roads (Int.toNat (List.getD queue 0 (0 : Int))) ([] : (List Int))) : Int), (0 : Int), ()), ()) with | some ((roads2, out2, queue2, ()), ()) => some (.inl ((roads2, out2, queue2, ()), ())) | none => none)))) else (some (.inr ((out, ()), ()))) := rfl
theorem getD_set {l : List Int} {i j : Nat} {a d : Int} (h : i < l.length) : (l.set i a).getD j d = if i = j then a else l.getD j d := by
  simp only [List.getD, List.getElem?_set, h, if_true]
  split <;> simp
def vis1 (v : Int) (s : List Int × List Int) (w : Int) : List Int × List Int := if s.1.getD w.toNat 0 < 0 then (s.1.set w.toNat (s.1.getD v.toNat 0 + 1), s.2 ++ [w]) else s
def vis (v : Int) (row : List Int) (s : List Int × List Int) : List Int × List Int := row.foldl (vis1 v) s
def Bf (n : Nat) (s : List Int × List Int) : Prop := s.1.length = n ∧ (∀ w ∈ s.2, 0 ≤ w ∧ w < n ∧ 0 ≤ s.1.getD w.toNat 0) ∧ s.2.length + s.1.countP (fun d => decide (d < 0)) = n ∧ (∀ j, -1 ≤ s.1.getD j 0 ∧ s.1.getD j 0 < s.2.length)
theorem vis1_bf {n : Nat} {v w : Int} {s : List Int × List Int} (h : Bf n s) (hv : v ∈ s.2) (hw : 0 ≤ w ∧ w < n) : Bf n (vis1 v s w) ∧ ∃ t, (vis1 v s w).2 = s.2 ++ t := by
  unfold vis1
  by_cases hd : s.1.getD w.toNat 0 < 0
  · rw [if_pos hd]
    refine ⟨?_, _, rfl⟩
    obtain ⟨h1, h2, h3, h4⟩ := h
    have hl : w.toNat < s.1.length := by omega
    have hv2 := h2 v hv
    refine ⟨by simp [h1], ?_, ?_, ?_⟩
    · intro u hu
      simp only
      rw [getD_set hl]
      rcases List.mem_append.1 hu with hu | hu
      · have := h2 u hu
        refine ⟨this.1, this.2.1, ?_⟩
        split
        · omega
        · exact this.2.2
      · have : u = w := by simpa using hu
        subst this
        refine ⟨hw.1, hw.2, ?_⟩
        rw [if_pos rfl]; omega
    · simp only [List.length_append, List.length_singleton]
      rw [List.countP_set hl]
      have e1 : decide (s.1[w.toNat] < 0) = true := by rw [← getD_at hl 0]; simpa using hd
      have e2 : decide (s.1.getD v.toNat 0 + 1 < 0) = false := by simp only [decide_eq_false_iff_not]; omega
      have e3 : 0 < s.1.countP (fun d => decide (d < 0)) := List.countP_pos_iff.2 ⟨_, List.getElem_mem hl, e1⟩
      simp only [e1, e2, if_true, Bool.false_eq_true, if_false]
      omega
    · intro j
      simp only [List.length_append, List.length_singleton]
      rw [getD_set hl]
      have a1 := h4 j
      have a2 := h4 v.toNat
      split
      · omega
      · omega
  · rw [if_neg hd]
    exact ⟨h, [], by simp⟩
theorem vis_bf {n : Nat} {v : Int} : ∀ (row : List Int) {s : List Int × List Int}, Bf n s → v ∈ s.2 → (∀ w ∈ row, 0 ≤ w ∧ w < n) → Bf n (vis v row s) ∧ ∃ t, (vis v row s).2 = s.2 ++ t
  | [], s, h, hv, hr => ⟨h, [], by simp [vis]⟩
  | w :: row, s, h, hv, hr => by
    obtain ⟨h1, t1, e1⟩ := vis1_bf h hv (hr w (by simp))
    obtain ⟨h2, t2, e2⟩ := vis_bf row h1 (by rw [e1]; exact List.mem_append_left _ hv) (fun u hu => hr u (by simp [hu]))
    exact ⟨h2, t1 ++ t2, by show (vis v row (vis1 v s w)).2 = _; rw [e2, e1, List.append_assoc]⟩
theorem vis_snoc {v : Int} {row : List Int} {i : Nat} (h : i < row.length) (s : List Int × List Int) : vis v (row.take (i + 1)) s = vis1 v (vis v (row.take i) s) (row.getD i 0) := by
  rw [take_one h 0]; simp [vis, List.foldl_append]
theorem Bf.few {n : Nat} {s : List Int × List Int} (h : Bf n s) : s.2.length ≤ n := by have := h.2.2.1; omega
theorem getD_app {l t : List Int} {k : Nat} (h : k < l.length) : (l ++ t).getD k 0 = l.getD k 0 := by
  rw [getD_at h, getD_at (by simp <;> omega), List.getElem_append_left h]
theorem getD_in {l : List Int} {k : Nat} (h : k < l.length) : l.getD k 0 ∈ l := by rw [getD_at h]; exact List.getElem_mem h
theorem spread_row (L : List (List Int)) {n k : Nat} {s : List Int × List Int} {row : List Int} (hB : Bf n s) (hk : k < s.2.length) (hr : ∀ w ∈ row, 0 ≤ w ∧ w < n) (hn : n ≤ 1048576) (hl : row.length ≤ 1048576) :
    loopO spec_l2Spread_B1 ((L, s.1, s.2, (k : Int), row, 0, ()), ()) = some ((L, (vis (s.2.getD k 0) row s).1, (vis (s.2.getD k 0) row s).2, (k : Int), ()), ()) := by
  have key := loop_count (B := spec_l2Spread_B1) (fun i => ((L, (vis (s.2.getD k 0) (row.take i) s).1, (vis (s.2.getD k 0) (row.take i) s).2, (k : Int), row, (i : Int), ()), ())) row.length ((L, (vis (s.2.getD k 0) row s).1, (vis (s.2.getD k 0) row s).2, (k : Int), ()), ()) ?_ ?_ 0 (Nat.zero_le _)
  · simpa [vis] using key
  · intro i hi
    obtain ⟨hB', t, ht⟩ := vis_bf (row.take i) hB (getD_in hk) (fun w hw => hr w (List.mem_of_mem_take hw))
    have hv : (vis (s.2.getD k 0) (row.take i) s).2.getD k 0 = s.2.getD k 0 := by rw [ht]; exact getD_app hk
    have hk' : k < (vis (s.2.getD k 0) (row.take i) s).2.length := by rw [ht, List.length_append]; omega
    have hvn := hB.2.1 _ (getD_in hk)
    have hw := hr _ (getD_in hi)
    obtain ⟨s', hs'⟩ : ∃ s', vis (s.2.getD k 0) (row.take i) s = s' := ⟨_, rfl⟩
    simp only [vis_snoc hi, hs'] at *
    obtain ⟨v, hve⟩ : ∃ v, s.2.getD k 0 = v := ⟨_, rfl⟩
    obtain ⟨w, hwe⟩ : ∃ w, row.getD i 0 = w := ⟨_, rfl⟩
    have few := hB'.few
    have hlen := hB'.1
    have hb := hB'.2.2.2 v.toNat
    rw [spec_l2Spread_B1_at]
    simp only [bif_decide, Int.toNat_natCast, vis1, hve, hwe] at *
    rw [if_pos (by omega), guardB_true (by simp [inb] <;> omega), guardB_true (inb_true hw.1 (by omega)), hv]
    by_cases hd : s'.1.getD w.toNat 0 < 0
    · rw [if_pos hd, if_pos hd, guardB_true (by simp [inb] <;> omega), guardB_true (by simp [inb] <;> omega), guardB_true (inb_true hvn.1 (by omega)), guardB_true (inb_true hw.1 (by omega)), guardB_true (by simp [inb] <;> omega), guardB_true (by simp only [List.length_singleton, decide_eq_true_eq]; omega), w64_succ (by omega), w64_of (by omega) (by omega)]
    · rw [if_neg hd, if_neg hd, w64_succ (by omega)]
  · rw [spec_l2Spread_B1_at]; simp
theorem spread_row' (L : List (List Int)) {n k : Nat} {s : List Int × List Int} {row : List Int} (hB : Bf n s) (hk : k < s.2.length) (hr : ∀ w ∈ row, 0 ≤ w ∧ w < n) (hn : n ≤ 1048576) (hl : row.length ≤ 1048576) :
    loopO impl_spread_B0 ((L, s.1, s.2.drop (k + 1), s.2.getD k 0, row, (row.length : Int), 0, ()), ()) = some ((L, (vis (s.2.getD k 0) row s).1, (vis (s.2.getD k 0) row s).2.drop (k + 1), ()), ()) := by
  have key := loop_count (B := impl_spread_B0) (fun i => ((L, (vis (s.2.getD k 0) (row.take i) s).1, (vis (s.2.getD k 0) (row.take i) s).2.drop (k + 1), s.2.getD k 0, row, (row.length : Int), (i : Int), ()), ())) row.length ((L, (vis (s.2.getD k 0) row s).1, (vis (s.2.getD k 0) row s).2.drop (k + 1), ()), ()) ?_ ?_ 0 (Nat.zero_le _)
  · simpa [vis] using key
  · intro i hi
    obtain ⟨hB', t, ht⟩ := vis_bf (row.take i) hB (getD_in hk) (fun w hw => hr w (List.mem_of_mem_take hw))
    have hk' : k < (vis (s.2.getD k 0) (row.take i) s).2.length := by rw [ht, List.length_append]; omega
    have hvn := hB.2.1 _ (getD_in hk)
    have hw := hr _ (getD_in hi)
    obtain ⟨s', hs'⟩ : ∃ s', vis (s.2.getD k 0) (row.take i) s = s' := ⟨_, rfl⟩
    simp only [vis_snoc hi, hs'] at *
    obtain ⟨v, hve⟩ : ∃ v, s.2.getD k 0 = v := ⟨_, rfl⟩
    obtain ⟨w, hwe⟩ : ∃ w, row.getD i 0 = w := ⟨_, rfl⟩
    have few := hB'.few
    have hlen := hB'.1
    have hb := hB'.2.2.2 v.toNat
    rw [impl_spread_B0_at]
    simp only [bif_decide, Int.toNat_natCast, vis1, hve, hwe] at *
    rw [if_pos (by omega), guardB_true (by simp [inb] <;> omega), guardB_true (inb_true hw.1 (by omega))]
    by_cases hd : s'.1.getD w.toNat 0 < 0
    · have hdr : (s'.2 ++ [w]).drop (k + 1) = s'.2.drop (k + 1) ++ [w] := by rw [List.drop_append_of_le_length (by omega)]
      rw [if_pos hd, if_pos hd, guardB_true (inb_true hvn.1 (by omega)), guardB_true (by simp [inb] <;> omega), guardB_true (by simp only [List.length_singleton, List.length_drop, decide_eq_true_eq]; omega), w64_succ (by omega), w64_of (by omega) (by omega), hdr]
    · rw [if_neg hd, if_neg hd, w64_succ (by omega)]
  · rw [impl_spread_B0_at]; simp
def Rds (n : Nat) (L : List (List Int)) : Prop := L.length = n ∧ ∀ i, i < n → (L.getD i []).length ≤ 1048576 ∧ ∀ w ∈ L.getD i [], 0 ≤ w ∧ w < n
def bfs (L : List (List Int)) : Nat → Nat → List Int × List Int → List Int × List Int
  | 0, _, s => s
  | f + 1, k, s => if k < s.2.length then bfs L f (k + 1) (vis (s.2.getD k 0) (L.getD (s.2.getD k 0).toNat []) s) else s
theorem bfs_step {L : List (List Int)} {n k : Nat} {s : List Int × List Int} (hL : Rds n L) (hB : Bf n s) (hk : k < s.2.length) : Bf n (vis (s.2.getD k 0) (L.getD (s.2.getD k 0).toNat []) s) ∧ k + 1 ≤ (vis (s.2.getD k 0) (L.getD (s.2.getD k 0).toNat []) s).2.length := by
  have hvn := hB.2.1 _ (getD_in hk)
  obtain ⟨h1, t, ht⟩ := vis_bf (L.getD (s.2.getD k 0).toNat []) hB (getD_in hk) (hL.2 _ (by omega)).2
  exact ⟨h1, by rw [ht, List.length_append]; omega⟩
theorem bfs_bf {L : List (List Int)} {n : Nat} (hL : Rds n L) : ∀ (f k : Nat) (s : List Int × List Int), Bf n s → Bf n (bfs L f k s)
  | 0, _, s, h => h
  | f + 1, k, s, h => by
    unfold bfs
    split
    · rename_i hk
      exact bfs_bf hL f (k + 1) _ (bfs_step hL h hk).1
    · exact h
theorem spread_out {L : List (List Int)} {n : Nat} (hL : Rds n L) (hn : n ≤ 1048576) : ∀ (f k : Nat) (s : List Int × List Int), Bf n s → k ≤ s.2.length → n - k ≤ f → loopO spec_l2Spread_B2 ((L, s.1, s.2, (k : Int), ()), ()) = some (((bfs L f k s).1, ()), ()) := by
  intro f
  induction f with
  | zero =>
    intro k s hB hk hf
    have := hB.few
    refine loop_end ?_
    rw [spec_l2Spread_B2_at]
    simp only [bif_decide, bfs]
    rw [if_neg (by omega)]
  | succ f ih =>
    intro k s hB hk hf
    have few := hB.few
    unfold bfs
    split
    · rename_i hk'
      obtain ⟨h1, h2⟩ := bfs_step hL hB hk'
      have hvn := hB.2.1 _ (getD_in hk')
      have hrow := hL.2 (s.2.getD k 0).toNat (by omega)
      have key := spread_row L hB hk' hrow.2 hn hrow.1
      refine loop_step ?_ (ih (k + 1) _ h1 h2 (by omega))
      have hL1 := hL.1
      rw [spec_l2Spread_B2_at]
      simp only [bif_decide, Int.toNat_natCast]
      rw [if_pos (by omega), guardB_true (by simp [inb] <;> omega), guardB_true (inb_true hvn.1 (by omega))]
      erw [key]
      simp only [w64_succ (show k < 4611686018427387904 by omega)]
    · rename_i hk'
      refine loop_end ?_
      rw [spec_l2Spread_B2_at]
      simp only [bif_decide]
      rw [if_neg (by omega)]
theorem spread_out' {L : List (List Int)} {n : Nat} (hL : Rds n L) (hn : n ≤ 1048576) : ∀ (f k : Nat) (s : List Int × List Int), Bf n s → k ≤ s.2.length → n - k ≤ f → loopO impl_spread_B1 ((L, s.1, s.2.drop k, ()), ()) = some (((bfs L f k s).1, ()), ()) := by
  intro f
  induction f with
  | zero =>
    intro k s hB hk hf
    have := hB.few
    refine loop_end ?_
    rw [impl_spread_B1_at]
    simp only [bif_decide, bfs, List.length_drop]
    rw [if_neg (by omega)]
  | succ f ih =>
    intro k s hB hk hf
    have few := hB.few
    unfold bfs
    split
    · rename_i hk'
      obtain ⟨h1, h2⟩ := bfs_step hL hB hk'
      have hvn := hB.2.1 _ (getD_in hk')
      have hrow := hL.2 (s.2.getD k 0).toNat (by omega)
      have key := spread_row' L hB hk' hrow.2 hn hrow.1
      refine loop_step ?_ (ih (k + 1) _ h1 h2 (by omega))
      have hL1 := hL.1
      have hd0 : (s.2.drop k).getD 0 0 = s.2.getD k 0 := by rw [getD_at (by simp <;> omega), getD_at hk']; simp
      have hd1 : List.drop 1 (List.take (s.2.drop k).length (s.2.drop k)) = s.2.drop (k + 1) := by rw [List.take_length, List.drop_drop]
      rw [impl_spread_B1_at]
      simp only [bif_decide, Int.toNat_natCast, hd0, hd1]
      rw [if_pos (by simp <;> omega), guardB_true (by simp [inb] <;> omega), guardB_true (by simp <;> omega), guardB_true (inb_true hvn.1 (by omega))]
      erw [key]
    · rename_i hk'
      refine loop_end ?_
      rw [impl_spread_B1_at]
      simp only [bif_decide, List.length_drop]
      rw [if_neg (by omega)]
def far0 (n : Nat) (a : Int) : List Int × List Int := ((List.replicate n (-1 : Int)).set a.toNat 0, [a])
def far (L : List (List Int)) (a : Int) : List Int := (bfs L L.length 0 (far0 L.length a)).1
theorem far0_bf {n : Nat} {a : Int} (h0 : 0 ≤ a) (h : a < n) : Bf n (far0 n a) := by
  have hl : a.toNat < (List.replicate n (-1 : Int)).length := by simp; omega
  refine ⟨by simp [far0], ?_, ?_, ?_⟩
  · intro w hw
    have : w = a := by simpa [far0] using hw
    subst this
    refine ⟨h0, h, ?_⟩
    simp only [far0]
    rw [getD_set hl, if_pos rfl]
    exact Int.le_refl 0
  · simp only [far0]
    rw [List.countP_set hl]
    have e : (List.replicate n (-1 : Int)).countP (fun d => decide (d < 0)) = n := by rw [List.countP_replicate]; simp
    simp only [e, List.getElem_replicate, List.length_singleton]
    simp
    omega
  · intro j
    simp only [far0]
    rw [getD_set hl, List.length_singleton]
    split
    · omega
    · by_cases hj : j < n
      · rw [getD_at (by simpa using hj)]; simp
      · simp [List.getD, hj]
theorem far_bf {L : List (List Int)} {n : Nat} (hL : Rds n L) {a : Int} (h0 : 0 ≤ a) (h : a < n) : (far L a).length = n ∧ ∀ j, -1 ≤ (far L a).getD j 0 ∧ (far L a).getD j 0 < n := by
  have hB := bfs_bf hL L.length 0 _ (far0_bf (n := n) h0 h)
  have few := hB.few
  unfold far
  rw [hL.1] at hB ⊢
  refine ⟨hB.1, fun j => ?_⟩
  have := hB.2.2.2 j
  rw [hL.1] at few
  omega
theorem spread_spec {L : List (List Int)} {n : Nat} (hL : Rds n L) (hn : n ≤ 1048576) {a : Int} (h0 : 0 ≤ a) (h : a < n) : spec_l2Spread (L, a, ()) () = some ((far L a, ()), ()) := by
  have hl := hL.1
  have key1 : loopO spec_l2Spread_B0 ((L, a, List.replicate n 0, 0, ()), ()) = some ((L, a, List.replicate n (-1), ()), ()) := by
    have := loop_count (B := spec_l2Spread_B0) (fun i => ((L, a, fill (fun _ => (-1 : Int)) 0 n i, (i : Int), ()), ())) n ((L, a, fill (fun _ => (-1 : Int)) 0 n n, ()), ()) ?_ ?_ 0 (Nat.zero_le _)
    · rw [fill_all] at this
      rw [rows_rep (-1 : Int)]
      simpa [fill_zero, rows] using this
    · intro i hi
      rw [spec_l2Spread_B0_at]
      simp only [bif_decide, fill_len, Int.toNat_natCast]
      rw [if_pos (by omega), guardB_true (by simp [inb] <;> omega), fill_set hi, w64_succ (by omega)]
    · rw [spec_l2Spread_B0_at]; simp [fill_len]
  have key2 := spread_out hL hn n 0 (far0 n a) (far0_bf h0 h) (Nat.zero_le _) (by omega)
  simp only [spec_l2Spread, hl, Int.toNat_natCast]
  rw [guardB_true (by simp <;> omega)]
  erw [key1]
  simp only
  rw [guardB_true (inb_true h0 (by simp <;> omega))]
  have : far L a = (bfs L n 0 (far0 n a)).1 := by simp only [far, hl]
  rw [this]
  erw [key2]
theorem spread_impl {L : List (List Int)} {n : Nat} (hL : Rds n L) (hn : n ≤ 1048576) {a : Int} (h0 : 0 ≤ a) (h : a < n) : impl_spread (L, a, ()) () = some ((far L a, ()), ()) := by
  have hl := hL.1
  have key2 := spread_out' hL hn n 0 (far0 n a) (far0_bf h0 h) (Nat.zero_le _) (by omega)
  simp only [impl_spread, hl, Repeat_eq (-1) n hn]
  rw [guardB_true (inb_true h0 (by simp <;> omega))]
  have : far L a = (bfs L n 0 (far0 n a)).1 := by simp only [far, hl]
  rw [this]
  erw [key2]
theorem rds_lists {S : List (Int × Int)} {n : Nat} (h : StepsOk S n) (hs : S.length ≤ 6000) : Rds n (listsP S n) := by
  refine ⟨rows_len, fun i hi => ?_⟩
  rw [show (listsP S n).getD i [] = nbr S i from rows_get hi _]
  refine ⟨by have := nbr_len hs i; omega, fun w hw => ?_⟩
  simp only [nbr, inc, outg, List.mem_append, List.mem_map, List.mem_filter] at hw
  rcases hw with ⟨e, ⟨he, _⟩, rfl⟩ | ⟨e, ⟨he, _⟩, rfl⟩
  · have := steps_mem h he; omega
  · have := steps_mem h he; omega
theorem spec_JointBound_B0_at (from_ : List (Int)) (to_ : List (Int)) (most : Int) (lists : List (List (Int))) (k : Int) : spec_JointBound_B0 ((from_, to_, most, lists, k, ()), ()) = bif (decide (k < (List.length from_ : Int))) then (guardB (inb k (List.length from_)) (guardB (inb k (List.length to_)) (match spec_l2Spread (lists, (List.getD from_ (Int.toNat k) (0 : Int)), ()) () with | some ((r, ()), ()) => guardB (inb (List.getD to_ (Int.toNat k) (0 : Int)) (List.length r)) (bif (decide ((List.getD r (Int.toNat (List.getD to_ (Int.toNat k) (0 : Int))) (0 : Int)) < (0 : Int))) then (some (.inr (.inl (((0 : Int), false, ()), ())))) else (match spec_l1Most (most, (List.getD r (Int.toNat (List.getD to_ (Int.toNat k) (0 : Int))) (0 : Int)), ()) () with | some ((r2, ()), ()) => some (.inl ((from_, to_, r2, lists, (w64 (k + (1 : Int))), ()), ())) | none => none)) | none => none))) else (some (.inr (.inr ((most, ()), ())))) := rfl
theorem impl_JointBound_B0_at (to_ : List (Int)) (most : Int) (roads : List (List (Int))) (t20 : List (Int)) (t21 : Int) (t22 : Int) : impl_JointBound_B0 ((to_, most, roads, t20, t21, t22, ()), ()) = bif (decide (t22 < t21)) then (guardB (inb t22 (List.length t20)) (guardB (inb t22 (List.length to_)) (match impl_spread (roads, (List.getD t20 (Int.toNat t22) (0 : Int)), ()) () with | some ((r, ()), ()) => guardB (inb (List.getD to_ (Int.toNat t22) (0 : Int)) (List.length r)) (bif (decide ((List.getD r (Int.toNat (List.getD to_ (Int.toNat t22) (0 : Int))) (0 : Int)) < (0 : Int))) then (some (.inr (.inl (((0 : Int), false, ()), ())))) else (some (.inl ((to_, (bif decide (most < (List.getD r (Int.toNat (List.getD to_ (Int.toNat t22) (0 : Int))) (0 : Int))) then (List.getD r (Int.toNat (List.getD to_ (Int.toNat t22) (0 : Int))) (0 : Int)) else most), roads, t20, t21, (w64 (t22 + (1 : Int))), ()), ())))) | none => none))) else (some (.inr (.inr ((most, ()), ())))) := rfl
def reach (L : List (List Int)) (a b : List Int) (k : Nat) : Int := (far L (a.getD k 0)).getD (b.getD k 0).toNat 0
def bnd (L : List (List Int)) (a b : List Int) : Nat → Nat → Int → Int × Bool
  | 0, _, m => (m, true)
  | d + 1, k, m => if reach L a b k < 0 then (0, false) else bnd L a b d (k + 1) (if m < reach L a b k then reach L a b k else m)
def bndO (p : Int × Bool) : ((Int × Bool × Unit) × Unit) ⊕ ((Int × Unit) × Unit) := if p.2 then .inr ((p.1, ()), ()) else .inl ((0, false, ()), ())
theorem bound_spec {L : List (List Int)} {n : Nat} (hL : Rds n L) (hn : n ≤ 1048576) {a b : List Int} (hab : a.length = b.length) (ha : a.length ≤ 1048576) (ra : ∀ x ∈ a, 0 ≤ x ∧ x < n) (rb : ∀ x ∈ b, 0 ≤ x ∧ x < n) :
    ∀ (d k : Nat) (m : Int), k + d = a.length → loopO spec_JointBound_B0 ((a, b, m, L, (k : Int), ()), ()) = some (bndO (bnd L a b d k m)) := by
  intro d
  induction d with
  | zero =>
    intro k m hk
    refine loop_end ?_
    rw [spec_JointBound_B0_at]
    simp only [bif_decide]
    rw [if_neg (by omega)]
    rfl
  | succ d ih =>
    intro k m hk
    have h1 := ra _ (getD_in (show k < a.length by omega))
    have h2 := rb _ (getD_in (show k < b.length by omega))
    have hf := (far_bf hL h1.1 h1.2).1
    have e := spread_spec hL hn h1.1 h1.2
    have key : spec_JointBound_B0 ((a, b, m, L, (k : Int), ()), ()) = if reach L a b k < 0 then some (.inr (bndO (0, false))) else some (.inl ((a, b, (if m < reach L a b k then reach L a b k else m), L, ((k + 1 : Nat) : Int), ()), ())) := by
      rw [spec_JointBound_B0_at]
      simp only [bif_decide, Int.toNat_natCast]
      rw [if_pos (by omega), guardB_true (by simp [inb] <;> omega), guardB_true (by simp [inb] <;> omega), e]
      simp only
      rw [guardB_true (inb_true h2.1 (by omega))]
      show (if reach L a b k < 0 then _ else _) = _
      by_cases hr : reach L a b k < 0
      · rw [if_pos hr, if_pos hr]; rfl
      · rw [if_neg hr, if_neg hr, w64_succ (by omega)]
        simp only [spec_l1Most, bif_decide]
        show (match (if reach L a b k < m then some ((m, ()), ()) else some ((reach L a b k, ()), ()) : Option ((Int × Unit) × Unit)) with | some ((r2, ()), ()) => _ | none => none) = _
        by_cases h3 : reach L a b k < m
        · rw [if_pos h3, if_neg (show ¬ m < reach L a b k by omega)]
        · rw [if_neg h3]
          by_cases h4 : m < reach L a b k
          · rw [if_pos h4]
          · rw [if_neg h4, show reach L a b k = m by omega]
    unfold bnd
    by_cases hr : reach L a b k < 0
    · rw [if_pos hr] at key ⊢
      exact loop_end key
    · rw [if_neg hr] at key ⊢
      exact loop_step key (ih (k + 1) _ (by omega))
theorem bound_impl {L : List (List Int)} {n : Nat} (hL : Rds n L) (hn : n ≤ 1048576) {a b : List Int} (hab : a.length = b.length) (ha : a.length ≤ 1048576) (ra : ∀ x ∈ a, 0 ≤ x ∧ x < n) (rb : ∀ x ∈ b, 0 ≤ x ∧ x < n) :
    ∀ (d k : Nat) (m : Int), k + d = a.length → loopO impl_JointBound_B0 ((b, m, L, a, (a.length : Int), (k : Int), ()), ()) = some (bndO (bnd L a b d k m)) := by
  intro d
  induction d with
  | zero =>
    intro k m hk
    refine loop_end ?_
    rw [impl_JointBound_B0_at]
    simp only [bif_decide]
    rw [if_neg (by omega)]
    rfl
  | succ d ih =>
    intro k m hk
    have h1 := ra _ (getD_in (show k < a.length by omega))
    have h2 := rb _ (getD_in (show k < b.length by omega))
    have hf := (far_bf hL h1.1 h1.2).1
    have e := spread_impl hL hn h1.1 h1.2
    have key : impl_JointBound_B0 ((b, m, L, a, (a.length : Int), (k : Int), ()), ()) = if reach L a b k < 0 then some (.inr (bndO (0, false))) else some (.inl ((b, (if m < reach L a b k then reach L a b k else m), L, a, (a.length : Int), ((k + 1 : Nat) : Int), ()), ())) := by
      rw [impl_JointBound_B0_at]
      simp only [bif_decide, Int.toNat_natCast]
      rw [if_pos (by omega), guardB_true (by simp [inb] <;> omega), guardB_true (by simp [inb] <;> omega), e]
      simp only
      rw [guardB_true (inb_true h2.1 (by omega))]
      show (if reach L a b k < 0 then _ else _) = _
      by_cases hr : reach L a b k < 0
      · rw [if_pos hr, if_pos hr]; rfl
      · rw [if_neg hr, if_neg hr, w64_succ (by omega)]
        rfl
    unfold bnd
    by_cases hr : reach L a b k < 0
    · rw [if_pos hr] at key ⊢
      exact loop_end key
    · rw [if_neg hr] at key ⊢
      exact loop_step key (ih (k + 1) _ (by omega))
theorem FnExactJointBound_true (x : List (List Int) × List (Int × Int)) (a b : List Int) (hx : Sm (.prod (.list (.list I)) (.list (.prod I I))) x) (ha : Sm (.list I) a) (hb : Sm (.list I) b) : laws_FnExactJointBound (x, a, b, ()) () = some ((true, ()), ()) := by
  have ha := ha.1
  have hb := hb.1
  simp only [laws_FnExactJointBound, bif_decide]
  by_cases h1 : (1048576 : Int) < (a.length : Int)
  · rw [if_pos h1]
  rw [if_neg h1]
  by_cases h1' : (1048576 : Int) < (b.length : Int)
  · rw [if_pos h1']
  rw [if_neg h1']
  have ha' : a.length ≤ 1048576 := by omega
  have hb' : b.length ≤ 1048576 := by omega
  obtain ⟨r, e1, e2, e3, e4⟩ := szSpace_eq x 1048576 (by omega) (by omega) hx
  rw [e1]
  by_cases h2 : r < 0
  · simp only [if_pos h2]
  have hF := e3 (by omega)
  have main : ∃ (R : Int) (o : Bool), spec_JointBound (x, a, b, ()) () = some ((R, o, ()), ()) ∧ impl_JointBound (x, a, b, ()) () = some ((R, o, ()), ()) := by
    simp only [spec_JointBound, impl_JointBound, spec_l11Both, impl_isTrek, l2Space_eq x hF, IsSpace_eq x hF, l11Agents_eq x a hF.states ha', areAgents_eq x a hF.states ha', l11Agents_eq x b hF.states hb', areAgents_eq x b hF.states hb']
    cases hs : spaceB x
    · exact ⟨0, false, rfl, rfl⟩
    · cases hA : agentsB x.1.length a
      · exact ⟨0, false, rfl, rfl⟩
      · cases hB : agentsB x.1.length b
        · exact ⟨0, false, rfl, rfl⟩
        · by_cases hab : a.length = b.length
          · have ra := (agentsB_ok hA).2
            have rb := (agentsB_ok hB).2
            have hp : pairsB x.2 x.1.length = true ∧ x.2.length ≤ 6000 := by
              simp only [spaceB, Bool.and_eq_true, decide_eq_true_eq] at hs
              exact ⟨hs.2.2.2, hs.2.1⟩
            have hL := rds_lists (pairsB_ok hp.1) hp.2
            have b1 := bound_spec hL hF.states hab ha' ra rb a.length 0 0 (by omega)
            have b2 := bound_impl hL hF.states hab ha' ra rb a.length 0 0 (by omega)
            simp only [cond_true, Bool.not_true, cond_false, show ((a.length : Int) == (b.length : Int)) = true by simp [hab], l2Lists_eq x (pairsB_ok hp.1) hF.states hF.steps, roads_eq x hp.1 hF.states hF.steps]
            erw [b1, b2]
            cases hR : (bnd (listsP x.2 x.1.length) a b a.length 0 0).2
            · exact ⟨0, false, by simp [bndO, hR], by simp [bndO, hR]⟩
            · exact ⟨_, true, by simp [bndO, hR]; rfl, by simp [bndO, hR]⟩
          · have : ((a.length : Int) == (b.length : Int)) = false := by simp; omega
            simp only [cond_true, this, Bool.not_false]
            exact ⟨0, false, rfl, rfl⟩
  obtain ⟨R, o, s1, s2⟩ := main
  simp only [if_neg h2, toSpace_eq x hF, toIntS_eq a ha', toIntS_eq b hb', s1, s2, eqSpace_eq x hF, eqIntS_eq a ha', eqIntS_eq b hb', Bool.not_true, cond_false, beq_self_eq_true, bne_self_eq_false]

end Go.Proofs.Ytolabkhcmcfnpaa.V
