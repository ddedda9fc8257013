/-
  What the reference and the program compute agrees: plain lemmas over numbers and lists.
-/
import Derived.Test.YtcabghamgilafaaGreatTFnFolds
import Derived.Test.YtcabghamgilafaaGreatE4
namespace Go.Proofs.YtcabghamgilafaaGreat.V
open Go Go.Ve Go.Proofs
set_option linter.unusedVariables false
set_option linter.unusedSimpArgs false
theorem fold_len {n : Nat} (h : n ≤ 1048576) : (decide (0 ≤ (n : Int)) && decide ((n : Int) ≤ (n : Int)) && decide ((n : Int) * 8 ≤ 140737488355328)) = true ∧ (decide (0 ≤ (n : Int)) && decide ((n : Int) ≤ (n : Int)) && decide ((n : Int) * 24 ≤ 140737488355328)) = true ∧ (decide (0 ≤ (n : Int)) && decide ((n : Int) ≤ (n : Int)) && decide ((n : Int) * 16 ≤ 140737488355328)) = true := by
  refine ⟨?_, ?_, ?_⟩ <;> simp <;> omega

theorem allUpto_true {n : Nat} : allUpto (fun _ => true) n = true := allUpto_iff.2 fun _ _ => rfl
/-- what is asked of a Space that is looked at: not too great -/
structure Few (x : List (List Int) × List (Int × Int)) : Prop where
  states : x.1.length ≤ 1048576
  state : ∀ s ∈ x.1, s.length ≤ 1048576
  steps : x.2.length ≤ 1048576
def inR (x a b : Int) : Bool := decide (a ≤ x) && decide (x ≤ b)
theorem l1In_eq (x a b : Int) : spec_l1In (x, a, b, ()) () = some ((inR x a b, ()), ()) := by
  simp only [spec_l1In, inR]
  by_cases h : a ≤ x <;> simp [h]
theorem between_eq (x a b : Int) : fn55 (x, a, b, ()) () = some ((inR x a b, ()), ()) := by
  simp only [fn55, inR]
  by_cases h : a ≤ x <;> simp [h]
theorem cmp_eq (x y : Int) : fn33 (x, y, ()) () = some (((if x < y then -1 else if y < x then 1 else 0), ()), ()) := by
  simp only [fn33, fn42, bne_self_eq_false, cond_false, bif_decide]
  split
  · rfl
  · split <;> rfl

def goodN (n : Int) : Bool := inR n (-99) 99
def goodState (s : List Int) : Bool := decide (s.length ≤ 24) && s.all goodN
theorem allUpto_getD {f : Int → Bool} {s : List Int} : allUpto (fun i => f (s.getD i 0)) s.length = s.all f := by
  rw [Bool.eq_iff_iff, allUpto_iff, List.all_eq_true]
  constructor
  · intro h x hx
    obtain ⟨i, hi, rfl⟩ := List.getElem_of_mem hx
    have := h i hi
    rwa [getD_at hi] at this
  · intro h i hi
    rw [getD_at hi]
    exact h _ (List.getElem_mem hi)
/-- where is the first one? -/
def firstIdx (p : Nat → Bool) : Nat → Nat → Int
  | _, 0 => -1
  | k, d + 1 => if p k then k else firstIdx p (k + 1) d
theorem firstIdx_neg {p : Nat → Bool} : ∀ {d k : Nat}, (decide ((0 : Int) ≤ firstIdx p k d) = !(allUpto (fun i => !p (k + i)) d))
  | 0, k => by simp [firstIdx, allUpto]
  | d + 1, k => by
    by_cases h : p k
    · rw [show firstIdx p k (d + 1) = k by simp [firstIdx, h]]
      have : allUpto (fun i => !p (k + i)) (d + 1) = false := by
        cases e : allUpto (fun i => !p (k + i)) (d + 1)
        · rfl
        · have := allUpto_iff.1 e 0 (by omega); simp [h] at this
      rw [this]; simp
    · rw [show firstIdx p k (d + 1) = firstIdx p (k + 1) d by simp [firstIdx, h], firstIdx_neg]
      congr 1
      rw [Bool.eq_iff_iff, allUpto_iff, allUpto_iff]
      constructor
      · intro g i hi
        cases i with
        | zero => simpa using h
        | succ i => have := g i (by omega); rw [show k + 1 + i = k + (i + 1) by omega] at this; exact this
      · intro g i hi
        have := g (i + 1) (by omega)
        rw [show k + (i + 1) = k + 1 + i by omega] at this; exact this
theorem loop_idx {P Q : Type} {B : P → Option (P ⊕ Q)} (st : Nat → P) (p : Nat → Bool) (n : Nat) (found : Int → Q) (fin : Q) (step : ∀ i, i < n → B (st i) = some (bif p i then .inr (found i) else .inl (st (i + 1)))) (stop : B (st n) = some (.inr fin)) :
    loopO B (st 0) = some (if firstIdx p 0 n < 0 then fin else found (firstIdx p 0 n)) := by
  suffices h : ∀ d k, k + d = n → loopO B (st k) = some (if firstIdx p k d < 0 then fin else found (firstIdx p k d)) from h n 0 (by omega)
  intro d
  induction d with
  | zero => intro k hk; have : k = n := by omega
            subst this; simpa [firstIdx] using loop_end stop
  | succ d ih =>
    intro k hk
    have h := step k (by omega)
    cases e : p k
    · rw [e] at h; rw [show firstIdx p k (d + 1) = firstIdx p (k + 1) d by simp [firstIdx, e]]; exact loop_step h (ih (k + 1) (by omega))
    · rw [e] at h; rw [show firstIdx p k (d + 1) = k by simp [firstIdx, e], if_neg (by omega)]; exact loop_end h
theorem isState_eq (s : List Int) (hs : s.length ≤ 1048576) : fn57 (s, ()) () = some ((goodState s, ()), ()) := by
  have k1 : ∀ n : Int, fn38 (n, ()) () = some (((!goodN n), ()), ()) := fun n => by simp only [fn38, between_eq _ _ _, goodN]
  have key := loop_idx (B := fn4_B0) (fun i => ((s, (s.length : Int), (i : Int), ()), ())) (fun i => !goodN (s.getD i 0)) s.length (fun i => .inl ((i, ()), ())) (.inr ((), ())) (fun i hi => by
    simp only [fn4_B0, bif_decide, if_pos (show (i : Int) < (s.length : Int) by omega), guardB_true (inb_true (Int.natCast_nonneg i) (show (i : Int) < (s.length : Int) by omega)), Int.toNat_natCast, k1, w64_succ (show i < 4611686018427387904 by omega)]
    cases goodN (s.getD i 0) <;> rfl) (by simp [fn4_B0])
  have k2 : fn4 (s, ()) () = some ((firstIdx (fun i => !goodN (s.getD i 0)) 0 s.length, ()), ()) := by
    simp only [fn4]
    erw [key]
    by_cases h : firstIdx (fun i => !goodN (s.getD i 0)) 0 s.length < 0
    · rw [if_pos h]
      have : ∀ d k, firstIdx (fun i => !goodN (s.getD i 0)) k d < 0 → firstIdx (fun i => !goodN (s.getD i 0)) k d = -1 := by
        intro d
        induction d with
        | zero => intro k _; rfl
        | succ d ih =>
          intro k hk
          simp only [firstIdx] at hk ⊢
          split
          · rename_i h; rw [if_pos h] at hk; omega
          · rename_i h; rw [if_neg h] at hk; exact ih _ hk
      rw [this _ _ h]
    · rw [if_neg h]
  simp only [fn57, fn3, k2, firstIdx_neg, bif_decide]
  have e : allUpto (fun i => !!goodN (s.getD (0 + i) 0)) s.length = s.all goodN := by
    rw [← allUpto_getD]; congr 1; funext i; simp
  rw [e]
  by_cases h : s.length ≤ 24
  · rw [if_pos (by omega)]; simp [goodState, h]
  · rw [if_neg (by omega)]; simp [goodState, h]

def lexDiff : List Int → List Int → Option Bool
  | a :: l, b :: k => if a = b then lexDiff l k else some (decide (a < b))
  | _, _ => none
def lexLt (a b : List Int) : Bool := match lexDiff a b with
  | some t => t
  | none => decide (a.length < b.length)
def lexCmp : List Int → List Int → Int
  | a :: l, b :: k => if a < b then -1 else if b < a then 1 else lexCmp l k
  | [], [] => 0
  | [], _ :: _ => -1
  | _ :: _, [] => 1
theorem lexCmp_lt : ∀ (a b : List Int), decide ((0 : Int) ≤ lexCmp a b) = !lexLt a b
  | a :: l, b :: k => by
    by_cases h : a < b
    · simp [lexCmp, lexLt, lexDiff, h, show ¬ a = b by omega]
    · by_cases h2 : b < a
      · simp [lexCmp, lexLt, lexDiff, h, h2, show ¬ a = b by omega]
      · have e : a = b := by omega
        subst e
        rw [show lexCmp (a :: l) (a :: k) = lexCmp l k by simp [lexCmp], lexCmp_lt l k]
        simp only [lexLt, lexDiff, if_pos, List.length_cons]
        cases lexDiff l k <;> simp
  | [], [] => by simp [lexCmp, lexLt, lexDiff]
  | [], _ :: _ => by simp [lexCmp, lexLt, lexDiff]
  | _ :: _, [] => by simp [lexCmp, lexLt, lexDiff]
theorem Compare_eq (a b : List Int) (ha : a.length ≤ 1048576) : fn14 (a, b, ()) () = some ((lexCmp a b, ()), ()) := by
  have key : ∀ d i, i + d = a.length → ∃ q, loopO fn14_B0 ((a, b, a, (a.length : Int), (i : Int), ()), ()) = some q ∧ ((q = .inl ((lexCmp (a.drop i) (b.drop i), ()), ())) ∨ (q = .inr ((a, b, ()), ()) ∧ (i ≤ b.length → lexCmp (a.drop i) (b.drop i) = if a.length < b.length then -1 else 0))) := by
    intro d
    induction d with
    | zero =>
      intro i hi
      have : i = a.length := by omega
      subst this
      refine ⟨_, loop_end (q := .inr ((a, b, ()), ())) (by simp [fn14_B0]), .inr ⟨rfl, fun hb => ?_⟩⟩
      rw [List.drop_length]
      by_cases h : a.length < b.length
      · rw [List.drop_eq_getElem_cons h, if_pos h]; rfl
      · rw [List.drop_eq_nil_of_le (by omega), if_neg h]; rfl
    | succ d ih =>
      intro i hi
      have h1 : i < a.length := by omega
      by_cases h2 : i < b.length
      · rw [List.drop_eq_getElem_cons h1, List.drop_eq_getElem_cons h2]
        simp only [lexCmp]
        have e : fn14_B0 ((a, b, a, (a.length : Int), (i : Int), ()), ()) = some (if (if a[i] < b[i] then (-1 : Int) else if b[i] < a[i] then 1 else 0) = 0 then .inl ((a, b, a, (a.length : Int), ((i + 1 : Nat) : Int), ()), ()) else .inr (.inl (((if a[i] < b[i] then (-1 : Int) else if b[i] < a[i] then 1 else 0), ()), ()))) := by
          simp only [fn14_B0, bif_decide, if_pos (show (i : Int) < (a.length : Int) by omega), if_neg (show ¬ (b.length : Int) ≤ (i : Int) by omega), guardB_true (inb_true (Int.natCast_nonneg i) (show (i : Int) < (a.length : Int) by omega)), guardB_true (inb_true (Int.natCast_nonneg i) (show (i : Int) < (b.length : Int) by omega)), Int.toNat_natCast, getD_at h1, getD_at h2, cmp_eq _ _, w64_succ (show i < 4611686018427387904 by omega)]
          by_cases h3 : a[i] < b[i]
          · simp [h3]
          · by_cases h4 : b[i] < a[i]
            · simp [h3, h4]
            · simp [h3, h4]
        by_cases h3 : a[i] < b[i]
        · simp only [if_pos h3] at e ⊢
          exact ⟨_, loop_end e, .inl rfl⟩
        · by_cases h4 : b[i] < a[i]
          · simp only [if_neg h3, if_pos h4] at e ⊢
            exact ⟨_, loop_end e, .inl rfl⟩
          · simp only [if_neg h3, if_neg h4, if_pos] at e ⊢
            obtain ⟨q, q1, q2⟩ := ih (i + 1) (by omega)
            refine ⟨q, loop_step e q1, q2.imp id fun ⟨r1, r2⟩ => ⟨r1, fun _ => r2 (by omega)⟩⟩
      · refine ⟨_, loop_end (q := .inl ((1, ()), ())) (by simp [fn14_B0, inb_nat, guardB, h1, show b.length ≤ i by omega]), .inl ?_⟩
        rw [List.drop_eq_nil_of_le (show b.length ≤ i by omega), List.drop_eq_getElem_cons h1]
        rfl
  obtain ⟨q, q1, q2⟩ := key a.length 0 (by omega)
  simp only [fn14]
  erw [q1]
  simp only [List.drop_zero] at q2
  rcases q2 with rfl | ⟨rfl, q2⟩
  · rfl
  · rw [q2 (Nat.zero_le _)]
    simp only [bif_decide, Int.ofNat_lt]
    split <;> rfl

def edgeB (a b : Int × Int) : Bool := decide (a.1 < b.1) || (decide (a.1 = b.1) && decide (a.2 < b.2))
theorem l2Edge_eq (a b : Int × Int) : fn73 (a, b, ()) () = some ((edgeB a b, ()), ()) := by
  simp only [fn73, edgeB]
  by_cases h : a.1 < b.1
  · simp [h]
  · by_cases h2 : a.1 = b.1
    · simp [h, h2]
    · simp [h, h2, beq_ne h2]
theorem cmpOr_eq (x y : Int) : fn76 ([x, y], ()) () = some (((if x = 0 then y else x), ()), ()) := by
  simp only [fn76]
  have e0 : fn76_B0 ((0, [x, y], ([x, y].length : Int), 0, ()), ()) = some (if x = 0 then .inl ((0, [x, y], ([x, y].length : Int), 1, ()), ()) else .inr (.inl ((x, ()), ()))) := by
    by_cases h : x = 0
    · simp [fn76_B0, inb, guardB, h]; rfl
    · simp [fn76_B0, inb, guardB, h, bne_ne h]
  have e1 : fn76_B0 ((0, [x, y], ([x, y].length : Int), 1, ()), ()) = some (if y = 0 then .inl ((0, [x, y], ([x, y].length : Int), 2, ()), ()) else .inr (.inl ((y, ()), ()))) := by
    by_cases h : y = 0
    · simp [fn76_B0, inb, guardB, h]; rfl
    · simp [fn76_B0, inb, guardB, h, bne_ne h]
  have e2 : fn76_B0 ((0, [x, y], ([x, y].length : Int), 2, ()), ()) = some (.inr (.inr ((0, ()), ()))) := by
    simp [fn76_B0]
  by_cases h : x = 0
  · rw [if_pos h] at e0 ⊢
    by_cases g : y = 0
    · rw [if_pos g] at e1
      rw [loop_step e0 (loop_step e1 (loop_end e2)), g]
    · rw [if_neg g] at e1
      rw [loop_step e0 (loop_end e1)]
  · rw [if_neg h] at e0 ⊢
    rw [loop_end e0]
theorem comparePairs_eq (a b : Int × Int) : ∃ r : Int, fn27 (a, b, ()) () = some ((r, ()), ()) ∧ (decide ((0 : Int) ≤ r) = !edgeB a b) ∧ (r = 0 ↔ a = b) := by
  obtain ⟨a1, a2⟩ := a
  obtain ⟨b1, b2⟩ := b
  simp only [fn27, cmp_eq _ _, cmpOr_eq _ _]
  refine ⟨_, rfl, ?_, ?_⟩
  · simp only [edgeB]
    by_cases h : a1 < b1
    · simp [h]
    · by_cases h2 : b1 < a1
      · have : ¬ a1 = b1 := by omega
        simp [h, h2, this]
      · have : a1 = b1 := by omega
        subst this
        by_cases h3 : a2 < b2
        · simp [h3]
        · by_cases h4 : b2 < a2 <;> simp [h3, h4]
  · simp only [Prod.mk.injEq]
    by_cases h : a1 < b1
    · simp [h]; omega
    · by_cases h2 : b1 < a1
      · simp [h, h2]; omega
      · have : a1 = b1 := by omega
        subst this
        by_cases h3 : a2 < b2
        · simp [h3]; omega
        · by_cases h4 : b2 < a2
          · simp [h3, h4]; omega
          · simp [h3, h4]; omega
def pairB (l : List (Int × Int)) (n : Int) (i : Nat) : Bool :=
  decide (0 ≤ (l.getD i (0, 0)).1) && (decide ((l.getD i (0, 0)).1 < (l.getD i (0, 0)).2) && (decide ((l.getD i (0, 0)).2 < n) && (decide (i = 0) || edgeB (l.getD (i - 1) (0, 0)) (l.getD i (0, 0)))))
def pairsB (l : List (Int × Int)) (n : Int) : Bool := allUpto (pairB l n) l.length
theorem l2Pairs_eq (l : List (Int × Int)) (n : Int) (hl : l.length ≤ 1048576) (h0 : -1048576 ≤ n) (hn : n ≤ 1048576) : fn64 (l, n, ()) () = some ((pairsB l n, ()), ()) := by
  have key := loop_all (B := fn64_B0) (fun i => ((l, n, (i : Int), ()), ())) (pairB l n) l.length (.inl ((false, ()), ())) (.inr ((), ())) (fun i hi _ => by
    obtain ⟨e, he⟩ : ∃ e : Int × Int, l.getD i (0, 0) = e := ⟨_, rfl⟩
    simp only [fn64_B0, bif_decide, if_pos (show (i : Int) < (l.length : Int) by omega), guardB_true (inb_true (Int.natCast_nonneg i) (show (i : Int) < (l.length : Int) by omega)), Int.toNat_natCast, l1In_eq _ _ _, w64_succ (show i < 4611686018427387904 by omega), w64_of (x := n - 1) (by omega) (by omega), pairB, inR, he]
    by_cases h1 : 0 ≤ e.1
    · by_cases h2 : e.1 ≤ n - 1
      · by_cases h3 : 0 ≤ e.2
        · by_cases h4 : e.2 ≤ n - 1
          · by_cases h5 : e.2 ≤ e.1
            · simp [h1, h2, h3, h4, h5, show ¬ e.1 < e.2 by omega]
            · by_cases h6 : i = 0
              · subst h6
                simp [h1, h2, h3, h4, h5, show e.1 < e.2 by omega, show e.2 < n by omega]
              · rw [w64_pred (by omega) (by omega), guardB_true (inb_true (Int.natCast_nonneg _) (show ((i - 1 : Nat) : Int) < (l.length : Int) by omega)), Int.toNat_natCast, l2Edge_eq]
                cases edgeB (l.getD (i - 1) (0, 0)) e <;> simp [h1, h2, h3, h4, h5, h6, show e.1 < e.2 by omega, show e.2 < n by omega, show 0 < i by omega]
          · simp [h1, h2, h3, h4, show ¬ e.2 < n by omega]
        · simp [h1, h2, h3, show ¬ e.1 < e.2 by omega]
      · simp only [h1, h2, decide_true, decide_false, Bool.and_false, Bool.not_false, cond_true, Bool.true_and]
        by_cases h3 : e.1 < e.2
        · simp [h3, show ¬ e.2 < n by omega]
        · simp [h3]
    · simp [h1]) (by simp [fn64_B0])
  simp only [fn64]
  erw [key]
  simp only [pairsB]
  cases allUpto (pairB l n) l.length <;> rfl
theorem isPairs_eq (l : List (Int × Int)) (n : Int) (hl : l.length ≤ 1048576) : fn56 (l, n, ()) () = some ((pairsB l n, ()), ()) := by
  have key := loop_all (B := fn56_B0) (fun i => ((l, n, l, (l.length : Int), (i : Int), ()), ())) (pairB l n) l.length (.inl ((false, ()), ())) (.inr ((), ())) (fun i hi _ => by
    obtain ⟨e, he⟩ : ∃ e : Int × Int, l.getD i (0, 0) = e := ⟨_, rfl⟩
    simp only [fn56_B0, bif_decide, if_pos (show (i : Int) < (l.length : Int) by omega), guardB_true (inb_true (Int.natCast_nonneg i) (show (i : Int) < (l.length : Int) by omega)), Int.toNat_natCast, w64_succ (show i < 4611686018427387904 by omega), pairB, he]
    by_cases h1 : e.1 < 0
    · simp [h1, show ¬ 0 ≤ e.1 by omega]
    · by_cases h2 : e.2 ≤ e.1
      · simp [h1, h2, show ¬ e.1 < e.2 by omega]
      · by_cases h3 : n ≤ e.2
        · simp [h1, h2, h3, show ¬ e.2 < n by omega]
        · by_cases h6 : i = 0
          · subst h6
            simp [h1, h2, h3, show 0 ≤ e.1 by omega, show e.1 < e.2 by omega, show e.2 < n by omega]
          · obtain ⟨r, r1, r2, _⟩ := comparePairs_eq (l.getD (i - 1) (0, 0)) e
            rw [w64_pred (by omega) (by omega), guardB_true (inb_true (Int.natCast_nonneg _) (show ((i - 1 : Nat) : Int) < (l.length : Int) by omega)), Int.toNat_natCast, r1]
            simp only [if_neg h1, if_neg h2, if_neg h3, if_pos (show (0 : Int) < (i : Int) by omega), ← bif_decide, r2]
            cases edgeB (l.getD (i - 1) (0, 0)) e <;> simp [h6, show 0 ≤ e.1 by omega, show e.1 < e.2 by omega, show e.2 < n by omega]) (by simp [fn56_B0])
  simp only [fn56]
  erw [key]
  simp only [pairsB]
  cases allUpto (pairB l n) l.length <;> rfl

def stateB (L : List (List Int)) (i : Nat) : Bool := goodState (L.getD i []) && (decide (i = 0) || lexLt (L.getD (i - 1) []) (L.getD i []))
def spaceB (x : List (List Int) × List (Int × Int)) : Bool := decide (x.1.length ≤ 300) && (decide (x.2.length ≤ 6000) && (allUpto (stateB x.1) x.1.length && pairsB x.2 x.1.length))
theorem IsSpace_eq (x : List (List Int) × List (Int × Int)) (hx : Few x) : fn52 (x, ()) () = some ((spaceB x, ()), ()) := by
  obtain ⟨L, S⟩ := x
  have hL := hx.states
  have hs := hx.state
  have hS := hx.steps
  dsimp only at hL hs hS
  have hlen : ∀ i, i < L.length → (L.getD i []).length ≤ 1048576 := fun i hi => by rw [getD_at hi]; exact hs _ (List.getElem_mem hi)
  have key := loop_all (B := fn52_B0) (fun i => (((L, S), L, (L.length : Int), (i : Int), ()), ())) (stateB L) L.length (.inl ((false, ()), ())) (.inr (((L, S), ()), ())) (fun i hi _ => by
    simp only [fn52_B0, if_pos (show (i : Int) < (L.length : Int) by omega), guardB_true (inb_true (Int.natCast_nonneg i) (show (i : Int) < (L.length : Int) by omega)), Int.toNat_natCast, isState_eq _ (hlen i hi), w64_succ (show i < 4611686018427387904 by omega), stateB]
    by_cases h6 : i = 0
    · subst h6
      cases goodState (L.getD 0 []) <;> simp [hi]
    · rw [w64_pred (by omega) (by omega), guardB_true (inb_true (Int.natCast_nonneg _) (show ((i - 1 : Nat) : Int) < (L.length : Int) by omega)), Int.toNat_natCast, Compare_eq _ _ (hlen (i - 1) (by omega))]
      simp only [lexCmp_lt]
      cases goodState (L.getD i []) <;> cases lexLt (L.getD (i - 1) []) (L.getD i []) <;> simp [h6, hi, show 0 < i by omega]) (by simp [fn52_B0])
  simp only [fn52, bif_decide, spaceB]
  by_cases h1 : L.length ≤ 300
  · rw [if_neg (by omega)]
    by_cases h2 : S.length ≤ 6000
    · rw [if_neg (by omega)]
      erw [key]
      simp only [h1, h2, decide_true, Bool.true_and]
      cases h3 : allUpto (stateB L) L.length
      · rfl
      · simp only [cond_true, isPairs_eq S (L.length : Int) hS, Bool.true_and]
    · rw [if_pos (by omega)]; simp [h2]
  · rw [if_pos (by omega)]; simp [h1]

theorem sort_sorted (l : List Int) : (l.mergeSort fun a b => decide (a ≤ b)).Pairwise (· ≤ ·) := by
  have := List.pairwise_mergeSort (le := fun a b : Int => decide (a ≤ b)) (fun a b c h1 h2 => by simp at *; omega) (fun a b => by simp; omega) l
  exact this.imp fun h => by simpa using h
def rows {α : Type} (n : Nat) (F : Nat → α) : List α := (List.range n).map F
theorem rows_len {α : Type} {n : Nat} {F : Nat → α} : (rows n F).length = n := by simp [rows]
theorem rows_get {α : Type} {n i : Nat} {F : Nat → α} (h : i < n) (d : α) : (rows n F).getD i d = F i := by simp [rows, List.getD, h]
theorem rows_set {α : Type} {n i : Nat} {F : Nat → α} (v : α) : (rows n F).set i v = rows n (fun j => if j = i then v else F j) := by
  apply List.ext_getElem
  · simp [rows]
  · intro j h1 h2
    simp only [rows, List.getElem_set, List.getElem_map, List.getElem_range]
    by_cases h : i = j
    · subst h; simp
    · rw [if_neg h, if_neg (fun e => h e.symm)]
theorem rows_congr {α : Type} {n : Nat} {F G : Nat → α} (h : ∀ j, j < n → F j = G j) : rows n F = rows n G := by
  apply List.map_congr_left
  intro j hj
  exact h j (by simpa using hj)
theorem rows_rep {α : Type} {n : Nat} (d : α) : List.replicate n d = rows n (fun _ => d) := by
  apply List.ext_getElem
  · simp [rows]
  · intro j h1 h2; simp [rows]
theorem take_one {α : Type} {l : List α} {i : Nat} (h : i < l.length) (d : α) : l.take (i + 1) = l.take i ++ [l.getD i d] := by
  rw [getD_at h, List.take_succ_eq_append_getElem h]
def inc (S : List (Int × Int)) (j : Nat) : List Int := (S.filter fun e => decide (e.2 = (j : Int))).map (·.1)
def outg (S : List (Int × Int)) (j : Nat) : List Int := (S.filter fun e => decide (e.1 = (j : Int))).map (·.2)
def nbr (S : List (Int × Int)) (j : Nat) : List Int := inc S j ++ outg S j
def listsP (S : List (Int × Int)) (n : Nat) : List (List Int) := rows n (nbr S)
theorem inc_len (T : List (Int × Int)) (j : Nat) : (inc T j).length ≤ T.length := by simp only [inc, List.length_map]; exact List.length_filter_le _ _
theorem outg_len (T : List (Int × Int)) (j : Nat) : (outg T j).length ≤ T.length := by simp only [outg, List.length_map]; exact List.length_filter_le _ _
/-- steps: pairs of places -/
def StepsOk (S : List (Int × Int)) (n : Nat) : Prop := ∀ i, i < S.length → ∃ a b : Nat, S.getD i (0, 0) = ((a : Int), (b : Int)) ∧ a < b ∧ b < n
theorem pairsB_at {S : List (Int × Int)} {n : Nat} (h : pairsB S n = true) (i : Nat) (hi : i < S.length) : pairB S n i = true := allUpto_iff.1 h i hi
theorem pairsB_ok {S : List (Int × Int)} {n : Nat} (h : pairsB S n = true) : StepsOk S n := by
  intro i hi
  have := pairsB_at h i hi
  simp only [pairB, Bool.and_eq_true, decide_eq_true_eq] at this
  obtain ⟨h1, h2, h3, _⟩ := this
  generalize S.getD i (0, 0) = e at h1 h2 h3
  obtain ⟨a, b⟩ := e
  simp only at h1 h2 h3
  exact ⟨a.toNat, b.toNat, by rw [Int.toNat_of_nonneg h1, Int.toNat_of_nonneg (by omega)], by omega, by omega⟩
theorem edge_lt {S : List (Int × Int)} {n : Nat} (h : pairsB S n = true) : ∀ d i, i + 1 + d < S.length → edgeB (S.getD i (0, 0)) (S.getD (i + 1 + d) (0, 0)) = true := by
  have one : ∀ i, i + 1 < S.length → edgeB (S.getD i (0, 0)) (S.getD (i + 1) (0, 0)) = true := by
    intro i hi
    have := pairsB_at h (i + 1) hi
    simp only [pairB, Bool.and_eq_true, Bool.or_eq_true, decide_eq_true_eq] at this
    rcases this.2.2.2 with h0 | h0
    · omega
    · simpa using h0
  have tr : ∀ a b c : Int × Int, edgeB a b = true → edgeB b c = true → edgeB a c = true := by
    intro a b c h1 h2
    simp only [edgeB, Bool.or_eq_true, Bool.and_eq_true, decide_eq_true_eq] at *
    omega
  intro d
  induction d with
  | zero => intro i hi; exact one i hi
  | succ d ih => intro i hi; exact tr _ _ _ (ih i (by omega)) (one (i + 1 + d) hi)
theorem steps_pairwise {S : List (Int × Int)} {n : Nat} (h : pairsB S n = true) : S.Pairwise fun a b => edgeB a b = true := by
  rw [List.pairwise_iff_getElem]
  intro i j hi hj hij
  have := edge_lt h (j - i - 1) i (by omega)
  rw [show i + 1 + (j - i - 1) = j by omega, getD_at hi, getD_at hj] at this
  exact this
theorem steps_mem {S : List (Int × Int)} {n : Nat} (h : StepsOk S n) {e : Int × Int} (he : e ∈ S) : 0 ≤ e.1 ∧ e.1 < e.2 ∧ e.2 < n := by
  obtain ⟨i, hi, rfl⟩ := List.getElem_of_mem he
  obtain ⟨a, b, h1, h2, h3⟩ := h i hi
  rw [getD_at hi] at h1
  rw [h1]
  simp only
  omega
theorem nbr_sorted {S : List (Int × Int)} {n : Nat} (h : pairsB S n = true) (j : Nat) : (nbr S j).Pairwise (· < ·) := by
  have hp := steps_pairwise h
  have hok := pairsB_ok h
  rw [nbr, List.pairwise_append]
  refine ⟨?_, ?_, ?_⟩
  · rw [inc, List.pairwise_map]
    refine ((hp.sublist List.filter_sublist).imp_of_mem fun {a b} ha hb hab => ?_)
    simp only [List.mem_filter, decide_eq_true_eq] at ha hb
    simp only [edgeB, Bool.or_eq_true, Bool.and_eq_true, decide_eq_true_eq] at hab
    omega
  · rw [outg, List.pairwise_map]
    refine ((hp.sublist List.filter_sublist).imp_of_mem fun {a b} ha hb hab => ?_)
    simp only [List.mem_filter, decide_eq_true_eq] at ha hb
    simp only [edgeB, Bool.or_eq_true, Bool.and_eq_true, decide_eq_true_eq] at hab
    omega
  · intro a ha b hb
    simp only [inc, outg, List.mem_map, List.mem_filter, decide_eq_true_eq] at ha hb
    obtain ⟨e, ⟨he, e1⟩, rfl⟩ := ha
    obtain ⟨f, ⟨hf, f1⟩, rfl⟩ := hb
    have := steps_mem hok he
    have := steps_mem hok hf
    omega
def raw (S : List (Int × Int)) (j : Nat) : List Int := S.flatMap fun e => (if e.1 = (j : Int) then [e.2] else []) ++ (if e.2 = (j : Int) then [e.1] else [])
theorem raw_perm : ∀ (S : List (Int × Int)) (j : Nat), (raw S j).Perm (nbr S j)
  | [], j => by simp [raw, nbr, inc, outg]
  | e :: S, j => by
    have ih := raw_perm S j
    simp only [raw, List.flatMap_cons] at ih ⊢
    simp only [nbr, inc, outg, List.filter_cons] at ih ⊢
    by_cases h1 : e.1 = (j : Int)
    · by_cases h2 : e.2 = (j : Int)
      · simp only [h1, h2, if_true, decide_true, List.map_cons, List.cons_append, List.nil_append]
        exact ((ih.cons (j : Int)).cons (j : Int)).trans (List.perm_middle.symm.cons _)
      · simp only [h1, h2, if_true, if_false, decide_true, decide_false, List.map_cons, List.cons_append, List.nil_append, List.append_nil, Bool.false_eq_true]
        exact (ih.cons _).trans List.perm_middle.symm
    · by_cases h2 : e.2 = (j : Int)
      · simp only [h1, h2, if_true, if_false, decide_true, decide_false, List.map_cons, List.cons_append, List.nil_append, List.append_nil, Bool.false_eq_true]
        exact ih.cons _
      · simp only [h1, h2, if_false, decide_false, List.nil_append, Bool.false_eq_true]
        exact ih
theorem sort_of_perm {l k : List Int} (h : l.Perm k) (hk : k.Pairwise (· < ·)) : l.mergeSort (fun a b => decide (a ≤ b)) = k := by
  refine List.Perm.eq_of_pairwise (le := (· ≤ ·)) ?_ (sort_sorted l) (hk.imp fun h => Int.le_of_lt h) ((List.mergeSort_perm l _).trans h)
  intro a b _ _ h1 h2
  omega
theorem raw_snoc (T : List (Int × Int)) (a b j : Nat) (hab : a < b) : raw (T ++ [((a : Int), (b : Int))]) j = if j = b then raw T j ++ [(a : Int)] else if j = a then raw T j ++ [(b : Int)] else raw T j := by
  simp only [raw, List.flatMap_append, List.flatMap_cons, List.flatMap_nil, List.append_nil]
  by_cases h : j = b
  · subst h; simp [show ¬ (a : Int) = (j : Int) by omega]
  · by_cases h2 : j = a
    · subst h2; simp [show ¬ (b : Int) = (j : Int) by omega, h]
    · simp [h, h2, show ¬ (b : Int) = (j : Int) by omega, show ¬ (a : Int) = (j : Int) by omega]
theorem raw_len (T : List (Int × Int)) (j : Nat) : (raw T j).length ≤ 2 * T.length := by
  rw [(raw_perm T j).length_eq, nbr, List.length_append]
  have := inc_len T j
  have := outg_len T j
  omega
theorem roads_eq (x : List (List Int) × List (Int × Int)) (hp : pairsB x.2 x.1.length = true) (hn : x.1.length ≤ 1048576) (hs : x.2.length ≤ 1048576) : fn31 (x, ()) () = some ((listsP x.2 x.1.length, ()), ()) := by
  obtain ⟨L, S⟩ := x
  simp only at hp hn hs
  have hS := pairsB_ok hp
  simp only [fn31, guardB_true (fold_len hn).2.1, Int.toNat_natCast]
  have k0 : loopO fn31_B0 ((rows L.length (raw (S.take 0)), S, (S.length : Int), ((0 : Nat) : Int), ()), ()) = some ((rows L.length (raw (S.take S.length)), ()), ()) := by
    refine loop_count (fun i => ((rows L.length (raw (S.take i)), S, (S.length : Int), (i : Int), ()), ())) S.length _ (fun i hi => ?_) ?_ 0 (Nat.zero_le _)
    · obtain ⟨a, b, he, hab, hb⟩ := hS i hi
      have hl := fun j => raw_len (S.take i) j
      simp only [List.length_take] at hl
      have g1 : decide ((List.length (raw (S.take i) a) + List.length [(b : Int)]) * 8 ≤ 70368744177664) = true := by
        have := hl a
        simp only [List.length_singleton, decide_eq_true_eq]
        omega
      have g2 : decide ((List.length (raw (S.take i) b) + List.length [(a : Int)]) * 8 ≤ 70368744177664) = true := by
        have := hl b
        simp only [List.length_singleton, decide_eq_true_eq]
        omega
      simp only [fn31_B0, bif_decide, if_pos (show (i : Int) < (S.length : Int) by omega), guardB_true (inb_true (Int.natCast_nonneg i) (show (i : Int) < (S.length : Int) by omega)), Int.toNat_natCast, he, rows_len, guardB_true (inb_true (Int.natCast_nonneg a) (show (a : Int) < (L.length : Int) by omega)), guardB_true (inb_true (Int.natCast_nonneg b) (show (b : Int) < (L.length : Int) by omega)), rows_get (show a < L.length by omega), rows_get (show b < L.length by omega), Nat.beq_refl, Bool.and_self, guardB_true rfl, w64_succ (show i < 4611686018427387904 by omega), rows_set, if_neg (show ¬ b = a by omega), guardB_true g1, guardB_true g2]
      rw [take_one hi (0, 0), he]
      have : rows L.length (fun j => if j = b then raw (S.take i) b ++ [(a : Int)] else if j = a then raw (S.take i) a ++ [(b : Int)] else raw (S.take i) j) = rows L.length (raw (S.take i ++ [((a : Int), (b : Int))])) := rows_congr fun j _ => by
        rw [raw_snoc _ _ _ _ hab]
        by_cases h : j = b
        · subst h; rw [if_pos rfl, if_pos rfl]
        · by_cases h2 : j = a
          · subst h2; simp [h]
          · simp only [if_neg h, if_neg h2]
      rw [this]
    · simp only [fn31_B0, bif_decide, if_neg (show ¬ (S.length : Int) < (S.length : Int) by omega)]
  have k1 : loopO fn31_B1 ((rows L.length (fun j => if j < 0 then nbr S j else raw S j), (L.length : Int), ((0 : Nat) : Int), ()), ()) = some ((rows L.length (fun j => if j < L.length then nbr S j else raw S j), ()), ()) := by
    refine loop_count (fun i => ((rows L.length (fun j => if j < i then nbr S j else raw S j), (L.length : Int), (i : Int), ()), ())) L.length _ (fun i hi => ?_) ?_ 0 (Nat.zero_le _)
    · have hl := raw_len S i
      simp only [fn31_B1, bif_decide, if_pos (show (i : Int) < (L.length : Int) by omega), rows_len, guardB_true (inb_true (Int.natCast_nonneg i) (show (i : Int) < (L.length : Int) by omega)), Int.toNat_natCast, rows_get hi, if_neg (show ¬ i < i by omega), slices_Sort_int_int, sortFn]
      rw [guardB_true (by simp only [decide_eq_true_eq]; omega)]
      simp only [sort_of_perm (raw_perm S i) (nbr_sorted hp i), rows_set, w64_succ (show i < 4611686018427387904 by omega)]
      have : rows L.length (fun j => if j = i then nbr S i else if j < i then nbr S j else raw S j) = rows L.length (fun j => if j < i + 1 then nbr S j else raw S j) := rows_congr fun j _ => by
        by_cases h : j = i
        · subst h; rw [if_pos rfl, if_pos (by omega)]
        · by_cases h2 : j < i
          · rw [if_neg h, if_pos h2, if_pos (by omega)]
          · rw [if_neg h, if_neg h2, if_neg (by omega)]
      rw [this]
    · simp only [fn31_B1, bif_decide, if_neg (show ¬ (L.length : Int) < (L.length : Int) by omega)]
  rw [List.take_length] at k0
  have z0 : rows L.length (raw (S.take 0)) = List.replicate L.length [] := by rw [rows_rep]; exact rows_congr fun j _ => rfl
  have z1 : rows L.length (fun j => if j < 0 then nbr S j else raw S j) = rows L.length (raw S) := rows_congr fun j _ => by simp
  have z2 : rows L.length (fun j => if j < L.length then nbr S j else raw S j) = rows L.length (nbr S) := rows_congr fun j hj => by simp [hj]
  rw [z0] at k0
  rw [z1, z2] at k1
  erw [k0]
  simp only [rows_len]
  erw [k1]
  rfl

theorem nbr_len {S : List (Int × Int)} (hs : S.length ≤ 6000) (j : Nat) : (nbr S j).length ≤ 12000 := by
  rw [nbr, List.length_append]
  have := inc_len S j
  have := outg_len S j
  omega
theorem getD_set {l : List Int} {i j : Nat} {a d : Int} (h : i < l.length) : (l.set i a).getD j d = if i = j then a else l.getD j d := by
  simp only [List.getD, List.getElem?_set, h, if_true]
  split <;> simp
def vis1 (v : Int) (s : List Int × List Int) (w : Int) : List Int × List Int := if s.1.getD w.toNat 0 < 0 then (s.1.set w.toNat (s.1.getD v.toNat 0 + 1), s.2 ++ [w]) else s
def vis (v : Int) (row : List Int) (s : List Int × List Int) : List Int × List Int := row.foldl (vis1 v) s
def Bf (n : Nat) (s : List Int × List Int) : Prop := s.1.length = n ∧ (∀ w ∈ s.2, 0 ≤ w ∧ w < n ∧ 0 ≤ s.1.getD w.toNat 0) ∧ s.2.length + s.1.countP (fun d => decide (d < 0)) = n ∧ (∀ j, -1 ≤ s.1.getD j 0 ∧ s.1.getD j 0 < s.2.length)
theorem vis1_bf {n : Nat} {v w : Int} {s : List Int × List Int} (h : Bf n s) (hv : v ∈ s.2) (hw : 0 ≤ w ∧ w < n) : Bf n (vis1 v s w) ∧ ∃ t, (vis1 v s w).2 = s.2 ++ t := by
  unfold vis1
  by_cases hd : s.1.getD w.toNat 0 < 0
  · rw [if_pos hd]
    refine ⟨?_, _, rfl⟩
    obtain ⟨h1, h2, h3, h4⟩ := h
    have hl : w.toNat < s.1.length := by omega
    have hv2 := h2 v hv
    refine ⟨by simp [h1], ?_, ?_, ?_⟩
    · intro u hu
      simp only
      rw [getD_set hl]
      rcases List.mem_append.1 hu with hu | hu
      · have := h2 u hu
        refine ⟨this.1, this.2.1, ?_⟩
        split
        · omega
        · exact this.2.2
      · have : u = w := by simpa using hu
        subst this
        refine ⟨hw.1, hw.2, ?_⟩
        rw [if_pos rfl]; omega
    · simp only [List.length_append, List.length_singleton]
      rw [List.countP_set hl]
      have e1 : decide (s.1[w.toNat] < 0) = true := by rw [← getD_at hl 0]; simpa using hd
      have e2 : decide (s.1.getD v.toNat 0 + 1 < 0) = false := by simp only [decide_eq_false_iff_not]; omega
      have e3 : 0 < s.1.countP (fun d => decide (d < 0)) := List.countP_pos_iff.2 ⟨_, List.getElem_mem hl, e1⟩
      simp only [e1, e2, if_true, Bool.false_eq_true, if_false]
      omega
    · intro j
      simp only [List.length_append, List.length_singleton]
      rw [getD_set hl]
      have a1 := h4 j
      have a2 := h4 v.toNat
      split
      · omega
      · omega
  · rw [if_neg hd]
    exact ⟨h, [], by simp⟩
theorem vis_bf {n : Nat} {v : Int} : ∀ (row : List Int) {s : List Int × List Int}, Bf n s → v ∈ s.2 → (∀ w ∈ row, 0 ≤ w ∧ w < n) → Bf n (vis v row s) ∧ ∃ t, (vis v row s).2 = s.2 ++ t
  | [], s, h, hv, hr => ⟨h, [], by simp [vis]⟩
  | w :: row, s, h, hv, hr => by
    obtain ⟨h1, t1, e1⟩ := vis1_bf h hv (hr w (by simp))
    obtain ⟨h2, t2, e2⟩ := vis_bf row h1 (by rw [e1]; exact List.mem_append_left _ hv) (fun u hu => hr u (by simp [hu]))
    exact ⟨h2, t1 ++ t2, by show (vis v row (vis1 v s w)).2 = _; rw [e2, e1, List.append_assoc]⟩
theorem vis_snoc {v : Int} {row : List Int} {i : Nat} (h : i < row.length) (s : List Int × List Int) : vis v (row.take (i + 1)) s = vis1 v (vis v (row.take i) s) (row.getD i 0) := by
  rw [take_one h 0]; simp [vis, List.foldl_append]
theorem Bf.few {n : Nat} {s : List Int × List Int} (h : Bf n s) : s.2.length ≤ n := by have := h.2.2.1; omega
theorem getD_app {l t : List Int} {k : Nat} (h : k < l.length) : (l ++ t).getD k 0 = l.getD k 0 := by
  rw [getD_at h, getD_at (by simp <;> omega), List.getElem_append_left h]
theorem getD_in {l : List Int} {k : Nat} (h : k < l.length) : l.getD k 0 ∈ l := by rw [getD_at h]; exact List.getElem_mem h
def Rds (n : Nat) (L : List (List Int)) : Prop := L.length = n ∧ ∀ i, i < n → (L.getD i []).length ≤ 1048576 ∧ ∀ w ∈ L.getD i [], 0 ≤ w ∧ w < n
def bfs (L : List (List Int)) : Nat → Nat → List Int × List Int → List Int × List Int
  | 0, _, s => s
  | f + 1, k, s => if k < s.2.length then bfs L f (k + 1) (vis (s.2.getD k 0) (L.getD (s.2.getD k 0).toNat []) s) else s
theorem bfs_step {L : List (List Int)} {n k : Nat} {s : List Int × List Int} (hL : Rds n L) (hB : Bf n s) (hk : k < s.2.length) : Bf n (vis (s.2.getD k 0) (L.getD (s.2.getD k 0).toNat []) s) ∧ k + 1 ≤ (vis (s.2.getD k 0) (L.getD (s.2.getD k 0).toNat []) s).2.length := by
  have hvn := hB.2.1 _ (getD_in hk)
  obtain ⟨h1, t, ht⟩ := vis_bf (L.getD (s.2.getD k 0).toNat []) hB (getD_in hk) (hL.2 _ (by omega)).2
  exact ⟨h1, by rw [ht, List.length_append]; omega⟩
theorem bfs_bf {L : List (List Int)} {n : Nat} (hL : Rds n L) : ∀ (f k : Nat) (s : List Int × List Int), Bf n s → Bf n (bfs L f k s)
  | 0, _, s, h => h
  | f + 1, k, s, h => by
    unfold bfs
    split
    · rename_i hk
      exact bfs_bf hL f (k + 1) _ (bfs_step hL h hk).1
    · exact h
def far0 (n : Nat) (a : Int) : List Int × List Int := ((List.replicate n (-1 : Int)).set a.toNat 0, [a])
def far (L : List (List Int)) (a : Int) : List Int := (bfs L L.length 0 (far0 L.length a)).1
theorem far0_bf {n : Nat} {a : Int} (h0 : 0 ≤ a) (h : a < n) : Bf n (far0 n a) := by
  have hl : a.toNat < (List.replicate n (-1 : Int)).length := by simp; omega
  refine ⟨by simp [far0], ?_, ?_, ?_⟩
  · intro w hw
    have : w = a := by simpa [far0] using hw
    subst this
    refine ⟨h0, h, ?_⟩
    simp only [far0]
    rw [getD_set hl, if_pos rfl]
    exact Int.le_refl 0
  · simp only [far0]
    rw [List.countP_set hl]
    have e : (List.replicate n (-1 : Int)).countP (fun d => decide (d < 0)) = n := by rw [List.countP_replicate]; simp
    simp only [e, List.getElem_replicate, List.length_singleton]
    simp
    omega
  · intro j
    simp only [far0]
    rw [getD_set hl, List.length_singleton]
    split
    · omega
    · by_cases hj : j < n
      · rw [getD_at (by simpa using hj)]; simp
      · simp [List.getD, hj]
theorem rds_lists {S : List (Int × Int)} {n : Nat} (h : StepsOk S n) (hs : S.length ≤ 6000) : Rds n (listsP S n) := by
  refine ⟨rows_len, fun i hi => ?_⟩
  rw [show (listsP S n).getD i [] = nbr S i from rows_get hi _]
  refine ⟨by have := nbr_len hs i; omega, fun w hw => ?_⟩
  simp only [nbr, inc, outg, List.mem_append, List.mem_map, List.mem_filter] at hw
  rcases hw with ⟨e, ⟨he, _⟩, rfl⟩ | ⟨e, ⟨he, _⟩, rfl⟩
  · have := steps_mem h he; omega
  · have := steps_mem h he; omega

def underFrom (t : Int) (k : Nat) : List Int → List Int
  | [] => []
  | h :: l => if h ≤ t then (k : Int) :: underFrom t (k + 1) l else underFrom t (k + 1) l
def under (t : Int) (l : List Int) : List Int := underFrom t 0 l
inductive Rch (L : List (List Int)) (a : Int) : Int → Prop
  | refl : Rch L a a
  | step (v w : Int) : Rch L a v → w ∈ L.getD v.toNat [] → Rch L a w
def Good (L : List (List Int)) (n : Nat) (a : Int) (s : List Int × List Int) : Prop :=
  (∀ w : Int, 0 ≤ w → w < n → (0 ≤ s.1.getD w.toNat 0 ↔ w ∈ s.2)) ∧ (∀ w ∈ s.2, Rch L a w) ∧
  (∀ w : Int, 0 ≤ w → w < n → 0 < s.1.getD w.toNat 0 → ∃ v ∈ s.2, w ∈ L.getD v.toNat [] ∧ s.1.getD w.toNat 0 = s.1.getD v.toNat 0 + 1) ∧
  (∀ w : Int, 0 ≤ w → w < n → s.1.getD w.toNat 0 = 0 → w = a)
theorem vis1_good {L : List (List Int)} {n : Nat} {a v w : Int} {s : List Int × List Int} (hB : Bf n s) (hG : Good L n a s) (hv : v ∈ s.2) (hw : 0 ≤ w ∧ w < n) (hin : w ∈ L.getD v.toNat []) :
    Good L n a (vis1 v s w) ∧ (∀ u : Int, 0 ≤ u → 0 ≤ s.1.getD u.toNat 0 → (vis1 v s w).1.getD u.toNat 0 = s.1.getD u.toNat 0) ∧ 0 ≤ (vis1 v s w).1.getD w.toNat 0 := by
  have hv2 := hB.2.1 v hv
  unfold vis1
  by_cases hd : s.1.getD w.toNat 0 < 0
  · rw [if_pos hd]
    have hl : w.toNat < s.1.length := by have := hB.1; omega
    have hst : ∀ u : Int, 0 ≤ u → 0 ≤ s.1.getD u.toNat 0 → (s.1.set w.toNat (s.1.getD v.toNat 0 + 1)).getD u.toNat 0 = s.1.getD u.toNat 0 := by
      intro u hu h0
      rw [getD_set hl]
      split
      · rename_i e; rw [e] at hd; omega
      · rfl
    obtain ⟨g1, g2, g3, g4⟩ := hG
    refine ⟨⟨?_, ?_, ?_, ?_⟩, hst, ?_⟩
    · intro u h0 h1
      simp only [List.mem_append, List.mem_singleton]
      rw [getD_set hl]
      by_cases e : w.toNat = u.toNat
      · rw [if_pos e]
        have : u = w := by omega
        constructor
        · intro _; exact .inr this
        · intro _; omega
      · rw [if_neg e, g1 u h0 h1]
        constructor
        · exact .inl
        · rintro (h | h)
          · exact h
          · exact absurd (by rw [h]) e
    · intro u hu
      rcases List.mem_append.1 hu with hu | hu
      · exact g2 u hu
      · have : u = w := by simpa using hu
        subst this
        exact .step v u (g2 v hv) hin
    · intro u h0 h1 hp
      simp only at hp ⊢
      rw [getD_set hl] at hp ⊢
      by_cases e : w.toNat = u.toNat
      · have e' : u = w := by omega
        subst e'
        rw [if_pos rfl]
        exact ⟨v, List.mem_append_left _ hv, hin, by rw [hst v hv2.1 hv2.2.2]⟩
      · rw [if_neg e] at hp ⊢
        obtain ⟨p, p1, p2, p3⟩ := g3 u h0 h1 hp
        have hp2 := hB.2.1 p p1
        exact ⟨p, List.mem_append_left _ p1, p2, by rw [hst p hp2.1 hp2.2.2]; exact p3⟩
    · intro u h0 h1 hz
      simp only at hz
      rw [getD_set hl] at hz
      by_cases e : w.toNat = u.toNat
      · rw [if_pos e] at hz; omega
      · rw [if_neg e] at hz; exact g4 u h0 h1 hz
    · simp only
      rw [getD_set hl, if_pos rfl]; omega
  · rw [if_neg hd]
    exact ⟨hG, fun _ _ _ => rfl, by omega⟩
theorem vis_good {L : List (List Int)} {n : Nat} {a v : Int} : ∀ (row : List Int) {s : List Int × List Int}, Bf n s → Good L n a s → v ∈ s.2 → (∀ w ∈ row, 0 ≤ w ∧ w < n) → (∀ w ∈ row, w ∈ L.getD v.toNat []) →
    Good L n a (vis v row s) ∧ (∀ u : Int, 0 ≤ u → 0 ≤ s.1.getD u.toNat 0 → (vis v row s).1.getD u.toNat 0 = s.1.getD u.toNat 0) ∧ ∀ w ∈ row, 0 ≤ (vis v row s).1.getD w.toNat 0
  | [], s, hB, hG, hv, hr, hin => ⟨hG, fun _ _ _ => rfl, fun w hw => by simp at hw⟩
  | w :: row, s, hB, hG, hv, hr, hin => by
    obtain ⟨b1, t, e⟩ := vis1_bf hB hv (hr w (by simp))
    obtain ⟨g1, g2, g3⟩ := vis1_good hB hG hv (hr w (by simp)) (hin w (by simp))
    obtain ⟨k1, k2, k3⟩ := vis_good row b1 g1 (by rw [e]; exact List.mem_append_left _ hv) (fun u hu => hr u (by simp [hu])) (fun u hu => hin u (by simp [hu]))
    have hw := hr w (by simp)
    refine ⟨k1, fun u h0 h1 => ?_, fun u hu => ?_⟩
    · have := k2 u h0 (by rw [g2 u h0 h1]; exact h1)
      exact this.trans (g2 u h0 h1)
    · rcases List.mem_cons.1 hu with hu | hu
      · subst hu
        have := k2 u hw.1 g3
        show 0 ≤ (vis v row (vis1 v s u)).1.getD u.toNat 0
        rw [this]; exact g3
      · exact k3 u hu
def Done (L : List (List Int)) (k : Nat) (s : List Int × List Int) : Prop := ∀ i, i < k → ∀ w ∈ L.getD (s.2.getD i 0).toNat [], 0 ≤ s.1.getD w.toNat 0
theorem bfs_good {L : List (List Int)} {n : Nat} {a : Int} (hL : Rds n L) : ∀ (f k : Nat) (s : List Int × List Int), Bf n s → Good L n a s → k ≤ s.2.length → n - k ≤ f → Done L k s →
    Good L n a (bfs L f k s) ∧ Done L (bfs L f k s).2.length (bfs L f k s) ∧ (∀ u : Int, 0 ≤ u → 0 ≤ s.1.getD u.toNat 0 → (bfs L f k s).1.getD u.toNat 0 = s.1.getD u.toNat 0)
  | 0, k, s, hB, hG, hk, hf, hD => by
    have := hB.few
    have e : s.2.length = k := by omega
    unfold bfs
    exact ⟨hG, by rw [e]; exact hD, fun _ _ _ => rfl⟩
  | f + 1, k, s, hB, hG, hk, hf, hD => by
    have few := hB.few
    unfold bfs
    split
    · rename_i hk'
      obtain ⟨h1, h2⟩ := bfs_step hL hB hk'
      have hvn := hB.2.1 _ (getD_in hk')
      have hrow := hL.2 (s.2.getD k 0).toNat (by omega)
      obtain ⟨g1, g2, g3⟩ := vis_good (L := L) (a := a) (L.getD (s.2.getD k 0).toNat []) hB hG (getD_in hk') hrow.2 (fun w hw => hw)
      obtain ⟨_, t, ht⟩ := vis_bf (L.getD (s.2.getD k 0).toNat []) hB (getD_in hk') hrow.2
      obtain ⟨r1, r2, r3⟩ := bfs_good hL f (k + 1) _ h1 g1 h2 (by omega) (by
        intro i hi w hw
        by_cases e : i = k
        · subst e
          rw [ht, getD_app hk'] at hw
          exact g3 w hw
        · have hi' : i < k := by omega
          rw [ht, getD_app (by omega)] at hw
          have h0 := hD i hi' w hw
          have hvi := hB.2.1 _ (getD_in (show i < s.2.length by omega))
          have hw2 := (hL.2 (s.2.getD i 0).toNat (by omega)).2 w hw
          rw [g2 w hw2.1 h0]
          exact h0)
      exact ⟨r1, r2, fun u h0 h3 => by rw [r3 u h0 (by rw [g2 u h0 h3]; exact h3)]; exact g2 u h0 h3⟩
    · rename_i hk'
      have e : s.2.length = k := by omega
      exact ⟨hG, by rw [e]; exact hD, fun _ _ _ => rfl⟩
theorem far0_good {L : List (List Int)} {n : Nat} {a : Int} (h0 : 0 ≤ a) (h : a < n) : Good L n a (far0 n a) := by
  have hl : a.toNat < (List.replicate n (-1 : Int)).length := by simp; omega
  have hg : ∀ w : Int, 0 ≤ w → w < n → (far0 n a).1.getD w.toNat 0 = if w = a then 0 else -1 := by
    intro w h1 h2
    simp only [far0]
    rw [getD_set hl]
    by_cases e : w = a
    · subst e; rw [if_pos rfl, if_pos rfl]
    · rw [if_neg (by omega), if_neg e, getD_at (by simp; omega)]; simp
  refine ⟨fun w h1 h2 => ?_, fun w hw => ?_, fun w h1 h2 h3 => ?_, fun w h1 h2 h3 => ?_⟩
  · rw [hg w h1 h2]
    by_cases e : w = a
    · rw [if_pos e]; simp [far0, e]
    · rw [if_neg e]; simp [far0, e]
  · have : w = a := by simpa [far0] using hw
    rw [this]; exact .refl
  · rw [hg w h1 h2] at h3; split at h3 <;> omega
  · rw [hg w h1 h2] at h3
    by_cases e : w = a
    · exact e
    · rw [if_neg e] at h3; omega
theorem far_facts {L : List (List Int)} {n : Nat} (hL : Rds n L) {a : Int} (h0 : 0 ≤ a) (h : a < n) :
    (∀ v w : Int, 0 ≤ v → v < n → 0 ≤ (far L a).getD v.toNat 0 → w ∈ L.getD v.toNat [] → 0 ≤ (far L a).getD w.toNat 0) ∧
    (∀ w : Int, 0 ≤ w → w < n → (0 ≤ (far L a).getD w.toNat 0 ↔ Rch L a w)) ∧
    (∀ w : Int, 0 ≤ w → w < n → 0 < (far L a).getD w.toNat 0 → ∃ v : Int, 0 ≤ v ∧ v < n ∧ 0 ≤ (far L a).getD v.toNat 0 ∧ w ∈ L.getD v.toNat [] ∧ (far L a).getD w.toNat 0 = (far L a).getD v.toNat 0 + 1) ∧
    (∀ w : Int, 0 ≤ w → w < n → (far L a).getD w.toNat 0 = 0 → w = a) ∧ (far L a).getD a.toNat 0 = 0 := by
  have hl := hL.1
  have hB0 := far0_bf (n := n) h0 h
  have hB := bfs_bf hL n 0 _ hB0
  obtain ⟨⟨g1, g2, g3, g4⟩, gD, gs⟩ := bfs_good (a := a) hL n 0 (far0 n a) hB0 (far0_good h0 h) (Nat.zero_le _) (by omega) (fun i hi => by omega)
  have e : far L a = (bfs L n 0 (far0 n a)).1 := by simp only [far, hl]
  rw [e]
  have cl : ∀ v w : Int, 0 ≤ v → v < n → 0 ≤ (bfs L n 0 (far0 n a)).1.getD v.toNat 0 → w ∈ L.getD v.toNat [] → 0 ≤ (bfs L n 0 (far0 n a)).1.getD w.toNat 0 := by
    intro v w hv hv' hp hw
    obtain ⟨i, hi, ei⟩ := List.getElem_of_mem ((g1 v hv hv').1 hp)
    exact gD i hi w (by rw [getD_at hi, ei]; exact hw)
  have hz : (bfs L n 0 (far0 n a)).1.getD a.toNat 0 = 0 := by
    have hl : a.toNat < (List.replicate n (-1 : Int)).length := by simp; omega
    have e0 : (far0 n a).1.getD a.toNat 0 = 0 := by simp only [far0]; rw [getD_set hl, if_pos rfl]
    rw [gs a h0 (by omega), e0]
  refine ⟨cl, fun w h1 h2 => ⟨fun hp => g2 w ((g1 w h1 h2).1 hp), fun hr => ?_⟩, fun w h1 h2 hp => ?_, g4, hz⟩
  · suffices hh : ∀ w, Rch L a w → 0 ≤ w ∧ w < n ∧ 0 ≤ (bfs L n 0 (far0 n a)).1.getD w.toNat 0 from (hh w hr).2.2
    intro w hr
    induction hr with
    | refl => exact ⟨h0, h, by omega⟩
    | step v w _ hin ih =>
      have hw := (hL.2 v.toNat (by omega)).2 w hin
      exact ⟨hw.1, hw.2, cl v w ih.1 ih.2.1 ih.2.2 hin⟩
  · obtain ⟨v, v1, v2, v3⟩ := g3 w h1 h2 hp
    have := hB.2.1 v v1
    exact ⟨v, this.1, this.2.1, this.2.2, v2, v3⟩
theorem nbr_symm {S : List (Int × Int)} {n : Nat} (h : StepsOk S n) {i j : Nat} : (i : Int) ∈ nbr S j ↔ (j : Int) ∈ nbr S i := by
  simp only [nbr, inc, outg, List.mem_append, List.mem_map, List.mem_filter, decide_eq_true_eq]
  constructor
  · rintro (⟨e, ⟨h1, h2⟩, h3⟩ | ⟨e, ⟨h1, h2⟩, h3⟩)
    · exact .inr ⟨e, ⟨h1, h3⟩, h2⟩
    · exact .inl ⟨e, ⟨h1, h3⟩, h2⟩
  · rintro (⟨e, ⟨h1, h2⟩, h3⟩ | ⟨e, ⟨h1, h2⟩, h3⟩)
    · exact .inr ⟨e, ⟨h1, h3⟩, h2⟩
    · exact .inl ⟨e, ⟨h1, h3⟩, h2⟩
def Symm (L : List (List Int)) : Prop := ∀ v w : Int, 0 ≤ v → 0 ≤ w → v < L.length → w < L.length → v ∈ L.getD w.toNat [] → w ∈ L.getD v.toNat []
theorem lists_symm {S : List (Int × Int)} {n : Nat} (h : StepsOk S n) : Symm (listsP S n) := by
  intro v w h1 h2 h3 h4 hm
  have hl : (listsP S n).length = n := rows_len
  rw [hl] at h3 h4
  rw [show (listsP S n).getD w.toNat [] = nbr S w.toNat from rows_get (by omega) _] at hm
  rw [show (listsP S n).getD v.toNat [] = nbr S v.toNat from rows_get (by omega) _]
  have := (nbr_symm h (i := v.toNat) (j := w.toNat)).1 (by rw [Int.toNat_of_nonneg h1]; exact hm)
  rwa [Int.toNat_of_nonneg h2] at this
theorem Rch.trans {L : List (List Int)} {a b c : Int} (h1 : Rch L a b) (h2 : Rch L b c) : Rch L a c := by
  induction h2 with
  | refl => exact h1
  | step v w _ hin ih => exact .step v w ih hin
theorem Rch.range {L : List (List Int)} {n : Nat} (hL : Rds n L) {a b : Int} (h0 : 0 ≤ a ∧ a < n) (h : Rch L a b) : 0 ≤ b ∧ b < n := by
  induction h with
  | refl => exact h0
  | step v w _ hin ih => exact (hL.2 v.toNat (by omega)).2 w hin
theorem Rch.symm {L : List (List Int)} {n : Nat} (hL : Rds n L) (hs : Symm L) {a b : Int} (h0 : 0 ≤ a ∧ a < n) (h : Rch L a b) : Rch L b a := by
  have hl := hL.1
  induction h with
  | refl => exact .refl
  | step v w hr hin ih =>
    have hv := hr.range hL h0
    have hw := (hL.2 v.toNat (by omega)).2 w hin
    exact Rch.trans (.step w v .refl (hs w v hw.1 hv.1 (by omega) (by omega) hin)) ih

theorem fn78_B0_at (t0 : List (List (Int))) (t5 : List (List (Int))) (t6 : List (Bool)) (t8 : List (Int)) (t9 : Int) (t22 : Int) (t23 : Int) (t47 : List (Int)) (t48 : Int) (t49 : Int) : fn78_B0 ((t0, t5, t6, t8, t9, t22, t23, t47, t48, t49, ()), ()) = bif (decide (t49 < t48)) then (guardB (inb t49 (List.length t47)) (guardB (inb (List.getD t47 (Int.toNat t49) (0 : Int)) (List.length t6)) (bif (!(List.getD t6 (Int.toNat (List.getD t47 (Int.toNat t49) (0 : Int))) false)) then (guardB (inb (List.getD t47 (Int.toNat t49) (0 : Int)) (List.length t6)) (guardB (decide ((List.length t8 + List.length [(List.getD t47 (Int.toNat t49) (0 : Int))]) * 8 ≤ 70368744177664)) (some (.inl ((t0, t5, (List.set t6 (Int.toNat (List.getD t47 (Int.toNat t49) (0 : Int))) true), (t8 ++ [(List.getD t47 (Int.toNat t49) (0 : Int))]), t9, t22, t23, t47, t48, (w64 (t49 + (1 : Int))), ()), ()))))) else (some (.inl ((t0, t5, t6, t8, t9, t22, t23, t47, t48, (w64 (t49 + (1 : Int))), ()), ())))))) else (some (.inr ((t0, t5, t6, t8, t9, t22, t23, ()), ()))) := rfl
theorem fn78_B1_at (t0 : List (List (Int))) (t5 : List (List (Int))) (t6 : List (Bool)) (t8 : List (Int)) (t9 : Int) (t22 : Int) (t23 : Int) : fn78_B1 ((t0, t5, t6, t8, t9, t22, t23, ()), ()) = bif (decide (t9 < (List.length t8 : Int))) then (guardB (inb t9 (List.length t8)) (guardB (inb (List.getD t8 (Int.toNat t9) (0 : Int)) (List.length t0)) (match loopO fn78_B0 ((t0, t5, t6, t8, t9, t22, t23, (List.getD t0 (Int.toNat (List.getD t8 (Int.toNat t9) (0 : Int))) ([] : (List Int))), (List.length (List.getD t0 (Int.toNat (List.getD t8 (Int.toNat t9) (0 : Int))) ([] : (List Int))) : Int), (0 : Int), ()), ()) with | some ((t0_2, t5_2, t6_2, t8_2, t9_2, t22_2, t23_2, ()), ()) => some (.inl ((t0_2, t5_2, t6_2, t8_2, (w64 (t9_2 + (1 : Int))), t22_2, t23_2, ()), ())) | none => none))) else (some (.inr ((t0, t5, t6, t8, t22, t23, ()), ()))) := rfl
theorem fn78_B2_at (t0 : List (List (Int))) (t5 : List (List (Int))) (t6 : List (Bool)) (t22 : Int) (t23 : Int) : fn78_B2 ((t0, t5, t6, t22, t23, ()), ()) = bif (decide (t23 < t22)) then (guardB (inb t23 (List.length t6)) (bif (List.getD t6 (Int.toNat t23) false) then (some (.inl ((t0, t5, t6, t22, (w64 (t23 + (1 : Int))), ()), ()))) else (guardB (inb t23 (List.length t6)) (match loopO fn78_B1 ((t0, t5, (List.set t6 (Int.toNat t23) true), [t23], (0 : Int), t22, t23, ()), ()) with | some ((t0_2, t5_2, t6_2, t8, t22_2, t23_2, ()), ()) => (match slices_Sort_int_int () (t8, ()) with | some ((), (o, ())) => guardB (decide ((List.length t5_2 + List.length [o]) * 24 ≤ 70368744177664)) (some (.inl ((t0_2, (t5_2 ++ [o]), t6_2, t22_2, (w64 (t23_2 + (1 : Int))), ()), ()))) | none => none) | none => none)))) else (some (.inr ((t5, ()), ()))) := rfl
theorem fn78_D0_at (t0 : List (List (Int))) (t1 : Int) (t14 : Int) : fn78_D0 ((t0, t1, t14, ()), ()) = guardB (decide (0 ≤ t14) && decide (t14 ≤ t14) && decide (t14 * 1 ≤ 140737488355328)) (some ((t0, t1, ([] : (List (List Int))), (List.replicate (Int.toNat t14) false), ()), ())) := rfl
def msk (n : Nat) (old : List Bool) (d : List Int) : List Bool := rows n fun j => old.getD j false || decide (0 ≤ d.getD j 0)
theorem msk_len {n : Nat} {old : List Bool} {d : List Int} : (msk n old d).length = n := rows_len
theorem msk_get {n j : Nat} {old : List Bool} {d : List Int} (h : j < n) : (msk n old d).getD j false = (old.getD j false || decide (0 ≤ d.getD j 0)) := rows_get h _
theorem getB_at {l : List Bool} {i : Nat} (h : i < l.length) : l.getD i false = l[i] := by simp [List.getD, h]
/-- closed under steps -/
def Clo (n : Nat) (L : List (List Int)) (old : List Bool) : Prop := ∀ v w : Int, 0 ≤ v → v < n → 0 ≤ w → w < n → w ∈ L.getD v.toNat [] → old.getD v.toNat false = false → old.getD w.toNat false = false
def count (n : Nat) (L : List (List Int)) : Nat → Nat → List Bool → Nat → Nat
  | 0, _, _, c => c
  | d + 1, i, old, c => if old.getD i false = true then count n L d (i + 1) old c else count n L d (i + 1) (msk n old (far L (i : Int))) (c + 1)
theorem clo_msk {n : Nat} {L : List (List Int)} (hL : Rds n L) (hs : Symm L) {old : List Bool} (h : Clo n L old) {a : Int} (h0 : 0 ≤ a) (ha : a < n) : Clo n L (msk n old (far L a)) := by
  have hl := hL.1
  intro v w hv hv' hw hw' hin hf
  obtain ⟨f1, _⟩ := far_facts hL h0 ha
  rw [msk_get (by omega)] at hf ⊢
  simp only [Bool.or_eq_false_iff, decide_eq_false_iff_not] at hf ⊢
  refine ⟨h v w hv hv' hw hw' hin hf.1, fun e => hf.2 ?_⟩
  exact f1 w v hw hw' e (hs w v hw hv (by omega) (by omega) hin)
/-- the program's -/
theorem parts_row (L out : List (List Int)) {n k : Nat} {old : List Bool} {s : List Int × List Int} {row : List Int} (t22 t23 : Int) (hB : Bf n s) (hk : k < s.2.length) (hr : ∀ w ∈ row, 0 ≤ w ∧ w < n) (hn : n ≤ 1048576) (hl : row.length ≤ 1048576) (hold : ∀ w ∈ row, old.getD w.toNat false = false) :
    loopO fn78_B0 ((L, out, msk n old s.1, s.2, (k : Int), t22, t23, row, (row.length : Int), 0, ()), ()) = some ((L, out, msk n old (vis (s.2.getD k 0) row s).1, (vis (s.2.getD k 0) row s).2, (k : Int), t22, t23, ()), ()) := by
  have key := loop_count (B := fn78_B0) (fun i => ((L, out, msk n old (vis (s.2.getD k 0) (row.take i) s).1, (vis (s.2.getD k 0) (row.take i) s).2, (k : Int), t22, t23, row, (row.length : Int), (i : Int), ()), ())) row.length ((L, out, msk n old (vis (s.2.getD k 0) row s).1, (vis (s.2.getD k 0) row s).2, (k : Int), t22, t23, ()), ()) ?_ ?_ 0 (Nat.zero_le _)
  · simpa [vis] using key
  · intro i hi
    obtain ⟨hB', t, ht⟩ := vis_bf (row.take i) hB (getD_in hk) (fun w hw => hr w (List.mem_of_mem_take hw))
    have hvin : s.2.getD k 0 ∈ (vis (s.2.getD k 0) (row.take i) s).2 := by rw [ht]; exact List.mem_append_left _ (getD_in hk)
    have hv0 := (hB'.2.1 _ hvin).2.2
    have hw := hr _ (getD_in hi)
    have hwo := hold _ (getD_in hi)
    obtain ⟨s', hs'⟩ : ∃ s', vis (s.2.getD k 0) (row.take i) s = s' := ⟨_, rfl⟩
    simp only [vis_snoc hi, hs'] at *
    obtain ⟨v, hve⟩ : ∃ v, s.2.getD k 0 = v := ⟨_, rfl⟩
    obtain ⟨w, hwe⟩ : ∃ w, row.getD i 0 = w := ⟨_, rfl⟩
    have few := hB'.few
    have hlen := hB'.1
    have hml : (msk n old s'.1).length = n := msk_len
    have hg := msk_get (n := n) (old := old) (d := s'.1) (show w.toNat < n by rw [hwe] at hw; omega)
    rw [fn78_B0_at]
    simp only [bif_decide, Int.toNat_natCast, vis1, hve, hwe] at *
    rw [hwo, Bool.false_or] at hg
    rw [if_pos (by omega), guardB_true (by simp [inb] <;> omega), guardB_true (inb_true hw.1 (by omega)), hg]
    by_cases hd : s'.1.getD w.toNat 0 < 0
    · have e : (msk n old s'.1).set w.toNat true = msk n old (s'.1.set w.toNat (s'.1.getD v.toNat 0 + 1)) := by
        unfold msk
        rw [rows_set]
        refine rows_congr fun j hj => ?_
        rw [getD_set (by omega)]
        by_cases e : j = w.toNat
        · subst e; rw [if_pos rfl, if_pos rfl, decide_eq_true (by omega), Bool.or_true]
        · rw [if_neg e, if_neg (fun h => e h.symm)]
      rw [if_pos hd, decide_eq_false (by omega)]
      simp only [Bool.not_false, cond_true]
      rw [guardB_true (inb_true hw.1 (by omega)), guardB_true (by simp only [List.length_singleton, decide_eq_true_eq]; omega), e, w64_succ (by omega)]
    · rw [if_neg hd, decide_eq_true (by omega)]
      simp only [Bool.not_true, cond_false]
      rw [w64_succ (by omega)]
  · rw [fn78_B0_at]; simp
theorem parts_out {L : List (List Int)} {n : Nat} (hL : Rds n L) (hn : n ≤ 1048576) {old : List Bool} (hC : Clo n L old) (out : List (List Int)) (t22 t23 : Int) : ∀ (f k : Nat) (s : List Int × List Int), Bf n s → (∀ v ∈ s.2, old.getD v.toNat false = false) → k ≤ s.2.length → n - k ≤ f →
    loopO fn78_B1 ((L, out, msk n old s.1, s.2, (k : Int), t22, t23, ()), ()) = some ((L, out, msk n old (bfs L f k s).1, (bfs L f k s).2, t22, t23, ()), ()) := by
  have hL1 := hL.1
  intro f
  induction f with
  | zero =>
    intro k s hB hO hk hf
    have := hB.few
    refine loop_end ?_
    rw [fn78_B1_at]
    simp only [bif_decide, bfs]
    rw [if_neg (by omega)]
  | succ f ih =>
    intro k s hB hO hk hf
    have few := hB.few
    unfold bfs
    split
    · rename_i hk'
      obtain ⟨h1, h2⟩ := bfs_step hL hB hk'
      have hvn := hB.2.1 _ (getD_in hk')
      have hrow := hL.2 (s.2.getD k 0).toNat (by omega)
      have hro : ∀ w ∈ L.getD (s.2.getD k 0).toNat [], old.getD w.toNat false = false := fun w hw => by
        have hw' := hrow.2 w hw
        exact hC _ w hvn.1 hvn.2.1 hw'.1 hw'.2 hw (hO _ (getD_in hk'))
      have key := parts_row L out (old := old) t22 t23 hB hk' hrow.2 hn hrow.1 hro
      have hO2 : ∀ v ∈ (vis (s.2.getD k 0) (L.getD (s.2.getD k 0).toNat []) s).2, old.getD v.toNat false = false := by
        have gen : ∀ (row : List Int) (s : List Int × List Int) (x : Int), (∀ v ∈ s.2, old.getD v.toNat false = false) → (∀ w ∈ row, old.getD w.toNat false = false) → ∀ v ∈ (vis x row s).2, old.getD v.toNat false = false := by
          intro row
          induction row with
          | nil => intro s x h _ v hv; exact h v hv
          | cons w row ih =>
            intro s x h hr v hv
            refine ih (vis1 x s w) x (fun u hu => ?_) (fun u hu => hr u (by simp [hu])) v hv
            unfold vis1 at hu
            split at hu
            · rcases List.mem_append.1 hu with hu | hu
              · exact h u hu
              · have : u = w := by simpa using hu
                rw [this]; exact hr w (by simp)
            · exact h u hu
        exact gen _ s _ hO hro
      refine loop_step ?_ (ih (k + 1) _ h1 hO2 h2 (by omega))
      rw [fn78_B1_at]
      simp only [bif_decide, Int.toNat_natCast]
      rw [if_pos (by omega), guardB_true (by simp [inb] <;> omega), guardB_true (inb_true hvn.1 (by omega))]
      erw [key]
      simp only [w64_succ (show k < 4611686018427387904 by omega)]
    · rename_i hk'
      refine loop_end ?_
      rw [fn78_B1_at]
      simp only [bif_decide]
      rw [if_neg (by omega)]
theorem parts_impl {L : List (List Int)} {n : Nat} (hL : Rds n L) (hs : Symm L) (hn : n ≤ 1048576) : ∀ (d i : Nat) (old : List Bool) (out : List (List Int)), i + d = n → old.length = n → Clo n L old → out.length ≤ i → ∃ r : List (List Int), loopO fn78_B2 ((L, out, old, (n : Int), (i : Int), ()), ()) = some ((r, ()), ()) ∧ r.length = count n L d i old out.length := by
  have hl := hL.1
  intro d
  induction d with
  | zero =>
    intro i old out hi ho hC hout
    refine ⟨out, loop_end ?_, rfl⟩
    rw [fn78_B2_at]
    simp only [bif_decide]
    rw [if_neg (by omega)]
  | succ d ih =>
    intro i old out hi ho hC hout
    unfold count
    by_cases h : old.getD i false = true
    · rw [if_pos h]
      obtain ⟨r, r1, r2⟩ := ih (i + 1) old out (by omega) ho hC (by omega)
      refine ⟨r, loop_step ?_ r1, r2⟩
      rw [fn78_B2_at]
      simp only [bif_decide, Int.toNat_natCast, h, cond_true]
      rw [if_pos (by omega), guardB_true (by simp [inb] <;> omega), w64_succ (by omega)]
    · rw [if_neg h]
      have h' : old.getD i false = false := by simpa using h
      have hb := far0_bf (n := n) (a := (i : Int)) (by omega) (by omega)
      have e0 : old.set i true = msk n old (far0 n (i : Int)).1 := by
        apply List.ext_getElem
        · simp [msk, rows, ho]
        · intro j h1 h2
          have hj : j < n := by simpa [msk, rows] using h2
          have e := msk_get (n := n) (old := old) (d := (far0 n (i : Int)).1) hj
          rw [getB_at (by rw [msk_len]; exact hj)] at e
          have eg : (far0 n (i : Int)).1.getD j 0 = if i = j then 0 else -1 := by
            simp only [far0, Int.toNat_natCast]
            rw [getD_set (by simp; omega)]
            by_cases hij : i = j
            · rw [if_pos hij, if_pos hij]
            · rw [if_neg hij, if_neg hij, getD_at (by simpa using hj)]; simp
          rw [e, List.getElem_set]
          simp only [eg]
          by_cases hij : i = j
          · simp [hij]
          · rw [if_neg hij, getB_at (by omega)]
            simp [hij]
      have hO : ∀ v ∈ (far0 n (i : Int)).2, old.getD v.toNat false = false := fun v hv => by
        have : v = (i : Int) := by simpa [far0] using hv
        rw [this, Int.toNat_natCast]; exact h'
      have key := parts_out hL hn hC out (n : Int) (i : Int) n 0 (far0 n (i : Int)) hb hO (Nat.zero_le _) (by omega)
      have ef : far L (i : Int) = (bfs L n 0 (far0 n (i : Int))).1 := by simp only [far, hl]
      have hq := (bfs_bf hL n 0 _ hb).few
      obtain ⟨q, hqe⟩ : ∃ q, (bfs L n 0 (far0 n (i : Int))).2 = q := ⟨_, rfl⟩
      rw [← ef, hqe] at key
      rw [hqe] at hq
      obtain ⟨r, r1, r2⟩ := ih (i + 1) (msk n old (far L (i : Int))) (out ++ [q.mergeSort fun a b => decide (a ≤ b)]) (by omega) msk_len (clo_msk hL hs hC (by omega) (by omega)) (by simp; omega)
      refine ⟨r, loop_step ?_ r1, by rw [r2]; simp⟩
      rw [fn78_B2_at]
      simp only [bif_decide, Int.toNat_natCast, h', cond_false, e0]
      rw [if_pos (by omega), guardB_true (by simp [inb] <;> omega), guardB_true (by simp [inb] <;> omega)]
      erw [key]
      simp only [slices_Sort_int_int, sortFn]
      rw [guardB_true (show decide (List.length q < 4611686018427387904) = true by simp only [decide_eq_true_eq]; omega)]
      simp only
      rw [guardB_true (by simp only [List.length_singleton, decide_eq_true_eq]; omega), w64_succ (by omega)]
def partsN (x : List (List Int) × List (Int × Int)) : Nat := count x.1.length (listsP x.2 x.1.length) x.1.length 0 (List.replicate x.1.length false) 0
theorem parts_eq (x : List (List Int) × List (Int × Int)) (hS : StepsOk x.2 x.1.length) (hn : x.1.length ≤ 1048576) (hs : x.2.length ≤ 6000) : ∃ r : List (List Int), fn78 (listsP x.2 x.1.length, -1, ()) () = some ((r, ()), ()) ∧ r.length = partsN x := by
  have hL := rds_lists hS hs
  have hl := hL.1
  obtain ⟨r, r1, r2⟩ := parts_impl hL (lists_symm hS) hn x.1.length 0 (List.replicate x.1.length false) [] (by omega) (by simp) (fun v w _ _ _ h4 _ _ => by rw [getB_at (by simp; omega)]; simp) (by simp)
  refine ⟨r, ?_, r2⟩
  have d0 : fn78_D0 ((listsP x.2 x.1.length, -1, (x.1.length : Int), ()), ()) = some ((listsP x.2 x.1.length, -1, ([] : List (List Int)), List.replicate x.1.length false, ()), ()) := by
    rw [fn78_D0_at, guardB_true (by simp <;> omega), Int.toNat_natCast]
  simp only [fn78, hl]
  erw [d0]
  simp only [bif_decide]
  rw [if_neg (show ¬ (0 : Int) ≤ -1 by omega)]
  simp only [hl]
  erw [r1]

theorem ofInt_nat {a : Nat} (h : a < 18446744073709551616) : (BitVec.ofInt 64 (a : Int)).toNat = a := by
  have e : (BitVec.ofInt 64 (a : Int)) = BitVec.ofNat 64 a := by simp
  rw [e, BitVec.toNat_ofNat, Nat.mod_eq_of_lt (show a < 2 ^ 64 by omega)]
theorem wrapN {a : Nat} (h : a < 9223372036854775808) : IntKind.wrap .u64 (a : Int) = a ∧ IntKind.wrap .i64 (a : Int) = a := by
  constructor
  · simp only [IntKind.wrap, IntKind.bits, IntKind.signed]; simp; omega
  · simp only [IntKind.wrap, IntKind.bits, IntKind.signed]; simp; omega
theorem and_le' (a b : Nat) : a &&& b ≤ a := Nat.and_le_left
theorem and_bag {a b : Nat} (ha : a < 65536) (hb : b < 65536) : IntKind.wrap .u64 ((BitVec.ofInt 64 (a : Int) &&& BitVec.ofInt 64 (b : Int)).toNat : Int) = ((a &&& b : Nat) : Int) := by
  have := and_le' a b
  rw [BitVec.toNat_and, ofInt_nat (by omega), ofInt_nat (by omega), (wrapN (by omega)).1]
theorem or_bag {a b : Nat} (ha : a < 256) (hb : b < 256) : IntKind.wrap .u64 ((BitVec.ofInt 64 (a : Int) ||| BitVec.ofInt 64 (b : Int)).toNat : Int) = ((a ||| b : Nat) : Int) := by
  have : a ||| b < 2 ^ 8 := Nat.or_lt_two_pow (by omega) (by omega)
  rw [BitVec.toNat_or, ofInt_nat (by omega), ofInt_nat (by omega), (wrapN (by omega)).1]
theorem bit_bag {m x : Nat} (hm : m < 256) (hx : x < 64) : ((IntKind.wrap .u64 ((BitVec.ofInt 64 (Int.fdiv (m : Int) (2 ^ (min x 64))) &&& BitVec.ofInt 64 (1 : Int)).toNat : Int)) == (1 : Int)) = m.testBit x ∧ ((IntKind.wrap .i64 ((BitVec.ofInt 64 (Int.fdiv (m : Int) (2 ^ (min x 64))) &&& BitVec.ofInt 64 (1 : Int)).toNat : Int)) == (1 : Int)) = m.testBit x := by
  have e1 : Int.fdiv (m : Int) (2 ^ (min x 64)) = ((m / 2 ^ x : Nat) : Int) := by
    rw [Nat.min_eq_left (by omega), Int.fdiv_eq_ediv_of_nonneg _ (by exact Int.le_of_lt (Int.pow_pos (by decide)))]
    simp
  have h2 : m / 2 ^ x ≤ m := Nat.div_le_self _ _
  have e2 : ((BitVec.ofInt 64 ((m / 2 ^ x : Nat) : Int)) &&& BitVec.ofInt 64 (1 : Int)).toNat = m / 2 ^ x % 2 := by
    rw [BitVec.toNat_and, ofInt_nat (by omega), show (BitVec.ofInt 64 (1 : Int)).toNat = 1 by decide, Nat.and_one_is_mod]
  have e3 : m.testBit x = decide (m / 2 ^ x % 2 = 1) := Nat.testBit_eq_decide_div_mod_eq
  rw [e1, e2, e3, (wrapN (by omega)).1, (wrapN (by omega)).2]
  have h3 : m / 2 ^ x % 2 < 2 := Nat.mod_lt _ (by decide)
  generalize m / 2 ^ x % 2 = r at h3
  have : (((r : Nat) : Int) == (1 : Int)) = decide (r = 1) := by
    by_cases h : r = 1
    · subst h; rfl
    · rw [beq_ne (by omega), decide_eq_false h]
  exact ⟨this, this⟩
def clr (m x : Nat) : Nat := m &&& (255 - 2 ^ x)
theorem pow_bag : ∀ x : Nat, x < 8 → IntKind.wrap .u64 ((1 : Int) * 2 ^ (min x 64)) = ((2 ^ x : Nat) : Int) ∧ 2 ^ x < 256 := by decide +kernel
theorem all_bag : ∀ n : Nat, n < 9 → IntKind.wrap .u64 ((IntKind.wrap .u64 ((1 : Int) * 2 ^ (min n 64))) - (1 : Int)) = ((2 ^ n - 1 : Nat) : Int) ∧ w64 ((w64 ((1 : Int) * 2 ^ (min n 64))) - (1 : Int)) = ((2 ^ n - 1 : Nat) : Int) ∧ 2 ^ n - 1 < 256 := by decide +kernel
theorem clr_bag : ∀ m : Nat, m < 256 → ∀ x : Nat, x < 8 → IntKind.wrap .u64 ((BitVec.ofInt 64 (m : Int) &&& ~~~ BitVec.ofInt 64 (IntKind.wrap .u64 ((1 : Int) * 2 ^ (min x 64)))).toNat : Int) = ((clr m x : Nat) : Int) ∧ clr m x < 256 := by decide +kernel
theorem clr_test : ∀ m : Nat, m < 256 → ∀ x : Nat, x < 8 → ∀ y : Nat, y < 8 → (clr m x).testBit y = (m.testBit y && !decide (y = x)) := by decide +kernel

theorem fn72_B0_at (n : Int) (code : Int) (out : List (Int)) (x : Int) : fn72_B0 ((n, code, out, x, ()), ()) = bif (decide (x < n)) then (guardB (decide (0 ≤ x)) (bif ((IntKind.wrap .i64 (BitVec.ofInt 64 (Int.fdiv code (2 ^ (min (Int.toNat x) 64))) &&& BitVec.ofInt 64 (1 : Int)).toNat) == (1 : Int)) then (guardB (decide ((List.length out + List.length [x]) * 8 ≤ 70368744177664)) (some (.inl ((n, code, (out ++ [x]), (w64 (x + (1 : Int))), ()), ())))) else (some (.inl ((n, code, out, (w64 (x + (1 : Int))), ()), ()))))) else (some (.inr ((out, ()), ()))) := rfl
theorem fn44_B0_at (b : Int) (out : List (Int)) (t6 : Int) : fn44_B0 ((b, out, t6, ()), ()) = bif (decide (t6 < (8 : Int))) then (guardB (decide (0 ≤ t6)) (bif ((IntKind.wrap .u64 (BitVec.ofInt 64 (Int.fdiv b (2 ^ (min (Int.toNat t6) 64))) &&& BitVec.ofInt 64 (1 : Int)).toNat) == (1 : Int)) then (guardB (decide ((List.length out + List.length [t6]) * 8 ≤ 70368744177664)) (some (.inl ((b, (out ++ [t6]), (w64 (t6 + (1 : Int))), ()), ())))) else (some (.inl ((b, out, (w64 (t6 + (1 : Int))), ()), ()))))) else (some (.inr ((out, ()), ()))) := rfl
theorem fn41_B0_at (set : List (Int)) (x : Int) (out : List (Int)) (i : Int) : fn41_B0 ((set, x, out, i, ()), ()) = bif (decide (i < (List.length set : Int))) then (guardB (inb i (List.length set)) (bif ((List.getD set (Int.toNat i) (0 : Int)) != x) then (guardB (inb i (List.length set)) (guardB (decide ((List.length out + List.length [(List.getD set (Int.toNat i) (0 : Int))]) * 8 ≤ 70368744177664)) (some (.inl ((set, x, (out ++ [(List.getD set (Int.toNat i) (0 : Int))]), (w64 (i + (1 : Int))), ()), ()))))) else (some (.inl ((set, x, out, (w64 (i + (1 : Int))), ()), ()))))) else (some (.inr ((out, ()), ()))) := rfl
def lst (n m : Nat) : List Int := ((List.range n).filter fun i => m.testBit i).map fun (i : Nat) => (i : Int)
theorem lst_snoc (n m : Nat) : lst (n + 1) m = lst n m ++ (if m.testBit n then [(n : Int)] else []) := by
  unfold lst
  rw [List.range_succ, List.filter_append, List.map_append]
  cases h : m.testBit n
  · simp only [List.filter_cons, h, Bool.false_eq_true, if_false, List.filter_nil, List.map_nil]
  · simp only [List.filter_cons, h, if_true, List.filter_nil, List.map_cons, List.map_nil]
theorem lst_len (n m : Nat) : (lst n m).length ≤ n := by
  unfold lst; rw [List.length_map]; exact Nat.le_trans (List.length_filter_le _ _) (by simp)
theorem lst_mem {n m : Nat} {v : Int} : v ∈ lst n m ↔ ∃ k : Nat, k < n ∧ m.testBit k = true ∧ v = k := by
  simp only [lst, List.mem_map, List.mem_filter, List.mem_range]
  constructor
  · rintro ⟨k, ⟨h1, h2⟩, h3⟩; exact ⟨k, h1, h2, h3.symm⟩
  · rintro ⟨k, h1, h2, h3⟩; exact ⟨k, ⟨h1, h2⟩, h3.symm⟩
theorem lst_more {n m : Nat} (hm : m < 2 ^ n) : ∀ d, lst (n + d) m = lst n m
  | 0 => rfl
  | d + 1 => by
    rw [← Nat.add_assoc, lst_snoc, lst_more hm d]
    have : m.testBit (n + d) = false := Nat.testBit_lt_two_pow (Nat.lt_of_lt_of_le hm (Nat.pow_le_pow_right (by decide) (by omega)))
    rw [this]; simp
theorem Bits_eq (n m : Nat) (hn : n ≤ 8) (hm : m < 256) : fn72 ((n : Int), (m : Int), ()) () = some ((lst n m, ()), ()) := by
  have key := loop_count (B := fn72_B0) (fun i => (((n : Int), (m : Int), lst i m, (i : Int), ()), ())) n ((lst n m, ()), ()) (fun i hi => by
    have hl := lst_len i m
    rw [fn72_B0_at]
    simp only [bif_decide, Int.toNat_natCast, (bit_bag hm (show i < 64 by omega)).2, lst_snoc i m]
    rw [if_pos (by omega), guardB_true (by simp), w64_succ (by omega)]
    cases h : m.testBit i
    · simp
    · simp only [cond_true, if_true]
      rw [guardB_true (by simp only [List.length_singleton, decide_eq_true_eq]; omega)]) (by rw [fn72_B0_at]; simp) 0 (Nat.zero_le _)
  simp only [fn72]
  erw [key]
theorem bag_list_eq (m : Nat) (hm : m < 256) : fn44 ((m : Int), ()) () = some ((lst 8 m, ()), ()) := by
  have key := loop_count (B := fn44_B0) (fun i => (((m : Int), lst i m, (i : Int), ()), ())) 8 ((lst 8 m, ()), ()) (fun i hi => by
    have hl := lst_len i m
    rw [fn44_B0_at]
    simp only [bif_decide, Int.toNat_natCast, (bit_bag hm (show i < 64 by omega)).1, lst_snoc i m]
    rw [if_pos (by omega), guardB_true (by simp), w64_succ (by omega)]
    cases h : m.testBit i
    · simp
    · simp only [cond_true, if_true]
      rw [guardB_true (by simp only [List.length_singleton, decide_eq_true_eq]; omega)]) (by rw [fn44_B0_at]; simp) 0 (Nat.zero_le _)
  simp only [fn44]
  erw [key]
theorem take_oneG {l : List Int} {i : Nat} (h : i < l.length) : l.take (i + 1) = l.take i ++ [l.getD i 0] := by
  rw [getD_at h, List.take_succ_eq_append_getElem h]
theorem Without_eq (l : List Int) (x : Int) (hl : l.length ≤ 1048576) : fn41 (l, x, ()) () = some ((l.filter fun y => !decide (y = x), ()), ()) := by
  have key := loop_count (B := fn41_B0) (fun i => ((l, x, (l.take i).filter fun y => !decide (y = x), (i : Int), ()), ())) l.length ((l.filter fun y => !decide (y = x), ()), ()) (fun i hi => by
    have hle : ∀ p : Int → Bool, ((l.take i).filter p).length ≤ i := fun p => Nat.le_trans (List.length_filter_le _ _) (by simp; omega)
    rw [fn41_B0_at]
    simp only [bif_decide, Int.toNat_natCast, take_oneG hi, List.filter_append]
    rw [if_pos (by omega), guardB_true (by simp [inb] <;> omega), w64_succ (by omega)]
    by_cases h : l.getD i 0 = x
    · rw [bne_eq h]
      simp only [cond_false, List.filter_cons, h, decide_true, Bool.not_true, Bool.false_eq_true, if_false, List.filter_nil, List.append_nil]
    · rw [bne_ne h]
      simp only [cond_true, List.filter_cons, h, decide_false, Bool.not_false, if_true, List.filter_nil]
      rw [guardB_true (by simp [inb] <;> omega), guardB_true (by simp only [List.length_singleton, decide_eq_true_eq]; exact Nat.le_trans (Nat.mul_le_mul_right 8 (Nat.add_le_add_right (hle _) 1)) (by omega))]) (by rw [fn41_B0_at]; simp) 0 (Nat.zero_le _)
  simp only [fn41]
  erw [key]
theorem lst_clr {n m x : Nat} (hn : n ≤ 8) (hm : m < 256) (hx : x < 8) : (lst n m).filter (fun y => !decide (y = (x : Int))) = lst n (clr m x) := by
  have gen : ∀ k, k ≤ n → (lst k m).filter (fun y => !decide (y = (x : Int))) = lst k (clr m x) := by
    intro k
    induction k with
    | zero => intro _; simp [lst]
    | succ k ih =>
      intro hk
      rw [lst_snoc, lst_snoc, List.filter_append, ih (by omega), clr_test m hm x hx k (by omega)]
      congr 1
      cases h : m.testBit k
      · simp
      · by_cases e : k = x
        · subst e; simp
        · have : ¬ (k : Int) = (x : Int) := by omega
          simp [e, this]
  exact gen n (Nat.le_refl _)

theorem fn75_B0_at (a : Int) (b : Int) (g : (Int) × (List ((Int) × (Int)))) (i : Int) : fn75_B0 ((a, b, g, i, ()), ()) = bif (decide (i < (List.length g.2 : Int))) then (guardB (inb i (List.length g.2)) (bif (((List.getD g.2 (Int.toNat i) ((0 : Int), (0 : Int))).1) == a) then (bif (((List.getD g.2 (Int.toNat i) ((0 : Int), (0 : Int))).2) == b) then (some (.inr (.inl ((true, ()), ())))) else (bif (((List.getD g.2 (Int.toNat i) ((0 : Int), (0 : Int))).1) == b) then (bif (((List.getD g.2 (Int.toNat i) ((0 : Int), (0 : Int))).2) == a) then (some (.inr (.inl ((true, ()), ())))) else (some (.inl ((a, b, g, (w64 (i + (1 : Int))), ()), ())))) else (some (.inl ((a, b, g, (w64 (i + (1 : Int))), ()), ()))))) else (bif (((List.getD g.2 (Int.toNat i) ((0 : Int), (0 : Int))).1) == b) then (bif (((List.getD g.2 (Int.toNat i) ((0 : Int), (0 : Int))).2) == a) then (some (.inr (.inl ((true, ()), ())))) else (some (.inl ((a, b, g, (w64 (i + (1 : Int))), ()), ())))) else (some (.inl ((a, b, g, (w64 (i + (1 : Int))), ()), ())))))) else (some (.inr (.inr ((), ())))) := rfl
theorem fn11_B0_at (s : List ((Int) × (Int))) (v : (Int) × (Int)) (t7 : Int) (t8 : Int) : fn11_B0 ((s, v, t7, t8, ()), ()) = bif (decide (t8 < t7)) then (guardB (inb t8 (List.length s)) (bif ((v.1 == ((List.getD s (Int.toNat t8) ((0 : Int), (0 : Int))).1)) && (v.2 == ((List.getD s (Int.toNat t8) ((0 : Int), (0 : Int))).2))) then (some (.inr (.inl ((t8, ()), ())))) else (some (.inl ((s, v, t7, (w64 (t8 + (1 : Int))), ()), ()))))) else (some (.inr (.inr ((), ())))) := rfl
def hitB (e : Int × Int) (a b : Int) : Bool := (decide (e.1 = a) && decide (e.2 = b)) || (decide (e.1 = b) && decide (e.2 = a))
def nearB (S : List (Int × Int)) (a b : Int) : Bool := !allUpto (fun i => !hitB (S.getD i (0, 0)) a b) S.length
theorem nearB_iff {S : List (Int × Int)} {a b : Int} : nearB S a b = true ↔ (a, b) ∈ S ∨ (b, a) ∈ S := by
  have e : nearB S a b = true ↔ ∃ i, i < S.length ∧ hitB (S.getD i (0, 0)) a b = true := by
    simp only [nearB, Bool.not_eq_true', ← Bool.not_eq_true, allUpto_iff]
    constructor
    · intro h
      refine Classical.byContradiction fun g => h fun i hi => ?_
      cases hh : hitB (S.getD i (0, 0)) a b
      · simp
      · exact absurd ⟨i, hi, hh⟩ g
    · rintro ⟨i, hi, hh⟩ g
      have := g i hi
      rw [hh] at this; simp at this
  rw [e]
  simp only [hitB, Bool.or_eq_true, Bool.and_eq_true, decide_eq_true_eq]
  constructor
  · rintro ⟨i, hi, h⟩
    have hm := List.getElem_mem hi
    rw [getD_at hi] at h
    rcases h with ⟨h1, h2⟩ | ⟨h1, h2⟩
    · left; rw [← h1, ← h2]; exact hm
    · right; rw [← h1, ← h2]; exact hm
  · rintro (h | h)
    · obtain ⟨i, hi, he⟩ := List.getElem_of_mem h
      exact ⟨i, hi, .inl (by rw [getD_at hi, he]; exact ⟨rfl, rfl⟩)⟩
    · obtain ⟨i, hi, he⟩ := List.getElem_of_mem h
      exact ⟨i, hi, .inr (by rw [getD_at hi, he]; exact ⟨rfl, rfl⟩)⟩
theorem Near_eq (g : Int × List (Int × Int)) (a b : Int) (hl : g.2.length ≤ 1048576) : fn75 (g, a, b, ()) () = some ((nearB g.2 a b, ()), ()) := by
  have key := loop_all (B := fn75_B0) (fun i => ((a, b, g, (i : Int), ()), ())) (fun i => !hitB (g.2.getD i (0, 0)) a b) g.2.length (.inl ((true, ()), ())) (.inr ((), ())) (fun i hi _ => by
    rw [fn75_B0_at]
    simp only [bif_decide, Int.toNat_natCast, hitB]
    rw [if_pos (by omega), guardB_true (by simp [inb] <;> omega), w64_succ (by omega)]
    generalize g.2.getD i (0, 0) = e
    have bd : ∀ x y : Int, (x == y) = decide (x = y) := fun x y => by
      by_cases h : x = y
      · rw [beq_eq h, decide_eq_true h]
      · rw [beq_ne h, decide_eq_false h]
    simp only [bd]
    generalize decide (e.1 = a) = p1
    generalize decide (e.2 = b) = p2
    generalize decide (e.1 = b) = p3
    generalize decide (e.2 = a) = p4
    cases p1 <;> cases p2 <;> cases p3 <;> cases p4 <;> rfl) (by rw [fn75_B0_at]; simp)
  simp only [fn75]
  erw [key]
  simp only [nearB]
  cases allUpto (fun i => !hitB (g.2.getD i (0, 0)) a b) g.2.length <;> rfl
theorem Contains_eq (S : List (Int × Int)) (v : Int × Int) (hl : S.length ≤ 1048576) : fn8 (S, v, ()) () = some ((decide (v ∈ S), ()), ()) := by
  have one : ∀ e : Int × Int, ((v.1 == e.1) && (v.2 == e.2)) = decide (e = v) := fun e => by
    obtain ⟨a, b⟩ := e
    obtain ⟨c, d⟩ := v
    have bd : ∀ x y : Int, (x == y) = decide (y = x) := fun x y => by
      by_cases h : x = y
      · rw [beq_eq h, decide_eq_true h.symm]
      · rw [beq_ne h, decide_eq_false (fun e => h e.symm)]
    simp only [bd, Prod.mk.injEq, Bool.decide_and]
  have key : ∀ d k, k + d = S.length → ∃ q : Int, (loopO fn11_B0 ((S, v, (S.length : Int), (k : Int), ()), ()) = some (.inl ((q, ()), ())) ∧ 0 ≤ q ∧ v ∈ S) ∨ (loopO fn11_B0 ((S, v, (S.length : Int), (k : Int), ()), ()) = some (.inr ((), ())) ∧ v ∉ S.drop k) := by
    intro d
    induction d with
    | zero =>
      intro k hk
      refine ⟨0, .inr ⟨loop_end ?_, ?_⟩⟩
      · rw [fn11_B0_at]
        simp only [bif_decide]
        rw [if_neg (by omega)]
      · rw [List.drop_of_length_le (by omega)]; simp
    | succ d ih =>
      intro k hk
      have hkl : k < S.length := by omega
      have st : fn11_B0 ((S, v, (S.length : Int), (k : Int), ()), ()) = some (if S.getD k (0, 0) = v then .inr (.inl (((k : Int), ()), ())) else .inl ((S, v, (S.length : Int), ((k + 1 : Nat) : Int), ()), ())) := by
        rw [fn11_B0_at]
        simp only [bif_decide, Int.toNat_natCast, one]
        rw [if_pos (by omega), guardB_true (by simp [inb] <;> omega), w64_succ (by omega)]
        by_cases h : S.getD k (0, 0) = v
        · rw [if_pos h, if_pos h]
        · rw [if_neg h, if_neg h]
      by_cases h : S.getD k (0, 0) = v
      · rw [if_pos h] at st
        refine ⟨(k : Int), .inl ⟨loop_end st, by omega, ?_⟩⟩
        rw [← h, getD_at hkl]; exact List.getElem_mem hkl
      · rw [if_neg h] at st
        obtain ⟨q, ⟨q1, q2⟩ | ⟨q1, q2⟩⟩ := ih (k + 1) (by omega)
        · exact ⟨q, .inl ⟨loop_step st q1, q2⟩⟩
        · refine ⟨q, .inr ⟨loop_step st q1, ?_⟩⟩
          rw [List.drop_eq_getElem_cons hkl, List.mem_cons]
          rintro (e | e)
          · exact h (by rw [getD_at hkl]; exact e.symm)
          · exact q2 e
  obtain ⟨q, ⟨q1, q2, q3⟩ | ⟨q1, q2⟩⟩ := key S.length 0 (by omega)
  · simp only [fn8, fn11]
    erw [q1]
    simp only
    rw [decide_eq_true q2, decide_eq_true q3]
  · rw [List.drop_zero] at q2
    simp only [fn8, fn11]
    erw [q1]
    simp only
    rw [decide_eq_false (show ¬ (0 : Int) ≤ -1 by omega), decide_eq_false q2]

theorem fn20_B0_at (x : Int) (g : (Int) × (List ((Int) × (Int)))) (out : List (Int)) (t9 : Int) (t10 : Int) : fn20_B0 ((x, g, out, t9, t10, ()), ()) = bif (decide (t10 < t9)) then (bif (t10 != x) then (match fn36 (g, x, t10, ()) () with | some ((r, ()), ()) => (bif r then (guardB (decide ((List.length out + List.length [t10]) * 8 ≤ 70368744177664)) (some (.inl ((x, g, (out ++ [t10]), t9, (w64 (t10 + (1 : Int))), ()), ())))) else (some (.inl ((x, g, out, t9, (w64 (t10 + (1 : Int))), ()), ())))) | none => none) else (some (.inl ((x, g, out, t9, (w64 (t10 + (1 : Int))), ()), ())))) else (some (.inr ((out, ()), ()))) := rfl
theorem fn77_B0_at (out : Int) (t6 : List (Int)) (t7 : Int) (t8 : Int) : fn77_B0 ((out, t6, t7, t8, ()), ()) = bif (decide (t8 < t7)) then (guardB (inb t8 (List.length t6)) (guardB (decide (0 ≤ (List.getD t6 (Int.toNat t8) (0 : Int)))) (some (.inl (((IntKind.wrap .u64 (BitVec.ofInt 64 out ||| BitVec.ofInt 64 (IntKind.wrap .u64 ((1 : Int) * 2 ^ (min (Int.toNat (List.getD t6 (Int.toNat t8) (0 : Int))) 64)))).toNat), t6, t7, (w64 (t8 + (1 : Int))), ()), ()))))) else (some (.inr ((out, ()), ()))) := rfl
theorem has_eq (g : Int × List (Int × Int)) {n : Nat} (hp : pairsB g.2 n = true) (a b : Int) (hl : g.2.length ≤ 1048576) : fn36 (g, a, b, ()) () = some ((nearB g.2 a b, ()), ()) := by
  have hS := pairsB_ok hp
  have e : decide (((if b < a then b else a), (if a < b then b else a)) ∈ g.2) = nearB g.2 a b := by
    rw [Bool.eq_iff_iff, decide_eq_true_iff, nearB_iff]
    by_cases h1 : a < b
    · rw [if_neg (by omega), if_pos h1]
      exact ⟨.inl, fun h => h.elim id fun h => by have := steps_mem hS h; simp only at this; omega⟩
    · by_cases h2 : b < a
      · rw [if_pos h2, if_neg h1]
        exact ⟨.inr, fun h => h.elim (fun h => by have := steps_mem hS h; simp only at this; omega) id⟩
      · rw [if_neg h2, if_neg h1]
        have : a = b := by omega
        subst this
        exact ⟨.inl, fun h => h.elim id id⟩
  simp only [fn36, impl_pair, bif_decide, Contains_eq g.2 _ hl]
  simp only [e]
def nbB (S : List (Int × Int)) (x : Nat) (y : Nat) : Bool := !decide (y = x) && nearB S (x : Int) (y : Int)
def nbs (S : List (Int × Int)) (n x : Nat) : List Int := ((List.range n).filter fun y => nbB S x y).map fun (i : Nat) => (i : Int)
theorem nbs_snoc (S : List (Int × Int)) (n x : Nat) : nbs S (n + 1) x = nbs S n x ++ (if nbB S x n then [(n : Int)] else []) := by
  unfold nbs
  rw [List.range_succ, List.filter_append, List.map_append]
  cases h : nbB S x n
  · simp only [List.filter_cons, h, Bool.false_eq_true, if_false, List.filter_nil, List.map_nil]
  · simp only [List.filter_cons, h, if_true, List.filter_nil, List.map_cons, List.map_nil]
theorem nbs_len (S : List (Int × Int)) (n x : Nat) : (nbs S n x).length ≤ n := by
  unfold nbs; rw [List.length_map]; exact Nat.le_trans (List.length_filter_le _ _) (by simp)
theorem nbs_mem {S : List (Int × Int)} {n x : Nat} {y : Nat} : (y : Int) ∈ nbs S n x ↔ y < n ∧ nbB S x y = true := by
  simp only [nbs, List.mem_map, List.mem_filter, List.mem_range]
  constructor
  · rintro ⟨k, ⟨h1, h2⟩, h3⟩
    have : k = y := by omega
    subst this; exact ⟨h1, h2⟩
  · rintro ⟨h1, h2⟩; exact ⟨y, ⟨h1, h2⟩, rfl⟩
theorem neighbors_eq (g : Int × List (Int × Int)) {n : Nat} (hg : g.1 = n) (hn : n ≤ 8) (hp : pairsB g.2 n = true) (x : Nat) (hl : g.2.length ≤ 1048576) : fn20 (g, (x : Int), ()) () = some ((nbs g.2 n x, ()), ()) := by
  have key := loop_count (B := fn20_B0) (fun i => (((x : Int), g, nbs g.2 i x, (n : Int), (i : Int), ()), ())) n ((nbs g.2 n x, ()), ()) (fun i hi => by
    have hle := nbs_len g.2 i x
    rw [fn20_B0_at]
    simp only [bif_decide, has_eq g hp _ _ hl, nbs_snoc]
    rw [if_pos (by omega), w64_succ (by omega)]
    by_cases h : i = x
    · have hb : nbB g.2 x i = false := by simp [nbB, h]
      rw [bne_eq (show (i : Int) = (x : Int) by omega)]
      simp only [hb, cond_false, Bool.false_eq_true, if_false, List.append_nil]
    · rw [bne_ne (show ¬ (i : Int) = (x : Int) by omega)]
      cases h2 : nearB g.2 (x : Int) (i : Int)
      · have hb : nbB g.2 x i = false := by simp [nbB, h2]
        simp only [hb, cond_true, cond_false, Bool.false_eq_true, if_false, List.append_nil]
      · have hb : nbB g.2 x i = true := by simp [nbB, h, h2]
        simp only [hb, cond_true, if_true]
        rw [guardB_true (by simp only [List.length_singleton, decide_eq_true_eq]; omega)]) (by rw [fn20_B0_at]; simp) 0 (Nat.zero_le _)
  simp only [fn20, hg]
  erw [key]
def bagN (l : List Int) : Nat := l.foldl (fun m v => m ||| 2 ^ v.toNat) 0
theorem bagN_snoc (l : List Int) (v : Int) : bagN (l ++ [v]) = bagN l ||| 2 ^ v.toNat := by simp [bagN, List.foldl_append]
theorem bagN_lt : ∀ (n : Nat) (l : List Int), l.length = n → (∀ v ∈ l, 0 ≤ v ∧ v < 8) → bagN l < 256 ∧ ∀ y : Nat, (bagN l).testBit y = decide ((y : Int) ∈ l) := by
  intro n
  induction n with
  | zero =>
    intro l hl _
    have := List.eq_nil_of_length_eq_zero hl
    subst this
    exact ⟨by decide, fun y => by simp [bagN]⟩
  | succ n ih =>
    intro l hl h
    have hne : l ≠ [] := fun e => by rw [e] at hl; simp at hl
    have e := List.dropLast_concat_getLast hne
    obtain ⟨a1, a2⟩ := ih l.dropLast (by simp [hl]) (fun v hv => h v (List.dropLast_subset _ hv))
    have hv := h _ (List.getLast_mem hne)
    obtain ⟨d, hd⟩ : ∃ d, l.dropLast = d := ⟨_, rfl⟩
    obtain ⟨v, hve⟩ : ∃ v, l.getLast hne = v := ⟨_, rfl⟩
    rw [hd, hve] at e
    rw [hd] at a1 a2
    rw [hve] at hv
    rw [← e, bagN_snoc]
    have hpw : 2 ^ v.toNat < 2 ^ 8 := Nat.pow_lt_pow_right (by decide) (by omega)
    refine ⟨Nat.or_lt_two_pow (n := 8) (by omega) hpw, fun y => ?_⟩
    rw [Nat.testBit_or, a2, Nat.testBit_two_pow]
    rw [Bool.eq_iff_iff]
    simp only [Bool.or_eq_true, decide_eq_true_eq, List.mem_append, List.mem_singleton]
    constructor
    · rintro (h | h)
      · exact .inl h
      · exact .inr (by omega)
    · rintro (h | h)
      · exact .inl h
      · exact .inr (by omega)
theorem bagOf_eq (l : List Int) (h : ∀ v ∈ l, 0 ≤ v ∧ v < 8) (hl : l.length ≤ 1048576) : fn77 (l, ()) () = some ((((bagN l : Nat) : Int), ()), ()) := by
  have key := loop_count (B := fn77_B0) (fun i => ((((bagN (l.take i) : Nat) : Int), l, (l.length : Int), (i : Int), ()), ())) l.length ((((bagN l : Nat) : Int), ()), ()) ?_ ?_ 0 (Nat.zero_le _)
  · simp only [fn77]
    erw [key]
  · intro i hi
    have hv : 0 ≤ l.getD i 0 ∧ l.getD i 0 < 8 := by rw [getD_at hi]; exact h _ (List.getElem_mem hi)
    have hb := (bagN_lt _ (l.take i) rfl (fun v hv => h v (List.mem_of_mem_take hv))).1
    have hw := pow_bag (l.getD i 0).toNat (by omega)
    rw [fn77_B0_at]
    simp only [bif_decide, Int.toNat_natCast, take_oneG hi, bagN_snoc]
    rw [if_pos (by omega), guardB_true (by simp [inb] <;> omega), guardB_true (by simp only [decide_eq_true_eq]; exact hv.1), hw.1, or_bag hb hw.2, w64_succ (by omega)]
  · rw [fn77_B0_at]; simp

def CovP (S : List (Int × Int)) (n m x y : Nat) : Prop := (nbB S x y = true ∧ m.testBit y = true) ∧ ∀ z, z < n → m.testBit z = true → nbB S x z = true → z = y ∨ nbB S y z = true
theorem and_same {a s : Nat} : a &&& s = s ↔ ∀ z : Nat, s.testBit z = true → a.testBit z = true := by
  constructor
  · intro h z hz
    have := congrArg (fun t : Nat => t.testBit z) h
    simp only [Nat.testBit_and, hz, Bool.and_true] at this
    exact this
  · intro h
    refine Nat.eq_of_testBit_eq fun z => ?_
    rw [Nat.testBit_and]
    cases hz : s.testBit z
    · simp
    · rw [h z hz]; rfl
open Classical in
theorem covers_impl (g : Int × List (Int × Int)) {n : Nat} (hg : g.1 = n) (hn : n ≤ 8) (hp : pairsB g.2 n = true) (hl : g.2.length ≤ 1048576) {m x y : Nat} (hm : m < 256) (hx : x < n) (hy : y < n) :
    fn26 (g, (m : Int), (x : Int), (y : Int), ()) () = some ((decide (CovP g.2 n m x y), ()), ()) := by
  have rng : ∀ x, ∀ v ∈ nbs g.2 n x, 0 ≤ v ∧ v < 8 := fun x v hv => by
    simp only [nbs, List.mem_map, List.mem_filter, List.mem_range] at hv
    obtain ⟨k, ⟨h1, _⟩, rfl⟩ := hv
    omega
  have bl : ∀ x, (nbs g.2 n x).length ≤ 1048576 := fun x => by have := nbs_len g.2 n x; omega
  obtain ⟨bx, tx⟩ := bagN_lt _ (nbs g.2 n x) rfl (rng x)
  obtain ⟨by_, ty⟩ := bagN_lt _ (nbs g.2 n y) rfl (rng y)
  have hbit := pow_bag y (by omega)
  obtain ⟨A, hA⟩ : ∃ A, bagN (nbs g.2 n x) = A := ⟨_, rfl⟩
  obtain ⟨B, hB⟩ : ∃ B, bagN (nbs g.2 n y) = B := ⟨_, rfl⟩
  rw [hA] at bx tx
  rw [hB] at by_ ty
  have hs : A &&& m < 256 := Nat.lt_of_le_of_lt (and_le' A m) bx
  have hor : B ||| 2 ^ y < 256 := Nat.or_lt_two_pow (n := 8) (by omega) hbit.2
  have nx := neighbors_eq g hg hn hp x hl
  have ny := neighbors_eq g hg hn hp y hl
  have ox := bagOf_eq _ (rng x) (bl x)
  have oy := bagOf_eq _ (rng y) (bl y)
  rw [hA] at ox
  rw [hB] at oy
  have hand := and_bag (show A < 65536 by omega) (show m < 65536 by omega)
  have hhas : fn54 (((A &&& m : Nat) : Int), (y : Int), ()) () = some (((A &&& m).testBit y, ()), ()) := by
    simp only [fn54, Int.toNat_natCast, (bit_bag hs (show y < 64 by omega)).1]
    rw [guardB_true (by simp)]
  simp only [fn26, nx, ox, hand, hhas, ny, oy, hbit.1, Int.toNat_natCast, or_bag by_ hbit.2, and_bag (show B ||| 2 ^ y < 65536 by omega) (show A &&& m < 65536 by omega)]
  have t1 : (A &&& m).testBit y = (nbB g.2 x y && m.testBit y) := by
    rw [Nat.testBit_and, tx]
    congr 1
    rw [Bool.eq_iff_iff, decide_eq_true_iff, nbs_mem]
    exact ⟨fun h => h.2, fun h => ⟨hy, h⟩⟩
  cases hc : (A &&& m).testBit y
  · simp only [cond_false]
    rw [decide_eq_false]
    rintro ⟨⟨h1, h2⟩, _⟩
    rw [t1, h1, h2] at hc
    simp at hc
  · simp only [cond_true]
    rw [guardB_true (by simp)]
    rw [t1, Bool.and_eq_true] at hc
    have hiff : ((((B ||| 2 ^ y) &&& (A &&& m) : Nat) : Int) == ((A &&& m : Nat) : Int)) = decide (CovP g.2 n m x y) := by
      rw [Bool.eq_iff_iff, decide_eq_true_iff, beq_iff_eq, Int.ofNat_inj, and_same]
      constructor
      · intro h
        refine ⟨hc, fun z hz h1 h2 => ?_⟩
        have := h z (by rw [Nat.testBit_and, tx, h1, Bool.and_true, decide_eq_true_iff, nbs_mem]; exact ⟨hz, h2⟩)
        rw [Nat.testBit_or, ty, Nat.testBit_two_pow, Bool.or_eq_true, decide_eq_true_iff, decide_eq_true_iff, nbs_mem] at this
        rcases this with h | h
        · exact .inr h.2
        · exact .inl h.symm
      · rintro ⟨_, h⟩ z hz
        rw [Nat.testBit_and, tx, Bool.and_eq_true, decide_eq_true_iff, nbs_mem] at hz
        rw [Nat.testBit_or, ty, Nat.testBit_two_pow, Bool.or_eq_true, decide_eq_true_iff, decide_eq_true_iff, nbs_mem]
        rcases h z hz.1.1 hz.2 hz.1.2 with h | h
        · exact .inr h.symm
        · exact .inl ⟨hz.1.1, h⟩
    rw [hiff]

theorem fn40_B0_at (left : List (Int)) (x : Int) (y : Int) (h : (Int) × (List ((Int) × (Int)))) (i : Int) : fn40_B0 ((left, x, y, h, i, ()), ()) = bif (decide (i < (List.length left : Int))) then (guardB (inb i (List.length left)) (bif ((List.getD left (Int.toNat i) (0 : Int)) == x) then (bif ((List.getD left (Int.toNat i) (0 : Int)) != y) then (match fn75 (h, y, (List.getD left (Int.toNat i) (0 : Int)), ()) () with | some ((r, ()), ()) => (bif (!r) then (some (.inr (.inl ((false, ()), ())))) else (some (.inl ((left, x, y, h, (w64 (i + (1 : Int))), ()), ())))) | none => none) else (some (.inl ((left, x, y, h, (w64 (i + (1 : Int))), ()), ())))) else (match fn75 (h, x, (List.getD left (Int.toNat i) (0 : Int)), ()) () with | some ((r2, ()), ()) => (bif r2 then (bif ((List.getD left (Int.toNat i) (0 : Int)) != y) then (match fn75 (h, y, (List.getD left (Int.toNat i) (0 : Int)), ()) () with | some ((r3, ()), ()) => (bif (!r3) then (some (.inr (.inl ((false, ()), ())))) else (some (.inl ((left, x, y, h, (w64 (i + (1 : Int))), ()), ())))) | none => none) else (some (.inl ((left, x, y, h, (w64 (i + (1 : Int))), ()), ())))) else (some (.inl ((left, x, y, h, (w64 (i + (1 : Int))), ()), ())))) | none => none))) else (some (.inr (.inr ((), ())))) := rfl
theorem nearB_symm (S : List (Int × Int)) (a b : Int) : nearB S a b = nearB S b a := by
  rw [Bool.eq_iff_iff, nearB_iff, nearB_iff]
  exact ⟨fun h => h.elim .inr .inl, fun h => h.elim .inr .inl⟩
def covG (S : List (Int × Int)) (x y z : Int) : Bool := !((decide (z = x) || nearB S x z) && (!decide (z = y) && !nearB S y z))
open Classical in
theorem covers_spec (g : Int × List (Int × Int)) {n : Nat} (hn : n ≤ 8) (hl : g.2.length ≤ 1048576) {m x y : Nat} (hx : x < n) (hy : y < n) (bx : m.testBit x = true) (by_ : m.testBit y = true) (hxy : x ≠ y) :
    fn40 (g, lst n m, (x : Int), (y : Int), ()) () = some ((decide (CovP g.2 n m x y), ()), ()) := by
  have hll := lst_len n m
  have key := loop_all (B := fn40_B0) (fun i => ((lst n m, (x : Int), (y : Int), g, (i : Int), ()), ())) (fun i => covG g.2 (x : Int) (y : Int) ((lst n m).getD i 0)) (lst n m).length (.inl ((false, ()), ())) (.inr ((), ())) (fun i hi _ => by
    have bd : ∀ x y : Int, (x == y) = decide (x = y) := fun x y => by
      by_cases h : x = y
      · rw [beq_eq h, decide_eq_true h]
      · rw [beq_ne h, decide_eq_false h]
    have bn : ∀ x y : Int, (x != y) = !decide (x = y) := fun x y => by
      by_cases h : x = y
      · rw [bne_eq h, decide_eq_true h]; rfl
      · rw [bne_ne h, decide_eq_false h]; rfl
    rw [fn40_B0_at]
    rw [decide_eq_true (show (i : Int) < ((lst n m).length : Int) by omega)]
    simp only [cond_true, Int.toNat_natCast, Near_eq g _ _ hl, bd, bn, covG]
    rw [guardB_true (by simp [inb] <;> omega), w64_succ (by omega)]
    generalize (lst n m).getD i 0 = z
    generalize nearB g.2 (x : Int) z = p1
    generalize nearB g.2 (y : Int) z = p2
    generalize decide (z = (x : Int)) = p3
    generalize decide (z = (y : Int)) = p4
    cases p1 <;> cases p2 <;> cases p3 <;> cases p4 <;> rfl) (by rw [fn40_B0_at]; simp)
  simp only [fn40]
  erw [key]
  have e : allUpto (fun i => covG g.2 (x : Int) (y : Int) ((lst n m).getD i 0)) (lst n m).length = decide (CovP g.2 n m x y) := by
    rw [Bool.eq_iff_iff, allUpto_iff, decide_eq_true_iff]
    have all : (∀ i, i < (lst n m).length → covG g.2 (x : Int) (y : Int) ((lst n m).getD i 0) = true) ↔ ∀ z : Nat, z < n → m.testBit z = true → covG g.2 (x : Int) (y : Int) (z : Int) = true := by
      constructor
      · intro h z hz bz
        obtain ⟨i, hi, ei⟩ := List.getElem_of_mem (lst_mem.2 ⟨z, hz, bz, rfl⟩)
        have := h i hi
        rwa [getD_at hi, ei] at this
      · intro h i hi
        obtain ⟨k, h1, h2, h3⟩ := lst_mem.1 (List.getElem_mem hi)
        rw [getD_at hi, h3]
        exact h k h1 h2
    rw [all]
    have ci : ∀ a b : Nat, decide ((a : Int) = (b : Int)) = decide (a = b) := fun a b => by rw [decide_eq_decide]; omega
    simp only [covG, ci, CovP, nbB, by_, and_true]
    constructor
    · intro h
      have hx' := h x hx bx
      have : nearB g.2 (y : Int) (x : Int) = true := by simpa [hxy] using hx'
      refine ⟨by rw [nearB_symm, this]; simp; exact fun e => hxy e.symm, fun z hz bz hn => ?_⟩
      have hz' := h z hz bz
      simp only [Bool.and_eq_true, Bool.not_eq_true', decide_eq_false_iff_not] at hn
      by_cases e : z = y
      · exact .inl e
      · right
        have : nearB g.2 (y : Int) (z : Int) = true := by simpa [hn, e] using hz'
        simp [this, e]
    · rintro ⟨h1, h2⟩ z hz bz
      simp only [Bool.and_eq_true, Bool.not_eq_true', decide_eq_false_iff_not] at h1
      by_cases e : z = y
      · simp [e]
      · by_cases ex : z = x
        · subst ex
          have := h1.2
          rw [nearB_symm] at this
          simp [this]
        · cases hn : nearB g.2 (x : Int) (z : Int)
          · simp [ex]
          · rcases h2 z hz bz (by simp [hn, ex]) with h | h
            · exact absurd h e
            · simp only [Bool.and_eq_true] at h
              simp [h.2]
  rw [e]
  cases decide (CovP g.2 n m x y) <;> rfl

theorem fn61_B0_at (left : List (Int)) (h : (Int) × (List ((Int) × (Int)))) (i : Int) (k : Int) (t4 : (Int) × (Int)) : fn61_B0 ((left, h, i, k, ()), (t4, ())) = bif (decide (k < (List.length left : Int))) then (bif (i != k) then (guardB (inb i (List.length left)) (guardB (inb k (List.length left)) (match fn40 (h, left, (List.getD left (Int.toNat i) (0 : Int)), (List.getD left (Int.toNat k) (0 : Int)), ()) () with | some ((r, ()), ()) => (bif r then (guardB (inb i (List.length left)) (guardB (inb k (List.length left)) (some (.inr (.inl ((), (((List.getD left (Int.toNat i) (0 : Int)), (List.getD left (Int.toNat k) (0 : Int))), ()))))))) else (some (.inl ((left, h, i, (w64 (k + (1 : Int))), ()), (t4, ()))))) | none => none))) else (some (.inl ((left, h, i, (w64 (k + (1 : Int))), ()), (t4, ()))))) else (some (.inr (.inr ((left, h, i, ()), (t4, ()))))) := rfl
theorem fn61_B1_at (left : List (Int)) (h : (Int) × (List ((Int) × (Int)))) (i : Int) (t4 : (Int) × (Int)) : fn61_B1 ((left, h, i, ()), (t4, ())) = bif (decide (i < (List.length left : Int))) then (match loopO fn61_B0 ((left, h, i, (0 : Int), ()), (t4, ())) with | some (.inl ((), (t4_2, ()))) => some (.inr (.inl ((), (t4_2, ())))) | some (.inr ((left2, h2, i2, ()), (t4_3, ()))) => some (.inl ((left2, h2, (w64 (i2 + (1 : Int))), ()), (t4_3, ()))) | none => none) else (some (.inr (.inr ((), (t4, ()))))) := rfl
theorem fn7_B0_at (t1 : (Int) × (List ((Int) × (Int)))) (x : Int) (t9 : List (Int)) (t10 : Int) (t11 : Int) (t16 : List (Int)) (t17 : Int) (t18 : Int) (o0 : Int) (o1 : List ((Int) × (Int))) : fn7_B0 ((t1, x, t9, t10, t11, t16, t17, t18, ()), (o0, o1, ())) = bif (decide (t18 < t17)) then (guardB (inb t18 (List.length t16)) (match fn26 (t1, o0, x, (List.getD t16 (Int.toNat t18) (0 : Int)), ()) () with | some ((r, ()), ()) => (bif r then (guardB (decide ((List.length o1 + List.length [(x, (List.getD t16 (Int.toNat t18) (0 : Int)))]) * 16 ≤ 70368744177664)) (guardB (decide (0 ≤ x)) (some (.inr (.inl ((true, ()), ((IntKind.wrap .u64 (BitVec.ofInt 64 o0 &&& ~~~ BitVec.ofInt 64 (IntKind.wrap .u64 ((1 : Int) * 2 ^ (min (Int.toNat x) 64)))).toNat), (o1 ++ [(x, (List.getD t16 (Int.toNat t18) (0 : Int)))]), ()))))))) else (some (.inl ((t1, x, t9, t10, t11, t16, t17, (w64 (t18 + (1 : Int))), ()), (o0, o1, ()))))) | none => none)) else (some (.inr (.inr ((t1, t9, t10, t11, ()), (o0, o1, ()))))) := rfl
theorem fn7_B1_at (t1 : (Int) × (List ((Int) × (Int)))) (t9 : List (Int)) (t10 : Int) (t11 : Int) (o0 : Int) (o1 : List ((Int) × (Int))) : fn7_B1 ((t1, t9, t10, t11, ()), (o0, o1, ())) = bif (decide (t11 < t10)) then (guardB (inb t11 (List.length t9)) (match fn44 (o0, ()) () with | some ((r, ()), ()) => (match loopO fn7_B0 ((t1, (List.getD t9 (Int.toNat t11) (0 : Int)), t9, t10, t11, r, (List.length r : Int), (0 : Int), ()), (o0, o1, ())) with | some (.inl ((t3, ()), (o0_2, o1_2, ()))) => some (.inr (.inl ((t3, ()), (o0_2, o1_2, ())))) | some (.inr ((t1_2, t9_2, t10_2, t11_2, ()), (o0_3, o1_3, ()))) => some (.inl ((t1_2, t9_2, t10_2, (w64 (t11_2 + (1 : Int))), ()), (o0_3, o1_3, ()))) | none => none) | none => none)) else (some (.inr (.inr ((), (o0, o1, ()))))) := rfl
theorem lst_at {n m i : Nat} (h : i < (lst n m).length) : ∃ v : Nat, (lst n m).getD i 0 = (v : Int) ∧ v < n ∧ m.testBit v = true := by
  obtain ⟨k, h1, h2, h3⟩ := lst_mem.1 (List.getElem_mem h)
  exact ⟨k, by rw [getD_at h]; exact h3, h1, h2⟩
theorem lst_nodup (n m : Nat) : (lst n m).Nodup := by
  unfold lst
  refine List.Pairwise.map _ (fun a b h e => h (by omega)) (List.Pairwise.filter _ List.nodup_range)
theorem lst_ne {n m i k : Nat} (hi : i < (lst n m).length) (hk : k < (lst n m).length) (h : i ≠ k) : (lst n m).getD i 0 ≠ (lst n m).getD k 0 := by
  rw [getD_at hi, getD_at hk]
  intro e
  have hp := List.pairwise_iff_getElem.1 (List.nodup_iff_pairwise_ne.1 (lst_nodup n m))
  rcases Nat.lt_or_gt_of_ne h with g | g
  · exact hp i k hi hk g e
  · exact hp k i hk hi g e.symm
theorem covP_irr {S : List (Int × Int)} {n m x : Nat} : ¬ CovP S n m x x := by
  rintro ⟨⟨h, _⟩, _⟩; simp [nbB] at h
open Classical in
theorem fold_inner (g : Int × List (Int × Int)) {n : Nat} (hg : g.1 = n) (hn : n ≤ 8) (hp : pairsB g.2 n = true) (hl : g.2.length ≤ 1048576) {m : Nat} (hm : m < 256) (t4 : Int × Int) (t9 : List Int) (t10 t11 : Int) (out : List (Int × Int)) (ho : out.length ≤ 1048576) {i : Nat} (hi : i < (lst n m).length) {x : Nat} (hx : (lst n m).getD i 0 = (x : Int)) (hxn : x < n) (bx : m.testBit x = true) :
    ∀ d k, k + d = (lst n m).length →
      (∃ y : Nat, y < n ∧ CovP g.2 n m x y ∧
        loopO fn61_B0 ((lst n m, g, (i : Int), (k : Int), ()), (t4, ())) = some (.inl ((), (((x : Int), (y : Int)), ()))) ∧
        loopO fn7_B0 ((g, (x : Int), t9, t10, t11, lst n m, ((lst n m).length : Int), (k : Int), ()), ((m : Int), out, ())) = some (.inl ((true, ()), (((clr m x : Nat) : Int), out ++ [((x : Int), (y : Int))], ())))) ∨
      (loopO fn61_B0 ((lst n m, g, (i : Int), (k : Int), ()), (t4, ())) = some (.inr ((lst n m, g, (i : Int), ()), (t4, ()))) ∧
        loopO fn7_B0 ((g, (x : Int), t9, t10, t11, lst n m, ((lst n m).length : Int), (k : Int), ()), ((m : Int), out, ())) = some (.inr ((g, t9, t10, t11, ()), ((m : Int), out, ())))) := by
  have hll := lst_len n m
  have hcl := (clr_bag m hm x (by omega)).1
  intro d
  induction d with
  | zero =>
    intro k hk
    right
    refine ⟨loop_end ?_, loop_end ?_⟩
    · rw [fn61_B0_at]; simp only [bif_decide]; rw [if_neg (by omega)]
    · rw [fn7_B0_at]; simp only [bif_decide]; rw [if_neg (by omega)]
  | succ d ih =>
    intro k hk
    have hkl : k < (lst n m).length := by omega
    obtain ⟨y, hy, hyn, by_⟩ := lst_at hkl
    have ci := covers_impl g hg hn hp hl hm hxn hyn
    have si : fn7_B0 ((g, (x : Int), t9, t10, t11, lst n m, ((lst n m).length : Int), (k : Int), ()), ((m : Int), out, ())) = some (if CovP g.2 n m x y then .inr (.inl ((true, ()), (((clr m x : Nat) : Int), out ++ [((x : Int), (y : Int))], ()))) else .inl ((g, (x : Int), t9, t10, t11, lst n m, ((lst n m).length : Int), ((k + 1 : Nat) : Int), ()), ((m : Int), out, ()))) := by
      rw [fn7_B0_at]
      simp only [bif_decide, Int.toNat_natCast, hy, ci, hcl]
      rw [if_pos (by omega), guardB_true (by simp [inb] <;> omega), w64_succ (by omega)]
      by_cases h : CovP g.2 n m x y
      · rw [if_pos h, if_pos h, guardB_true (by simp only [List.length_singleton, decide_eq_true_eq]; omega), guardB_true (by simp)]
      · rw [if_neg h, if_neg h]
    by_cases hik : i = k
    · have hxy : x = y := by
        have : (x : Int) = (y : Int) := by rw [← hx, ← hy, hik]
        omega
      have hno : ¬ CovP g.2 n m x y := by rw [hxy]; exact covP_irr
      rw [if_neg hno] at si
      have ss : fn61_B0 ((lst n m, g, (i : Int), (k : Int), ()), (t4, ())) = some (.inl ((lst n m, g, (i : Int), ((k + 1 : Nat) : Int), ()), (t4, ()))) := by
        rw [fn61_B0_at]
        simp only [bif_decide]
        rw [if_pos (by omega), bne_eq (by omega), w64_succ (by omega)]
        rfl
      rcases ih (k + 1) (by omega) with ⟨y', q1, q2, q3, q4⟩ | ⟨q1, q2⟩
      · exact .inl ⟨y', q1, q2, loop_step ss q3, loop_step si q4⟩
      · exact .inr ⟨loop_step ss q1, loop_step si q2⟩
    · have hxy : x ≠ y := fun e => lst_ne hi hkl hik (by rw [hx, hy, e])
      have cs := covers_spec g hn hl hxn hyn bx by_ hxy
      have ss : fn61_B0 ((lst n m, g, (i : Int), (k : Int), ()), (t4, ())) = some (if CovP g.2 n m x y then .inr (.inl ((), (((x : Int), (y : Int)), ()))) else .inl ((lst n m, g, (i : Int), ((k + 1 : Nat) : Int), ()), (t4, ()))) := by
        rw [fn61_B0_at]
        simp only [bif_decide, Int.toNat_natCast, hx, hy, cs]
        rw [if_pos (by omega), bne_ne (by omega), w64_succ (by omega)]
        simp only [cond_true, guardB, inb_true (show (0 : Int) ≤ (i : Int) by omega) (show (i : Int) < ((lst n m).length : Int) by omega), inb_true (show (0 : Int) ≤ (k : Int) by omega) (show (k : Int) < ((lst n m).length : Int) by omega)]
        by_cases h : CovP g.2 n m x y
        · rw [if_pos h, if_pos h]
        · rw [if_neg h, if_neg h]
      by_cases h : CovP g.2 n m x y
      · rw [if_pos h] at ss si
        exact .inl ⟨y, hyn, h, loop_end ss, loop_end si⟩
      · rw [if_neg h] at ss si
        rcases ih (k + 1) (by omega) with ⟨y', q1, q2, q3, q4⟩ | ⟨q1, q2⟩
        · exact .inl ⟨y', q1, q2, loop_step ss q3, loop_step si q4⟩
        · exact .inr ⟨loop_step ss q1, loop_step si q2⟩

open Classical in
theorem fold_both (g : Int × List (Int × Int)) {n : Nat} (hg : g.1 = n) (hn : n ≤ 8) (hp : pairsB g.2 n = true) (hl : g.2.length ≤ 1048576) {m : Nat} (hm : m < 2 ^ n) (out : List (Int × Int)) (ho : out.length ≤ 1048576) :
    (∃ x y : Nat, x < n ∧ m.testBit x = true ∧ (y < n ∧ CovP g.2 n m x y) ∧ fn61 (g, lst n m, ()) () = some ((((x : Int), (y : Int)), ()), ()) ∧
      fn7 (g, ()) ((m : Int), out, ()) = some ((true, ()), (((clr m x : Nat) : Int), out ++ [((x : Int), (y : Int))], ()))) ∨
    (fn61 (g, lst n m, ()) () = some (((-1, -1), ()), ()) ∧ fn7 (g, ()) ((m : Int), out, ()) = some ((false, ()), ((m : Int), out, ()))) := by
  have hm8 : m < 256 := Nat.lt_of_lt_of_le hm (Nat.pow_le_pow_right (by decide) (show n ≤ 8 from hn))
  have hll := lst_len n m
  have e8 : lst 8 m = lst n m := by have := lst_more hm (8 - n); rwa [show n + (8 - n) = 8 by omega] at this
  have hbl := bag_list_eq m hm8
  rw [e8] at hbl
  have key : ∀ d i, i + d = (lst n m).length →
      (∃ x y : Nat, x < n ∧ m.testBit x = true ∧ (y < n ∧ CovP g.2 n m x y) ∧
        loopO fn61_B1 ((lst n m, g, (i : Int), ()), (((0 : Int), (0 : Int)), ())) = some (.inl ((), (((x : Int), (y : Int)), ()))) ∧
        loopO fn7_B1 ((g, lst n m, ((lst n m).length : Int), (i : Int), ()), ((m : Int), out, ())) = some (.inl ((true, ()), (((clr m x : Nat) : Int), out ++ [((x : Int), (y : Int))], ())))) ∨
      (loopO fn61_B1 ((lst n m, g, (i : Int), ()), (((0 : Int), (0 : Int)), ())) = some (.inr ((), (((0 : Int), (0 : Int)), ()))) ∧
        loopO fn7_B1 ((g, lst n m, ((lst n m).length : Int), (i : Int), ()), ((m : Int), out, ())) = some (.inr ((), ((m : Int), out, ())))) := by
    intro d
    induction d with
    | zero =>
      intro i hi
      right
      refine ⟨loop_end ?_, loop_end ?_⟩
      · rw [fn61_B1_at]; simp only [bif_decide]; rw [if_neg (by omega)]
      · rw [fn7_B1_at]; simp only [bif_decide]; rw [if_neg (by omega)]
    | succ d ih =>
      intro i hi
      have hil : i < (lst n m).length := by omega
      obtain ⟨x, hx, hxn, bx⟩ := lst_at hil
      rcases fold_inner g hg hn hp hl hm8 ((0 : Int), (0 : Int)) (lst n m) ((lst n m).length : Int) (i : Int) out ho hil hx hxn bx (lst n m).length 0 (by omega) with ⟨y, y1, y2, q1, q2⟩ | ⟨q1, q2⟩
      · left
        refine ⟨x, y, hxn, bx, ⟨y1, y2⟩, loop_end ?_, loop_end ?_⟩
        · rw [fn61_B1_at]
          simp only [bif_decide]
          rw [if_pos (by omega)]
          erw [q1]
        · rw [fn7_B1_at]
          simp only [bif_decide, Int.toNat_natCast, hx, hbl]
          rw [if_pos (by omega), guardB_true (by simp [inb] <;> omega)]
          erw [q2]
      · have s1 : fn61_B1 ((lst n m, g, (i : Int), ()), (((0 : Int), (0 : Int)), ())) = some (.inl ((lst n m, g, ((i + 1 : Nat) : Int), ()), (((0 : Int), (0 : Int)), ()))) := by
          rw [fn61_B1_at]
          simp only [bif_decide]
          rw [if_pos (by omega)]
          erw [q1]
          simp only [w64_succ (show i < 4611686018427387904 by omega)]
        have s2 : fn7_B1 ((g, lst n m, ((lst n m).length : Int), (i : Int), ()), ((m : Int), out, ())) = some (.inl ((g, lst n m, ((lst n m).length : Int), ((i + 1 : Nat) : Int), ()), ((m : Int), out, ()))) := by
          rw [fn7_B1_at]
          simp only [bif_decide, Int.toNat_natCast, hx, hbl]
          rw [if_pos (by omega), guardB_true (by simp [inb] <;> omega)]
          erw [q2]
          simp only [w64_succ (show i < 4611686018427387904 by omega)]
        rcases ih (i + 1) (by omega) with ⟨x', y', r1, r2, r3, r4, r5⟩ | ⟨r1, r2⟩
        · exact .inl ⟨x', y', r1, r2, r3, loop_step s1 r4, loop_step s2 r5⟩
        · exact .inr ⟨loop_step s1 r1, loop_step s2 r2⟩
  rcases key (lst n m).length 0 (by omega) with ⟨x, y, r1, r2, r3, r4, r5⟩ | ⟨r1, r2⟩
  · left
    refine ⟨x, y, r1, r2, r3, ?_, ?_⟩
    · simp only [fn61]
      erw [r4]
    · simp only [fn7, hbl]
      erw [r5]
  · right
    refine ⟨?_, ?_⟩
    · simp only [fn61]
      erw [r1]
    · simp only [fn7, hbl]
      erw [r2]

theorem fn48_B0_at (h : (Int) × (List ((Int) × (Int)))) (out : List ((Int) × (Int))) (left : List (Int)) (p : (Int) × (Int)) : fn48_B0 ((h, out, left, ()), (p, ())) = bif (decide ((0 : Int) ≤ p.1)) then (guardB (decide ((List.length out + List.length [p]) * 16 ≤ 70368744177664)) (match fn41 (left, p.1, ()) () with | some ((r, ()), ()) => (match fn61 (h, r, ()) () with | some ((r2, ()), ()) => some (.inl ((h, (out ++ [p]), r, ()), (r2, ()))) | none => none) | none => none)) else (some (.inr ((out, ()), ()))) := rfl
theorem fn28_B0_at (out : List ((Int) × (Int))) (set : Int) (g : (Int) × (List ((Int) × (Int)))) : fn28_B0 ((), (out, set, g, ())) = match fn7 (g, ()) (set, out, ()) with | some ((r, ()), (o, o2, ())) => (bif r then (some (.inl ((), (o2, o, g, ())))) else (some (.inr ((), (o2, ()))))) | none => none := rfl
theorem fn48_D0_at (h : (Int) × (List ((Int) × (Int)))) (t8 : Int) (t12 : Int) : fn48_D0 ((h, t8, t12, ()), ()) = match fn72 (t8, t12, ()) () with | some ((r, ()), ()) => some ((h, ([] : (List (Int × Int))), r, ()), ()) | none => none := rfl
/-- what is folded, one after the other -/
def FoldSeq (S : List (Int × Int)) (n : Nat) : Nat → List (Int × Int) → Prop
  | _, [] => True
  | m, e :: F => ∃ x y : Nat, e = ((x : Int), (y : Int)) ∧ x < n ∧ m.testBit x = true ∧ y < n ∧ CovP S n m x y ∧ FoldSeq S n (clr m x) F
theorem folds_loop (g : Int × List (Int × Int)) {n : Nat} (hg : g.1 = n) (hn : n ≤ 8) (hp : pairsB g.2 n = true) (hl : g.2.length ≤ 1048576) : ∀ (c m : Nat) (out : List (Int × Int)) (p : Int × Int), m < 2 ^ n → (lst n m).length ≤ c → out.length + c ≤ 1048576 → fn61 (g, lst n m, ()) () = some ((p, ()), ()) →
    ∃ R : List (Int × Int), loopO fn48_B0 ((g, out, lst n m, ()), (p, ())) = some ((R, ()), ()) ∧ loopO fn28_B0 ((), (out, (m : Int), g, ())) = some ((), (R, ())) ∧ (R.length ≤ out.length + c ∧ ∃ F, R = out ++ F ∧ FoldSeq g.2 n m F) := by
  intro c
  induction c with
  | zero =>
    intro m out p hm hc ho hf
    rcases fold_both g hg hn hp hl hm out (by omega) with ⟨x, y, x1, x2, _⟩ | ⟨q1, q2⟩
    · have : (x : Int) ∈ lst n m := lst_mem.2 ⟨x, x1, x2, rfl⟩
      have := List.length_pos_of_mem this
      omega
    · rw [q1] at hf
      injection hf with hf; injection hf with hf; injection hf with hf
      subst hf
      refine ⟨out, loop_end ?_, loop_end ?_, by omega, [], by simp, trivial⟩
      · rw [fn48_B0_at]; rfl
      · rw [fn28_B0_at, q2]; rfl
  | succ c ih =>
    intro m out p hm hc ho hf
    have hm8 : m < 256 := Nat.lt_of_lt_of_le hm (Nat.pow_le_pow_right (by decide) (show n ≤ 8 from hn))
    rcases fold_both g hg hn hp hl hm out (by omega) with ⟨x, y, x1, x2, y1, q1, q2⟩ | ⟨q1, q2⟩
    · rw [q1] at hf
      injection hf with hf; injection hf with hf; injection hf with hf
      subst hf
      have hclr := lst_clr (m := m) hn hm8 (show x < 8 by omega)
      have hlt : (lst n (clr m x)).length < (lst n m).length := by
        rw [← hclr, List.length_filter_lt_length_iff_exists]
        exact ⟨(x : Int), lst_mem.2 ⟨x, x1, x2, rfl⟩, by simp⟩
      have hm' : clr m x < 2 ^ n := Nat.lt_of_le_of_lt (and_le' m _) hm
      have hll := lst_len n m
      have next : ∃ p', fn61 (g, lst n (clr m x), ()) () = some ((p', ()), ()) := by
        rcases fold_both g hg hn hp hl hm' [] (by simp) with ⟨a, b, _, _, _, r1, _⟩ | ⟨r1, _⟩
        · exact ⟨_, r1⟩
        · exact ⟨_, r1⟩
      obtain ⟨p', hp'⟩ := next
      obtain ⟨R, r1, r2, r3, F, f1, f2⟩ := ih (clr m x) (out ++ [((x : Int), (y : Int))]) p' hm' (by omega) (by simp; omega) hp'
      refine ⟨R, loop_step ?_ r1, loop_step ?_ r2, by simp at r3; omega, ((x : Int), (y : Int)) :: F, by rw [f1]; simp, x, y, rfl, x1, x2, y1.1, y1.2, f2⟩
      · rw [fn48_B0_at]
        simp only [bif_decide, Without_eq _ _ (show (lst n m).length ≤ 1048576 by omega), hclr, hp']
        rw [if_pos (by omega), guardB_true (by simp only [List.length_singleton, decide_eq_true_eq]; omega)]
      · rw [fn28_B0_at, q2]; rfl
    · rw [q1] at hf
      injection hf with hf; injection hf with hf; injection hf with hf
      subst hf
      refine ⟨out, loop_end ?_, loop_end ?_, by omega, [], by simp, trivial⟩
      · rw [fn48_B0_at]; rfl
      · rw [fn28_B0_at, q2]; rfl

def goodG (g : Int × List (Int × Int)) : Bool := inR g.1 0 8 && pairsB g.2 g.1
theorem l2Good_eq (g : Int × List (Int × Int)) (hl : g.2.length ≤ 1048576) : fn74 (g, ()) () = some ((goodG g, ()), ()) := by
  simp only [fn74, l1In_eq _ _ _, goodG]
  cases h : inR g.1 0 8
  · rfl
  · have h' := h
    simp only [inR, Bool.and_eq_true, decide_eq_true_eq] at h'
    simp only [cond_true, l2Pairs_eq g.2 g.1 hl (by omega) (by omega), Bool.true_and]
theorem IsGraph_eq (g : Int × List (Int × Int)) (hl : g.2.length ≤ 1048576) : fn51 (g, ()) () = some ((goodG g, ()), ()) := by
  simp only [fn51, between_eq _ _ _, goodG]
  cases h : inR g.1 0 8
  · rfl
  · simp only [cond_true, isPairs_eq g.2 g.1 hl, Bool.true_and]
theorem folds_coreC (g : Int × List (Int × Int)) (hl : g.2.length ≤ 1048576) : ((goodG g = false ∨ g.1 = 0) ∧ fn34 (g, ()) () = some (([], false, ()), ())) ∨
    (goodG g = true ∧ ¬ g.1 = 0 ∧ ∃ R : List (Int × Int), fn48 (g, ()) () = some ((R, ()), ()) ∧ fn34 (g, ()) () = some ((R, true, ()), ()) ∧ R.length ≤ 8 ∧ FoldSeq g.2 g.1.toNat (2 ^ g.1.toNat - 1) R) := by
  simp only [fn34, IsGraph_eq g hl]
  cases hg : goodG g
  · exact .inl ⟨.inl rfl, rfl⟩
  · by_cases h0 : g.1 = 0
    · rw [beq_eq h0]; exact .inl ⟨.inr h0, rfl⟩
    · rw [beq_ne h0]
      right
      refine ⟨rfl, h0, ?_⟩
      simp only [goodG, Bool.and_eq_true, inR, decide_eq_true_eq] at hg
      obtain ⟨n, hn⟩ : ∃ n : Nat, g.1 = n := ⟨g.1.toNat, by omega⟩
      have hn8 : n ≤ 8 := by omega
      have hp : pairsB g.2 n = true := by rw [← hn]; exact hg.2
      have hall := all_bag n (by omega)
      have hm : 2 ^ n - 1 < 2 ^ n := by have : 0 < 2 ^ n := Nat.pow_pos (by decide)
                                        omega
      have hll := lst_len n (2 ^ n - 1)
      obtain ⟨p, hpf⟩ : ∃ p, fn61 (g, lst n (2 ^ n - 1), ()) () = some ((p, ()), ()) := by
        rcases fold_both g hn hn8 hp hl hm [] (by simp) with ⟨a, b, _, _, _, r1, _⟩ | ⟨r1, _⟩
        · exact ⟨_, r1⟩
        · exact ⟨_, r1⟩
      obtain ⟨R, r1, r2, r3, F, f1, f2⟩ := folds_loop g hn hn8 hp hl 8 (2 ^ n - 1) [] p hm (by omega) (by simp) hpf
      have e1 : fn48 (g, ()) () = some ((R, ()), ()) := by
        simp only [fn48, hn, Int.toNat_natCast, hall.2.1]
        rw [guardB_true (by simp), fn48_D0_at, Bits_eq n _ hn8 hall.2.2]
        simp only [hpf]
        erw [r1]
      have e2 : fn28 (g, ()) () = some ((R, ()), ()) := by
        simp only [fn28, fn35, hn, Int.toNat_natCast, hall.1]
        rw [guardB_true (by simp)]
        simp only
        erw [r2]
      refine ⟨R, e1, ?_, by simpa using r3, by rw [hn, Int.toNat_natCast, f1]; exact f2⟩
      simp only [Bool.not_true, cond_false, e2]
def fitB (T : List (Int × Int)) (lazy : Bool) (a b : Int) : Bool := nearB T a b || (lazy && decide (a = b))
theorem fitB_symm (T : List (Int × Int)) (lazy : Bool) (a b : Int) : fitB T lazy a b = fitB T lazy b a := by
  simp only [fitB, nearB_symm T a b]
  by_cases h : a = b
  · subst h; rfl
  · rw [decide_eq_false h, decide_eq_false (fun e => h e.symm)]
theorem Fits_eq (h : Int × List (Int × Int)) (a b : Int) (lazy : Bool) (hl : h.2.length ≤ 1048576) : fn60 (h, a, b, lazy, ()) () = some ((fitB h.2 lazy a b, ()), ()) := by
  simp only [fn60, Near_eq h a b hl, fitB]
  cases nearB h.2 a b
  · cases lazy
    · rfl
    · by_cases e : a = b
      · simp only [cond_false, cond_true, Bool.false_or, Bool.true_and, beq_eq e, decide_eq_true e]
      · simp only [cond_false, cond_true, Bool.false_or, Bool.true_and, beq_ne e, decide_eq_false e]
  · rfl
def okOne (S T : List (Int × Int)) (lazy : Bool) (l : List Int) (x : Nat) (v : Int) (k : Nat) : Bool := !nearB S (k : Int) (x : Int) || fitB T lazy (l.getD k 0) v
def allFrom (good : Nat → Bool) : Nat → Nat → Bool
  | _, 0 => true
  | k, d + 1 => good k && allFrom good (k + 1) d
theorem allFrom_iff {good : Nat → Bool} : ∀ {d k : Nat}, allFrom good k d = true ↔ ∀ j, k ≤ j → j < k + d → good j = true
  | 0, k => by simp [allFrom]; omega
  | d + 1, k => by
    simp only [allFrom, Bool.and_eq_true, allFrom_iff]
    constructor
    · rintro ⟨h1, h2⟩ j hj hj'
      rcases Nat.lt_or_ge k j with h | h
      · exact h2 j (by omega) (by omega)
      · rw [show j = k by omega]; exact h1
    · intro h
      exact ⟨h k (Nat.le_refl _) (by omega), fun j hj hj' => h j (by omega) (by omega)⟩
theorem own_small (l : List Int) (hl : l.length ≤ 1048576) : fn80 (l, ()) () = some ((l, ()), ()) := by
  simp only [fn80, List.nil_append]
  rw [guardB_true (by simp only [List.length_nil, decide_eq_true_eq]; omega)]
theorem fn2_B0_at (s : List (Int)) (t7 : Int) (t8 : Int) (o0 : Int) (o1 : (Int) × (List ((Int) × (Int)))) (o2 : Int) (o3 : List (Int)) (o4 : Bool) : fn2_B0 ((s, t7, t8, ()), (o0, o1, o2, o3, o4, ())) = bif (decide (t8 < t7)) then (guardB (inb t8 (List.length s)) (match fn21 ((List.getD s (Int.toNat t8) (0 : Int)), o0, o1, o2, o3, o4, ()) () with | some ((r, ()), ()) => (bif r then (some (.inr (.inl ((t8, ()), (o0, o1, o2, o3, o4, ()))))) else (some (.inl ((s, t7, (w64 (t8 + (1 : Int))), ()), (o0, o1, o2, o3, o4, ()))))) | none => none)) else (some (.inr (.inr ((), (o0, o1, o2, o3, o4, ()))))) := rfl
def badZ (T : List (Int × Int)) (lazy : Bool) (L : List Int) (x y z : Int) : Bool := decide (z < x) && !fitB T lazy y (L.getD z.toNat 0)
theorem isFit_eq (h : Int × List (Int × Int)) {m : Nat} (hp : pairsB h.2 m = true) (a b : Int) (lazy : Bool) (hl : h.2.length ≤ 1048576) : fn29 (h, a, b, lazy, ()) () = some ((fitB h.2 lazy a b, ()), ()) := by
  simp only [fn29, has_eq h hp a b hl, fitB]
  cases nearB h.2 a b
  · cases lazy
    · rfl
    · by_cases e : a = b
      · simp only [cond_false, cond_true, Bool.false_or, Bool.true_and, beq_eq e, decide_eq_true e]
      · simp only [cond_false, cond_true, Bool.false_or, Bool.true_and, beq_ne e, decide_eq_false e]
  · rfl
theorem wrong_one (h : Int × List (Int × Int)) {m : Nat} (hp : pairsB h.2 m = true) (lazy : Bool) (L : List Int) (x y z : Int) (hl : h.2.length ≤ 1048576) (hz : 0 ≤ z) (hL : z < x → z < L.length) : fn21 (z, x, h, y, L, lazy, ()) () = some ((badZ h.2 lazy L x y z, ()), ()) := by
  simp only [fn21, bif_decide, badZ]
  by_cases e : z < x
  · rw [if_pos e, guardB_true (inb_true hz (hL e)), isFit_eq h hp _ _ lazy hl, decide_eq_true e]
    simp only [Bool.true_and]
  · rw [if_neg e, decide_eq_false e]
    rfl
theorem wrong_idx (h : Int × List (Int × Int)) {m : Nat} (hp : pairsB h.2 m = true) (lazy : Bool) (L s : List Int) (x y : Int) (hl : h.2.length ≤ 1048576) (hs : s.length ≤ 1048576) (hz : ∀ z ∈ s, 0 ≤ z ∧ (z < x → z < L.length)) : ∀ d k, k + d = s.length →
    ∃ q : Int, 0 ≤ q ∧ loopO fn2_B0 ((s, (s.length : Int), (k : Int), ()), (x, h, y, L, lazy, ())) = some (bif (s.drop k).any (badZ h.2 lazy L x y) then .inl ((q, ()), (x, h, y, L, lazy, ())) else .inr ((), (x, h, y, L, lazy, ()))) := by
  intro d
  induction d with
  | zero =>
    intro k hk
    refine ⟨0, by omega, loop_end ?_⟩
    rw [fn2_B0_at, List.drop_of_length_le (by omega)]
    simp only [bif_decide, List.any_nil, cond_false]
    rw [if_neg (by omega)]
  | succ d ih =>
    intro k hk
    have hkl : k < s.length := by omega
    have hm := hz _ (List.getElem_mem hkl)
    rw [← getD_at hkl 0] at hm
    have st : fn2_B0 ((s, (s.length : Int), (k : Int), ()), (x, h, y, L, lazy, ())) = some (bif badZ h.2 lazy L x y (s.getD k 0) then .inr (.inl (((k : Int), ()), (x, h, y, L, lazy, ()))) else .inl ((s, (s.length : Int), ((k + 1 : Nat) : Int), ()), (x, h, y, L, lazy, ()))) := by
      rw [fn2_B0_at]
      simp only [bif_decide, Int.toNat_natCast]
      rw [if_pos (by omega), guardB_true (by simp [inb] <;> omega), wrong_one h hp lazy L x y _ hl hm.1 hm.2, w64_succ (by omega)]
      cases badZ h.2 lazy L x y (s.getD k 0) <;> rfl
    rw [List.drop_eq_getElem_cons hkl, List.any_cons, ← getD_at hkl 0]
    cases hb : badZ h.2 lazy L x y (s.getD k 0)
    · rw [hb] at st
      rw [Bool.false_or]
      obtain ⟨q, q0, q1⟩ := ih (k + 1) (by omega)
      exact ⟨q, q0, loop_step st q1⟩
    · rw [hb] at st
      exact ⟨(k : Int), by omega, loop_end st⟩
theorem wrong_eq (h : Int × List (Int × Int)) {m : Nat} (hp : pairsB h.2 m = true) (lazy : Bool) (L s : List Int) (x y : Int) (hl : h.2.length ≤ 1048576) (hs : s.length ≤ 1048576) (hz : ∀ z ∈ s, 0 ≤ z ∧ (z < x → z < L.length)) :
    fn1 (s, ()) (x, h, y, L, lazy, ()) = some ((s.any (badZ h.2 lazy L x y), ()), (x, h, y, L, lazy, ())) := by
  obtain ⟨q, q0, q1⟩ := wrong_idx h hp lazy L s x y hl hs hz s.length 0 (by omega)
  rw [List.drop_zero] at q1
  simp only [fn1, fn2]
  erw [q1]
  cases s.any (badZ h.2 lazy L x y)
  · simp only [cond_false]
    rw [decide_eq_false (by omega)]
  · simp only [cond_true]
    rw [decide_eq_true q0]
theorem wrong_ok (S T : List (Int × Int)) (lazy : Bool) {n x : Nat} (L : List Int) (hL : L.length = n) (hx : x < n) (v : Int) : (nbs S n x).any (badZ T lazy (L.set x v) (x : Int) v) = !allFrom (okOne S T lazy (L.take x) x v) 0 x := by
  rw [Bool.eq_iff_iff, Bool.not_eq_true', ← Bool.not_eq_true, allFrom_iff, List.any_eq_true]
  have gd : ∀ k, k < x → (L.set x v).getD k 0 = (L.take x).getD k 0 := fun k hk => by
    rw [getD_at (by rw [List.length_set]; omega), getD_at (by rw [List.length_take]; omega), List.getElem_set_ne (by omega), List.getElem_take]
  constructor
  · rintro ⟨z, hz, hb⟩ h
    obtain ⟨y, hy, e⟩ : ∃ y : Nat, (y : Int) ∈ nbs S n x ∧ z = y := by
      simp only [nbs, List.mem_map] at hz
      obtain ⟨k, hk, e⟩ := hz
      exact ⟨k, by simp only [nbs, List.mem_map]; exact ⟨k, hk, rfl⟩, e.symm⟩
    subst e
    obtain ⟨h1, h2⟩ := nbs_mem.1 hy
    simp only [badZ, Bool.and_eq_true, decide_eq_true_eq, Bool.not_eq_true', Int.toNat_natCast] at hb
    have hyx : y < x := by omega
    have := h y (by omega) (by omega)
    simp only [nbB, Bool.and_eq_true] at h2
    simp only [okOne, nearB_symm S (y : Int) (x : Int), h2.2, Bool.not_true, Bool.false_or] at this
    rw [gd y hyx, fitB_symm, this] at hb
    cases hb.2
  · intro h
    refine Classical.byContradiction fun g => h fun k _ hk => ?_
    have hk : k < x := by omega
    simp only [okOne]
    cases hn : nearB S (k : Int) (x : Int)
    · rfl
    · simp only [Bool.not_true, Bool.false_or]
      cases hf : fitB T lazy ((L.take x).getD k 0) v
      · refine absurd ⟨(k : Int), nbs_mem.2 ⟨by omega, ?_⟩, ?_⟩ g
        · simp only [nbB, Bool.and_eq_true, Bool.not_eq_true', decide_eq_false_iff_not]
          exact ⟨by omega, by rw [nearB_symm]; exact hn⟩
        · simp only [badZ, Bool.and_eq_true, decide_eq_true_eq, Bool.not_eq_true', Int.toNat_natCast]
          exact ⟨by omega, by rw [gd k hk, fitB_symm]; exact hf⟩
      · rfl

def caseB (g h : Int × List (Int × Int)) : Bool := goodG g && (goodG h && decide (g.1 ≤ 6))
theorem Good2_eq (g h : Int × List (Int × Int)) (hg : g.2.length ≤ 1048576) (hh : h.2.length ≤ 1048576) : fn62 (g, h, ()) () = some ((caseB g h, ()), ()) := by
  simp only [fn62, l2Good_eq g hg, l2Good_eq h hh, caseB]
  cases goodG g <;> cases goodG h <;> rfl
theorem Case_eq (g h : Int × List (Int × Int)) (hg : g.2.length ≤ 1048576) (hh : h.2.length ≤ 1048576) : fn37 (g, h, ()) () = some ((caseB g h, ()), ()) := by
  simp only [fn37, IsGraph_eq g hg, IsGraph_eq h hh, caseB]
  cases goodG g <;> cases goodG h <;> rfl
theorem good_nat {g : Int × List (Int × Int)} (h : goodG g = true) : ∃ n : Nat, g.1 = n ∧ n ≤ 8 ∧ pairsB g.2 n = true := by
  simp only [goodG, Bool.and_eq_true, inR, decide_eq_true_eq] at h
  obtain ⟨n, hn⟩ : ∃ n : Nat, g.1 = n := ⟨g.1.toNat, by omega⟩
  exact ⟨n, hn, by omega, by rw [← hn]; exact h.2⟩
theorem fn71_D0_at (rc : argP fn71_a → obP (extObs 0 fn71_o) → Option fn71_E.P) (t2 : Bool) (t3 : List (Int)) (t4 : Int) (t5 : (Int) × (List ((Int) × (Int)))) (t6 : (Int) × (List ((Int) × (Int)))) (t11 : Int) (t12 : List (List (Int))) (t13 : Int) (t62 : (Int) × (List ((Int) × (Int)))) (t63 : (Int) × (List ((Int) × (Int)))) (t64 : Bool) (t65 : List (Int)) (t67 : Int) (t73 : Int) : fn71_D0 rc ((t2, t3, t4, t5, t6, t11, t12, t13, t62, t63, t64, t65, t67, t73, ()), ()) = match fn80 (t65, ()) () with | some ((r, ()), ()) => guardB (decide ((List.length r + List.length [t67]) * 8 ≤ 70368744177664)) (match rc (t62, t63, t64, (r ++ [t67]), t73, ()) () with | some ((r2, ()), ()) => guardB (decide ((List.length t12 + List.length r2) * 24 ≤ 70368744177664)) (some ((t2, t3, t4, t5, t6, t11, (t12 ++ r2), t13, ()), ())) | none => none) | none => none := rfl
theorem fn71_B0_at (rc : argP fn71_a → obP (extObs 0 fn71_o) → Option fn71_E.P) (t2 : Bool) (t3 : List (Int)) (t4 : Int) (t5 : (Int) × (List ((Int) × (Int)))) (t6 : (Int) × (List ((Int) × (Int)))) (t11 : Int) (t12 : List (List (Int))) (t13 : Int) (t14 : Bool) (t15 : Int) : fn71_B0 rc ((t2, t3, t4, t5, t6, t11, t12, t13, t14, t15, ()), ()) = bif (decide (t15 < t11)) then (bif t14 then (match fn75 (t5, t15, t11, ()) () with | some ((r, ()), ()) => (bif (!r) then (some (.inl ((t2, t3, t4, t5, t6, t11, t12, t13, true, (w64 (t15 + (1 : Int))), ()), ()))) else (guardB (inb t15 (List.length t3)) (match fn60 (t6, (List.getD t3 (Int.toNat t15) (0 : Int)), t13, t2, ()) () with | some ((r2, ()), ()) => some (.inl ((t2, t3, t4, t5, t6, t11, t12, t13, r2, (w64 (t15 + (1 : Int))), ()), ())) | none => none))) | none => none) else (some (.inr ((t2, t3, t4, t5, t6, t11, t12, t13, t14, ()), ())))) else (some (.inr ((t2, t3, t4, t5, t6, t11, t12, t13, t14, ()), ()))) := rfl
theorem fn71_B1_at (rc : argP fn71_a → obP (extObs 0 fn71_o) → Option fn71_E.P) (t2 : Bool) (t3 : List (Int)) (t4 : Int) (t5 : (Int) × (List ((Int) × (Int)))) (t6 : (Int) × (List ((Int) × (Int)))) (t11 : Int) (t12 : List (List (Int))) (t13 : Int) : fn71_B1 rc ((t2, t3, t4, t5, t6, t11, t12, t13, ()), ()) = bif (decide (t13 < t6.1)) then (bif (decide ((List.length t12 : Int) ≤ t4)) then (match loopO (fn71_B0 rc) ((t2, t3, t4, t5, t6, t11, t12, t13, true, (0 : Int), ()), ()) with | some ((t2_2, t3_2, t4_2, t5_2, t6_2, t11_2, t12_2, t13_2, t14, ()), ()) => (bif t14 then (match (fn71_D0 rc) ((t2_2, t3_2, t4_2, t5_2, t6_2, t11_2, t12_2, t13_2, t5_2, t6_2, t2_2, t3_2, t13_2, (w64 (t4_2 - (List.length t12_2 : Int))), ()), ()) with | some ((t2_3, t3_3, t4_3, t5_3, t6_3, t11_3, t12_3, t13_3, ()), ()) => some (.inl ((t2_3, t3_3, t4_3, t5_3, t6_3, t11_3, t12_3, (w64 (t13_3 + (1 : Int))), ()), ())) | none => none) else (some (.inl ((t2_2, t3_2, t4_2, t5_2, t6_2, t11_2, t12_2, (w64 (t13_2 + (1 : Int))), ()), ())))) | none => none) else (some (.inr ((t12, ()), ())))) else (some (.inr ((t12, ()), ()))) := rfl
def flatFrom (f : Nat → List (List Int)) : Nat → Nat → List (List Int)
  | _, 0 => []
  | k, d + 1 => f k ++ flatFrom f (k + 1) d
def full (S T : List (Int × Int)) (lazy : Bool) (m : Nat) : Nat → List Int → List (List Int)
  | 0, l => [l]
  | d + 1, l => flatFrom (fun v => if allFrom (okOne S T lazy l l.length (v : Int)) 0 l.length then full S T lazy m d (l ++ [(v : Int)]) else []) 0 m
theorem flatFrom_mem {f : Nat → List (List Int)} {a : List Int} : ∀ {d k : Nat}, a ∈ flatFrom f k d → ∃ v, k ≤ v ∧ v < k + d ∧ a ∈ f v
  | 0, k, h => by simp [flatFrom] at h
  | d + 1, k, h => by
    simp only [flatFrom, List.mem_append] at h
    rcases h with h | h
    · exact ⟨k, Nat.le_refl _, by omega, h⟩
    · obtain ⟨v, h1, h2, h3⟩ := flatFrom_mem h
      exact ⟨v, by omega, by omega, h3⟩
theorem full_mem (S T : List (Int × Int)) (lazy : Bool) {m : Nat} : ∀ (d : Nat) (l a : List Int), a ∈ full S T lazy m d l → a.length = l.length + d ∧ a.take l.length = l ∧ ∀ v ∈ a.drop l.length, 0 ≤ v ∧ v < m
  | 0, l, a, h => by
    simp only [full, List.mem_singleton] at h
    subst h
    simp
  | d + 1, l, a, h => by
    simp only [full] at h
    obtain ⟨v, h1, h2, h3⟩ := flatFrom_mem h
    split at h3
    · obtain ⟨q1, q2, q3⟩ := full_mem S T lazy d _ a h3
      simp only [List.length_append, List.length_singleton] at q1 q2 q3
      have ht : a.take l.length = l := by
        have := congrArg (List.take l.length) q2
        rwa [List.take_take, Nat.min_eq_left (by omega), List.take_append_of_le_length (Nat.le_refl _), List.take_length] at this
      refine ⟨by omega, ht, fun u hu => ?_⟩
      have hlt : l.length < a.length := by omega
      have e : a[l.length] = (v : Int) := by
        have := congrArg (fun b : List Int => b[l.length]?) q2
        simp only [List.getElem?_take_of_lt (show l.length < l.length + 1 by omega), List.getElem?_append_right (Nat.le_refl _), Nat.sub_self, List.getElem?_cons_zero, List.getElem?_eq_getElem hlt, Option.some.injEq] at this
        exact this
      rw [List.drop_eq_getElem_cons hlt, List.mem_cons] at hu
      rcases hu with hu | hu
      · rw [hu, e]; omega
      · exact q3 u hu
    · simp at h3
/-- one list after the other, till one says no -/
def runAll {σ : Type} (st : σ → List Int → Bool × σ) : σ → List (List Int) → Bool × σ
  | s, [] => (true, s)
  | s, a :: l => bif (st s a).1 then runAll st (st s a).2 l else (false, (st s a).2)
theorem runAll_append {σ : Type} (st : σ → List Int → Bool × σ) : ∀ (l k : List (List Int)) (s : σ), runAll st s (l ++ k) = bif (runAll st s l).1 then runAll st (runAll st s l).2 k else (false, (runAll st s l).2)
  | [], k, s => rfl
  | a :: l, k, s => by
    simp only [List.cons_append, runAll]
    cases (st s a).1
    · rfl
    · exact runAll_append st l k _
theorem take_app {α : Type} (A B : List α) (n : Nat) (h : A.length ≤ n) : A ++ B.take (n - A.length) = (A ++ B).take n := by
  rw [List.take_append, List.take_of_length_le h]
theorem all_fits (rc) (g h : Int × List (Int × Int)) (lazy : Bool) (l : List Int) (hg : g.2.length ≤ 1048576) (hh : h.2.length ≤ 1048576) (hl : l.length ≤ 8) (most v : Int) (out : List (List Int)) : ∀ d k, k + d = l.length →
    loopO (fn71_B0 rc) ((lazy, l, most, g, h, (l.length : Int), out, v, true, (k : Int), ()), ()) = some ((lazy, l, most, g, h, (l.length : Int), out, v, allFrom (okOne g.2 h.2 lazy l l.length v) k d, ()), ()) := by
  intro d
  induction d with
  | zero =>
    intro k hk
    refine loop_end ?_
    rw [fn71_B0_at]
    simp only [bif_decide, allFrom]
    rw [if_neg (by omega)]
  | succ d ih =>
    intro k hk
    have st : fn71_B0 rc ((lazy, l, most, g, h, (l.length : Int), out, v, true, (k : Int), ()), ()) = some (.inl ((lazy, l, most, g, h, (l.length : Int), out, v, okOne g.2 h.2 lazy l l.length v k, ((k + 1 : Nat) : Int), ()), ())) := by
      rw [fn71_B0_at]
      simp only [bif_decide, Near_eq g _ _ hg, Fits_eq h _ _ lazy hh, okOne, Int.toNat_natCast]
      rw [if_pos (by omega), w64_succ (by omega)]
      cases nearB g.2 (k : Int) (l.length : Int)
      · rfl
      · simp only [cond_true, Bool.not_true, cond_false, Bool.false_or]
        rw [guardB_true (by simp [inb] <;> omega)]
    simp only [allFrom]
    cases ho : okOne g.2 h.2 lazy l l.length v k
    · rw [ho] at st
      refine loop_step st (loop_end ?_)
      rw [fn71_B0_at]
      simp only [bif_decide, cond_false, Bool.false_and]
      split <;> rfl
    · rw [ho] at st
      rw [Bool.true_and]
      exact loop_step st (ih (k + 1) (by omega))
theorem all_run (g h : Int × List (Int × Int)) (lazy : Bool) {n m : Nat} (hg1 : g.1 = n) (hn : n ≤ 6) (hh1 : h.1 = m) (hm : m ≤ 8) (hg : g.2.length ≤ 1048576) (hh : h.2.length ≤ 1048576) : ∀ (d f most : Nat) (l : List Int), l.length + d = n → d < f → most ≤ 1000000 →
    fuelF fn71_F f (g, h, lazy, l, (most : Int), ()) () = some (((full g.2 h.2 lazy m d l).take (most + 1), ()), ())
  | d, 0, most, l, _, hf, _ => by omega
  | 0, f + 1, most, l, hl, _, _ => by
    simp only [fuelF, fn71_F, full]
    rw [beq_eq (by omega), List.take_of_length_le (by simp)]
    rfl
  | d + 1, f + 1, most, l, hl, hf, hmo => by
    simp only [fuelF, fn71_F]
    rw [beq_ne (by omega)]
    simp only [cond_false]
    generalize hF : (fun v : Nat => if allFrom (okOne g.2 h.2 lazy l l.length (v : Int)) 0 l.length then full g.2 h.2 lazy m d (l ++ [(v : Int)]) else []) = F
    have key : ∀ e v : Nat, ∀ A : List (List Int), v + e = m → loopO (fn71_B1 (fuelF fn71_F f)) ((lazy, l, (most : Int), g, h, (l.length : Int), A.take (most + 1), (v : Int), ()), ()) = some (((A ++ flatFrom F v e).take (most + 1), ()), ()) := by
      intro e
      induction e with
      | zero =>
        intro v A hv
        refine loop_end ?_
        rw [fn71_B1_at]
        simp only [bif_decide, hh1, flatFrom, List.append_nil]
        rw [if_neg (by omega)]
      | succ e ih =>
        intro v A hv
        by_cases hA : A.length ≤ most
        · have nx := ih (v + 1) (A ++ F v) (by omega)
          rw [List.append_assoc] at nx
          simp only [flatFrom]
          refine loop_step ?_ nx
          have hAt : A.take (most + 1) = A := List.take_of_length_le (by omega)
          have hfl := all_fits (fuelF fn71_F f) g h lazy l hg hh (by omega) (most : Int) (v : Int) A l.length 0 (by omega)
          rw [hAt, fn71_B1_at]
          simp only [bif_decide, hh1]
          rw [if_pos (by omega), if_pos (by omega)]
          erw [hfl]
          rw [← hF]
          simp only
          cases ha : allFrom (okOne g.2 h.2 lazy l l.length (v : Int)) 0 l.length
          · simp only [cond_false, Bool.false_eq_true, if_false, List.append_nil, hAt, w64_succ (show v < 4611686018427387904 by omega)]
          · have hr := all_run g h lazy hg1 hn hh1 hm hg hh d f (most - A.length) (l ++ [(v : Int)]) (by simp; omega) (by omega) (by omega)
            rw [show ((most - A.length : Nat) : Int) = (most : Int) - (A.length : Int) by omega, show most - A.length + 1 = most + 1 - A.length by omega] at hr
            have hle : ((full g.2 h.2 lazy m d (l ++ [(v : Int)])).take (most + 1 - A.length)).length ≤ 1000001 := by rw [List.length_take]; omega
            simp only [cond_true, if_true]
            rw [fn71_D0_at, own_small l (by omega)]
            simp only
            rw [w64_of (by omega) (by omega), guardB_true (by simp only [List.length_singleton, decide_eq_true_eq]; omega), hr]
            simp only
            rw [guardB_true (by simp only [decide_eq_true_eq]; omega)]
            simp only [w64_succ (show v < 4611686018427387904 by omega), take_app A _ (most + 1) (by omega)]
        · refine loop_end ?_
          have hlen : (A.take (most + 1)).length = most + 1 := by rw [List.length_take]; omega
          rw [fn71_B1_at]
          simp only [bif_decide, hh1, hlen]
          rw [if_pos (by omega), if_neg (by omega), List.take_append_of_le_length (by omega)]
    have k0 := key m 0 [] (by omega)
    simp only [List.take_nil, List.nil_append] at k0
    erw [k0]
    simp only [full]
    rw [hF]

theorem Few.nil : Few (([] : List (List Int)), ([] : List (Int × Int))) := ⟨by simp, by simp, by simp⟩
def ham : List Int → List Int → Nat
  | x :: xs, y :: ys => (if x = y then 0 else 1) + ham xs ys
  | _, _ => 0
theorem ham_zero : ∀ {a b : List Int}, a.length = b.length → (ham a b = 0 ↔ a = b)
  | [], [], _ => ⟨fun _ => rfl, fun _ => rfl⟩
  | x :: xs, y :: ys, h => by
    have ih := ham_zero (a := xs) (b := ys) (by simpa using h)
    simp only [ham, List.cons.injEq]
    by_cases c : x = y
    · rw [if_pos c]
      constructor
      · intro h; exact ⟨c, ih.1 (by omega)⟩
      · rintro ⟨_, h⟩; have := ih.2 h; omega
    · rw [if_neg c]
      constructor
      · intro h; omega
      · rintro ⟨h, _⟩; exact (c h).elim
def cnt1 (a : List Int) (L : List (List Int)) : Nat := L.countP fun q => decide (ham a q = 1)
def edges : List (List Int) → Nat
  | [] => 0
  | a :: L => cnt1 a L + edges L
def sub (v : Int) : List (List Int) → List (List Int)
  | [] => []
  | (x :: t) :: L => if x = v then t :: sub v L else sub v L
  | [] :: L => sub v L
def both : List (List Int) → List (List Int) → Nat
  | [], _ => 0
  | a :: A, B => B.count a + both A B
theorem both_nil : ∀ A, both A [] = 0
  | [] => rfl
  | a :: A => by simp only [both, both_nil A, List.count_nil]
theorem both_cons (t : List Int) : ∀ (A B : List (List Int)), both A (t :: B) = A.count t + both A B
  | [], B => by simp [both]
  | a :: A, B => by
    simp only [both, both_cons t A B, List.count_cons]
    by_cases c : a = t
    · subst c; simp; omega
    · have h1 : (t == a) = false := by simp; exact fun e => c e.symm
      have h2 : (a == t) = false := by simp; exact c
      simp only [h1, h2]
      simp; omega
theorem both_le : ∀ (A B : List (List Int)), B.Nodup → both A B ≤ A.length
  | [], _, _ => Nat.le_refl _
  | a :: A, B, h => by
    have := both_le A B h
    have := h.count (a := a)
    simp only [both, List.length_cons]
    split at this <;> omega
theorem both_comm : ∀ (A B : List (List Int)), both A B = both B A
  | [], B => by rw [both_nil]; rfl
  | a :: A, B => by rw [both_cons, both, both_comm A B]
structure Vec (d : Nat) (L : List (List Int)) : Prop where
  nodup : L.Nodup
  len : ∀ r ∈ L, r.length = d
  dom : ∀ r ∈ L, ∀ v ∈ r, 0 ≤ v ∧ v < 8
theorem sub_mem {v : Int} {t : List Int} : ∀ {L : List (List Int)}, t ∈ sub v L ↔ (v :: t) ∈ L
  | [] => by simp [sub]
  | [] :: L => by simp only [sub, sub_mem (L := L), List.mem_cons]; simp
  | (x :: s) :: L => by
    simp only [sub]
    by_cases c : x = v
    · rw [if_pos c, List.mem_cons, sub_mem (L := L), List.mem_cons]
      subst c; simp
    · rw [if_neg c, sub_mem (L := L), List.mem_cons]
      constructor
      · exact .inr
      · rintro (h | h)
        · injection h with h1; exact (c h1.symm).elim
        · exact h
theorem sub_nodup {v : Int} : ∀ {L : List (List Int)}, L.Nodup → (sub v L).Nodup
  | [], _ => List.nodup_nil
  | [] :: L, h => by simp only [sub]; exact sub_nodup (List.nodup_cons.1 h).2
  | (x :: s) :: L, h => by
    have h := List.nodup_cons.1 h
    simp only [sub]
    split
    · rename_i c
      subst c
      exact List.nodup_cons.2 ⟨fun hm => h.1 (sub_mem.1 hm), sub_nodup h.2⟩
    · exact sub_nodup h.2
theorem Vec.sub {d : Nat} {L : List (List Int)} (h : Vec (d + 1) L) (v : Int) : Vec d (sub v L) :=
  ⟨sub_nodup h.nodup, fun r hr => by have := h.len _ (sub_mem.1 hr); simpa using this, fun r hr x hx => h.dom _ (sub_mem.1 hr) x (List.mem_cons_of_mem _ hx)⟩
theorem Vec.tail {d : Nat} {r : List Int} {L : List (List Int)} (h : Vec d (r :: L)) : Vec d L :=
  ⟨(List.nodup_cons.1 h.nodup).2, fun s hs => h.len s (List.mem_cons_of_mem _ hs), fun s hs => h.dom s (List.mem_cons_of_mem _ hs)⟩
theorem eight {v : Int} (h : 0 ≤ v ∧ v < 8) : v = 0 ∨ v = 1 ∨ v = 2 ∨ v = 3 ∨ v = 4 ∨ v = 5 ∨ v = 6 ∨ v = 7 := by omega
def S8 (f : Int → Nat) : Nat := f 0 + f 1 + f 2 + f 3 + f 4 + f 5 + f 6 + f 7
def P8 (g : Int → Int → Nat) : Nat := g 0 1 + g 0 2 + g 0 3 + g 0 4 + g 0 5 + g 0 6 + g 0 7 + g 1 2 + g 1 3 + g 1 4 + g 1 5 + g 1 6 + g 1 7 + g 2 3 + g 2 4 + g 2 5 + g 2 6 + g 2 7 + g 3 4 + g 3 5 + g 3 6 + g 3 7 + g 4 5 + g 4 6 + g 4 7 + g 5 6 + g 5 7 + g 6 7
theorem len_split {d : Nat} : ∀ {L : List (List Int)}, Vec (d + 1) L → L.length = S8 fun v => (sub v L).length
  | [], _ => rfl
  | [] :: L, h => by have := h.len [] List.mem_cons_self; simp at this
  | (x :: t) :: L, h => by
    have ih := len_split h.tail
    have hx := h.dom _ List.mem_cons_self x List.mem_cons_self
    simp only [S8, List.length_cons] at ih ⊢
    rcases eight hx with rfl | rfl | rfl | rfl | rfl | rfl | rfl | rfl <;> simp [_root_.Go.Proofs.YtcabghamgilafaaGreat.V.sub] <;> omega
theorem cnt_split {d : Nat} (u : Int) (hu : 0 ≤ u ∧ u < 8) (t : List Int) (ht : t.length = d) : ∀ {L : List (List Int)}, Vec (d + 1) L → cnt1 (u :: t) L + (sub u L).count t = cnt1 t (sub u L) + S8 fun w => (sub w L).count t
  | [], _ => by simp [cnt1, _root_.Go.Proofs.YtcabghamgilafaaGreat.V.sub, S8]
  | [] :: L, h => by have := h.len [] List.mem_cons_self; simp at this
  | (x :: z) :: L, h => by
    have ih := cnt_split u hu t ht h.tail
    have hx := h.dom _ List.mem_cons_self x List.mem_cons_self
    have hz : t.length = z.length := by have := h.len _ List.mem_cons_self; simp at this; omega
    have h0 := ham_zero hz
    simp only [S8, cnt1] at ih ⊢
    by_cases c : u = x
    · subst c
      simp only [List.countP_cons, ham, if_true, _root_.Go.Proofs.YtcabghamgilafaaGreat.V.sub, Nat.zero_add, List.count_cons]
      rcases eight hx with rfl | rfl | rfl | rfl | rfl | rfl | rfl | rfl <;> simp [List.countP_cons, List.count_cons] <;> omega
    · simp only [List.countP_cons, ham, if_neg c, _root_.Go.Proofs.YtcabghamgilafaaGreat.V.sub, if_neg (fun e => c e.symm : ¬ x = u)]
      have e : decide (1 + ham t z = 1) = (z == t) := by
        by_cases g : t = z
        · have := h0.2 g
          subst g; simp; omega
        · have : ham t z ≠ 0 := fun k => g (h0.1 k)
          rw [decide_eq_false (by omega)]
          simp; exact fun e => g e.symm
      rw [e]
      rcases eight hx with rfl | rfl | rfl | rfl | rfl | rfl | rfl | rfl <;> simp [List.count_cons] <;> omega
theorem edges_split {d : Nat} : ∀ {L : List (List Int)}, Vec (d + 1) L → edges L = (S8 fun v => edges (sub v L)) + P8 fun v w => both (sub v L) (sub w L)
  | [], _ => rfl
  | [] :: L, h => by have := h.len [] List.mem_cons_self; simp at this
  | (u :: t) :: L, h => by
    have ih := edges_split h.tail
    have hu := h.dom _ List.mem_cons_self u List.mem_cons_self
    have ht : t.length = d := by have := h.len _ List.mem_cons_self; simpa using this
    have hc := cnt_split u hu t ht h.tail
    simp only [S8, P8] at ih hc ⊢
    simp only [edges]
    rcases eight hu with rfl | rfl | rfl | rfl | rfl | rfl | rfl | rfl <;> simp [_root_.Go.Proofs.YtcabghamgilafaaGreat.V.sub, edges, both, both_cons] <;> omega
theorem size_le : ∀ (d : Nat) (L : List (List Int)), Vec d L → L.length ≤ 8 ^ d
  | 0, L, h => by
    match L, h with
    | [], _ => simp
    | [_], _ => simp
    | a :: b :: L, h =>
      have h1 := h.len a List.mem_cons_self
      have h2 := h.len b (List.mem_cons_of_mem _ List.mem_cons_self)
      have := (List.nodup_cons.1 h.nodup).1
      rw [List.eq_nil_of_length_eq_zero h1, List.eq_nil_of_length_eq_zero h2] at this
      simp at this
  | d + 1, L, h => by
    rw [len_split h, Nat.pow_succ]
    simp only [S8]
    have f := fun v => size_le d _ (h.sub v)
    have := f 0; have := f 1; have := f 2; have := f 3; have := f 4; have := f 5; have := f 6; have := f 7
    omega
theorem pair_le {N a b c : Nat} (h1 : c ≤ a) (h2 : c ≤ b) (ha : a ≤ N) (hb : b ≤ N) : 2 * (N * c) + (a * a + b * b) ≤ N * a + N * b + 2 * (a * b) := by
  have go : ∀ a b : Nat, c ≤ a → a ≤ b → b ≤ N → 2 * (N * c) + (a * a + b * b) ≤ N * a + N * b + 2 * (a * b) := fun a b h1 h2 hb => by
    obtain ⟨k, rfl⟩ : ∃ k, b = a + k := ⟨b - a, by omega⟩
    have e1 : N * c ≤ N * a := Nat.mul_le_mul_left _ h1
    have e2 : k * k ≤ N * k := Nat.mul_le_mul_right _ (by omega)
    have e3 : k * a = a * k := Nat.mul_comm _ _
    simp only [Nat.mul_add, Nat.add_mul]
    omega
  rcases Nat.le_total a b with h | h
  · exact go a b h1 h hb
  · have := go b a h2 h ha
    have e : b * a = a * b := Nat.mul_comm _ _
    omega
def sumN (A : Nat → Nat) : Nat → Nat
  | 0 => 0
  | k + 1 => sumN A k + A k
def parN (B : Nat → Nat → Nat) : Nat → Nat
  | 0 => 0
  | k + 1 => parN B k + sumN (fun v => B v k) k
theorem num_I (N K : Nat) (A E : Nat → Nat) (ih : ∀ v, 2 * (N * E v) + 8 * (N * A v) ≤ K * A v + 8 * (A v * A v)) : ∀ k, 2 * (N * sumN E k) + 8 * (N * sumN A k) ≤ K * sumN A k + 8 * sumN (fun v => A v * A v) k
  | 0 => by simp [sumN]
  | k + 1 => by
    have h := num_I N K A E ih k
    have g := ih k
    simp only [sumN, Nat.mul_add]
    generalize N * sumN E k = x1 at *
    generalize N * sumN A k = x2 at *
    generalize K * sumN A k = x3 at *
    generalize N * E k = x4 at *
    generalize N * A k = x5 at *
    generalize K * A k = x6 at *
    generalize A k * A k = x7 at *
    omega
theorem num_X (N : Nat) (A : Nat → Nat) (b : Nat → Nat) (a : Nat) (pr : ∀ v, 2 * (N * b v) + (A v * A v + a * a) ≤ N * A v + N * a + 2 * (A v * a)) : ∀ j, 2 * (N * sumN b j) + j * (a * a) + sumN (fun v => A v * A v) j ≤ j * (N * a) + N * sumN A j + 2 * (sumN A j * a)
  | 0 => by simp [sumN]
  | j + 1 => by
    have h := num_X N A b a pr j
    have g := pr j
    simp only [sumN, Nat.mul_add, Nat.add_mul, Nat.one_mul]
    generalize N * sumN b j = x1 at *
    generalize N * sumN A j = x2 at *
    generalize sumN A j * a = x3 at *
    generalize N * b j = x4 at *
    generalize N * A j = x5 at *
    generalize A j * a = x6 at *
    generalize A j * A j = x7 at *
    generalize j * (a * a) = x8 at *
    generalize j * (N * a) = x9 at *
    generalize a * a = x10 at *
    generalize N * a = x11 at *
    omega
theorem num_P (N : Nat) (A : Nat → Nat) (B : Nat → Nat → Nat) (pr : ∀ v w, 2 * (N * B v w) + (A v * A v + A w * A w) ≤ N * A v + N * A w + 2 * (A v * A w)) : ∀ k, 2 * (N * parN B k) + k * sumN (fun v => A v * A v) k + N * sumN A k ≤ k * (N * sumN A k) + sumN A k * sumN A k
  | 0 => by simp [sumN, parN]
  | k + 1 => by
    have h := num_P N A B pr k
    have g := num_X N A (fun v => B v k) (A k) (fun v => pr v k) k
    have cm := Nat.mul_comm (A k) (sumN A k)
    simp only [sumN, parN, Nat.mul_add, Nat.add_mul, Nat.one_mul] at *
    generalize N * parN B k = x1 at *
    generalize N * sumN (fun v => B v k) k = x2 at *
    generalize k * sumN (fun v => A v * A v) k = x3 at *
    generalize k * (A k * A k) = x4 at *
    generalize k * (N * sumN A k) = x5 at *
    generalize k * (N * A k) = x6 at *
    generalize N * sumN A k = x7 at *
    generalize N * A k = x8 at *
    generalize A k * sumN A k = x9 at *
    generalize sumN A k * A k = x10 at *
    generalize sumN A k * sumN A k = x11 at *
    generalize A k * A k = x12 at *
    generalize sumN (fun v => A v * A v) k = x13 at *
    omega
theorem edges_bound : ∀ (d : Nat) (L : List (List Int)), Vec d L → 2 * (8 ^ d * edges L) + 8 * (8 ^ d * L.length) ≤ 7 * d * 8 ^ d * L.length + 8 * (L.length * L.length)
  | 0, L, h => by
    have hs := size_le 0 L h
    match L, hs with
    | [], _ => simp [edges]
    | [a], _ => simp [edges, cnt1]
    | a :: b :: L, hs => simp at hs
  | d + 1, L, h => by
    obtain ⟨N, hN⟩ : ∃ N, 8 ^ d = N := ⟨_, rfl⟩
    obtain ⟨K, hK⟩ : ∃ K, 7 * d * N = K := ⟨_, rfl⟩
    have hpow : 8 ^ (d + 1) = 8 * N := by rw [Nat.pow_succ, hN, Nat.mul_comm]
    have hK2 : 7 * (d + 1) * (8 * N) = 8 * K + 56 * N := by
      rw [← hK, show 7 * (d + 1) = 7 * d + 7 by omega, Nat.add_mul]
      have : 7 * d * (8 * N) = 8 * (7 * d * N) := by rw [Nat.mul_left_comm]
      omega
    have ih : ∀ v, 2 * (N * edges (sub v L)) + 8 * (N * (sub v L).length) ≤ K * (sub v L).length + 8 * ((sub v L).length * (sub v L).length) := fun v => by
      have := edges_bound d _ (h.sub v)
      rwa [hN, hK] at this
    have sz : ∀ v, (sub v L).length ≤ N := fun v => by rw [← hN]; exact size_le d _ (h.sub v)
    have pr : ∀ v w, 2 * (N * both (sub v L) (sub w L)) + ((sub v L).length * (sub v L).length + (sub w L).length * (sub w L).length) ≤ N * (sub v L).length + N * (sub w L).length + 2 * ((sub v L).length * (sub w L).length) := fun v w =>
      pair_le (both_le _ _ (h.sub w).nodup) (by rw [both_comm]; exact both_le _ _ (h.sub v).nodup) (sz v) (sz w)
    have tI := num_I N K (fun v => (sub (v : Int) L).length) (fun v => edges (sub (v : Int) L)) (fun v => ih v) 8
    have tP := num_P N (fun v => (sub (v : Int) L).length) (fun v w => both (sub (v : Int) L) (sub (w : Int) L)) (fun v w => pr v w) 8
    have e1 : edges L = sumN (fun v => edges (sub (v : Int) L)) 8 + parN (fun v w => both (sub (v : Int) L) (sub (w : Int) L)) 8 := by
      rw [edges_split h]
      simp only [S8, P8, sumN, parN, Nat.zero_add, Nat.add_zero]
      simp only [Int.ofNat_zero, Int.ofNat_one, show ((2 : Nat) : Int) = 2 from rfl, show ((3 : Nat) : Int) = 3 from rfl, show ((4 : Nat) : Int) = 4 from rfl, show ((5 : Nat) : Int) = 5 from rfl, show ((6 : Nat) : Int) = 6 from rfl, show ((7 : Nat) : Int) = 7 from rfl, show ((1 : Nat) : Int) = 1 from rfl, show ((0 : Nat) : Int) = 0 from rfl]
      omega
    have e2 : L.length = sumN (fun v => (sub (v : Int) L).length) 8 := by
      rw [len_split h]
      simp only [S8, sumN, Nat.zero_add]
      rfl
    rw [hpow, hK2, e1, e2]
    generalize sumN (fun v => (sub (v : Int) L).length) 8 = SA at *
    generalize sumN (fun v => edges (sub (v : Int) L)) 8 = SE at *
    generalize parN (fun v w => both (sub (v : Int) L) (sub (w : Int) L)) 8 = SB at *
    generalize sumN (fun v => (sub (v : Int) L).length * (sub (v : Int) L).length) 8 = Q at *
    rw [Nat.mul_add (8 * N), Nat.add_mul (8 * K)]
    simp only [Nat.mul_assoc]
    generalize N * SA = y1 at *
    generalize N * SE = y2 at *
    generalize N * SB = y3 at *
    generalize K * SA = y4 at *
    generalize SA * SA = y5 at *
    omega
theorem edges_6000 {d : Nat} {L : List (List Int)} (h : Vec d L) (hd : d ≤ 6) (hs : L.length ≤ 300) : edges L ≤ 6000 := by
  have b := edges_bound d L h
  have z := size_le d L h
  have q1 : L.length * L.length ≤ 300 * L.length := Nat.mul_le_mul_right _ hs
  have q2 : L.length * L.length ≤ 8 ^ d * L.length := Nat.mul_le_mul_right _ z
  generalize L.length * L.length = q at *
  have cases7 : d = 0 ∨ d = 1 ∨ d = 2 ∨ d = 3 ∨ d = 4 ∨ d = 5 ∨ d = 6 := by omega
  rcases cases7 with rfl | rfl | rfl | rfl | rfl | rfl | rfl <;> simp only [Nat.reducePow, Nat.reduceMul] at b z q2 <;> omega

theorem fn65_B0_at (a : List (Int)) (b : List (Int)) (count : Int) (i : Int) : fn65_B0 ((a, b, count, i, ()), ()) = bif (decide (i < (List.length a : Int))) then (guardB (inb i (List.length a)) (guardB (inb i (List.length b)) (bif ((List.getD a (Int.toNat i) (0 : Int)) != (List.getD b (Int.toNat i) (0 : Int))) then (some (.inl ((a, b, (w64 (count + (1 : Int))), (w64 (i + (1 : Int))), ()), ()))) else (some (.inl ((a, b, count, (w64 (i + (1 : Int))), ()), ())))))) else (some (.inr ((count, ()), ()))) := rfl
theorem fn66_B0_at (states : List (List (Int))) (i : Int) (j : Int) (t2 : (List (List (Int))) × (List ((Int) × (Int)))) (out : (List (List (Int))) × (List ((Int) × (Int)))) : fn66_B0 ((states, i, j, ()), (t2, out, ())) = bif (decide (j < (List.length states : Int))) then (guardB (inb i (List.length states)) (guardB (inb j (List.length states)) (match fn65 ((List.getD states (Int.toNat i) ([] : (List Int))), (List.getD states (Int.toNat j) ([] : (List Int))), ()) () with | some ((r, ()), ()) => (bif (r == (1 : Int)) then (guardB (decide ((List.length out.2 + List.length [(i, j)]) * 16 ≤ 70368744177664)) (some (.inl ((states, i, (w64 (j + (1 : Int))), ()), (t2, (out.1, (out.2 ++ [(i, j)])), ()))))) else (some (.inl ((states, i, (w64 (j + (1 : Int))), ()), (t2, out, ()))))) | none => none))) else (some (.inr ((states, i, ()), (t2, out, ())))) := rfl
theorem fn66_B1_at (states : List (List (Int))) (i : Int) (t2 : (List (List (Int))) × (List ((Int) × (Int)))) (out : (List (List (Int))) × (List ((Int) × (Int)))) : fn66_B1 ((states, i, ()), (t2, out, ())) = bif (decide (i < (List.length states : Int))) then (match loopO fn66_B0 ((states, i, (w64 (i + (1 : Int))), ()), (t2, out, ())) with | some ((states2, i2, ()), (t2_2, out2, ())) => some (.inl ((states2, (w64 (i2 + (1 : Int))), ()), (t2_2, out2, ()))) | none => none) else (some (.inr ((), (t2, out, ())))) := rfl
theorem fn67_B0_at (b : List (Int)) (out : List (Int)) (t9 : List (Int)) (t10 : Int) (t11 : Int) : fn67_B0 ((b, out, t9, t10, t11, ()), ()) = bif (decide (t11 < t10)) then (guardB (inb t11 (List.length t9)) (guardB (inb t11 (List.length b)) (bif ((List.getD b (Int.toNat t11) (0 : Int)) != (List.getD t9 (Int.toNat t11) (0 : Int))) then (guardB (decide ((List.length out + List.length [t11]) * 8 ≤ 70368744177664)) (some (.inl ((b, (out ++ [t11]), t9, t10, (w64 (t11 + (1 : Int))), ()), ())))) else (some (.inl ((b, out, t9, t10, (w64 (t11 + (1 : Int))), ()), ())))))) else (some (.inr ((out, ()), ()))) := rfl
theorem fn6_B0_at (i : Int) (i2 : Nat) (t17 : Int) (t18 : Int) (lo : Nat) (hi : Nat) (t28 : Int) (t29 : Int) (t4 : (List (List (Int))) × (List ((Int) × (Int)))) (out : (List (List (Int))) × (List ((Int) × (Int)))) : fn6_B0 ((i, i2, t17, t18, (lo, hi), t28, t29, ()), (t4, out, ())) = bif (decide (t29 < t28)) then (guardB (decide (0 ≤ t29) && decide (t29 < (((hi : Nat) : Int) - ((lo : Nat) : Int)))) (match fn45 ((List.getD out.1 i2 ([] : (List Int))), (List.getD out.1 (lo + (Int.toNat t29)) ([] : (List Int))), ()) () with | some ((r, ()), ()) => (bif r then (guardB (decide ((List.length out.2 + List.length [(i, (w64 ((w64 (i + (1 : Int))) + t29)))]) * 16 ≤ 70368744177664)) (some (.inl ((i, i2, t17, t18, (lo, hi), t28, (w64 (t29 + (1 : Int))), ()), (t4, (out.1, (out.2 ++ [(i, (w64 ((w64 (i + (1 : Int))) + t29)))])), ()))))) else (some (.inl ((i, i2, t17, t18, (lo, hi), t28, (w64 (t29 + (1 : Int))), ()), (t4, out, ()))))) | none => none)) else (some (.inr ((t17, t18, ()), (t4, out, ())))) := rfl
theorem fn6_B1_at (t17 : Int) (t18 : Int) (t4 : (List (List (Int))) × (List ((Int) × (Int)))) (out : (List (List (Int))) × (List ((Int) × (Int)))) : fn6_B1 ((t17, t18, ()), (t4, out, ())) = bif (decide (t18 < t17)) then (guardB (inb t18 (List.length out.1)) (guardB (decide (0 ≤ (w64 (t18 + (1 : Int)))) && decide ((w64 (t18 + (1 : Int))) ≤ (List.length out.1 : Int)) && decide ((List.length out.1 : Int) ≤ (List.length out.1 : Int))) (match loopO fn6_B0 ((t18, (Int.toNat t18), t17, t18, ((Int.toNat (w64 (t18 + (1 : Int)))), (Int.toNat (List.length out.1 : Int))), ((((Int.toNat (List.length out.1 : Int)) - (Int.toNat (w64 (t18 + (1 : Int))))) : Nat) : Int), (0 : Int), ()), (t4, out, ())) with | some ((t17_2, t18_2, ()), (t4_2, out2, ())) => some (.inl ((t17_2, (w64 (t18_2 + (1 : Int))), ()), (t4_2, out2, ()))) | none => none))) else (some (.inr ((), (t4, out, ())))) := rfl
theorem ham_drop {a b : List Int} {k : Nat} (h1 : k < a.length) (h2 : k < b.length) : ham (a.drop k) (b.drop k) = (if a.getD k 0 = b.getD k 0 then 0 else 1) + ham (a.drop (k + 1)) (b.drop (k + 1)) := by
  rw [List.drop_eq_getElem_cons h1, List.drop_eq_getElem_cons h2, getD_at h1, getD_at h2]
  rfl
theorem ham_end {a b : List Int} : ham (a.drop a.length) b = 0 := by rw [List.drop_length]; cases b <;> rfl
theorem Apart_eq (a b : List Int) (hl : a.length = b.length) (hs : a.length ≤ 1048576) : fn65 (a, b, ()) () = some (((ham a b : Int), ()), ()) := by
  have key : ∀ d k c : Nat, k + d = a.length → c ≤ k → loopO fn65_B0 ((a, b, (c : Int), (k : Int), ()), ()) = some (((((c + ham (a.drop k) (b.drop k) : Nat)) : Int), ()), ()) := by
    intro d
    induction d with
    | zero =>
      intro k c hk _
      refine loop_end ?_
      rw [fn65_B0_at]
      simp only [bif_decide]
      rw [if_neg (by omega), show k = a.length by omega, ham_end]
      simp
    | succ d ih =>
      intro k c hk hc
      have h1 : k < a.length := by omega
      have h2 : k < b.length := by omega
      have e := ham_drop h1 h2
      by_cases hq : a.getD k 0 = b.getD k 0
      · rw [if_pos hq] at e
        rw [e]
        refine loop_step ?_ (by rw [Nat.zero_add]; exact ih (k + 1) c (by omega) (by omega))
        rw [fn65_B0_at]
        simp only [bif_decide, Int.toNat_natCast]
        rw [if_pos (by omega), guardB_true (inb_true (by omega) (by omega)), guardB_true (inb_true (by omega) (by omega)), bne_eq hq]
        simp only [cond_false, w64_succ (show k < 4611686018427387904 by omega)]
      · rw [if_neg hq] at e
        rw [e]
        have := ih (k + 1) (c + 1) (by omega) (by omega)
        rw [show c + 1 + ham (a.drop (k + 1)) (b.drop (k + 1)) = c + (1 + ham (a.drop (k + 1)) (b.drop (k + 1))) by omega] at this
        refine loop_step ?_ this
        rw [fn65_B0_at]
        simp only [bif_decide, Int.toNat_natCast]
        rw [if_pos (by omega), guardB_true (inb_true (by omega) (by omega)), guardB_true (inb_true (by omega) (by omega)), bne_ne hq]
        simp only [cond_true, w64_succ (show k < 4611686018427387904 by omega), w64_succ (show c < 4611686018427387904 by omega)]
  simp only [fn65]
  have := key a.length 0 0 (by omega) (by omega)
  simp only [List.drop_zero, Nat.zero_add] at this
  erw [this]
theorem places_eq (a b : List Int) (hl : a.length = b.length) (hs : a.length ≤ 1048576) : ∃ R : List Int, fn67 (a, b, ()) () = some ((R, ()), ()) ∧ R.length = ham a b := by
  have key : ∀ d k : Nat, ∀ o : List Int, k + d = a.length → o.length ≤ k → ∃ R : List Int, loopO fn67_B0 ((b, o, a, (a.length : Int), (k : Int), ()), ()) = some ((R, ()), ()) ∧ R.length = o.length + ham (a.drop k) (b.drop k) := by
    intro d
    induction d with
    | zero =>
      intro k o hk _
      refine ⟨o, loop_end ?_, ?_⟩
      · rw [fn67_B0_at]
        simp only [bif_decide]
        rw [if_neg (by omega)]
      · rw [show k = a.length by omega, ham_end]; rfl
    | succ d ih =>
      intro k o hk hc
      have h1 : k < a.length := by omega
      have h2 : k < b.length := by omega
      have e := ham_drop h1 h2
      by_cases hq : a.getD k 0 = b.getD k 0
      · rw [if_pos hq] at e
        obtain ⟨R, q1, q2⟩ := ih (k + 1) o (by omega) (by omega)
        refine ⟨R, loop_step ?_ q1, by rw [q2, e]; omega⟩
        rw [fn67_B0_at]
        simp only [bif_decide, Int.toNat_natCast]
        rw [if_pos (by omega), guardB_true (inb_true (by omega) (by omega)), guardB_true (inb_true (by omega) (by omega)), bne_eq hq.symm]
        simp only [cond_false, w64_succ (show k < 4611686018427387904 by omega)]
      · rw [if_neg hq] at e
        obtain ⟨R, q1, q2⟩ := ih (k + 1) (o ++ [(k : Int)]) (by omega) (by simp; omega)
        refine ⟨R, loop_step ?_ q1, by rw [q2, e]; simp; omega⟩
        rw [fn67_B0_at]
        simp only [bif_decide, Int.toNat_natCast]
        rw [if_pos (by omega), guardB_true (inb_true (by omega) (by omega)), guardB_true (inb_true (by omega) (by omega)), bne_ne (fun h => hq h.symm)]
        simp only [cond_true, w64_succ (show k < 4611686018427387904 by omega)]
        rw [guardB_true (by simp only [List.length_singleton, decide_eq_true_eq]; omega)]
  obtain ⟨R, q1, q2⟩ := key a.length 0 [] (by omega) (by simp)
  refine ⟨R, ?_, by simpa using q2⟩
  simp only [fn67]
  erw [q1]
theorem isChange_eq (a b : List Int) (hl : a.length = b.length) (hs : a.length ≤ 1048576) : fn45 (a, b, ()) () = some ((decide (ham a b = 1), ()), ()) := by
  obtain ⟨R, q1, q2⟩ := places_eq a b hl hs
  simp only [fn45, q1]
  rw [q2]
  by_cases h : ham a b = 1
  · rw [decide_eq_true h, beq_eq (by omega)]
  · rw [decide_eq_false h, beq_ne (by omega)]
def rowSteps (i : Nat) (a : List Int) : Nat → List (List Int) → List (Int × Int)
  | _, [] => []
  | k, b :: L => if ham a b = 1 then ((i : Int), (k : Int)) :: rowSteps i a (k + 1) L else rowSteps i a (k + 1) L
def allSteps : Nat → List (List Int) → List (Int × Int)
  | _, [] => []
  | i, a :: L => rowSteps i a (i + 1) L ++ allSteps (i + 1) L
theorem rowSteps_len (i : Nat) (a : List Int) : ∀ (L : List (List Int)) (k : Nat), (rowSteps i a k L).length = cnt1 a L
  | [], _ => rfl
  | b :: L, k => by
    have ih := rowSteps_len i a L (k + 1)
    simp only [rowSteps, cnt1, List.countP_cons] at ih ⊢
    by_cases h : ham a b = 1
    · simp [h, ih]
    · simp [h, ih]
theorem allSteps_len : ∀ (L : List (List Int)) (i : Nat), (allSteps i L).length = edges L
  | [], _ => rfl
  | a :: L, i => by simp only [allSteps, edges, List.length_append, rowSteps_len, allSteps_len L]
theorem drop_cons {A : List (List Int)} {j : Nat} (h : j < A.length) : A.drop j = A.getD j [] :: A.drop (j + 1) := by
  rw [List.drop_eq_getElem_cons h, getD_at h]
theorem specRow (A : List (List Int)) {n : Nat} (hA : ∀ a ∈ A, a.length = n) (hn : n ≤ 1048576) (hs : A.length ≤ 1048576) {i : Nat} (hi : i < A.length) (t2 : List (List Int) × List (Int × Int)) (o1 : List (List Int)) : ∀ (d j : Nat) (o : List (Int × Int)), j + d = A.length → o.length + (rowSteps i (A.getD i []) j (A.drop j)).length ≤ 1048576 →
    loopO fn66_B0 ((A, (i : Int), (j : Int), ()), (t2, (o1, o), ())) = some ((A, (i : Int), ()), (t2, (o1, o ++ rowSteps i (A.getD i []) j (A.drop j)), ())) := by
  have hlen : ∀ k, k < A.length → (A.getD k []).length = n := fun k hk => by rw [getD_at hk]; exact hA _ (List.getElem_mem hk)
  intro d
  induction d with
  | zero =>
    intro j o hj _
    refine loop_end ?_
    rw [fn66_B0_at]
    simp only [bif_decide]
    rw [if_neg (by omega), List.drop_eq_nil_of_le (by omega)]
    simp only [rowSteps, List.append_nil]
  | succ d ih =>
    intro j o hj hb
    have hj' : j < A.length := by omega
    rw [drop_cons hj'] at hb ⊢
    have st := fn66_B0_at A (i : Int) (j : Int) t2 (o1, o)
    simp only [bif_decide, Int.toNat_natCast] at st
    rw [if_pos (by omega), guardB_true (inb_true (by omega) (by omega)), guardB_true (inb_true (by omega) (by omega)), Apart_eq _ _ (by rw [hlen i hi, hlen j hj']) (by rw [hlen i hi]; exact hn)] at st
    simp only [w64_succ (show j < 4611686018427387904 by omega)] at st
    by_cases hq : ham (A.getD i []) (A.getD j []) = 1
    · simp only [rowSteps, if_pos hq, List.length_cons] at hb ⊢
      rw [beq_eq (by omega)] at st
      simp only [cond_true] at st
      rw [guardB_true (by simp only [List.length_singleton, decide_eq_true_eq]; omega)] at st
      have := ih (j + 1) (o ++ [((i : Int), (j : Int))]) (by omega) (by simp only [List.length_append, List.length_singleton]; omega)
      rw [List.append_assoc, List.singleton_append] at this
      exact loop_step st this
    · simp only [rowSteps, if_neg hq] at hb ⊢
      rw [beq_ne (by omega)] at st
      simp only [cond_false] at st
      exact loop_step st (ih (j + 1) o (by omega) hb)
theorem l6Space_eq (A : List (List Int)) {n : Nat} (hA : ∀ a ∈ A, a.length = n) (hn : n ≤ 1048576) (hs : A.length ≤ 1048576) (he : edges A ≤ 1048576) : fn66 (A, ()) () = some (((A, allSteps 0 A), ()), ()) := by
  have key : ∀ (d i : Nat) (o : List (Int × Int)), i + d = A.length → o.length + (allSteps i (A.drop i)).length ≤ 1048576 →
      loopO fn66_B1 ((A, (i : Int), ()), ((([] : List (List Int)), ([] : List (Int × Int))), (A, o), ())) = some ((), ((([] : List (List Int)), ([] : List (Int × Int))), (A, o ++ allSteps i (A.drop i)), ())) := by
    intro d
    induction d with
    | zero =>
      intro i o hi _
      refine loop_end ?_
      rw [fn66_B1_at]
      simp only [bif_decide]
      rw [if_neg (by omega), List.drop_eq_nil_of_le (by omega)]
      simp only [allSteps, List.append_nil]
    | succ d ih =>
      intro i o hi hb
      have hi' : i < A.length := by omega
      rw [drop_cons hi'] at hb ⊢
      simp only [allSteps, List.length_append] at hb ⊢
      have st := fn66_B1_at A (i : Int) (([] : List (List Int)), ([] : List (Int × Int))) (A, o)
      simp only [bif_decide] at st
      rw [if_pos (by omega), w64_succ (show i < 4611686018427387904 by omega)] at st
      have hr := specRow A hA hn hs hi' (([] : List (List Int)), ([] : List (Int × Int))) A (A.length - (i + 1)) (i + 1) o (by omega) (by omega)
      erw [hr] at st
      simp only [w64_succ (show i < 4611686018427387904 by omega)] at st
      have := ih (i + 1) (o ++ rowSteps i (A.getD i []) (i + 1) (A.drop (i + 1))) (by omega) (by simp only [List.length_append]; omega)
      rw [List.append_assoc] at this
      exact loop_step st this
  simp only [fn66]
  have := key A.length 0 [] (by omega) (by simp only [List.drop_zero, allSteps_len, List.length_nil]; omega)
  simp only [List.drop_zero, List.nil_append] at this
  erw [this]
theorem implRow (A : List (List Int)) {n : Nat} (hA : ∀ a ∈ A, a.length = n) (hn : n ≤ 1048576) (hs : A.length ≤ 1048576) {i : Nat} (hi : i < A.length) (t17 t18 : Int) (t4 : List (List Int) × List (Int × Int)) : ∀ (d j : Nat) (o : List (Int × Int)), i + 1 + j + d = A.length → o.length + (rowSteps i (A.getD i []) (i + 1 + j) (A.drop (i + 1 + j))).length ≤ 1048576 →
    loopO fn6_B0 (((i : Int), i, t17, t18, (i + 1, A.length), ((A.length - (i + 1) : Nat) : Int), (j : Int), ()), (t4, (A, o), ())) = some ((t17, t18, ()), (t4, (A, o ++ rowSteps i (A.getD i []) (i + 1 + j) (A.drop (i + 1 + j))), ())) := by
  have hlen : ∀ k, k < A.length → (A.getD k []).length = n := fun k hk => by rw [getD_at hk]; exact hA _ (List.getElem_mem hk)
  intro d
  induction d with
  | zero =>
    intro j o hj _
    refine loop_end ?_
    rw [fn6_B0_at]
    simp only [bif_decide]
    rw [if_neg (by omega), List.drop_eq_nil_of_le (by omega)]
    simp only [rowSteps, List.append_nil]
  | succ d ih =>
    intro j o hj hb
    have hj' : i + 1 + j < A.length := by omega
    have ih := ih (j + 1)
    rw [show i + 1 + (j + 1) = i + 1 + j + 1 by omega] at ih
    rw [drop_cons hj'] at hb ⊢
    have st := fn6_B0_at (i : Int) i t17 t18 (i + 1) A.length ((A.length - (i + 1) : Nat) : Int) (j : Int) t4 (A, o)
    simp only [bif_decide, Int.toNat_natCast] at st
    rw [if_pos (by omega), guardB_true (by simp only [Bool.and_eq_true, decide_eq_true_eq]; omega), isChange_eq _ _ (by rw [hlen i hi, hlen _ hj']) (by rw [hlen i hi]; exact hn)] at st
    simp only [w64_succ (show j < 4611686018427387904 by omega), w64_succ (show i < 4611686018427387904 by omega)] at st
    by_cases hq : ham (A.getD i []) (A.getD (i + 1 + j) []) = 1
    · simp only [rowSteps, if_pos hq, List.length_cons] at hb ⊢
      rw [decide_eq_true hq] at st
      simp only [cond_true] at st
      rw [guardB_true (by simp only [List.length_singleton, decide_eq_true_eq]; omega), w64_of (by omega) (by omega), show ((i + 1 : Nat) : Int) + (j : Int) = ((i + 1 + j : Nat) : Int) by omega] at st
      have := ih (o ++ [((i : Int), ((i + 1 + j : Nat) : Int))]) (by omega) (by simp only [List.length_append, List.length_singleton]; omega)
      rw [List.append_assoc, List.singleton_append] at this
      exact loop_step st this
    · simp only [rowSteps, if_neg hq] at hb ⊢
      rw [decide_eq_false hq] at st
      simp only [cond_false] at st
      exact loop_step st (ih o (by omega) hb)
theorem spaceOf_eq (A : List (List Int)) {n : Nat} (hsort : sortRows A = A) (hA : ∀ a ∈ A, a.length = n) (hn : n ≤ 1048576) (hs : A.length ≤ 1048576) (he : edges A ≤ 1048576) : fn6 (A, ()) () = some (((A, allSteps 0 A), ()), ()) := by
  have key : ∀ (d i : Nat) (o : List (Int × Int)), i + d = A.length → o.length + (allSteps i (A.drop i)).length ≤ 1048576 →
      loopO fn6_B1 (((A.length : Int), (i : Int), ()), ((([] : List (List Int)), ([] : List (Int × Int))), (A, o), ())) = some ((), ((([] : List (List Int)), ([] : List (Int × Int))), (A, o ++ allSteps i (A.drop i)), ())) := by
    intro d
    induction d with
    | zero =>
      intro i o hi _
      refine loop_end ?_
      rw [fn6_B1_at]
      simp only [bif_decide]
      rw [if_neg (by omega), List.drop_eq_nil_of_le (by omega)]
      simp only [allSteps, List.append_nil]
    | succ d ih =>
      intro i o hi hb
      have hi' : i < A.length := by omega
      rw [drop_cons hi'] at hb ⊢
      simp only [allSteps, List.length_append] at hb ⊢
      have st := fn6_B1_at (A.length : Int) (i : Int) (([] : List (List Int)), ([] : List (Int × Int))) (A, o)
      simp only [bif_decide, Int.toNat_natCast] at st
      rw [if_pos (by omega), guardB_true (inb_true (by omega) (by omega)), w64_succ (show i < 4611686018427387904 by omega), guardB_true (by simp only [Bool.and_eq_true, decide_eq_true_eq]; omega)] at st
      simp only [Int.toNat_natCast] at st
      have hr := implRow A hA hn hs hi' (A.length : Int) (i : Int) (([] : List (List Int)), ([] : List (Int × Int))) (A.length - (i + 1)) 0 o (by omega) (by simp only [Nat.add_zero]; omega)
      simp only [Nat.add_zero] at hr
      erw [hr] at st
      simp only [w64_succ (show i < 4611686018427387904 by omega)] at st
      have := ih (i + 1) (o ++ rowSteps i (A.getD i []) (i + 1) (A.drop (i + 1))) (by omega) (by simp only [List.length_append]; omega)
      rw [List.append_assoc] at this
      exact loop_step st this
  have hS : slices_SortFunc_int_int_own () (A, ()) = some ((), (A, ())) := by
    simp only [slices_SortFunc_int_int_own, sortRowsFn]
    rw [guardB_true (by simp only [Bool.and_eq_true, decide_eq_true_eq, List.all_eq_true]; exact ⟨by omega, fun a ha => by rw [hA a ha]; omega⟩), hsort]
  simp only [fn6]
  erw [hS]
  have := key A.length 0 [] (by omega) (by simp only [List.drop_zero, allSteps_len, List.length_nil]; omega)
  simp only [List.drop_zero, List.nil_append] at this
  simp only
  erw [this]

theorem fn0_B0_at (rc : argP fn0_a → obP (extObs 0 fn0_o) → Option fn0_E.P) (t19 : Int) (t20 : Int) (o0 : (Int) × (List ((Int) × (Int)))) (o2 : List (Int)) (o3 : (Int) × (List ((Int) × (Int)))) (o4 : Bool) (x : Int) (o6 : List (List (Int))) : fn0_B0 rc ((t19, t20, ()), (o0, o2, o3, o4, x, o6, ())) = bif (decide (t20 < t19)) then (guardB (inb x (List.length o2)) (match fn20 (o0, x, ()) () with | some ((r, ()), ()) => (match fn1 (r, ()) (x, o3, t20, (List.set o2 (Int.toNat x) t20), o4, ()) with | some ((r2, ()), (o, o5, o7, o8, o9, ())) => (bif (!r2) then (match rc ((w64 (o + (1 : Int))), ()) (o0, o8, o5, o9, o6, ()) with | some ((r3, ()), (o10, o11, o12, o13, o14, ())) => (bif (!r3) then (some (.inr (.inl ((false, ()), (o10, o11, o12, o13, o14, ()))))) else (some (.inl ((t19, (w64 (t20 + (1 : Int))), ()), (o10, o11, o12, o13, o, o14, ()))))) | none => none) else (some (.inl ((t19, (w64 (t20 + (1 : Int))), ()), (o0, o8, o5, o9, o, o6, ()))))) | none => none) | none => none)) else (some (.inr (.inr ((), (o0, o2, o3, o4, o6, ()))))) := rfl
theorem space_run (g h : Int × List (Int × Int)) (lazy : Bool) {n m : Nat} (hg1 : g.1 = n) (hn : n ≤ 6) (hh1 : h.1 = m) (hm : m ≤ 8) (hgp : pairsB g.2 n = true) (hhp : pairsB h.2 m = true) (hg : g.2.length ≤ 1048576) (hh : h.2.length ≤ 1048576)
    (st : List (List Int) → List Int → Bool × (List (List Int))) (Inv : List (List Int) → Prop) (hst : ∀ s a, Inv s → a.length = n → fn13 (a, ()) (s, ()) = some (((st s a).1, ()), ((st s a).2, ())) ∧ ((st s a).1 = true → Inv (st s a).2)) : ∀ (d f x : Nat) (L : List Int) (s : List (List Int)), x + d = n → d < f → L.length = n → Inv s →
    ∃ L' : List Int, L'.length = n ∧ L'.take x = L.take x ∧ fuelF fn0_F f ((x : Int), ()) (g, L, h, lazy, s, ()) = some (((runAll st s (full g.2 h.2 lazy m d (L.take x))).1, ()), (g, L', h, lazy, (runAll st s (full g.2 h.2 lazy m d (L.take x))).2, ())) ∧ ((runAll st s (full g.2 h.2 lazy m d (L.take x))).1 = true → Inv (runAll st s (full g.2 h.2 lazy m d (L.take x))).2)
  | d, 0, x, L, s, _, hf, _, _ => by omega
  | 0, f + 1, x, L, s, hx, _, hL, hs => by
    obtain ⟨c1, c2⟩ := hst s L hs hL
    have ht : L.take x = L := List.take_of_length_le (by omega)
    have hr : runAll st s [L] = st s L := by
      simp only [runAll]
      cases h : (st s L).1
      · simp only [cond_false]; rw [← h]
      · simp only [cond_true]; rw [← h]
    refine ⟨L, hL, rfl, ?_, ?_⟩
    · simp only [fuelF, fn0_F, full, ht]
      rw [beq_eq (by omega), c1, hr]
      rfl
    · simp only [full, ht, hr]
      exact c2
  | d + 1, f + 1, x, L, s, hx, hf, hL, hs => by
    have hxn : x < n := by omega
    generalize hF : (fun v : Nat => if allFrom (okOne g.2 h.2 lazy (L.take x) (L.take x).length (v : Int)) 0 (L.take x).length then full g.2 h.2 lazy m d (L.take x ++ [(v : Int)]) else []) = F
    have hlen : (L.take x).length = x := by rw [List.length_take]; omega
    have key : ∀ e v : Nat, ∀ (s : List (List Int)) (K : List Int), v + e = m → K.length = n → K.take x = L.take x → Inv s → ∃ L' : List Int, L'.length = n ∧ L'.take x = L.take x ∧
        loopO (fn0_B0 (fuelF fn0_F f)) (((m : Int), (v : Int), ()), (g, K, h, lazy, (x : Int), s, ())) = some (bif (runAll st s (flatFrom F v e)).1 then .inr ((), (g, L', h, lazy, (runAll st s (flatFrom F v e)).2, ())) else .inl ((false, ()), (g, L', h, lazy, (runAll st s (flatFrom F v e)).2, ()))) ∧
        ((runAll st s (flatFrom F v e)).1 = true → Inv (runAll st s (flatFrom F v e)).2) := by
      intro e
      induction e with
      | zero =>
        intro v s K hv hK ht hs
        refine ⟨K, hK, ht, loop_end ?_, fun _ => by simpa [flatFrom, runAll] using hs⟩
        rw [fn0_B0_at]
        simp only [bif_decide, flatFrom, runAll, cond_true]
        rw [if_neg (by omega)]
      | succ e ih =>
        intro v s K hv hK ht hs
        have hok := wrong_ok g.2 h.2 lazy (n := n) (x := x) K hK hxn (v : Int)
        have hnl := nbs_len g.2 n x
        have hcon := wrong_eq h hhp lazy (K.set x (v : Int)) (nbs g.2 n x) (x : Int) (v : Int) hh (by omega) (fun z hz => by
          simp only [nbs, List.mem_map] at hz
          obtain ⟨k, _, e⟩ := hz
          rw [List.length_set]
          omega)
        rw [hok, ht] at hcon
        cases ha : allFrom (okOne g.2 h.2 lazy (L.take x) x (v : Int)) 0 x
        · have hF0 : F v = [] := by
            rw [← hF]
            simp only [hlen, ha, Bool.false_eq_true, if_false]
          obtain ⟨L', l1, l2, l3, l4⟩ := ih (v + 1) s (K.set x (v : Int)) (by omega) (by rw [List.length_set]; exact hK) (by rw [List.take_set_of_le (Nat.le_refl _)]; exact ht) hs
          refine ⟨L', l1, l2, ?_, by simp only [flatFrom, hF0, List.nil_append]; exact l4⟩
          simp only [flatFrom, hF0, List.nil_append]
          refine loop_step ?_ l3
          rw [fn0_B0_at]
          simp only [bif_decide, neighbors_eq g hg1 (by omega) hgp x hg, Int.toNat_natCast]
          rw [if_pos (by omega), guardB_true (by simp [inb] <;> omega), hcon, ha]
          simp only [Bool.not_false, Bool.not_true, cond_false, w64_succ (show v < 4611686018427387904 by omega)]
        · have hF1 : F v = full g.2 h.2 lazy m d (L.take x ++ [(v : Int)]) := by
            rw [← hF]
            simp only [hlen, ha, if_true]
          obtain ⟨L1, a1, a2, a3, a4⟩ := space_run g h lazy hg1 hn hh1 hm hgp hhp hg hh st Inv hst d f (x + 1) (K.set x (v : Int)) s (by omega) (by omega) (by rw [List.length_set]; exact hK) hs
          have htk : (K.set x (v : Int)).take (x + 1) = L.take x ++ [(v : Int)] := by
            rw [List.take_succ_eq_append_getElem (by rw [List.length_set]; omega), List.getElem_set_self, List.take_set_of_le (Nat.le_refl _), ht]
          rw [htk] at a2 a3 a4
          have ht1 : L1.take x = L.take x := by
            have := congrArg (List.take x) a2
            rw [List.take_take, Nat.min_eq_left (by omega), List.take_append_of_le_length (by omega), List.take_take, Nat.min_self] at this
            exact this
          rw [← hF1] at a3 a4
          have one : fn0_B0 (fuelF fn0_F f) (((m : Int), (v : Int), ()), (g, K, h, lazy, (x : Int), s, ())) = some (bif (runAll st s (F v)).1 then .inl (((m : Int), ((v + 1 : Nat) : Int), ()), (g, L1, h, lazy, (x : Int), (runAll st s (F v)).2, ())) else .inr (.inl ((false, ()), (g, L1, h, lazy, (runAll st s (F v)).2, ())))) := by
            rw [fn0_B0_at]
            simp only [bif_decide, neighbors_eq g hg1 (by omega) hgp x hg, Int.toNat_natCast]
            rw [if_pos (by omega), guardB_true (by simp [inb] <;> omega), hcon, ha]
            simp only [Bool.not_false, Bool.not_true, cond_false, cond_true]
            rw [w64_succ (show x < 4611686018427387904 by omega), a3]
            simp only [w64_succ (show v < 4611686018427387904 by omega)]
            cases (runAll st s (F v)).1 <;> rfl
          have happ := runAll_append st (F v) (flatFrom F (v + 1) e) s
          cases hr : (runAll st s (F v)).1
          · rw [hr] at one happ
            refine ⟨L1, a1, ht1, ?_, ?_⟩
            · simp only [flatFrom, happ, cond_false]
              exact loop_end one
            · simp only [flatFrom, happ, cond_false]
              intro h; cases h
          · rw [hr] at one happ
            obtain ⟨L', l1, l2, l3, l4⟩ := ih (v + 1) (runAll st s (F v)).2 L1 (by omega) a1 ht1 (a4 hr)
            refine ⟨L', l1, l2, ?_, ?_⟩
            · simp only [flatFrom, happ, cond_true]
              exact loop_step one l3
            · simp only [flatFrom, happ, cond_true]
              exact l4
    obtain ⟨L', l1, l2, l3, l4⟩ := key m 0 s L (by omega) hL rfl hs
    refine ⟨L', l1, l2, ?_, ?_⟩
    · simp only [fuelF, fn0_F, full]
      rw [beq_ne (by omega)]
      simp only [cond_false, hh1]
      erw [l3]
      rw [← hF]
      cases (runAll st s (flatFrom _ 0 m)).1 <;> rfl
    · simp only [full]
      rw [hF]
      exact l4

theorem cmp_prefix {x y : Int} (h : x < y) (a b : List Int) : ∀ l : List Int, cmpRows (l ++ x :: a) (l ++ y :: b) < 0
  | [] => by simp only [List.nil_append, cmpRows, if_pos h]; omega
  | z :: l => by
    simp only [List.cons_append, cmpRows, Int.lt_irrefl, if_false]
    exact cmp_prefix h a b l
theorem flatFrom_pw {f : Nat → List (List Int)} {R : List Int → List Int → Prop} (h1 : ∀ k, (f k).Pairwise R) (h2 : ∀ i j, i < j → ∀ a ∈ f i, ∀ b ∈ f j, R a b) : ∀ d k, (flatFrom f k d).Pairwise R
  | 0, k => by simp only [flatFrom]; exact List.Pairwise.nil
  | d + 1, k => by
    simp only [flatFrom]
    refine List.pairwise_append.2 ⟨h1 k, flatFrom_pw h1 h2 d (k + 1), fun a ha b hb => ?_⟩
    obtain ⟨v, q1, _, q2⟩ := flatFrom_mem hb
    exact h2 k v (by omega) a ha b q2
theorem full_split (S T : List (Int × Int)) (lazy : Bool) {m d : Nat} {l a : List Int} {v : Nat} (h : a ∈ (if allFrom (okOne S T lazy l l.length (v : Int)) 0 l.length then full S T lazy m d (l ++ [(v : Int)]) else [])) : ∃ t, a = l ++ (v : Int) :: t := by
  split at h
  · have := (full_mem S T lazy d _ a h).2.1
    refine ⟨a.drop (l ++ [(v : Int)]).length, ?_⟩
    have e := List.take_append_drop (l ++ [(v : Int)]).length a
    rw [this, List.append_assoc] at e
    exact e.symm
  · simp at h
theorem full_pw (S T : List (Int × Int)) (lazy : Bool) {m : Nat} : ∀ (d : Nat) (l : List Int), (full S T lazy m d l).Pairwise (fun a b => cmpRows a b < 0)
  | 0, l => by simp only [full]; exact List.pairwise_singleton _ _
  | d + 1, l => by
    simp only [full]
    refine flatFrom_pw (fun k => ?_) (fun i j hij a ha b hb => ?_) m 0
    · split
      · exact full_pw S T lazy d _
      · exact List.Pairwise.nil
    · obtain ⟨t, rfl⟩ := full_split S T lazy ha
      obtain ⟨u, rfl⟩ := full_split S T lazy hb
      exact cmp_prefix (by omega) t u l
theorem full_vec (S T : List (Int × Int)) (lazy : Bool) {m : Nat} (hm : m ≤ 8) (n : Nat) : Vec n (full S T lazy m n []) := by
  refine ⟨?_, fun r hr => ?_, fun r hr v hv => ?_⟩
  · exact (full_pw S T lazy n []).imp (fun {a b} h e => by rw [e, cmpRows_self] at h; omega)
  · have := (full_mem S T lazy n [] r hr).1
    simpa using this
  · have := (full_mem S T lazy n [] r hr).2.2 v (by simpa using hv)
    omega
theorem full_sorted (S T : List (Int × Int)) (lazy : Bool) {m : Nat} (n : Nat) : sortRows (full S T lazy m n []) = full S T lazy m n [] :=
  List.mergeSort_of_pairwise ((full_pw S T lazy n []).imp (fun {a b} h => by simp only [leRows, decide_eq_true_eq]; omega))
def spaceSt : List (List Int) → List Int → Bool × List (List Int) := fun s a => (decide ((s ++ [a]).length ≤ 300), s ++ [a])
theorem space_one (s : List (List Int)) (a : List Int) (hs : s.length ≤ 300) (ha : a.length ≤ 1048576) : fn13 (a, ()) (s, ()) = some (((spaceSt s a).1, ()), ((spaceSt s a).2, ())) := by
  simp only [fn13, fn13_D0, slices_Clone_int_int, cloneFn]
  rw [guardB_true (by simp only [decide_eq_true_eq]; omega)]
  simp only
  rw [guardB_true (by simp only [List.length_singleton, decide_eq_true_eq]; omega)]
  simp only [spaceSt]
  by_cases h : (s ++ [a]).length ≤ 300
  · rw [decide_eq_true h, decide_eq_true (by omega)]
  · rw [decide_eq_false h, decide_eq_false (by omega)]
theorem runAll_space : ∀ (l : List (List Int)) (s : List (List Int)), s.length ≤ 300 → (runAll spaceSt s l).2 = s ++ l.take (301 - s.length)
  | [], s, _ => by simp [runAll]
  | a :: l, s, hs => by
    simp only [runAll]
    obtain ⟨k, hk⟩ : ∃ k, 301 - s.length = k + 1 := ⟨300 - s.length, by omega⟩
    by_cases h : (s ++ [a]).length ≤ 300
    · have h1 : (spaceSt s a).1 = true := by simp only [spaceSt]; exact decide_eq_true h
      rw [h1, cond_true]
      have := runAll_space l (s ++ [a]) h
      rw [show (spaceSt s a).2 = s ++ [a] from rfl, this, hk]
      simp only [List.length_append, List.length_singleton] at h
      rw [show 301 - (s ++ [a]).length = k by simp only [List.length_append, List.length_singleton]; omega, List.take_succ_cons, List.append_assoc]
      rfl
    · have h1 : (spaceSt s a).1 = false := by simp only [spaceSt]; exact decide_eq_false h
      rw [h1, cond_false]
      simp only [List.length_append, List.length_singleton] at h
      rw [hk, show k = 0 by omega]
      simp [spaceSt]
theorem space_core (g h : Int × List (Int × Int)) (lazy : Bool) (hg : g.2.length ≤ 1048576) (hh : h.2.length ≤ 1048576) (hcc : caseB g h = true) : ∃ (R : List (List Int) × List (Int × Int)) (b : Bool), Few R ∧ fn49 (g, h, lazy, ()) () = some ((R, b, ()), ()) ∧ fn43 (g, h, lazy, ()) () = some ((R, b, ()), ()) ∧
    (b = true → R = (full g.2 h.2 lazy h.1.toNat g.1.toNat [], allSteps 0 (full g.2 h.2 lazy h.1.toNat g.1.toNat [])) ∧ R.1.length ≤ 300) ∧ (b = true ↔ (full g.2 h.2 lazy h.1.toNat g.1.toNat []).length ≤ 300) := by
  have hc := hcc
  simp only [caseB, Bool.and_eq_true, decide_eq_true_eq] at hc
  simp only [fn43, Case_eq g h hg hh, hcc]
  obtain ⟨n, hn, hn8, hgp⟩ := good_nat hc.1
  obtain ⟨m, hm, hm8, hhp⟩ := good_nat hc.2.1
  have h6 : n ≤ 6 := by omega
  have s1 := all_run g h lazy hn h6 hm hm8 hg hh n 1000 300 [] (by simp) (by omega) (by omega)
  obtain ⟨L', _, _, s2, _⟩ := space_run g h lazy hn h6 hm hm8 hgp hhp hg hh spaceSt (fun s => s.length ≤ 300) (fun s a hs ha => ⟨space_one s a hs (by omega), fun ht => by simpa [spaceSt] using ht⟩) n 1000 0 (List.replicate n 0) [] (by omega) (by omega) (by simp) (by simp)
  have hv := full_vec g.2 h.2 lazy hm8 n
  have hso := full_sorted g.2 h.2 lazy (m := m) n
  simp only [Nat.reduceAdd] at s1
  simp only [List.take_zero, runAll_space _ [] (by simp), List.nil_append, List.length_nil, Nat.sub_zero] at s2
  rw [hm, hn, Int.toNat_natCast, Int.toNat_natCast]
  generalize full g.2 h.2 lazy m n [] = A at s1 s2 hv hso
  simp only [Bool.not_true, cond_false, show fn71 = fuelF fn71_F 1000 from rfl, fn49, fn5, show fn0 = fuelF fn0_F 1000 from rfl, hn, Int.toNat_natCast]
  rw [guardB_true (fold_len (n := n) (by omega)).1]
  erw [s1, s2]
  simp only [bif_decide]
  by_cases hA : A.length ≤ 300
  · have ht : A.take 301 = A := List.take_of_length_le (by omega)
    rw [ht, if_neg (by omega), if_neg (by omega)]
    have he := edges_6000 hv h6 hA
    rw [l6Space_eq A hv.len (by omega) (by omega) (by omega), spaceOf_eq A hso hv.len (by omega) (by omega) (by omega)]
    have hl := allSteps_len A 0
    refine ⟨(A, allSteps 0 A), true, ⟨by show A.length ≤ _; omega, fun s hs => by rw [hv.len s hs]; omega, by show (allSteps 0 A).length ≤ _; omega⟩, rfl, ?_, fun _ => ⟨rfl, hA⟩, ⟨fun _ => hA, fun _ => rfl⟩⟩
    simp only [fn32, bif_decide]
    rw [if_neg (by omega), if_neg (by omega)]
  · have ht : (A.take 301).length = 301 := by rw [List.length_take]; omega
    rw [if_pos (by omega), if_pos (by omega)]
    exact ⟨([], []), false, Few.nil, rfl, rfl, fun h => (by cases h), ⟨fun h => (by cases h), fun h => absurd h hA⟩⟩
theorem space_both (g h : Int × List (Int × Int)) (lazy : Bool) (hg : g.2.length ≤ 1048576) (hh : h.2.length ≤ 1048576) : ∃ (R : List (List Int) × List (Int × Int)) (b : Bool), Few R ∧ fn46 (g, h, lazy, ()) () = some ((R, b, ()), ()) ∧ fn43 (g, h, lazy, ()) () = some ((R, b, ()), ()) ∧
    (b = true → R = (full g.2 h.2 lazy h.1.toNat g.1.toNat [], allSteps 0 (full g.2 h.2 lazy h.1.toNat g.1.toNat [])) ∧ R.1.length ≤ 300 ∧ caseB g h = true) ∧ (caseB g h = true → (b = true ↔ (full g.2 h.2 lazy h.1.toNat g.1.toNat []).length ≤ 300)) := by
  cases hc : caseB g h
  · refine ⟨([], []), false, Few.nil, ?_, ?_, fun h => (by cases h), fun h => (by cases h)⟩
    · simp only [fn46, Good2_eq g h hg hh, hc, Bool.not_false, cond_true]
    · simp only [fn43, Case_eq g h hg hh, hc, Bool.not_false, cond_true]
  · obtain ⟨R, b, k1, k2, k3, k4, k5⟩ := space_core g h lazy hg hh hc
    refine ⟨R, b, k1, ?_, k3, fun hb => ⟨(k4 hb).1, (k4 hb).2, rfl⟩, fun _ => k5⟩
    simp only [fn46, Good2_eq g h hg hh, hc, Bool.not_true, cond_false, k2]

/-- all maps are found -/
theorem flatFrom_in {f : Nat → List (List Int)} {a : List Int} {v : Nat} (h : a ∈ f v) : ∀ {d k : Nat}, k ≤ v → v < k + d → a ∈ flatFrom f k d
  | 0, k, h1, h2 => by omega
  | d + 1, k, h1, h2 => by
    simp only [flatFrom, List.mem_append]
    by_cases e : k = v
    · subst e; exact .inl h
    · exact .inr (flatFrom_in h (by omega) (by omega))
theorem full_in (S T : List (Int × Int)) (lazy : Bool) {m : Nat} {a : List Int} (hv : ∀ i, i < a.length → 0 ≤ a.getD i 0 ∧ a.getD i 0 < m) (hok : ∀ x, x < a.length → ∀ k, k < x → nearB S (k : Int) (x : Int) = true → fitB T lazy (a.getD k 0) (a.getD x 0) = true) : ∀ (d : Nat) (l : List Int), l.length + d = a.length → a.take l.length = l → a ∈ full S T lazy m d l
  | 0, l, h1, h2 => by
    simp only [full, List.mem_singleton]
    rw [← h2, List.take_of_length_le (by omega)]
  | d + 1, l, h1, h2 => by
    have hx : l.length < a.length := by omega
    have hr := hv l.length hx
    simp only [full]
    refine flatFrom_in (v := (a.getD l.length 0).toNat) ?_ (Nat.zero_le _) (by omega)
    have hcast : (((a.getD l.length 0).toNat : Nat) : Int) = a.getD l.length 0 := by omega
    rw [hcast]
    have hall : allFrom (okOne S T lazy l l.length (a.getD l.length 0)) 0 l.length = true := allFrom_iff.2 fun k _ hk => by
      simp only [okOne]
      cases hn : nearB S (k : Int) (l.length : Int)
      · rfl
      · have := hok l.length hx k (by omega) hn
        have e : l.getD k 0 = a.getD k 0 := by
          have := congrArg (fun b : List Int => b.getD k 0) h2
          simp only [List.getD_eq_getElem?_getD, List.getElem?_take_of_lt (show k < l.length by omega)] at this ⊢
          exact this.symm
        rw [e, this]
        rfl
    rw [if_pos hall]
    refine full_in S T lazy hv hok d _ (by simp; omega) ?_
    rw [List.length_append, List.length_singleton, List.take_succ_eq_append_getElem hx, h2, getD_at hx]
theorem rowSteps_mem {i : Nat} {a : List Int} : ∀ {L : List (List Int)} {k : Nat} {e : Int × Int}, e ∈ rowSteps i a k L → e.1 = i ∧ (k : Int) ≤ e.2 ∧ e.2 < k + L.length
  | [], k, e, h => by simp [rowSteps] at h
  | b :: L, k, e, h => by
    simp only [rowSteps] at h
    have ih := fun h => rowSteps_mem (i := i) (a := a) (L := L) (k := k + 1) (e := e) h
    simp only [List.length_cons]
    split at h
    · rcases List.mem_cons.1 h with h | h
      · subst h; exact ⟨rfl, by simp, by simp; omega⟩
      · have := ih h; omega
    · have := ih h; omega
theorem rowSteps_pw {i : Nat} {a : List Int} : ∀ (L : List (List Int)) (k : Nat), (rowSteps i a k L).Pairwise fun x y => edgeB x y = true
  | [], k => by simp [rowSteps]
  | b :: L, k => by
    have ih := rowSteps_pw (i := i) (a := a) L (k + 1)
    simp only [rowSteps]
    split
    · refine List.pairwise_cons.2 ⟨fun e he => ?_, ih⟩
      have := rowSteps_mem he
      simp only [edgeB, Bool.or_eq_true, Bool.and_eq_true, decide_eq_true_eq]
      omega
    · exact ih
theorem allSteps_mem : ∀ {L : List (List Int)} {i : Nat} {e : Int × Int}, e ∈ allSteps i L → (i : Int) ≤ e.1 ∧ e.1 < e.2 ∧ e.2 < i + L.length
  | [], i, e, h => by simp [allSteps] at h
  | a :: L, i, e, h => by
    simp only [allSteps, List.mem_append] at h
    simp only [List.length_cons]
    rcases h with h | h
    · have := rowSteps_mem h; omega
    · have := allSteps_mem h; omega
theorem allSteps_pw : ∀ (L : List (List Int)) (i : Nat), (allSteps i L).Pairwise fun x y => edgeB x y = true
  | [], i => by simp [allSteps]
  | a :: L, i => by
    simp only [allSteps]
    refine List.pairwise_append.2 ⟨rowSteps_pw L (i + 1), allSteps_pw L (i + 1), fun x hx y hy => ?_⟩
    have h1 := rowSteps_mem hx
    have h2 := allSteps_mem hy
    simp only [edgeB, Bool.or_eq_true, Bool.and_eq_true, decide_eq_true_eq]
    omega
theorem allSteps_ok (L : List (List Int)) : pairsB (allSteps 0 L) L.length = true := by
  simp only [pairsB, allUpto_iff]
  intro i hi
  have h1 := allSteps_mem (List.getElem_mem hi)
  simp only [pairB, getD_at hi, Bool.and_eq_true, decide_eq_true_eq, Bool.or_eq_true]
  refine ⟨by omega, by omega, by omega, ?_⟩
  by_cases h0 : i = 0
  · exact .inl h0
  · refine .inr ?_
    rw [getD_at (show i - 1 < (allSteps 0 L).length by omega)]
    exact List.pairwise_iff_getElem.1 (allSteps_pw L 0) (i - 1) i (by omega) hi (by omega)
def cyc : Nat → List (Int × Int)
  | 3 => [(0, 1), (0, 2), (1, 2)]
  | 4 => [(0, 1), (0, 3), (1, 2), (2, 3)]
  | 5 => [(0, 1), (0, 4), (1, 2), (2, 3), (3, 4)]
  | 6 => [(0, 1), (0, 5), (1, 2), (2, 3), (3, 4), (4, 5)]
  | 7 => [(0, 1), (0, 6), (1, 2), (2, 3), (3, 4), (4, 5), (5, 6)]
  | 8 => [(0, 1), (0, 7), (1, 2), (2, 3), (3, 4), (4, 5), (5, 6), (6, 7)]
  | _ => []
theorem specCycle_eq {n : Nat} (h : n = 3 ∨ n = 4 ∨ n = 5 ∨ n = 6 ∨ n = 7 ∨ n = 8) : fn47 ((n : Int), ()) () = some ((((n : Int), cyc n), ()), ()) := by
  rcases h with rfl | rfl | rfl | rfl | rfl | rfl
  · have k : loopO fn47_B0 (((3 : Int), (1 : Int), ()), (((0 : Int), ([] : List (Int × Int))), ((3 : Int), [((0 : Int), (1 : Int)), ((0 : Int), (2 : Int))]), ())) = some ((), (((0 : Int), ([] : List (Int × Int))), ((3 : Int), cyc 3), ())) := loop_step rfl (loop_end rfl)
    simp only [fn47]
    erw [k]; rfl
  · have k : loopO fn47_B0 (((4 : Int), (1 : Int), ()), (((0 : Int), ([] : List (Int × Int))), ((4 : Int), [((0 : Int), (1 : Int)), ((0 : Int), (3 : Int))]), ())) = some ((), (((0 : Int), ([] : List (Int × Int))), ((4 : Int), cyc 4), ())) := loop_step rfl (loop_step rfl (loop_end rfl))
    simp only [fn47]
    erw [k]; rfl
  · have k : loopO fn47_B0 (((5 : Int), (1 : Int), ()), (((0 : Int), ([] : List (Int × Int))), ((5 : Int), [((0 : Int), (1 : Int)), ((0 : Int), (4 : Int))]), ())) = some ((), (((0 : Int), ([] : List (Int × Int))), ((5 : Int), cyc 5), ())) := loop_step rfl (loop_step rfl (loop_step rfl (loop_end rfl)))
    simp only [fn47]
    erw [k]; rfl
  · have k : loopO fn47_B0 (((6 : Int), (1 : Int), ()), (((0 : Int), ([] : List (Int × Int))), ((6 : Int), [((0 : Int), (1 : Int)), ((0 : Int), (5 : Int))]), ())) = some ((), (((0 : Int), ([] : List (Int × Int))), ((6 : Int), cyc 6), ())) := loop_step rfl (loop_step rfl (loop_step rfl (loop_step rfl (loop_end rfl))))
    simp only [fn47]
    erw [k]; rfl
  · have k : loopO fn47_B0 (((7 : Int), (1 : Int), ()), (((0 : Int), ([] : List (Int × Int))), ((7 : Int), [((0 : Int), (1 : Int)), ((0 : Int), (6 : Int))]), ())) = some ((), (((0 : Int), ([] : List (Int × Int))), ((7 : Int), cyc 7), ())) := loop_step rfl (loop_step rfl (loop_step rfl (loop_step rfl (loop_step rfl (loop_end rfl)))))
    simp only [fn47]
    erw [k]; rfl
  · have k : loopO fn47_B0 (((8 : Int), (1 : Int), ()), (((0 : Int), ([] : List (Int × Int))), ((8 : Int), [((0 : Int), (1 : Int)), ((0 : Int), (7 : Int))]), ())) = some ((), (((0 : Int), ([] : List (Int × Int))), ((8 : Int), cyc 8), ())) := loop_step rfl (loop_step rfl (loop_step rfl (loop_step rfl (loop_step rfl (loop_step rfl (loop_end rfl))))))
    simp only [fn47]
    erw [k]; rfl
theorem cyc_good {n : Nat} (h : n = 3 ∨ n = 4 ∨ n = 5 ∨ n = 6 ∨ n = 7 ∨ n = 8) : goodG ((n : Int), cyc n) = true ∧ (cyc n).length ≤ 8 := by
  rcases h with rfl | rfl | rfl | rfl | rfl | rfl <;> exact ⟨by decide +kernel, by decide⟩
/-- what a map is -/
theorem full_ok (S T : List (Int × Int)) (lazy : Bool) {m : Nat} : ∀ (d : Nat) (l a : List Int), a ∈ full S T lazy m d l → ∀ x, l.length ≤ x → x < a.length → ∀ k, k < x → okOne S T lazy (a.take x) x (a.getD x 0) k = true
  | 0, l, a, h, x, h1, h2, k, hk => by
    simp only [full, List.mem_singleton] at h
    subst h
    omega
  | d + 1, l, a, h, x, h1, h2, k, hk => by
    simp only [full] at h
    obtain ⟨v, _, _, h3⟩ := flatFrom_mem h
    split at h3
    · rename_i hall
      by_cases hx : x = l.length
      · have q := (full_mem S T lazy d _ a h3).2.1
        have ht : a.take l.length = l := by
          have := congrArg (List.take l.length) q
          simp only [List.length_append, List.length_singleton] at this
          rwa [List.take_take, Nat.min_eq_left (by omega), List.take_append_of_le_length (Nat.le_refl _), List.take_length] at this
        have e : a.getD l.length 0 = (v : Int) := by
          simp only [List.length_append, List.length_singleton] at q
          have hlt : l.length < a.length := by omega
          rw [getD_at hlt]
          have := congrArg (fun b : List Int => b[l.length]?) q
          simp only [List.getElem?_take_of_lt (show l.length < l.length + 1 by omega), List.getElem?_append_right (Nat.le_refl _), Nat.sub_self, List.getElem?_cons_zero, List.getElem?_eq_getElem hlt, Option.some.injEq] at this
          exact this
        subst hx
        rw [ht, e]
        exact allFrom_iff.1 hall k (Nat.zero_le _) (by omega)
      · exact full_ok S T lazy d _ a h3 x (by simp only [List.length_append, List.length_singleton]; omega) h2 k hk
    · simp at h3
theorem full_fit (S T : List (Int × Int)) (lazy : Bool) {m n : Nat} {a : List Int} (h : a ∈ full S T lazy m n []) {x k : Nat} (hx : x < n) (hk : k < x) (hs : nearB S (k : Int) (x : Int) = true) : fitB T lazy (a.getD k 0) (a.getD x 0) = true := by
  have hl : a.length = n := by have := (full_mem S T lazy n [] a h).1; simpa using this
  have := full_ok S T lazy n [] a h x (by simp) (by omega) k hk
  simp only [okOne, hs, Bool.not_true, Bool.false_or] at this
  rwa [show (a.take x).getD k 0 = a.getD k 0 by simp only [List.getD_eq_getElem?_getD, List.getElem?_take_of_lt hk]] at this
theorem fn25_B0_at (list : List ((Int) × (Int))) (e : (Int) × (Int)) (k : Int) : fn25_B0 ((list, e, k, ()), ()) = bif (decide ((0 : Int) < k)) then (guardB (inb (w64 (k - (1 : Int))) (List.length list)) (match fn73 (e, (List.getD list (Int.toNat (w64 (k - (1 : Int)))) ((0 : Int), (0 : Int))), ()) () with | some ((r, ()), ()) => (bif r then (some (.inl ((list, e, (w64 (k - (1 : Int))), ()), ()))) else (some (.inr ((list, e, k, ()), ())))) | none => none)) else (some (.inr ((list, e, k, ()), ()))) := rfl
theorem fn25_D0_at (list : List ((Int) × (Int))) (lo : Nat) (hi : Nat) (t38 : (Int) × (Int)) (lo2 : Nat) (hi2 : Nat) : fn25_D0 ((list, (lo, hi), t38, (lo2, hi2), ()), ()) = fn25_D1 ((list, ([] : (List (Int × Int))), (lo, hi), t38, (lo2, hi2), ()), ()) := rfl
theorem fn25_D1_at (list : List ((Int) × (Int))) (t33 : List ((Int) × (Int))) (lo : Nat) (hi : Nat) (t38 : (Int) × (Int)) (lo2 : Nat) (hi2 : Nat) : fn25_D1 ((list, t33, (lo, hi), t38, (lo2, hi2), ()), ()) = guardB (decide ((List.length t33 + List.length (List.drop lo (List.take hi list))) * 16 ≤ 70368744177664)) (guardB (decide ((List.length (t33 ++ (List.drop lo (List.take hi list))) + List.length [t38]) * 16 ≤ 70368744177664)) (guardB (decide ((List.length ((t33 ++ (List.drop lo (List.take hi list))) ++ [t38]) + List.length (List.drop lo2 (List.take hi2 list))) * 16 ≤ 70368744177664)) (some (((((t33 ++ (List.drop lo (List.take hi list))) ++ [t38]) ++ (List.drop lo2 (List.take hi2 list))), ()), ())))) := rfl
theorem fn9_B0_at (t5 : Int) (t7 : Int) (t8 : Bool) (t9 : Int) (t10 : Int) (o0 : (List (Int)) × ((Int) × (Int))) (t4 : (Int) × (List ((Int) × (Int)))) (t6 : (Int) × (List ((Int) × (Int)))) : fn9_B0 ((t5, t7, t8, t9, t10, ()), (o0, t4, t6, ())) = bif (decide (t10 < t5)) then (match fn15 (t7, ()) (o0, ()) with | some ((r, ()), (o, ())) => (bif (r == (0 : Int)) then (match fn25 (t6.2, (t9, t10), ()) () with | some ((r2, ()), ()) => some (.inl ((t5, t7, t8, t9, (w64 (t10 + (1 : Int))), ()), (o, t4, (t6.1, r2), ()))) | none => none) else (some (.inl ((t5, t7, t8, t9, (w64 (t10 + (1 : Int))), ()), (o, t4, t6, ()))))) | none => none) else (some (.inr ((t5, t7, t8, t9, ()), (o0, t4, t6, ())))) := rfl
theorem fn9_B1_at (t5 : Int) (t7 : Int) (t8 : Bool) (t9 : Int) (o0 : (List (Int)) × ((Int) × (Int))) (t4 : (Int) × (List ((Int) × (Int)))) (t6 : (Int) × (List ((Int) × (Int)))) : fn9_B1 ((t5, t7, t8, t9, ()), (o0, t4, t6, ())) = bif (decide (t9 < t5)) then (match loopO fn9_B0 ((t5, t7, t8, t9, (w64 (t9 + (1 : Int))), ()), (o0, t4, t6, ())) with | some ((t5_2, t7_2, t8_2, t9_2, ()), (o0_2, t4_2, t6_2, ())) => (bif (decide ((0 : Int) < t9_2)) then (bif (!t8_2) then (match fn9_D0 ((t5_2, t7_2, t8_2, t9_2, t9_2, t9_2, ()), (o0_2, t4_2, t6_2, ())) with | some ((t5_3, t7_3, t8_3, t9_3, ()), (o0_3, t4_3, t6_3, ())) => some (.inl ((t5_3, t7_3, t8_3, (w64 (t9_3 + (1 : Int))), ()), (o0_3, t4_3, t6_3, ()))) | none => none) else (some (.inl ((t5_2, t7_2, t8_2, (w64 (t9_2 + (1 : Int))), ()), (o0_2, t4_2, t6_2, ()))))) else (some (.inl ((t5_2, t7_2, t8_2, (w64 (t9_2 + (1 : Int))), ()), (o0_2, t4_2, t6_2, ()))))) | none => none) else (some (.inr ((), (o0, t4, t6, ())))) := rfl
theorem fn9_D0_at (t5 : Int) (t7 : Int) (t8 : Bool) (t9 : Int) (t66 : Int) (t68 : Int) (o0 : (List (Int)) × ((Int) × (Int))) (t4 : (Int) × (List ((Int) × (Int)))) (t6 : (Int) × (List ((Int) × (Int)))) : fn9_D0 ((t5, t7, t8, t9, t66, t68, ()), (o0, t4, t6, ())) = match fn15 (t66, ()) (o0, ()) with | some ((r, ()), (o, ())) => (match fn25 (t6.2, (r, t68), ()) () with | some ((r2, ()), ()) => some ((t5, t7, t8, t9, ()), (o, t4, (t6.1, r2), ())) | none => none) | none => none := rfl
theorem fn9_D1_at (t4 : (Int) × (List ((Int) × (Int)))) (t6 : (Int) × (List ((Int) × (Int)))) (o0 : (List (Int)) × ((Int) × (Int))) : fn9_D1 ((), (t4, t6, o0, ())) = match fn15 ((4 : Int), ()) (o0, ()) with | some ((r, ()), (o, ())) => (match fn15 ((9 : Int), ()) (o, ()) with | some ((r2, ()), (o2, ())) => guardB (decide ((List.length t6.2 + List.length [(r, (w64 (r2 - (1 : Int))))]) * 16 ≤ 70368744177664)) (some ((), (t4, (t6.1, (t6.2 ++ [(r, (w64 (r2 - (1 : Int))))])), o2, ()))) | none => none) | none => none := rfl
theorem fn9_D3_at (t106 : Int) (t4 : (Int) × (List ((Int) × (Int)))) (t6 : (Int) × (List ((Int) × (Int)))) (o0 : (List (Int)) × ((Int) × (Int))) : fn9_D3 ((t106, ()), (t4, t6, o0, ())) = fn9_D4 ((t106, ()), (t4, t6, o0, ())) := rfl
theorem fn9_D4_at (t106 : Int) (t4 : (Int) × (List ((Int) × (Int)))) (t6 : (Int) × (List ((Int) × (Int)))) (o0 : (List (Int)) × ((Int) × (Int))) : fn9_D4 ((t106, ()), (t4, t6, o0, ())) = match fn15 (t106, ()) (o0, ()) with | some ((r, ()), (o, ())) => guardB (inb r (List.length t6.2)) (guardB (decide ((List.length t6.2 + List.length [(List.getD t6.2 (Int.toNat r) ((0 : Int), (0 : Int)))]) * 16 ≤ 70368744177664)) (some ((), (t4, (t6.1, (t6.2 ++ [(List.getD t6.2 (Int.toNat r) ((0 : Int), (0 : Int)))])), o, ())))) | none => none := rfl
/-- a cursor that has drawn at most so often -/
def CurOk (c : List Int × (Int × Int)) (k : Nat) : Prop := (∀ x ∈ c.1, 0 ≤ x ∧ x ≤ 255) ∧ c.1.length ≤ 65536 ∧ 0 ≤ c.2.1 ∧ c.2.1 ≤ k
theorem CurOk.le {c : List Int × (Int × Int)} {k l : Nat} (h : CurOk c k) (hl : k ≤ l) : CurOk c l := ⟨h.1, h.2.1, h.2.2.1, by have := h.2.2.2; omega⟩
theorem byte_and (X : Int) : ∃ n : Nat, n ≤ 255 ∧ w64 (IntKind.wrap .u64 ((BitVec.ofInt 64 X &&& BitVec.ofInt 64 (255 : Int)).toNat : Int)) = n := by
  have h : (BitVec.ofInt 64 X &&& BitVec.ofInt 64 (255 : Int)).toNat ≤ 255 := by
    rw [BitVec.toNat_and]
    exact Nat.le_trans Nat.and_le_right (by decide)
  obtain ⟨n, hn⟩ : ∃ n, (BitVec.ofInt 64 X &&& BitVec.ofInt 64 (255 : Int)).toNat = n := ⟨_, rfl⟩
  rw [hn] at h ⊢
  exact ⟨n, h, by rw [(wrapN (show n < 9223372036854775808 by omega)).1, w64_of (by omega) (by omega)]⟩
theorem next_eq (c : List Int × (Int × Int)) {k : Nat} (h : CurOk c k) (hk : k ≤ 1000000) : ∃ (b : Int) (d : List Int × (Int × Int)), fn17 () (c, ()) = some ((b, ()), (d, ())) ∧ CurOk d (k + 1) ∧ 0 ≤ b ∧ b ≤ 255 := by
  obtain ⟨code, i, s⟩ := c
  obtain ⟨h1, h2, h3, h4⟩ := h
  dsimp only at h1 h2 h3 h4
  have fin : ∀ b : Int, 0 ≤ b → b ≤ 255 → ∃ (b' : Int) (d : List Int × (Int × Int)),
      (bif (decide ((w64 (i + (1 : Int))) ≤ (List.length code : Int))) then (some ((b, ()), ((code, ((w64 (i + (1 : Int))), (IntKind.wrap .u64 ((IntKind.wrap .u64 ((IntKind.wrap .u64 (s * (6364136223846793005 : Int))) + (IntKind.wrap .u64 b))) + (462197 : Int))))), ()))) else (some (((w64 (IntKind.wrap .u64 (BitVec.ofInt 64 (Int.fdiv (IntKind.wrap .u64 ((IntKind.wrap .u64 ((IntKind.wrap .u64 (s * (6364136223846793005 : Int))) + (IntKind.wrap .u64 b))) + (462197 : Int))) (2 ^ (min 40 64))) &&& BitVec.ofInt 64 (255 : Int)).toNat)), ()), ((code, ((w64 (i + (1 : Int))), (IntKind.wrap .u64 ((IntKind.wrap .u64 ((IntKind.wrap .u64 (s * (6364136223846793005 : Int))) + (IntKind.wrap .u64 b))) + (462197 : Int))))), ()))) : Option ((Int × Unit) × ((List Int × (Int × Int)) × Unit))) = some ((b', ()), (d, ())) ∧ CurOk d (k + 1) ∧ 0 ≤ b' ∧ b' ≤ 255 := by
    intro b hb0 hb1
    have hw : w64 (i + 1) = i + 1 := w64_of (by omega) (by omega)
    rw [bif_decide, hw]
    by_cases hc : i + 1 ≤ (List.length code : Int)
    · rw [if_pos hc]
      exact ⟨_, _, rfl, ⟨h1, h2, by show 0 ≤ i + 1; omega, by show i + 1 ≤ _; omega⟩, hb0, hb1⟩
    · rw [if_neg hc]
      obtain ⟨n, n1, n2⟩ := byte_and (Int.fdiv (IntKind.wrap .u64 ((IntKind.wrap .u64 ((IntKind.wrap .u64 (s * (6364136223846793005 : Int))) + (IntKind.wrap .u64 b))) + (462197 : Int))) (2 ^ (min 40 64)))
      exact ⟨_, _, rfl, ⟨h1, h2, by show 0 ≤ i + 1; omega, by show i + 1 ≤ _; omega⟩, by rw [n2]; omega, by rw [n2]; omega⟩
  simp only [fn17]
  by_cases hc : i < (List.length code : Int)
  · have hm : List.getD code i.toNat 0 ∈ code := by rw [getD_at (by omega)]; exact List.getElem_mem _
    have hb := h1 _ hm
    rw [decide_eq_true hc, cond_true, guardB_true (inb_true h3 hc), w64_of (x := List.getD code i.toNat 0) (by omega) (by omega)]
    exact fin _ hb.1 hb.2
  · rw [decide_eq_false hc, cond_false]
    exact fin 0 (by omega) (by omega)
theorem pick_eq (c : List Int × (Int × Int)) {k : Nat} (h : CurOk c k) (hk : k ≤ 900000) (n : Int) : ∃ (r : Int) (d : List Int × (Int × Int)), fn15 (n, ()) (c, ()) = some ((r, ()), (d, ())) ∧ CurOk d (k + 2) ∧ 0 ≤ r ∧ (1 ≤ n → r < n) ∧ r ≤ 65535 := by
  simp only [fn15, bif_decide]
  by_cases h1 : n ≤ 1
  · rw [if_pos h1]; exact ⟨0, c, rfl, h.le (by omega), by omega, fun _ => by omega, by omega⟩
  · rw [if_neg h1]
    obtain ⟨b, d, e1, e2, e3, e4⟩ := next_eq c h (by omega)
    simp only [e1]
    have hz : (!(n == 0)) = true := by rw [beq_ne (by omega)]; rfl
    by_cases h2 : 200 < n
    · rw [if_pos h2]
      obtain ⟨b2, d2, f1, f2, f3, f4⟩ := next_eq d e2 (by omega)
      simp only [f1]
      have hx : w64 (w64 (b * 256) + b2) = b * 256 + b2 := by rw [w64_of (x := b * 256) (by omega) (by omega), w64_of (by omega) (by omega)]
      rw [guardB_true hz, hx]
      have t1 := Int.tmod_nonneg n (show 0 ≤ b * 256 + b2 by omega)
      have t2 := Int.tmod_lt_of_pos (b * 256 + b2) (show 0 < n by omega)
      have t3 : Int.tmod (b * 256 + b2) n ≤ b * 256 + b2 := by
        rw [Int.tmod_eq_emod_of_nonneg (by omega)]
        have q1 := Int.emod_add_mul_ediv (b * 256 + b2) n
        have q2 := Int.mul_nonneg (show 0 ≤ n by omega) (Int.ediv_nonneg (show 0 ≤ b * 256 + b2 by omega) (show 0 ≤ n by omega))
        omega
      exact ⟨_, _, rfl, f2.le (by omega), t1, fun _ => t2, by omega⟩
    · rw [if_neg h2, guardB_true hz]
      have t1 := Int.tmod_nonneg n (show 0 ≤ b by omega)
      have t2 := Int.tmod_lt_of_pos b (show 0 < n by omega)
      exact ⟨_, _, rfl, e2.le (by omega), t1, fun _ => t2, by omega⟩
theorem one_eq (c : List Int × (Int × Int)) {k : Nat} (h : CurOk c k) (hk : k ≤ 900000) (n : Int) : ∃ (r : Bool) (d : List Int × (Int × Int)), fn18 (n, ()) (c, ()) = some ((r, ()), (d, ())) ∧ CurOk d (k + 2) := by
  obtain ⟨r, d, e1, e2, _⟩ := pick_eq c h hk n
  simp only [fn18, e1]
  exact ⟨_, _, rfl, e2⟩
theorem among_eq (c : List Int × (Int × Int)) {k : Nat} (h : CurOk c k) (hk : k ≤ 900000) (l : List Int) (hl : 1 ≤ l.length) : ∃ (r : Int) (d : List Int × (Int × Int)), fn12 (l, ()) (c, ()) = some ((r, ()), (d, ())) ∧ CurOk d (k + 2) ∧ r ∈ l := by
  obtain ⟨r, d, e1, e2, e3, e4, _⟩ := pick_eq c h hk (l.length : Int)
  have := e4 (by omega)
  simp only [fn12, e1]
  rw [guardB_true (inb_true e3 this)]
  exact ⟨_, _, rfl, e2, by rw [getD_at (by omega)]; exact List.getElem_mem _⟩
theorem Edge_some (a b : Int × Int) : ∃ r : Bool, fn73 (a, b, ()) () = some ((r, ()), ()) := by
  simp only [fn73]
  cases decide (a.1 < b.1)
  · cases (a.1 == b.1)
    · exact ⟨_, rfl⟩
    · exact ⟨_, rfl⟩
  · exact ⟨_, rfl⟩
theorem PutPair_some (l : List (Int × Int)) (e : Int × Int) (hl : l.length ≤ 1000000) : ∃ r : List (Int × Int), fn25 (l, e, ()) () = some ((r, ()), ()) ∧ r.length ≤ l.length + 1 := by
  have key : ∀ k : Nat, k ≤ l.length → ∃ k' : Nat, k' ≤ l.length ∧ loopO fn25_B0 ((l, e, (k : Int), ()), ()) = some ((l, e, (k' : Int), ()), ()) := by
    intro k
    induction k with
    | zero =>
      intro _
      refine ⟨0, by omega, loop_end ?_⟩
      rw [fn25_B0_at]; rfl
    | succ k ih =>
      intro hk
      obtain ⟨k', q1, q2⟩ := ih (by omega)
      have hw : w64 (((k + 1 : Nat) : Int) - 1) = (k : Int) := by rw [w64_of (by omega) (by omega)]; omega
      have st := fn25_B0_at l e ((k + 1 : Nat) : Int)
      simp only [bif_decide, hw, Int.toNat_natCast] at st
      rw [if_pos (by omega), guardB_true (inb_true (by omega) (by omega))] at st
      obtain ⟨b, hb⟩ : ∃ b : Bool, fn73 (e, l.getD k (0, 0), ()) () = some ((b, ()), ()) := Edge_some _ _
      rw [hb] at st
      cases b
      · exact ⟨k + 1, hk, loop_end st⟩
      · exact ⟨k', q1, loop_step st q2⟩
  obtain ⟨k, k1, k2⟩ := key l.length (Nat.le_refl _)
  simp only [fn25]
  erw [k2]
  simp only [bif_decide]
  have fin : ∃ r : List (Int × Int), (guardB (decide (0 ≤ (0 : Int)) && decide ((0 : Int) ≤ (k : Int)) && decide ((k : Int) ≤ (List.length l : Int))) (guardB (decide (0 ≤ (k : Int)) && decide ((k : Int) ≤ (List.length l : Int)) && decide ((List.length l : Int) ≤ (List.length l : Int))) (match fn25_D0 ((l, (0, (Int.toNat (k : Int))), e, ((Int.toNat (k : Int)), (Int.toNat (List.length l : Int))), ()), ()) with | some ((t4, ()), ()) => some ((t4, ()), ()) | none => none)) : Option ((List (Int × Int) × Unit) × Unit)) = some ((r, ()), ()) ∧ r.length ≤ l.length + 1 := by
    have l1 : (List.drop 0 (List.take k l)).length = k := by rw [List.drop_zero, List.length_take]; omega
    have l2 : (List.drop k (List.take l.length l)).length = l.length - k := by rw [List.take_length, List.length_drop]
    rw [guardB_true (show (decide (0 ≤ (0 : Int)) && decide ((0 : Int) ≤ (k : Int)) && decide ((k : Int) ≤ (List.length l : Int))) = true by simp; omega), guardB_true (show (decide (0 ≤ (k : Int)) && decide ((k : Int) ≤ (List.length l : Int)) && decide ((List.length l : Int) ≤ (List.length l : Int))) = true by simp; omega)]
    rw [fn25_D0_at, fn25_D1_at]
    simp only [Int.toNat_natCast, List.nil_append]
    rw [guardB_true (by simp only [List.length_nil, l1, decide_eq_true_eq]; omega), guardB_true (by simp only [List.length_singleton, l1, decide_eq_true_eq]; omega), guardB_true (by simp only [List.length_append, List.length_singleton, l1, l2, decide_eq_true_eq]; omega)]
    exact ⟨_, rfl, by simp only [List.length_append, List.length_singleton, l1, l2]; omega⟩
  by_cases hk0 : (0 : Int) < (k : Int)
  · rw [if_pos hk0]
    have hw : w64 ((k : Int) - 1) = ((k - 1 : Nat) : Int) := by rw [w64_of (by omega) (by omega)]; omega
    rw [hw, guardB_true (inb_true (by omega) (by omega))]
    cases ((List.getD l (Int.toNat ((k - 1 : Nat) : Int)) ((0 : Int), (0 : Int))).1 == e.1 && (List.getD l (Int.toNat ((k - 1 : Nat) : Int)) ((0 : Int), (0 : Int))).2 == e.2)
    · exact fin
    · exact ⟨l, rfl, by omega⟩
  · rw [if_neg hk0]; exact fin
theorem sg_inner (n : Nat) (hn : n ≤ 8) (t7 : Int) (t8 : Bool) (t9 : Int) (t4 : Int × List (Int × Int)) : ∀ (d x : Nat) (c : List Int × (Int × Int)) (g : Int × List (Int × Int)) (k : Nat), x + d = n → CurOk c k → k + 2 * d ≤ 800000 → g.2.length + d ≤ 900000 →
    ∃ (c' : List Int × (Int × Int)) (r : List (Int × Int)), loopO fn9_B0 (((n : Int), t7, t8, t9, (x : Int), ()), (c, t4, g, ())) = some (((n : Int), t7, t8, t9, ()), (c', t4, (g.1, r), ())) ∧ CurOk c' (k + 2 * d) ∧ r.length ≤ g.2.length + d := by
  intro d
  induction d with
  | zero =>
    intro x c g k hx hc hk hl
    refine ⟨c, g.2, loop_end ?_, hc.le (by omega), by omega⟩
    rw [fn9_B0_at]
    simp only [bif_decide]
    rw [if_neg (by omega)]
  | succ d ih =>
    intro x c g k hx hc hk hl
    obtain ⟨r, c1, e1, e2, _⟩ := pick_eq c hc (by omega) t7
    have st := fn9_B0_at (n : Int) t7 t8 t9 (x : Int) c t4 g
    simp only [bif_decide, e1] at st
    rw [if_pos (by omega), w64_succ (by omega)] at st
    by_cases hr : r = 0
    · obtain ⟨l, f1, f2⟩ := PutPair_some g.2 (t9, (x : Int)) (by omega)
      rw [beq_eq hr, cond_true, f1] at st
      obtain ⟨c2, l2, q1, q2, q3⟩ := ih (x + 1) c1 (g.1, l) (k + 2) (by omega) e2 (by omega) (by show l.length + d ≤ _; omega)
      exact ⟨c2, l2, loop_step st q1, q2.le (by omega), by dsimp only at q3; omega⟩
    · rw [beq_ne hr, cond_false] at st
      obtain ⟨c2, l2, q1, q2, q3⟩ := ih (x + 1) c1 g (k + 2) (by omega) e2 (by omega) (by omega)
      exact ⟨c2, l2, loop_step st q1, q2.le (by omega), by omega⟩
theorem sg_outer (n : Nat) (hn : n ≤ 8) (t7 : Int) (t8 : Bool) (t4 : Int × List (Int × Int)) : ∀ (d x : Nat) (c : List Int × (Int × Int)) (g : Int × List (Int × Int)) (k : Nat), x + d = n → CurOk c k → k + 20 * d ≤ 700000 → g.2.length + 10 * d ≤ 800000 →
    ∃ (c' : List Int × (Int × Int)) (r : List (Int × Int)), loopO fn9_B1 (((n : Int), t7, t8, (x : Int), ()), (c, t4, g, ())) = some ((), (c', t4, (g.1, r), ())) ∧ CurOk c' (k + 20 * d) ∧ r.length ≤ g.2.length + 10 * d := by
  intro d
  induction d with
  | zero =>
    intro x c g k hx hc hk hl
    refine ⟨c, g.2, loop_end ?_, hc.le (by omega), by omega⟩
    rw [fn9_B1_at]
    simp only [bif_decide]
    rw [if_neg (by omega)]
  | succ d ih =>
    intro x c g k hx hc hk hl
    obtain ⟨c1, l1, e1, e2, e3⟩ := sg_inner n hn t7 t8 (x : Int) t4 (n - (x + 1)) (x + 1) c g k (by omega) hc (by omega) (by omega)
    have st := fn9_B1_at (n : Int) t7 t8 (x : Int) c t4 g
    simp only [bif_decide] at st
    rw [if_pos (by omega), w64_succ (by omega), e1] at st
    dsimp only at st
    simp only [w64_succ (show x < 4611686018427387904 by omega)] at st
    have e2 : CurOk c1 (k + 16) := e2.le (by omega)
    have nx : loopO fn9_B1 (((n : Int), t7, t8, ((x + 1 : Nat) : Int), ()), (c1, t4, (g.1, l1), ())) = loopO fn9_B1 (((n : Int), t7, t8, ((x + 1 : Nat) : Int), ()), (c1, t4, (g.1, l1), ())) := rfl
    have plain : fn9_B1 (((n : Int), t7, t8, (x : Int), ()), (c, t4, g, ())) = some (.inl (((n : Int), t7, t8, ((x + 1 : Nat) : Int), ()), (c1, t4, (g.1, l1), ()))) → ∃ (c' : List Int × (Int × Int)) (r : List (Int × Int)), loopO fn9_B1 (((n : Int), t7, t8, (x : Int), ()), (c, t4, g, ())) = some ((), (c', t4, (g.1, r), ())) ∧ CurOk c' (k + 20 * (d + 1)) ∧ r.length ≤ g.2.length + 10 * (d + 1) := fun st => by
      obtain ⟨c2, l2, q1, q2, q3⟩ := ih (x + 1) c1 (g.1, l1) (k + 16) (by omega) e2 (by omega) (by show l1.length + _ ≤ _; omega)
      exact ⟨c2, l2, loop_step st q1, q2.le (by omega), by dsimp only at q3; omega⟩
    by_cases h0 : (0 : Int) < (x : Int)
    · rw [if_pos h0] at st
      cases ht : t8
      · rw [ht] at st plain
        simp only [Bool.not_false, cond_true] at st
        obtain ⟨r, c2, f1, f2, _⟩ := pick_eq c1 e2 (by omega) (x : Int)
        obtain ⟨l2, f3, f4⟩ := PutPair_some l1 (r, (x : Int)) (by omega)
        rw [fn9_D0_at] at st
        simp only [f1, f3, w64_succ (show x < 4611686018427387904 by omega)] at st
        rw [ht] at ih
        obtain ⟨c3, l3, q1, q2, q3⟩ := ih (x + 1) c2 (g.1, l2) (k + 18) (by omega) (f2.le (by omega)) (by omega) (by show l2.length + _ ≤ _; omega)
        exact ⟨c3, l3, loop_step st q1, q2.le (by omega), by dsimp only at q3; omega⟩
      · rw [ht] at st plain
        simp only [Bool.not_true, cond_false] at st
        exact plain st
    · rw [if_neg h0] at st
      exact plain st
theorem someGraph_eq (m : Int) (hm : m ≤ 8) (c : List Int × (Int × Int)) {k : Nat} (hc : CurOk c k) (hk : k ≤ 600000) : ∃ (g : Int × List (Int × Int)) (d : List Int × (Int × Int)), fn9 (m, ()) (c, ()) = some ((g, ()), (d, ())) ∧ CurOk d (k + 200) ∧ g.2.length ≤ 100 := by
  obtain ⟨r0, c1, a1, a2, a3⟩ := among_eq c hc (by omega) [4, 5, 3, 6, 2, 1, 0] (by simp)
  have hr0 : 0 ≤ r0 ∧ r0 ≤ 8 := by simp at a3; omega
  have first : ∃ (t5 : Int) (c2 : List Int × (Int × Int)), (bif (decide ((6 : Int) < m)) then (match fn18 ((4 : Int), ()) (c1, ()) with | some ((r2, ()), (o2, ())) => (bif r2 then (match fn15 ((2 : Int), ()) (o2, ()) with | some ((r3, ()), (o3, ())) => some (.inl ((m, (w64 ((7 : Int) + r3)), ()), (o3, ((0 : Int), ([] : (List (Int × Int)))), ()))) | none => none) else (some (.inl ((m, r0, ()), (o2, ((0 : Int), ([] : (List (Int × Int)))), ()))))) | none => none) else (some (.inl ((m, r0, ()), (c1, ((0 : Int), ([] : (List (Int × Int)))), ())))) : Option (fn9_J0.P ⊕ fn9_E.P)) = some (.inl ((m, t5, ()), (c2, ((0 : Int), ([] : (List (Int × Int)))), ()))) ∧ CurOk c2 (k + 6) ∧ 0 ≤ t5 ∧ t5 ≤ 8 := by
    rw [bif_decide]
    by_cases h6 : 6 < m
    · rw [if_pos h6]
      obtain ⟨r2, c2, b1, b2⟩ := one_eq c1 a2 (by omega) 4
      rw [b1]
      cases r2
      · exact ⟨_, _, rfl, b2.le (by omega), hr0.1, hr0.2⟩
      · obtain ⟨r3, c3, d1, d2, d3, d4, _⟩ := pick_eq c2 b2 (by omega) 2
        have := d4 (by omega)
        simp only [cond_true, d1]
        rw [w64_of (by omega) (by omega)]
        exact ⟨_, _, rfl, d2.le (by omega), by omega, by omega⟩
    · rw [if_neg h6]
      exact ⟨_, _, rfl, a2.le (by omega), hr0.1, hr0.2⟩
  obtain ⟨t5, c2, b1, b2, b3, b4⟩ := first
  obtain ⟨u, hu, u1⟩ : ∃ u : Int, fn63 (t5, m, ()) () = some ((u, ()), ()) ∧ u ≤ 8 := by
    simp only [fn63, bif_decide]
    split
    · exact ⟨_, rfl, b4⟩
    · exact ⟨_, rfl, hm⟩
  obtain ⟨r5, c3, d1, d2, _⟩ := among_eq c2 b2 (by omega) [1, 3, 4, 6] (by simp)
  obtain ⟨r6, c4, e1, e2⟩ := one_eq c3 d2 (by omega) 5
  have body : ∃ (c5 : List Int × (Int × Int)) (l : List (Int × Int)), loopO fn9_B1 ((u, r5, r6, (0 : Int), ()), (c4, ((0 : Int), ([] : (List (Int × Int)))), (u, ([] : (List (Int × Int)))), ())) = some ((), (c5, ((0 : Int), ([] : (List (Int × Int)))), (u, l), ())) ∧ CurOk c5 (k + 180) ∧ l.length ≤ 90 := by
    by_cases hu0 : 0 ≤ u
    · obtain ⟨n, rfl⟩ : ∃ n : Nat, u = n := ⟨u.toNat, by omega⟩
      obtain ⟨c5, l, q1, q2, q3⟩ := sg_outer n (by omega) r5 r6 ((0 : Int), ([] : (List (Int × Int)))) n 0 c4 ((n : Int), []) (k + 10) (by omega) (e2.le (by omega)) (by omega) (by simp; omega)
      exact ⟨c5, l, q1, q2.le (by omega), by simp at q3; omega⟩
    · refine ⟨c4, [], loop_end ?_, e2.le (by omega), by simp⟩
      rw [fn9_B1_at]
      simp only [bif_decide]
      rw [if_neg (by omega)]
  obtain ⟨c5, l, f1, f2, f3⟩ := body
  obtain ⟨r7, c6, g1, g2, _⟩ := pick_eq c5 f2 (by omega) 50
  simp only [fn9, a1]
  erw [b1]
  simp only [hu, d1, e1]
  erw [f1]
  simp only [g1]
  by_cases h0 : r7 = 0
  · obtain ⟨r8, c7, i1, i2, _⟩ := among_eq c6 g2 (by omega) [-1, 8, 9, 0, 4611686018427387904] (by simp)
    rw [beq_eq h0, cond_true]
    simp only [i1]
    exact ⟨_, _, rfl, i2.le (by omega), by show l.length ≤ _; omega⟩
  · rw [beq_ne h0, cond_false]
    by_cases h1 : r7 = 1
    · obtain ⟨r8, c7, i1, i2, _⟩ := pick_eq c6 g2 (by omega) 4
      obtain ⟨r9, c8, j1, j2, _⟩ := pick_eq c7 i2 (by omega) 9
      rw [beq_eq h1, cond_true, fn9_D1_at]
      simp only [i1, j1]
      rw [guardB_true (by simp only [List.length_singleton, decide_eq_true_eq]; omega)]
      exact ⟨_, _, rfl, j2.le (by omega), by simp only [List.length_append, List.length_singleton]; omega⟩
    · rw [beq_ne h1, cond_false]
      by_cases h2 : r7 = 2
      · rw [beq_eq h2, cond_true, bif_decide]
        by_cases hl : (0 : Int) < (l.length : Int)
        · obtain ⟨r8, c7, i1, i2, i3, i4, _⟩ := pick_eq c6 g2 (by omega) (l.length : Int)
          have i4 := i4 (by omega)
          rw [if_pos hl, fn9_D3_at, fn9_D4_at]
          simp only [i1]
          rw [guardB_true (inb_true i3 i4), guardB_true (by simp only [List.length_singleton, decide_eq_true_eq]; omega)]
          exact ⟨_, _, rfl, i2.le (by omega), by simp only [List.length_append, List.length_singleton]; omega⟩
        · rw [if_neg hl]
          exact ⟨_, _, rfl, g2.le (by omega), by show l.length ≤ _; omega⟩
      · rw [beq_ne h2, cond_false]
        exact ⟨_, _, rfl, g2.le (by omega), by show l.length ≤ _; omega⟩

theorem fn19_D0_at (t30 : Int) (t2 : (Int) × (List ((Int) × (Int)))) (t3 : (Int) × (List ((Int) × (Int)))) (h : (Int) × (List ((Int) × (Int)))) (g : (Int) × (List ((Int) × (Int)))) (o0 : (List (Int)) × ((Int) × (Int))) : fn19_D0 (((t30, ()), ()), (t2, t3, h, g, o0, ())) = some ((), ((t30, g.2), (h.1, h.2), o0, ())) := rfl
theorem fn16_D0_at (t4 : Bool) (t2 : (Int) × (List ((Int) × (Int)))) (t3 : (Int) × (List ((Int) × (Int)))) (g : (Int) × (List ((Int) × (Int)))) (h : (Int) × (List ((Int) × (Int)))) (t10 : (List (Int)) × ((Int) × (Int))) : fn16_D0 ((t4, ()), (t2, t3, g, h, t10, ())) = fn16_D1 ((t4, (g.1, ()), ()), (t2, t3, h, g, t10, ())) := rfl
theorem fn16_D1_at (t4 : Bool) (t16 : Int) (t2 : (Int) × (List ((Int) × (Int)))) (t3 : (Int) × (List ((Int) × (Int)))) (h : (Int) × (List ((Int) × (Int)))) (g : (Int) × (List ((Int) × (Int)))) (t10 : (List (Int)) × ((Int) × (Int))) : fn16_D1 ((t4, (t16, ()), ()), (t2, t3, h, g, t10, ())) = match fn18 ((2 : Int), ()) (t10, ()) with | some ((r, ()), (o, ())) => some ((r, ()), ((t16, g.2), (h.1, h.2), ())) | none => none := rfl
theorem bigGraph_eq (c : List Int × (Int × Int)) {k : Nat} (hc : CurOk c k) (hk : k ≤ 600000) : ∃ (g : Int × List (Int × Int)) (d : List Int × (Int × Int)), fn10 () (c, ()) = some ((g, ()), (d, ())) ∧ CurOk d (k + 200) ∧ g.2.length ≤ 100 := by
  obtain ⟨g, d, e1, e2, e3⟩ := someGraph_eq 8 (by omega) c hc hk
  simp only [fn10, e1]
  exact ⟨_, _, rfl, e2, e3⟩
theorem cur0 {code : List Int} (hc : Sm (.list (.int .u8)) code) (hl : code.length ≤ 65536) : CurOk (code, ((0 : Int), (0 : Int))) 0 :=
  ⟨fun x hx => hc.2 x hx, hl, by show (0 : Int) ≤ 0; omega, by show (0 : Int) ≤ 0; omega⟩
theorem DrawIsGraph_eq {code : List Int} (hc : Sm (.list (.int .u8)) code) (hl : code.length ≤ 65536) : ∃ g : Int × List (Int × Int), fn24 (code, ()) () = some ((g, ()), ()) ∧ g.2.length ≤ 100 := by
  obtain ⟨g, d, e1, _, e3⟩ := bigGraph_eq _ (cur0 hc hl) (by omega)
  simp only [fn24, e1]
  exact ⟨_, rfl, e3⟩
theorem DrawCanFold_eq {code : List Int} (hc : Sm (.list (.int .u8)) code) (hl : code.length ≤ 65536) : ∃ g : Int × List (Int × Int), fn23 (code, ()) () = some ((g, ()), ()) ∧ g.2.length ≤ 100 := by
  obtain ⟨g, e1, e2⟩ := DrawIsGraph_eq hc hl
  simp only [fn23, e1]
  exact ⟨_, rfl, e2⟩
theorem cyc35 {r : Int} (h0 : 0 ≤ r) (h1 : r < 3) : ∃ g : Int × List (Int × Int), fn47 (w64 (3 + r), ()) () = some ((g, ()), ()) ∧ g.2.length ≤ 100 := by
  rw [w64_of (by omega) (by omega)]
  have k : ∀ n : Nat, (n = 3 ∨ n = 4 ∨ n = 5 ∨ n = 6 ∨ n = 7 ∨ n = 8) → 3 + r = n → ∃ g : Int × List (Int × Int), fn47 (3 + r, ()) () = some ((g, ()), ()) ∧ g.2.length ≤ 100 := fun n hn e => by
    rw [e]
    exact ⟨_, specCycle_eq hn, Nat.le_trans (cyc_good hn).2 (by omega)⟩
  rcases (show r = 0 ∨ r = 1 ∨ r = 2 by omega) with h | h | h
  · exact k 3 (.inl rfl) (by omega)
  · exact k 4 (.inr (.inl rfl)) (by omega)
  · exact k 5 (.inr (.inr (.inl rfl))) (by omega)
theorem pair_draw (c : List Int × (Int × Int)) {k : Nat} (hc : CurOk c k) (hk : k ≤ 500000) : ∃ (g h : Int × List (Int × Int)) (d : List Int × (Int × Int)), fn19 () (c, ()) = some ((g, h, ()), (d, ())) ∧ CurOk d (k + 700) ∧ g.2.length ≤ 100 ∧ h.2.length ≤ 100 := by
  obtain ⟨g1, c1, a1, a2, a3⟩ := someGraph_eq 4 (by omega) c hc (by omega)
  obtain ⟨g2, c2, b1, b2, b3⟩ := someGraph_eq 4 (by omega) c1 a2 (by omega)
  obtain ⟨r, c3, d1, d2, _⟩ := pick_eq c2 b2 (by omega) 5
  simp only [fn19, a1, b1, d1]
  by_cases h0 : r = 0
  · obtain ⟨r4, c4, e1, e2, e3, e4, _⟩ := pick_eq c3 d2 (by omega) 3
    obtain ⟨y, y1, y2⟩ := cyc35 e3 (e4 (by omega))
    rw [beq_eq h0, cond_true]
    simp only [e1, y1, fn19_D0_at]
    exact ⟨_, _, _, rfl, e2.le (by omega), y2, b3⟩
  · rw [beq_ne h0, cond_false]
    by_cases h1 : r = 1
    · obtain ⟨r4, c4, e1, e2, e3, e4, _⟩ := pick_eq c3 d2 (by omega) 3
      obtain ⟨y, y1, y2⟩ := cyc35 e3 (e4 (by omega))
      rw [beq_eq h1, cond_true]
      simp only [e1, y1, fn19_D0_at]
      exact ⟨_, _, _, rfl, e2.le (by omega), a3, y2⟩
    · rw [beq_ne h1, cond_false]
      by_cases h2 : r = 2
      · obtain ⟨r4, c4, e1, e2⟩ := one_eq c3 d2 (by omega) 3
        rw [beq_eq h2, cond_true]
        simp only [e1]
        cases r4
        · simp only [cond_false, fn19_D0_at]
          exact ⟨_, _, _, rfl, e2.le (by omega), a3, b3⟩
        · obtain ⟨y, c5, y1, y2, y3⟩ := bigGraph_eq c4 e2 (by omega)
          simp only [cond_true, y1, fn19_D0_at]
          exact ⟨_, _, _, rfl, y2.le (by omega), y3, b3⟩
      · rw [beq_ne h2, cond_false]
        rw [fn19_D0_at]
        exact ⟨_, _, _, rfl, d2.le (by omega), a3, b3⟩
theorem DrawCountMaps_eq {code : List Int} (hc : Sm (.list (.int .u8)) code) (hl : code.length ≤ 65536) : ∃ (g h : Int × List (Int × Int)) (b : Bool), fn16 (code, ()) () = some ((g, h, b, ()), ()) ∧ g.2.length ≤ 100 ∧ h.2.length ≤ 100 := by
  obtain ⟨g, h, d, e1, e2, e3, e4⟩ := pair_draw _ (cur0 hc hl) (by omega)
  obtain ⟨b, d2, f1, _⟩ := one_eq d e2 (by omega) 2
  simp only [fn16, e1]
  rw [fn16_D0_at, fn16_D1_at]
  simp only [f1]
  exact ⟨_, _, _, rfl, e3, e4⟩
theorem DrawMapSpace_eq {code : List Int} (hc : Sm (.list (.int .u8)) code) (hl : code.length ≤ 65536) : ∃ (g h : Int × List (Int × Int)) (b : Bool), fn22 (code, ()) () = some ((g, h, b, ()), ()) ∧ g.2.length ≤ 100 ∧ h.2.length ≤ 100 := by
  obtain ⟨g, h, b, e1, e3, e4⟩ := DrawCountMaps_eq hc hl
  simp only [fn22, e1]
  exact ⟨_, _, _, rfl, e3, e4⟩

/-- a map with values in a set -/
structure MapIn (S T : List (Int × Int)) (n m k : Nat) (a : List Int) : Prop where
  len : a.length = n
  val : ∀ i, i < n → ∃ v : Nat, a.getD i 0 = v ∧ v < m ∧ k.testBit v = true
  fit : ∀ x, x < n → ∀ y, y < x → nearB S (y : Int) (x : Int) = true → fitB T true (a.getD y 0) (a.getD x 0) = true
inductive Way (S T : List (Int × Int)) (n m k : Nat) : List Int → List Int → Prop
  | refl (a) : Way S T n m k a a
  | step (a b c) : Way S T n m k a b → MapIn S T n m k c → ham b c = 1 → Way S T n m k a c
theorem Way.trans {S T : List (Int × Int)} {n m k : Nat} {a b c : List Int} (h1 : Way S T n m k a b) (h2 : Way S T n m k b c) : Way S T n m k a c := by
  induction h2 with
  | refl => exact h1
  | step b c _ hm hh ih => exact .step _ _ _ ih hm hh
theorem ham_symm : ∀ a b : List Int, ham a b = ham b a
  | [], [] => rfl
  | [], _ :: _ => rfl
  | _ :: _, [] => rfl
  | x :: a, y :: b => by
    simp only [ham, ham_symm a b]
    by_cases h : x = y
    · rw [if_pos h, if_pos h.symm]
    · rw [if_neg h, if_neg (fun e => h e.symm)]
theorem Way.symm {S T : List (Int × Int)} {n m k : Nat} {a b : List Int} (ha : MapIn S T n m k a) (h : Way S T n m k a b) : Way S T n m k b a := by
  have both : MapIn S T n m k b ∧ Way S T n m k b a := by
    induction h with
    | refl => exact ⟨ha, .refl _⟩
    | step b c _ hm hh ih => exact ⟨hm, Way.trans (.step _ _ _ (.refl _) ih.1 (by rw [ham_symm]; exact hh)) ih.2⟩
  exact both.2
theorem MapIn.mono {S T : List (Int × Int)} {n m k l : Nat} {a : List Int} (h : MapIn S T n m k a) (hk : ∀ v, k.testBit v = true → l.testBit v = true) : MapIn S T n m l a :=
  ⟨h.len, fun i hi => let ⟨v, h1, h2, h3⟩ := h.val i hi; ⟨v, h1, h2, hk v h3⟩, h.fit⟩
theorem Way.mono {S T : List (Int × Int)} {n m k l : Nat} {a b : List Int} (h : Way S T n m k a b) (hk : ∀ v, k.testBit v = true → l.testBit v = true) : Way S T n m l a b := by
  induction h with
  | refl => exact .refl _
  | step b c _ hm hh ih => exact .step _ _ _ ih (hm.mono hk) hh
theorem fit_move {T : List (Int × Int)} {m k x y z : Nat} (h : CovP T m k x y) (hz : z < m) (hb : k.testBit z = true) (hf : fitB T true (z : Int) (x : Int) = true) : fitB T true (z : Int) (y : Int) = true := by
  simp only [fitB, Bool.true_and, Bool.or_eq_true, decide_eq_true_eq] at hf ⊢
  by_cases e : z = x
  · subst e
    have := h.1.1
    simp only [nbB, Bool.and_eq_true] at this
    exact .inl this.2
  · have hn : nearB T (z : Int) (x : Int) = true := hf.resolve_right (by omega)
    have : nbB T x z = true := by
      simp only [nbB, Bool.and_eq_true, Bool.not_eq_true', decide_eq_false_iff_not]
      exact ⟨e, by rw [nearB_symm]; exact hn⟩
    rcases h.2 z hz hb this with e2 | e2
    · exact .inr (by omega)
    · simp only [nbB, Bool.and_eq_true] at e2
      exact .inl (by rw [nearB_symm]; exact e2.2)
theorem getD_setI {l : List Int} {i j : Nat} {v : Int} (hi : i < l.length) : (l.set i v).getD j 0 = if j = i then v else l.getD j 0 := by
  simp only [List.getD_eq_getElem?_getD, List.getElem?_set]
  by_cases h : i = j
  · subst h; simp [hi]
  · rw [if_neg h, if_neg (fun e => h e.symm)]
theorem set_map {S T : List (Int × Int)} {n m k x y : Nat} {a : List Int} (ha : MapIn S T n m k a) (h : CovP T m k x y) (hy : y < m) {i : Nat} (hi : i < n) (hx : a.getD i 0 = (x : Int)) : MapIn S T n m k (a.set i (y : Int)) := by
  have hl := ha.len
  refine ⟨by rw [List.length_set]; exact hl, fun j hj => ?_, fun p hp q hq hn => ?_⟩
  · rw [getD_setI (by omega)]
    by_cases e : j = i
    · rw [if_pos e]; exact ⟨y, rfl, hy, h.1.2⟩
    · rw [if_neg e]; exact ha.val j hj
  · have hf := ha.fit p hp q hq hn
    rw [getD_setI (by omega), getD_setI (by omega)]
    by_cases e : p = i
    · subst e
      rw [if_pos rfl, if_neg (by omega)]
      obtain ⟨v, v1, v2, v3⟩ := ha.val q (by omega)
      rw [v1, hx] at hf
      rw [v1]
      exact fit_move h v2 v3 hf
    · rw [if_neg e]
      by_cases e2 : q = i
      · subst e2
        rw [if_pos rfl]
        obtain ⟨v, v1, v2, v3⟩ := ha.val p hp
        rw [v1, hx, fitB_symm] at hf
        rw [v1, fitB_symm]
        exact fit_move h v2 v3 hf
      · rw [if_neg e2]; exact hf
theorem ham_set : ∀ (a : List Int) (i : Nat) (v : Int), i < a.length → a.getD i 0 ≠ v → ham a (a.set i v) = 1
  | [], i, v, h, _ => by simp at h
  | x :: a, 0, v, _, hne => by
    have hne : x ≠ v := by simpa using hne
    have hz : ham a a = 0 := (ham_zero rfl).2 rfl
    simp only [List.set_cons_zero, ham, if_neg hne, hz]
  | x :: a, i + 1, v, h, hne => by
    have ih := ham_set a i v (by simpa using h) (by simpa using hne)
    simp only [List.set_cons_succ, ham, if_pos, ih]
theorem fold_way {S T : List (Int × Int)} {n m k x y : Nat} (hm : m ≤ 8) (hk : k < 256) (h : CovP T m k x y) (hx : x < m) (hy : y < m) : ∀ (d : Nat) (a : List Int), MapIn S T n m k a → a.count (x : Int) ≤ d → ∃ b, Way S T n m k a b ∧ MapIn S T n m (clr k x) b := by
  have hxy : x ≠ y := fun e => by subst e; exact covP_irr h
  have clean : ∀ a : List Int, MapIn S T n m k a → (x : Int) ∉ a → MapIn S T n m (clr k x) a := fun a ha hn => ⟨ha.len, fun i hi => by
    obtain ⟨v, v1, v2, v3⟩ := ha.val i hi
    refine ⟨v, v1, v2, ?_⟩
    rw [clr_test k hk x (by omega) v (by omega), v3]
    have : v ≠ x := fun e => hn (by
      have hl : i < a.length := by rw [ha.len]; exact hi
      rw [getD_at hl] at v1
      rw [← e, ← v1]; exact List.getElem_mem hl)
    simp [this], ha.fit⟩
  intro d
  induction d with
  | zero =>
    intro a ha hc
    exact ⟨a, .refl _, clean a ha (fun hm => by have := List.count_pos_iff.2 hm; omega)⟩
  | succ d ih =>
    intro a ha hc
    by_cases hmem : (x : Int) ∈ a
    · obtain ⟨i, hi, e⟩ := List.getElem_of_mem hmem
      have hin : i < n := by rw [← ha.len]; exact hi
      have hg : a.getD i 0 = (x : Int) := by rw [getD_at hi]; exact e
      have hs := set_map ha h hy hin hg
      have hcnt : (a.set i (y : Int)).count (x : Int) ≤ d := by
        rw [List.count_set hi]
        have e1 : (a[i] == (x : Int)) = true := by rw [e]; simp
        have e2 : ((y : Int) == (x : Int)) = false := beq_ne (by omega)
        rw [e1, e2]
        simp only [if_true, Bool.false_eq_true, if_false]
        omega
      obtain ⟨b, b1, b2⟩ := ih _ hs hcnt
      exact ⟨b, Way.trans (.step _ _ _ (.refl _) hs (ham_set a i _ hi (by rw [hg]; omega))) b1, b2⟩
    · exact ⟨a, .refl _, clean a ha hmem⟩
def endM : Nat → List (Int × Int) → Nat
  | k, [] => k
  | k, e :: F => endM (clr k e.1.toNat) F
theorem fold_all {S T : List (Int × Int)} {n m : Nat} (hm : m ≤ 8) : ∀ (F : List (Int × Int)) (k : Nat) (a : List Int), k < 256 → FoldSeq T m k F → MapIn S T n m k a → ∃ b, Way S T n m k a b ∧ MapIn S T n m (endM k F) b
  | [], k, a, _, _, ha => ⟨a, .refl _, ha⟩
  | e :: F, k, a, hk, ⟨x, y, he, hx, hb, hy, hc, hF⟩, ha => by
    obtain ⟨b, b1, b2⟩ := fold_way hm hk hc hx hy _ a ha (Nat.le_refl _)
    have hk' := (clr_bag k hk x (by omega)).2
    obtain ⟨c, c1, c2⟩ := fold_all hm F (clr k x) b hk' hF b2
    refine ⟨c, Way.trans b1 (c1.mono fun v hv => ?_), ?_⟩
    · have hv8 : v < 8 := Classical.byContradiction fun hn => by
        rw [Nat.testBit_lt_two_pow (Nat.lt_of_lt_of_le (show clr k x < 2 ^ 8 from hk') (Nat.pow_le_pow_right (n := 2) (by decide) (show 8 ≤ v by omega)))] at hv
        cases hv
      rw [clr_test k hk x (by omega) v hv8, Bool.and_eq_true] at hv
      exact hv.1
    · simp only [endM, he, Int.toNat_natCast]; exact c2
theorem lst_one {m k x : Nat} (hm : m ≤ 8) (hk : k < 256) (hx : x < m) (hb : k.testBit x = true) : (lst m (clr k x)).length + 1 = (lst m k).length := by
  have hmem : (x : Int) ∈ lst m k := lst_mem.2 ⟨x, hx, hb, rfl⟩
  have hnd := lst_nodup m k
  rw [← lst_clr (m := k) hm hk (show x < 8 by omega)]
  have e : (lst m k).filter (fun y => !decide (y = (x : Int))) = (lst m k).erase (x : Int) := by
    rw [hnd.erase_eq_filter]
    refine List.filter_congr fun z _ => ?_
    by_cases h : z = (x : Int) <;> simp [h]
  rw [e, List.length_erase_of_mem hmem]
  have := List.length_pos_of_mem hmem
  omega
theorem lst_end {T : List (Int × Int)} {m : Nat} (hm : m ≤ 8) : ∀ (F : List (Int × Int)) (k : Nat), k < 256 → FoldSeq T m k F → (lst m (endM k F)).length + F.length = (lst m k).length
  | [], k, _, _ => rfl
  | e :: F, k, hk, ⟨x, y, he, hx, hb, hy, hc, hF⟩ => by
    have := lst_end hm F (clr k x) (clr_bag k hk x (by omega)).2 hF
    have h1 := lst_one hm hk hx hb
    simp only [endM, he, Int.toNat_natCast, List.length_cons]
    omega
theorem map_one {S T : List (Int × Int)} {n m k : Nat} {a b : List Int} (hl : (lst m k).length ≤ 1) (ha : MapIn S T n m k a) (hb : MapIn S T n m k b) : a = b := by
  apply List.ext_getElem
  · rw [ha.len, hb.len]
  · intro i h1 h2
    have hi : i < n := by rw [← ha.len]; exact h1
    obtain ⟨v, v1, v2, v3⟩ := ha.val i hi
    obtain ⟨w, w1, w2, w3⟩ := hb.val i hi
    rw [getD_at h1] at v1
    rw [getD_at h2] at w1
    have hv : (v : Int) ∈ lst m k := lst_mem.2 ⟨v, v2, v3, rfl⟩
    have hw : (w : Int) ∈ lst m k := lst_mem.2 ⟨w, w2, w3, rfl⟩
    rw [v1, w1]
    match hq : lst m k with
    | [] => rw [hq] at hv; simp at hv
    | [z] => rw [hq] at hv hw; simp at hv hw; rw [hv, hw]
    | _ :: _ :: _ => rw [hq] at hl; simp at hl
theorem all_way {S T : List (Int × Int)} {n m : Nat} (hm : m ≤ 8) {F : List (Int × Int)} (hF : FoldSeq T m (2 ^ m - 1) F) (hl : (lst m (2 ^ m - 1)).length ≤ F.length + 1) {a b : List Int} (ha : MapIn S T n m (2 ^ m - 1) a) (hb : MapIn S T n m (2 ^ m - 1) b) : Way S T n m (2 ^ m - 1) a b := by
  have hk := (all_bag m (by omega)).2.2
  obtain ⟨c, c1, c2⟩ := fold_all hm F _ a hk hF ha
  obtain ⟨d, d1, d2⟩ := fold_all hm F _ b hk hF hb
  have := lst_end hm F _ hk hF
  have e := map_one (by omega) c2 d2
  subst e
  exact c1.trans (d1.symm hb)

theorem full_map {S T : List (Int × Int)} {n m : Nat} {a : List Int} (h : a ∈ full S T true m n []) : MapIn S T n m (2 ^ m - 1) a := by
  obtain ⟨q1, _, q3⟩ := full_mem S T true n [] a h
  have hl : a.length = n := by simpa using q1
  refine ⟨hl, fun i hi => ?_, fun x hx y hy hn => full_fit S T true h hx hy hn⟩
  have hi' : i < a.length := by omega
  have hv := q3 (a.getD i 0) (by rw [getD_at hi']; simp)
  exact ⟨(a.getD i 0).toNat, by omega, by omega, by rw [Nat.testBit_two_pow_sub_one, decide_eq_true_eq]; omega⟩
theorem map_full {S T : List (Int × Int)} {n m k : Nat} {a : List Int} (h : MapIn S T n m k a) : a ∈ full S T true m n [] := by
  refine full_in S T true (fun i hi => ?_) (fun x hx y hy hn => h.fit x (by rw [← h.len]; exact hx) y hy hn) n [] (by simp [h.len]) (by simp)
  obtain ⟨v, v1, v2, _⟩ := h.val i (by rw [← h.len]; exact hi)
  rw [v1]; omega
theorem rowSteps_has {i : Nat} {a : List Int} : ∀ (L : List (List Int)) (k t : Nat), t < L.length → ham a (L.getD t []) = 1 → ((i : Int), ((k + t : Nat) : Int)) ∈ rowSteps i a k L
  | [], k, t, h, _ => by simp at h
  | b :: L, k, 0, _, hh => by
    have hh : ham a b = 1 := by simpa using hh
    simp only [rowSteps, if_pos hh, Nat.add_zero]
    exact List.mem_cons_self
  | b :: L, k, t + 1, h, hh => by
    have ih := rowSteps_has (i := i) (a := a) L (k + 1) t (by simpa using h) (by simpa using hh)
    rw [show k + 1 + t = k + (t + 1) by omega] at ih
    simp only [rowSteps]
    split
    · exact List.mem_cons_of_mem _ ih
    · exact ih
theorem allSteps_has : ∀ (L : List (List Int)) (k i j : Nat), i < j → j < L.length → ham (L.getD i []) (L.getD j []) = 1 → (((k + i : Nat) : Int), ((k + j : Nat) : Int)) ∈ allSteps k L
  | [], k, i, j, _, h, _ => by simp at h
  | a :: L, k, 0, j + 1, _, h, hh => by
    simp only [allSteps, List.mem_append]
    left
    have := rowSteps_has (i := k) (a := a) L (k + 1) j (by simpa using h) (by simpa using hh)
    rw [show k + 1 + j = k + (j + 1) by omega] at this
    exact this
  | a :: L, k, i + 1, j + 1, hij, h, hh => by
    simp only [allSteps, List.mem_append]
    right
    have := allSteps_has L (k + 1) i j (by omega) (by simpa using h) (by simpa using hh)
    rw [show k + 1 + i = k + (i + 1) by omega, show k + 1 + j = k + (j + 1) by omega] at this
    exact this
theorem nbr_has {A : List (List Int)} {i j : Nat} (hi : i < A.length) (hj : j < A.length) (hh : ham (A.getD i []) (A.getD j []) = 1) : (j : Int) ∈ nbr (allSteps 0 A) i := by
  have hne : i ≠ j := fun e => by
    subst e
    have : ham (A.getD i []) (A.getD i []) = 0 := (ham_zero rfl).2 rfl
    omega
  simp only [nbr, inc, outg, List.mem_append, List.mem_map, List.mem_filter, decide_eq_true_eq]
  rcases Nat.lt_or_gt_of_ne hne with h | h
  · right
    have := allSteps_has A 0 i j h hj hh
    simp only [Nat.zero_add] at this
    exact ⟨_, ⟨this, rfl⟩, rfl⟩
  · left
    have := allSteps_has A 0 j i h hi (by rw [ham_symm]; exact hh)
    simp only [Nat.zero_add] at this
    exact ⟨_, ⟨this, rfl⟩, rfl⟩
theorem way_rch {S T : List (Int × Int)} {n m k : Nat} {a b : List Int} (h : Way S T n m k a b) {i : Nat} (hi : i < (full S T true m n []).length) (ha : (full S T true m n []).getD i [] = a) :
    ∃ j, j < (full S T true m n []).length ∧ (full S T true m n []).getD j [] = b ∧ Rch (listsP (allSteps 0 (full S T true m n [])) (full S T true m n []).length) (i : Int) (j : Int) := by
  induction h with
  | refl => exact ⟨i, hi, ha, .refl⟩
  | step b c _ hm hh ih =>
    obtain ⟨j, j1, j2, j3⟩ := ih
    obtain ⟨t, t1, t2⟩ := List.getElem_of_mem (map_full hm)
    refine ⟨t, t1, by rw [getD_at t1, t2], .step _ _ j3 ?_⟩
    rw [Int.toNat_natCast, show (listsP (allSteps 0 (full S T true m n [])) (full S T true m n []).length).getD j [] = nbr (allSteps 0 (full S T true m n [])) j from rows_get j1 _]
    exact nbr_has j1 t1 (by rw [j2, getD_at t1, t2]; exact hh)
theorem count_all {n : Nat} {L : List (List Int)} : ∀ (d i : Nat) (old : List Bool) (c : Nat), (∀ j, j < n → old.getD j false = true) → i + d ≤ n → count n L d i old c = c
  | 0, _, _, _, _, _ => rfl
  | d + 1, i, old, c, h, hi => by
    simp only [count, if_pos (h i (by omega))]
    exact count_all d (i + 1) old c h (by omega)
theorem one_part {L : List (List Int)} {n : Nat} (hL : Rds n L) (h : ∀ w : Int, 0 ≤ w → w < n → Rch L 0 w) : count n L n 0 (List.replicate n false) 0 ≤ 1 := by
  match n, hL, h with
  | 0, _, _ => simp [count]
  | n + 1, hL, h =>
    have h0 : (List.replicate (n + 1) false).getD 0 false = false := by simp
    simp only [count, h0, Bool.false_eq_true, if_false]
    have hr := (far_facts hL (a := 0) (by omega) (by omega)).2.1
    rw [count_all n 1 _ 1 (fun j hj => ?_) (by omega)]
    · omega
    · rw [msk_get hj]
      have := (hr (j : Int) (by omega) (by omega)).2 (h (j : Int) (by omega) (by omega))
      rw [Int.toNat_natCast] at this
      simp only [Int.natCast_zero] at this ⊢
      rw [decide_eq_true this, Bool.or_true]
theorem lex_rows : ∀ a b : List Int, cmpRows a b = lexCmp a b
  | [], [] => rfl
  | [], _ :: _ => rfl
  | _ :: _, [] => rfl
  | x :: a, y :: b => by simp only [cmpRows, lexCmp, lex_rows a b]
theorem space_good (S T : List (Int × Int)) {n m : Nat} (hn : n ≤ 6) (hm : m ≤ 8) (hs : (full S T true m n []).length ≤ 300) : spaceB (full S T true m n [], allSteps 0 (full S T true m n [])) = true := by
  have hv := full_vec S T true hm n
  have he := edges_6000 hv hn hs
  have hpw := full_pw S T true (m := m) n []
  have hmem := full_mem S T true (m := m) n []
  generalize full S T true m n [] = A at hs hv he hpw hmem
  have hl := allSteps_len A 0
  simp only [spaceB, Bool.and_eq_true, decide_eq_true_eq]
  refine ⟨hs, by omega, allUpto_iff.2 fun i hi => ?_, allSteps_ok A⟩
  obtain ⟨q1, _, q3⟩ := hmem (A.getD i []) (by rw [getD_at hi]; exact List.getElem_mem hi)
  simp only [List.length_nil, List.drop_zero] at q1 q3
  simp only [stateB, goodState, Bool.and_eq_true, decide_eq_true_eq, List.all_eq_true, Bool.or_eq_true, goodN, inR]
  refine ⟨⟨by omega, fun v hv' => ?_⟩, ?_⟩
  · have := q3 v hv'; omega
  · by_cases h0 : i = 0
    · exact .inl h0
    · right
      have := List.pairwise_iff_getElem.1 hpw (i - 1) i (by omega) hi (by omega)
      rw [lex_rows] at this
      have k := lexCmp_lt A[i - 1] A[i]
      rw [decide_eq_false (by omega)] at k
      rw [getD_at (show i - 1 < A.length by omega), getD_at hi]
      cases hq : lexLt A[i - 1] A[i]
      · rw [hq] at k; cases k
      · rfl
theorem parts_one (S T : List (Int × Int)) {n m : Nat} (hn : n ≤ 6) (hm : m ≤ 8) (hs : (full S T true m n []).length ≤ 300) {F : List (Int × Int)} (hF : FoldSeq T m (2 ^ m - 1) F) (hl : m ≤ F.length + 1) :
    ∃ r : List (List Int), fn53 ((full S T true m n [], allSteps 0 (full S T true m n [])), ()) () = some ((r, true, ()), ()) ∧ r.length ≤ 1 := by
  have hv := full_vec S T true hm n
  have he := edges_6000 hv hn hs
  have hst := allSteps_len (full S T true m n []) 0
  have hsp := space_good S T hn hm hs
  have hok := pairsB_ok (allSteps_ok (full S T true m n []))
  have hfew : Few (full S T true m n [], allSteps 0 (full S T true m n [])) := ⟨by show (full S T true m n []).length ≤ _; omega, fun s hs' => by rw [hv.len s hs']; omega, by show (allSteps 0 (full S T true m n [])).length ≤ _; omega⟩
  obtain ⟨r, r1, r2⟩ := parts_eq (full S T true m n [], allSteps 0 (full S T true m n [])) hok (by show (full S T true m n []).length ≤ _; omega) (by show (allSteps 0 (full S T true m n [])).length ≤ _; omega)
  have hrd := rds_lists hok (by omega)
  refine ⟨r, ?_, ?_⟩
  · simp only [fn53, IsSpace_eq _ hfew, hsp, Bool.not_true, cond_false]
    rw [roads_eq _ (allSteps_ok _) (by show (full S T true m n []).length ≤ _; omega) (by show (allSteps 0 (full S T true m n [])).length ≤ _; omega)]
    simp only
    erw [r1]
  · rw [r2]
    refine one_part hrd fun w h0 h1 => ?_
    dsimp only at h1
    have hpos : 0 < (full S T true m n []).length := by omega
    have hlst : (lst m (2 ^ m - 1)).length ≤ F.length + 1 := Nat.le_trans (lst_len m _) hl
    have ha := full_map (S := S) (T := T) (n := n) (m := m) (a := (full S T true m n []).getD 0 []) (by rw [getD_at hpos]; exact List.getElem_mem _)
    have hb := full_map (S := S) (T := T) (n := n) (m := m) (a := (full S T true m n []).getD w.toNat []) (by rw [getD_at (by omega)]; exact List.getElem_mem _)
    obtain ⟨j, j1, j2, j3⟩ := way_rch (all_way hm hF hlst ha hb) hpos rfl
    have hj : j = w.toNat := by
      rw [getD_at j1, getD_at (show w.toNat < (full S T true m n []).length by omega)] at j2
      have hp := List.pairwise_iff_getElem.1 (List.nodup_iff_pairwise_ne.1 hv.nodup)
      refine Classical.byContradiction fun hne => ?_
      rcases Nat.lt_or_gt_of_ne hne with h | h
      · exact hp j w.toNat j1 (by omega) h j2
      · exact hp w.toNat j (by omega) j1 h j2.symm
    rw [hj, Int.toNat_of_nonneg h0] at j3
    exact j3

theorem laws_rHas_B0_at (list : List (Int)) (x : Int) (i : Int) : laws_rHas_B0 ((list, x, i, ()), ()) = bif (decide (i < (List.length list : Int))) then (guardB (inb i (List.length list)) (bif ((List.getD list (Int.toNat i) (0 : Int)) == x) then (some (.inr (.inl ((true, ()), ())))) else (some (.inl ((list, x, (w64 (i + (1 : Int))), ()), ()))))) else (some (.inr (.inr ((), ())))) := rfl
theorem fn79_B0_at (a : List (Int)) (b : List (Int)) (i : Int) : fn79_B0 ((a, b, i, ()), ()) = bif (decide (i < (List.length a : Int))) then (guardB (inb i (List.length a)) (guardB (inb i (List.length b)) (bif ((List.getD a (Int.toNat i) (0 : Int)) != (List.getD b (Int.toNat i) (0 : Int))) then (some (.inr (.inl ((false, ()), ())))) else (some (.inl ((a, b, (w64 (i + (1 : Int))), ()), ())))))) else (some (.inr (.inr ((), ())))) := rfl
theorem fn68_B0_at (a : List ((Int) × (Int))) (b : List ((Int) × (Int))) (i : Int) : fn68_B0 ((a, b, i, ()), ()) = bif (decide (i < (List.length a : Int))) then (guardB (inb i (List.length a)) (guardB (inb i (List.length b)) (bif (!((((List.getD a (Int.toNat i) ((0 : Int), (0 : Int))).1) == ((List.getD b (Int.toNat i) ((0 : Int), (0 : Int))).1)) && (((List.getD a (Int.toNat i) ((0 : Int), (0 : Int))).2) == ((List.getD b (Int.toNat i) ((0 : Int), (0 : Int))).2)))) then (some (.inr (.inl ((false, ()), ())))) else (some (.inl ((a, b, (w64 (i + (1 : Int))), ()), ())))))) else (some (.inr (.inr ((), ())))) := rfl
theorem fn70_B0_at (a : List (List (Int))) (b : List (List (Int))) (i : Int) : fn70_B0 ((a, b, i, ()), ()) = bif (decide (i < (List.length a : Int))) then (guardB (inb i (List.length a)) (guardB (inb i (List.length b)) (match fn79 ((List.getD a (Int.toNat i) ([] : (List Int))), (List.getD b (Int.toNat i) ([] : (List Int))), ()) () with | some ((r, ()), ()) => (bif (!r) then (some (.inr (.inl ((false, ()), ())))) else (some (.inl ((a, b, (w64 (i + (1 : Int))), ()), ())))) | none => none))) else (some (.inr (.inr ((), ())))) := rfl
theorem rInts_self (l : List Int) (hl : l.length ≤ 1048576) : fn79 (l, l, ()) () = some ((true, ()), ()) := by
  have key := loop_all (B := fn79_B0) (fun i => ((l, l, (i : Int), ()), ())) (fun _ => true) l.length (.inl ((false, ()), ())) (.inr ((), ())) (fun i hi _ => by
    rw [fn79_B0_at, bif_decide, if_pos (show (i : Int) < (l.length : Int) by omega), guardB_true (inb_true (Int.natCast_nonneg i) (show (i : Int) < (l.length : Int) by omega)), guardB_true (inb_true (Int.natCast_nonneg i) (show (i : Int) < (l.length : Int) by omega)), bne_self_eq_false, cond_false, w64_succ (show i < 4611686018427387904 by omega)]
    rfl) (by rw [fn79_B0_at]; simp)
  rw [allUpto_true] at key
  simp only [fn79, bne_self_eq_false, cond_false]
  rw [show (0 : Int) = ((0 : Nat) : Int) from rfl, key]
  rfl
theorem rTable_self (l : List (List Int)) (hl : l.length ≤ 1048576) (h : ∀ x ∈ l, x.length ≤ 1048576) : fn70 (l, l, ()) () = some ((true, ()), ()) := by
  have key := loop_all (B := fn70_B0) (fun i => ((l, l, (i : Int), ()), ())) (fun _ => true) l.length (.inl ((false, ()), ())) (.inr ((), ())) (fun i hi _ => by
    rw [fn70_B0_at, bif_decide, if_pos (show (i : Int) < (l.length : Int) by omega), guardB_true (inb_true (Int.natCast_nonneg i) (show (i : Int) < (l.length : Int) by omega)), guardB_true (inb_true (Int.natCast_nonneg i) (show (i : Int) < (l.length : Int) by omega)), Int.toNat_natCast, rInts_self (l.getD i []) (by rw [getD_at hi]; exact h _ (List.getElem_mem hi)), w64_succ (show i < 4611686018427387904 by omega)]
    rfl) (by rw [fn70_B0_at]; simp)
  rw [allUpto_true] at key
  simp only [fn70, bne_self_eq_false, cond_false]
  rw [show (0 : Int) = ((0 : Nat) : Int) from rfl, key]
  rfl
theorem rPairs_self (l : List (Int × Int)) (hl : l.length ≤ 1048576) : fn68 (l, l, ()) () = some ((true, ()), ()) := by
  have key := loop_all (B := fn68_B0) (fun i => ((l, l, (i : Int), ()), ())) (fun _ => true) l.length (.inl ((false, ()), ())) (.inr ((), ())) (fun i hi _ => by
    rw [fn68_B0_at, bif_decide, if_pos (show (i : Int) < (l.length : Int) by omega), guardB_true (inb_true (Int.natCast_nonneg i) (show (i : Int) < (l.length : Int) by omega)), guardB_true (inb_true (Int.natCast_nonneg i) (show (i : Int) < (l.length : Int) by omega)), beq_self_eq_true, beq_self_eq_true, w64_succ (show i < 4611686018427387904 by omega)]
    rfl) (by rw [fn68_B0_at]; simp)
  rw [allUpto_true] at key
  simp only [fn68, bne_self_eq_false, cond_false]
  rw [show (0 : Int) = ((0 : Nat) : Int) from rfl, key]
  rfl
theorem rSpace_self (x : List (List Int) × List (Int × Int)) (h1 : x.1.length ≤ 1048576) (h2 : ∀ s ∈ x.1, s.length ≤ 1048576) (h3 : x.2.length ≤ 1048576) : fn69 (x, x, ()) () = some ((true, ()), ()) := by
  simp only [fn69, rTable_self x.1 h1 h2, cond_true, rPairs_self x.2 h3]
theorem rHas_eq (l : List Int) (x : Int) (hl : l.length ≤ 1048576) : laws_rHas (l, x, ()) () = some ((decide (x ∈ l), ()), ()) := by
  have key : ∀ d k : Nat, k + d = l.length → loopO laws_rHas_B0 ((l, x, (k : Int), ()), ()) = some (if x ∈ l.drop k then .inl ((true, ()), ()) else .inr ((), ())) := by
    intro d
    induction d with
    | zero =>
      intro k hk
      rw [List.drop_eq_nil_of_le (by omega), if_neg (by simp)]
      refine loop_end ?_
      rw [laws_rHas_B0_at, bif_decide, if_neg (by omega)]
    | succ d ih =>
      intro k hk
      have hk' : k < l.length := by omega
      have st := laws_rHas_B0_at l x (k : Int)
      rw [bif_decide, if_pos (by omega), guardB_true (inb_true (by omega) (by omega)), Int.toNat_natCast, w64_succ (by omega)] at st
      rw [List.drop_eq_getElem_cons hk']
      by_cases h : l.getD k 0 = x
      · rw [beq_eq h, cond_true] at st
        rw [getD_at hk'] at h
        rw [if_pos (by rw [h]; exact List.mem_cons_self)]
        exact loop_end st
      · rw [beq_ne h, cond_false] at st
        have := ih (k + 1) (by omega)
        rw [getD_at hk'] at h
        have e : (x ∈ l[k] :: l.drop (k + 1)) ↔ x ∈ l.drop (k + 1) := by
          rw [List.mem_cons]; exact ⟨fun q => q.resolve_left (fun e => h e.symm), .inr⟩
        simp only [e]
        exact loop_step st this
  have k0 := key l.length 0 (by omega)
  simp only [laws_rHas]
  rw [show (0 : Int) = ((0 : Nat) : Int) from rfl, k0, List.drop_zero]
  by_cases h : x ∈ l
  · rw [if_pos h, decide_eq_true h]
  · rw [if_neg h, decide_eq_false h]

theorem fn58_B0_at (t0 : List (Int)) (t3 : (Int) × (List ((Int) × (Int)))) (t8 : List ((Int) × (Int))) (t12 : Int) : fn58_B0 ((t0, t3, t8, t12, ()), ()) = bif (decide (t12 < (List.length t8 : Int))) then (guardB (inb t12 (List.length t8)) (match fn30 (t3, (List.getD t8 (Int.toNat t12) ((0 : Int), (0 : Int))).1, ()) () with | some ((r, r2, ()), ()) => (bif (!r2) then (some (.inr (.inl ((false, ()), ())))) else (guardB (inb t12 (List.length t8)) (match laws_rHas (r, (List.getD t8 (Int.toNat t12) ((0 : Int), (0 : Int))).2, ()) () with | some ((r3, ()), ()) => (bif (!r3) then (some (.inr (.inl ((false, ()), ())))) else (some (.inl ((t0, t3, t8, (w64 (t12 + (1 : Int))), ()), ())))) | none => none))) | none => none)) else (some (.inr (.inr ((t0, ()), ())))) := rfl
theorem folds_both (g : Int × List (Int × Int)) (hl : g.2.length ≤ 1048576) : (fn59 (g, ()) () = some ((false, false, ()), ()) ∧ fn50 (g, ()) () = some ((false, false, ()), ()) ∧ fn39 (g, ()) () = some (([], false, ()), ()) ∧ fn34 (g, ()) () = some (([], false, ()), ())) ∨
    (goodG g = true ∧ ¬ g.1 = 0 ∧ ∃ R : List (Int × Int), fn59 (g, ()) () = some (((R.length : Int) == w64 (g.1 - 1), true, ()), ()) ∧ fn50 (g, ()) () = some (((R.length : Int) == w64 (g.1 - 1), true, ()), ()) ∧
      fn39 (g, ()) () = some ((R, true, ()), ()) ∧ fn34 (g, ()) () = some ((R, true, ()), ()) ∧ R.length ≤ 8 ∧ FoldSeq g.2 g.1.toNat (2 ^ g.1.toNat - 1) R) := by
  rcases folds_coreC g hl with ⟨h, e⟩ | ⟨h, h0, R, e, e', hR, hF⟩
  · left
    refine ⟨?_, by simp only [fn50, e]; rfl, ?_, e⟩
    · simp only [fn59, l2Good_eq g hl]
      rcases h with h | h
      · rw [h]; rfl
      · rw [beq_eq h]; cases goodG g <;> rfl
    · simp only [fn39, l2Good_eq g hl]
      rcases h with h | h
      · rw [h]; rfl
      · rw [beq_eq h]; cases goodG g <;> rfl
  · right
    refine ⟨h, h0, R, ?_, by simp only [fn50, e']; rfl, ?_, e', hR, hF⟩
    · simp only [fn59, l2Good_eq g hl, h, beq_ne h0, e, Bool.not_true, cond_false]
    · simp only [fn39, l2Good_eq g hl, h, beq_ne h0, e, Bool.not_true, cond_false]
theorem foldSeq_mem {S : List (Int × Int)} {n : Nat} : ∀ {F : List (Int × Int)} {k : Nat}, FoldSeq S n k F → ∀ e ∈ F, ∃ x y : Nat, e = ((x : Int), (y : Int)) ∧ x < n ∧ y < n ∧ nbB S x y = true
  | [], _, _, _, h => by simp at h
  | e :: F, k, ⟨x, y, he, hx, _, hy, hc, hF⟩, e', h => by
    rcases List.mem_cons.1 h with h | h
    · subst h; exact ⟨x, y, he, hx, hy, hc.1.1⟩
    · exact foldSeq_mem hF e' h
theorem folds_near (code : List Int) (g : Int × List (Int × Int)) (hl : g.2.length ≤ 1048576) (hg : goodG g = true) {R : List (Int × Int)} (hR : R.length ≤ 8) (hF : FoldSeq g.2 g.1.toNat (2 ^ g.1.toNat - 1) R) : loopO fn58_B0 ((code, g, R, (0 : Int), ()), ()) = some (.inr ((code, ()), ())) := by
  obtain ⟨n, hn, hn8, hp⟩ := good_nat hg
  rw [hn, Int.toNat_natCast] at hF
  have key : ∀ d k : Nat, k + d = R.length → loopO fn58_B0 ((code, g, R, (k : Int), ()), ()) = some (.inr ((code, ()), ())) := by
    intro d
    induction d with
    | zero =>
      intro k hk
      refine loop_end ?_
      rw [fn58_B0_at, bif_decide, if_neg (by omega)]
    | succ d ih =>
      intro k hk
      have hk' : k < R.length := by omega
      obtain ⟨x, y, he, hx, hy, hb⟩ := foldSeq_mem hF R[k] (List.getElem_mem hk')
      refine loop_step ?_ (ih (k + 1) (by omega))
      have hnb : fn30 (g, (x : Int), ()) () = some ((nbs g.2 n x, true, ()), ()) := by
        simp only [fn30, IsGraph_eq g hl, hg, Bool.not_true, cond_false, between_eq _ _ _]
        have : inR (x : Int) 0 (w64 (g.1 - 1)) = true := by
          rw [hn, w64_of (by omega) (by omega)]
          simp only [inR, Bool.and_eq_true, decide_eq_true_eq]; omega
        rw [this]
        simp only [Bool.not_true, cond_false, neighbors_eq g hn hn8 hp x hl]
      have hin : (y : Int) ∈ nbs g.2 n x := by
        simp only [nbs, List.mem_map, List.mem_filter, List.mem_range]
        exact ⟨y, ⟨hy, hb⟩, rfl⟩
      have hnl := nbs_len g.2 n x
      have hg1 : (R.getD k (0, 0)) = ((x : Int), (y : Int)) := by rw [getD_at hk', he]
      rw [fn58_B0_at, bif_decide, if_pos (by omega), guardB_true (inb_true (by omega) (by omega)), Int.toNat_natCast, hg1]
      simp only [hnb, Bool.not_true, cond_false]
      rw [guardB_true (inb_true (by omega) (by omega)), rHas_eq _ _ (by omega), decide_eq_true hin, w64_succ (by omega)]
      rfl
  have := key R.length 0 (by omega)
  exact this
theorem FnFolds_true (code : List Int) (hc : Sm (.list (.int .u8)) code) : fn58 (code, ()) () = some ((true, ()), ()) := by
  simp only [fn58, laws_rBig, bif_decide]
  by_cases hb : (65536 : Int) < (code.length : Int)
  · rw [if_pos hb]
  rw [if_neg hb]
  obtain ⟨h, d1, d2⟩ := DrawCanFold_eq hc (by omega)
  obtain ⟨g, k, lz, m1, m2, m3⟩ := DrawMapSpace_eq hc (by omega)
  simp only [d1]
  -- the second half
  have second : ∀ (A : Option ((Bool × Unit) × Unit)), A = (match fn22 (code, ()) () with | some ((r12, r13, r14, ()), ()) => (match fn50 ((r13.1, r13.2), ()) () with | some ((r15, r16, ()), ()) => (match fn59 ((r13.1, r13.2), ()) () with | some ((r17, r18, ()), ()) => (bif (!(r15 == r17)) then (some ((false, ()), ())) else (bif (!(r16 == r18)) then (some ((false, ()), ())) else (bif (!r16) then (some ((true, ()), ())) else (bif (!r15) then (some ((true, ()), ())) else (match fn43 ((r12.1, r12.2), (r13.1, r13.2), true, ()) () with | some ((r19, r20, ()), ()) => (match fn46 ((r12.1, r12.2), (r13.1, r13.2), true, ()) () with | some ((r21, r22, ()), ()) => (bif (!(r20 == r22)) then (some ((false, ()), ())) else (match fn69 ((r19.1, r19.2), (r21.1, r21.2), ()) () with | some ((r23, ()), ()) => (bif (!r23) then (some ((false, ()), ())) else (bif (!r20) then (some ((true, ()), ())) else (match fn53 ((r19.1, r19.2), ()) () with | some ((r24, r25, ()), ()) => (bif r25 then (some (((decide ((List.length r24 : Int) ≤ (1 : Int))), ()), ())) else (some ((false, ()), ()))) | none => none))) | none => none)) | none => none) | none => none))))) | none => none) | none => none) | none => none : Option ((Bool × Unit) × Unit)) → A = some ((true, ()), ()) := by
    intro A hA
    subst hA
    simp only [m1]
    rcases folds_both k (by omega) with ⟨e1, e2, _, _⟩ | ⟨hg, h0, R, e1, e2, _, _, hR, hF⟩
    · simp only [e1, e2]; rfl
    · simp only [e1, e2, beq_self_eq_true, Bool.not_true, cond_false]
      cases hcan : ((R.length : Int) == w64 (k.1 - 1))
      · rfl
      simp only [Bool.not_true, cond_false]
      obtain ⟨X, b, x1, x2, x3, x4, _⟩ := space_both g k true (by omega) (by omega)
      simp only [x2, x3, beq_self_eq_true, Bool.not_true, cond_false, rSpace_self X x1.states x1.state x1.steps]
      cases b
      · rfl
      · obtain ⟨y1, y2, y3⟩ := x4 rfl
        simp only [caseB, Bool.and_eq_true, decide_eq_true_eq] at y3
        obtain ⟨n, hn, hn8, hgp⟩ := good_nat y3.1
        obtain ⟨m, hm, hm8, hmp⟩ := good_nat hg
        rw [hn, hm, Int.toNat_natCast, Int.toNat_natCast] at y1
        rw [hm, Int.toNat_natCast] at hF
        have hlen : m ≤ R.length + 1 := by
          rw [hm, w64_of (by omega) (by omega)] at hcan
          have := beq_iff_eq.1 hcan
          omega
        subst y1
        obtain ⟨r, p1, p2⟩ := parts_one g.2 k.2 (n := n) (m := m) (by omega) hm8 y2 hF hlen
        simp only [Bool.not_true, cond_false]
        rw [p1]
        simp only [cond_true]
        rw [decide_eq_true (by omega)]
  rcases folds_both h (by omega) with ⟨e1, e2, e3, e4⟩ | ⟨hg, h0, R, e1, e2, e3, e4, hR, hF⟩
  · simp only [e1, e2, e3, e4, beq_self_eq_true, Bool.not_true, cond_false, rPairs_self [] (by simp)]
    have hl : loopO fn58_B0 ((code, h, [], (0 : Int), ()), ()) = some (.inr ((code, ()), ())) := loop_end (by rw [fn58_B0_at]; rfl)
    erw [hl]
    exact second _ rfl
  · simp only [e1, e2, e3, e4, beq_self_eq_true, Bool.not_true, cond_false, cond_true, rPairs_self R (by omega)]
    erw [folds_near code h (by omega) hg hR hF]
    exact second _ rfl

end Go.Proofs.YtcabghamgilafaaGreat.V
