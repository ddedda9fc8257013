/-
  An evaluator of the code over typed data, proved sound once (part 4 of 4).
-/
import Derived.Test.YtcabghamgilafaaGreatE3
set_option linter.unusedVariables false
set_option linter.unusedSimpArgs false
/-! Plain words for what the printed functions compute: no program in sight. -/
namespace Go.Ve
open Go
set_option linter.unusedVariables false

theorem w64_of {x : Int} (h1 : -9223372036854775808 ≤ x) (h2 : x ≤ 9223372036854775807) : w64 x = x := by
  simp only [w64, IntKind.wrap, IntKind.bits, IntKind.signed]
  simp
  omega
theorem w64_range (x : Int) : -9223372036854775808 ≤ w64 x ∧ w64 x ≤ 9223372036854775807 := by
  simp only [w64, IntKind.wrap, IntKind.bits, IntKind.signed]
  simp
  omega
theorem w64_succ {i : Nat} (h : i < 4611686018427387904) : w64 ((i : Int) + 1) = ((i + 1 : Nat) : Int) := by rw [w64_of] <;> omega
theorem w64_pred {i : Nat} (h : i < 4611686018427387904) (h0 : 0 < i) : w64 ((i : Int) - 1) = ((i - 1 : Nat) : Int) := by rw [w64_of] <;> omega
theorem inb_nat {i n : Nat} : inb (i : Int) n = decide (i < n) := by simp [inb]
theorem inb_true {j : Int} {n : Nat} (h0 : 0 ≤ j) (h : j < n) : inb j n = true := by simp [inb, h0, h]
theorem guardB_true {α : Type} {b : Bool} {x : Option α} (h : b = true) : guardB b x = x := by subst h; rfl

section
variable {P Q : Type} {B : P → Option (P ⊕ Q)}
theorem iter_of {n : Nat} {p : P} {q : Q} (h : iter B n p = some q) : loopO B p = some q := loopO_of h
theorem loop_step {p p' : P} {q : Q} (h : B p = some (.inl p')) (k : loopO B p' = some q) : loopO B p = some q := by
  obtain ⟨n, hn⟩ := of_loopO k
  exact loopO_of (n := n + 1) (by simp [iter, h, hn])
theorem loop_end {p : P} {q : Q} (h : B p = some (.inr q)) : loopO B p = some q := loopO_of (n := 1) (by simp [iter, h])
theorem loop_count (st : Nat → P) (n : Nat) (q : Q) (step : ∀ i, i < n → B (st i) = some (.inl (st (i + 1)))) (stop : B (st n) = some (.inr q)) : ∀ k, k ≤ n → loopO B (st k) = some q := by
  intro k hk
  obtain ⟨d, rfl⟩ : ∃ d, n = k + d := ⟨n - k, by omega⟩
  clear hk
  induction d generalizing k with
  | zero => exact loop_end stop
  | succ d ih =>
    refine loop_step (step k (by omega)) (ih (k + 1) (fun i hi => step i (by omega)) ?_)
    rw [show k + 1 + d = k + (d + 1) by omega]; exact stop
/-- a loop that ends early where something is found -/
def firstHit (hit : Nat → Option Q) : Nat → Nat → Option Q
  | _, 0 => none
  | k, d + 1 => match hit k with
    | some q => some q
    | none => firstHit hit (k + 1) d
theorem loop_find (st : Nat → P) (hit : Nat → Option Q) (n : Nat) (fin : Q) (step : ∀ i, i < n → B (st i) = some (match hit i with
    | some q => .inr q
    | none => .inl (st (i + 1)))) (stop : B (st n) = some (.inr fin)) : loopO B (st 0) = some ((firstHit hit 0 n).getD fin) := by
  suffices h : ∀ d k, k + d = n → loopO B (st k) = some ((firstHit hit k d).getD fin) from h n 0 (by omega)
  intro d
  induction d with
  | zero => intro k hk; have : k = n := by omega
            subst this; exact loop_end stop
  | succ d ih =>
    intro k hk
    have h := step k (by omega)
    cases e : hit k with
    | some q => rw [e] at h; simp only [firstHit, e, Option.getD_some]; exact loop_end h
    | none => rw [e] at h; simp only [firstHit, e]; exact loop_step h (ih (k + 1) (by omega))
/-- every index is looked at, up to the first one that is bad -/
def allUpto (good : Nat → Bool) : Nat → Bool
  | 0 => true
  | n + 1 => allUpto good n && good n
theorem allUpto_iff {good : Nat → Bool} : ∀ {n : Nat}, allUpto good n = true ↔ ∀ i, i < n → good i = true
  | 0 => by simp [allUpto]
  | n + 1 => by
    simp only [allUpto, Bool.and_eq_true, allUpto_iff]
    constructor
    · rintro ⟨h1, h2⟩ i hi
      rcases Nat.lt_or_ge i n with h | h
      · exact h1 i h
      · rw [show i = n by omega]; exact h2
    · intro h
      exact ⟨fun i hi => h i (by omega), h n (by omega)⟩
theorem loop_all (st : Nat → P) (good : Nat → Bool) (n : Nat) (bad fin : Q) (step : ∀ i, i < n → (∀ j, j < i → good j = true) → B (st i) = some (bif good i then .inl (st (i + 1)) else .inr bad)) (stop : B (st n) = some (.inr fin)) :
    loopO B (st 0) = some (bif allUpto good n then fin else bad) := by
  suffices h : ∀ d k, k + d = n → (∀ j, j < k → good j = true) → loopO B (st k) = some (bif allUpto good n then fin else bad) from h n 0 (by omega) (fun j hj => by omega)
  intro d
  induction d with
  | zero =>
    intro k hk hg
    have : k = n := by omega
    subst this
    rw [allUpto_iff.2 hg]
    exact loop_end stop
  | succ d ih =>
    intro k hk hg
    have h := step k (by omega) hg
    cases e : good k
    · rw [e] at h
      have : allUpto good n = false := by
        cases e' : allUpto good n
        · rfl
        · rw [allUpto_iff.1 e' k (by omega)] at e; cases e
      rw [this]
      exact loop_end h
    · rw [e] at h
      exact loop_step h (ih (k + 1) (by omega) (fun j hj => by
        rcases Nat.lt_or_ge j k with h | h
        · exact hg j h
        · rw [show j = k by omega]; exact e))
/-- a loop with an invariant and a measure -/
theorem loop_inv (Inv : P → Prop) (m : P → Nat) (Post : Q → Prop) (step : ∀ p, Inv p → (∃ p', B p = some (.inl p') ∧ Inv p' ∧ m p' < m p) ∨ (∃ q, B p = some (.inr q) ∧ Post q)) : ∀ p, Inv p → ∃ q, loopO B p = some q ∧ Post q := by
  intro p hp
  generalize hn : m p = n
  induction n using Nat.strongRecOn generalizing p with
  | ind n ih =>
    rcases step p hp with ⟨p', h1, h2, h3⟩ | ⟨q, h1, h2⟩
    · obtain ⟨q, h4, h5⟩ := ih (m p') (by omega) p' h2 rfl
      exact ⟨q, loop_step h1 h4, h5⟩
    · exact ⟨q, loop_end h1, h2⟩
end
theorem bne_ne {x y : Int} (h : ¬ x = y) : (x != y) = true := by simp [h]
theorem beq_ne {x y : Int} (h : ¬ x = y) : (x == y) = false := by simp [h]
theorem bne_eq {x y : Int} (h : x = y) : (x != y) = false := by simp [h]
theorem beq_eq {x y : Int} (h : x = y) : (x == y) = true := by simp [h]
/-- lists -/
theorem getD_at {α : Type} {l : List α} {i : Nat} (h : i < l.length) (d : α) : l.getD i d = l[i] := by simp [List.getD, h]
theorem bif_decide {α : Type} {p : Prop} [Decidable p] (a b : α) : (bif decide p then a else b) = if p then a else b := by by_cases h : p <;> simp [h]
/-- a list that is built place by place -/
def fill {α : Type} (f : Nat → α) (z : α) (n i : Nat) : List α := (List.range n).map fun j => if j < i then f j else z
theorem fill_len {α : Type} {f : Nat → α} {z : α} {n i : Nat} : (fill f z n i).length = n := by simp [fill]
theorem fill_zero {α : Type} {f : Nat → α} {z : α} {n : Nat} : fill f z n 0 = List.replicate n z := by
  apply List.ext_getElem
  · simp [fill]
  · intro j h1 h2; simp [fill]
theorem fill_set {α : Type} {f : Nat → α} {z : α} {n i : Nat} (h : i < n) : (fill f z n i).set i (f i) = fill f z n (i + 1) := by
  apply List.ext_getElem
  · simp [fill]
  · intro j h1 h2
    simp only [fill, List.getElem_set, List.getElem_map, List.getElem_range]
    by_cases hj : i = j
    · subst hj; simp
    · rw [if_neg hj]
      by_cases hlt : j < i
      · rw [if_pos hlt, if_pos (by omega)]
      · rw [if_neg hlt, if_neg (by omega)]
theorem fill_all {α : Type} {f : Nat → α} {z : α} {n : Nat} : fill f z n n = (List.range n).map f := by
  apply List.ext_getElem
  · simp [fill]
  · intro j h1 h2
    have : j < n := by simpa [fill] using h1
    simp [fill, this]
theorem range_getD {α : Type} (l : List α) (d : α) : ((List.range l.length).map fun j => l.getD j d) = l := by
  apply List.ext_getElem
  · simp
  · intro j h1 h2; simp [h2]
end Go.Ve
