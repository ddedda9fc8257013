import Derived.Test.YtklolnaonampeaaDoorWMore
/-! Plain lemmas on what holds from some number of rounds on. No program in sight. -/
namespace Go.Proofs.YtklolnaonampeaaDoor.Plain
open Go.RowKit Go.Proofs.YtklolnaonampeaaDoorW.PrintWords
open Classical

theorem wrap_of {x : Int} (h0 : -9223372036854775808 ≤ x) (h1 : x ≤ 9223372036854775807) : wrap64 x = x := by unfold wrap64; omega
theorem wrap_succ {i n : Nat} (h : i < n) (hn : n ≤ 140737488351232) : wrap64 ((i : Int) + 1) = ((i + 1 : Nat) : Int) := by rw [wrap_of (by omega) (by omega)]; rfl
theorem wrap_pred {i n : Nat} (h : i < n) (hn : n ≤ 140737488351232) (h0 : 0 < i) : wrap64 ((i : Int) - 1) = ((i - 1 : Nat) : Int) := by rw [wrap_of (by omega) (by omega)]; omega

theorem Ev.unique {α : Type} {g : Nat → Option α} {r s : α} (h : Ev g r) (k : Ev g s) : r = s := by
  obtain ⟨K, h⟩ := h
  obtain ⟨L, k⟩ := k
  exact Option.some.inj ((h (max K L) (by omega)).symm.trans (k (max K L) (by omega)))

/-- A loop that goes on while what it looks at is good. -/
theorem Ev.loop {α : Type} {F : Nat → Int → Option α} {n : Nat} {good : Nat → Prop} (R B : α → Prop) (hexit : ∃ r, Ev (fun k => F k (n : Int)) r ∧ R r)
    (hgood : ∀ i, i < n → good i → ∀ r, Ev (fun k => F k ((i + 1 : Nat) : Int)) r → Ev (fun k => F k (i : Int)) r)
    (hbad : ∀ i, i < n → ¬ good i → ∃ r, Ev (fun k => F k (i : Int)) r ∧ B r) :
    ∃ r, Ev (fun k => F k 0) r ∧ ((∀ i, i < n → good i) → R r) ∧ ((¬ ∀ i, i < n → good i) → B r) := by
  have main : ∀ d i : Nat, i ≤ n → n - i = d → ∃ r, Ev (fun k => F k (i : Int)) r ∧ ((∀ j, i ≤ j → j < n → good j) → R r) ∧ ((¬ ∀ j, i ≤ j → j < n → good j) → B r) := by
    intro d
    induction d with
    | zero =>
      intro i hi hd
      obtain rfl : i = n := by omega
      obtain ⟨r, h, hr⟩ := hexit
      exact ⟨r, h, fun _ => hr, fun h => absurd (fun j a b => absurd b (by omega)) h⟩
    | succ d ih =>
      intro i hi hd
      by_cases g : good i
      · obtain ⟨r, h, h1, h2⟩ := ih (i + 1) (by omega) (by omega)
        refine ⟨r, hgood i (by omega) g r h, fun a => h1 fun j hj hn => a j (by omega) hn, fun a => h2 fun b => a fun j hj hn => ?_⟩
        by_cases e : j = i
        · exact e ▸ g
        · exact b j (by omega) hn
      · obtain ⟨r, h, hr⟩ := hbad i (by omega) g
        exact ⟨r, h, fun a => absurd (a i (by omega) (by omega)) g, fun _ => hr⟩
  obtain ⟨r, h, h1, h2⟩ := main n 0 (by omega) (by omega)
  exact ⟨r, h, fun a => h1 fun j _ b => a j b, fun a => h2 fun b => a fun j c => b j (by omega) c⟩

/-- The same, with one answer for each way out. -/
theorem Ev.all {α : Type} {F : Nat → Int → Option α} {n : Nat} {good : Nat → Prop} {e b : α} (hexit : Ev (fun k => F k (n : Int)) e)
    (hgood : ∀ i, i < n → good i → ∀ r, Ev (fun k => F k ((i + 1 : Nat) : Int)) r → Ev (fun k => F k (i : Int)) r)
    (hbad : ∀ i, i < n → ¬ good i → Ev (fun k => F k (i : Int)) b) :
    Ev (fun k => F k 0) (if ∀ i, i < n → good i then e else b) := by
  obtain ⟨r, h, h1, h2⟩ := Ev.loop (good := good) (· = e) (· = b) ⟨e, hexit, rfl⟩ hgood (fun i hi hg => ⟨b, hbad i hi hg, rfl⟩)
  by_cases a : ∀ i, i < n → good i
  · rw [if_pos a, ← h1 a]; exact h
  · rw [if_neg a, ← h2 a]; exact h

/-- The same, with a Bool for an answer. -/
theorem Ev.check {F : Nat → Int → Option Bool} {n : Nat} (good : Nat → Prop) {X Y : Prop} [Decidable X] [Decidable Y] (hY : Y ↔ (∀ i, i < n → good i) ∧ X) (hexit : Ev (fun k => F k (n : Int)) (decide X))
    (hgood : ∀ i, i < n → good i → ∀ r, Ev (fun k => F k ((i + 1 : Nat) : Int)) r → Ev (fun k => F k (i : Int)) r)
    (hbad : ∀ i, i < n → ¬ good i → Ev (fun k => F k (i : Int)) false) : Ev (fun k => F k 0) (decide Y) := by
  obtain ⟨r, h, h1, h2⟩ := Ev.loop (good := good) (· = decide X) (· = false) ⟨_, hexit, rfl⟩ hgood (fun i hi hg => ⟨_, hbad i hi hg, rfl⟩)
  have e : r = decide Y := by
    by_cases a : ∀ i, i < n → good i
    · rw [h1 a]; exact decide_eq_decide.2 ⟨fun x => hY.2 ⟨a, x⟩, fun y => (hY.1 y).2⟩
    · rw [h2 a]; exact (decide_eq_false fun y => a (hY.1 y).1).symm
  rw [← e]; exact h
/-- Every number of a list lies between two. -/
def Within (lo hi : Int) (l : List Int) : Prop := ∀ i : Nat, i < l.length → lo ≤ rd l i ∧ rd l i ≤ hi

theorem Within.at {lo hi : Int} {l : List Int} (h : Within lo hi l) {i : Int} (h0 : 0 ≤ i) (h1 : i < l.length) : lo ≤ rd l i ∧ rd l i ≤ hi := by
  obtain ⟨n, rfl⟩ := Int.eq_ofNat_of_zero_le h0
  exact h n (by omega)

/-- A loop that copies a list into a row of its length. -/
theorem Ev.copy {α : Type} {F : Nat → List α → Int → Option (List α)} {l : List α} (hexit : ∀ x, x.length = l.length → Ev (fun k => F k x (l.length : Int)) x)
    (hstep : ∀ i, (h : i < l.length) → ∀ x, x.length = l.length → ∀ r, Ev (fun k => F k (x.set i l[i]) ((i + 1 : Nat) : Int)) r → Ev (fun k => F k x (i : Int)) r)
    (x : List α) (hx : x.length = l.length) : Ev (fun k => F k x 0) l := by
  have main : ∀ d i : Nat, i ≤ l.length → l.length - i = d → ∀ x, x.length = l.length → x.take i = l.take i → Ev (fun k => F k x (i : Int)) l := by
    intro d
    induction d with
    | zero =>
      intro i hi hd x hx ht
      obtain rfl : i = l.length := by omega
      have e : x = l := by rw [List.take_of_length_le (by omega), List.take_of_length_le (by omega)] at ht; exact ht
      have := hexit x hx
      rw [e] at this ⊢
      exact this
    | succ d ih =>
      intro i hi hd x hx ht
      have hi' : i < l.length := by omega
      refine hstep i hi' x hx l (ih (i + 1) (by omega) (by omega) _ (by simpa using hx) ?_)
      rw [List.take_succ_eq_append_getElem (by simpa [hx] using hi'), List.take_succ_eq_append_getElem hi', List.take_set, ht, List.set_eq_of_length_le (by simp; omega)]
      simp
  exact main l.length 0 (by omega) (by omega) x hx (by simp)
theorem rd_at (l : List Int) (i : Nat) (h : i < l.length) : rd l (i : Int) = l[i] := by unfold rd; simp [h]
end Go.Proofs.YtklolnaonampeaaDoor.Plain
