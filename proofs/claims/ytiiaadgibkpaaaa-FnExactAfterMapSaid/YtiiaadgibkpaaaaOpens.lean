import Derived.Test.YtiiaadgibkpaaaaWMore
import Derived.WalkKit
import Derived.OpenShut
import Derived.Below
import Derived.SizedLaws
import Derived.Deep.Slices
import Derived.Lib.SmallJoins
/-! What a parameter reads as, told as a kind's row. No program in sight. -/
namespace Go.Proofs.Ytiiaadgibkpaaaa.Plain
open Go.RowKit Go.Deep Go.ChangeShapes Go.WideShapes Go.Proofs.YtiiaadgibkpaaaaW.PrintWords
section
variable {H : Type} {enc : TypeId × Value → H} {P : Program} {w : World}
/-- Whatever reads as a value of type t is a value of kind d; where its weights are within reach, it is small. -/
def Opens {α : Type} (enc : TypeId × Value → H) (P : Program) (w : World) (t : TypeId) (d : Kd α) (Sm : α → Prop) : Prop :=
  ∀ fuel cs x, DataW.trod enc P w 0 (fun _ => true) true fuel t cs = some x → ∃ y, d.K w y cs ∧ ((∀ n ∈ DataW.weights P t x.1, n ≤ reachBytes) → Sm y)

theorem Opens.int {t : TypeId} {k : IntKind} (ht : P.underlying t = some (.int k)) : Opens enc P w t (Kd.int k) (fun _ => True) := by
  intro fuel cs x h
  obtain ⟨n, rfl, _, _⟩ := DataW.trod_int ht h
  exact ⟨n, rfl, fun _ => trivial⟩

theorem weights_all {t : TypeId} : ∀ (ds : List (DataW H)) (d : DataW H), d ∈ ds → ∀ n ∈ DataW.weights P t d, n ∈ DataW.weightsAll P t ds
  | [], d, h, n, hn => by cases h
  | e :: ds, d, h, n, hn => by
    simp only [DataW.weightsAll, List.mem_append]
    rcases List.mem_cons.1 h with rfl | h
    · exact .inl hn
    · exact .inr (weights_all ds d h n hn)

theorem cells_get {base : Nat} {a : Addr} {n : Nat} {cs : List Value} (h : w.cells? base a n = some cs) : cs.length = n ∧ ∀ i u, cs[i]? = some u → w.cell? (a.add i) = some u := by
  obtain ⟨_, hl, hc⟩ := World.cells?_some h
  refine ⟨hl, fun i u hi => ?_⟩
  have hlt : i < cs.length := (List.getElem?_eq_some_iff.1 hi).1
  have := hc i (by omega)
  rw [this]; exact hi

theorem Opens.slice {α : Type} {t e : TypeId} {d : Kd α} {Sm : α → Prop} (ht : P.underlying t = some (.slice e)) (hc : P.cellsOf e = d.sz) (hb : 0 < P.bytesOf e) (hel : Opens enc P w e d Sm) :
    Opens enc P w t (Kd.slice e d) (fun xs => xs.length ≤ 140737488351232 ∧ ∀ x ∈ xs, Sm x) := by
  intro fuel cs x h
  rcases open_slice ht h with ⟨rfl, rfl⟩ | ⟨a, len, cap, m, n, D, Pl, rfl, _, hl, hm, hmm, rfl, hx⟩
  · exact ⟨[], ⟨none, 0, rfl, Nat.le_refl _, rfl, Nat.zero_le _, fun h => absurd h (Nat.lt_irrefl _)⟩, fun _ => ⟨by simp, by simp⟩⟩
  · simp only [if_true] at hmm
    obtain rfl := hmm.symm
    have each : ∀ i : Nat, i < len → ∃ y : α, ∃ c : List Value, w.cells? 0 (a.add (i * P.cellsOf e)) (P.cellsOf e) = some c ∧ d.K w y c ∧ ((∀ n ∈ DataW.weights P e (D i), n ≤ reachBytes) → Sm y) := by
      intro i hi
      obtain ⟨c, h1, h2⟩ := hx i (by omega)
      obtain ⟨y, h3, h4⟩ := hel _ _ _ h2
      exact ⟨y, c, h1, h3, h4⟩
    have hf : ∃ xs : List α, xs.length = len ∧ ∀ i y, xs[i]? = some y → ∃ c : List Value, w.cells? 0 (a.add (i * P.cellsOf e)) (P.cellsOf e) = some c ∧ d.K w y c ∧ ((∀ n ∈ DataW.weights P e (D i), n ≤ reachBytes) → Sm y) := by
      clear hx h
      have hlen : ∀ k, k ≤ len → ∃ xs : List α, xs.length = k ∧ ∀ i y, xs[i]? = some y → ∃ c : List Value, w.cells? 0 (a.add (i * P.cellsOf e)) (P.cellsOf e) = some c ∧ d.K w y c ∧ ((∀ n ∈ DataW.weights P e (D i), n ≤ reachBytes) → Sm y) := by
        intro k
        induction k with
        | zero => intro _; exact ⟨[], rfl, fun i y hi => by simp at hi⟩
        | succ k ih =>
          intro hk
          obtain ⟨xs, hxl, hxs⟩ := ih (by omega)
          obtain ⟨y, c, h1, h2, h3⟩ := each k (by omega)
          refine ⟨xs ++ [y], by simp [hxl], fun i z hi => ?_⟩
          rcases Nat.lt_or_ge i k with hik | hik
          · rw [List.getElem?_append_left (by omega)] at hi
            exact hxs i z hi
          · rw [List.getElem?_append_right (by omega), hxl] at hi
            have : i = k := by
              have := (List.getElem?_eq_some_iff.1 hi).1
              simp at this
              omega
            subst this
            simp at hi
            subst hi
            exact ⟨c, h1, h2, h3⟩
      exact hlen len (Nat.le_refl _)
    obtain ⟨xs, hxl, hxs⟩ := hf
    subst hxl
    have hmax : maxLen ≤ 9223372036854775807 := by decide
    refine ⟨xs, ⟨some a, cap, rfl, hl, rfl, by omega, fun _ => ⟨a, rfl, fun j p hj => ?_⟩⟩, fun hw => ⟨?_, ?_⟩⟩
    · obtain ⟨c, h1, h2, _⟩ := hxs j p hj
      obtain ⟨h3, h4⟩ := cells_get h1
      rw [hc] at h1 h3 h4
      refine ⟨c, h3, h2, fun i u hi => ?_⟩
      have := h4 i u hi
      rw [Go.Deep.add_add] at this
      exact this
    · have h0 := hw ((((List.range xs.length).map D).length + ((List.range (cap - xs.length)).map fun j => D (xs.length + j)).length) * P.bytesOf e) (by simp only [DataW.weights, ht]; exact List.mem_cons_self)
      simp only [List.length_map, List.length_range, reachBytes] at h0
      have := Nat.le_mul_of_pos_right (xs.length + (cap - xs.length)) hb
      omega
    · intro y hy
      obtain ⟨i, hi⟩ := List.getElem?_of_mem hy
      obtain ⟨c, _, _, h3⟩ := hxs i y hi
      refine h3 fun n hn => hw n ?_
      simp only [DataW.weights, ht]
      refine List.mem_cons_of_mem _ (List.mem_append_left _ (weights_all _ (D i) ?_ n hn))
      exact List.mem_map.2 ⟨i, List.mem_range.2 (List.getElem?_eq_some_iff.1 hi).1, rfl⟩

/-- An array of two one-cell elements. -/
theorem Opens.array2 {α : Type} {t e : TypeId} {d : Kd α} (ht : P.underlying t = some (.array 2 e)) (hct : P.cellsOf t = 2) (hc : P.cellsOf e = 1) (hel : Opens enc P w e d (fun _ => True)) :
    Opens enc P w t (Kd.pair d d) (fun _ => True) := by
  intro fuel cs x h
  obtain ⟨xs, m, _, _, hl, hn, hx⟩ := DataW.trod_array ht h
  rw [hct] at hl
  obtain ⟨c0, c1, rfl⟩ : ∃ a b, cs = [a, b] := by
    match cs, hl with
    | [a, b], _ => exact ⟨a, b, rfl⟩
  have h0 := hx 0 (by omega)
  have h1 := hx 1 (by omega)
  rw [List.getElem?_eq_getElem (by omega), hc] at h0 h1
  obtain ⟨y0, k0, _⟩ := hel _ _ _ h0
  obtain ⟨y1, k1, _⟩ := hel _ _ _ h1
  exact ⟨(y0, y1), ⟨[c0], [c1], rfl, k0, k1⟩, fun _ => trivial⟩

theorem Opens.iso {α β : Type} {t : TypeId} {d : Kd α} {Sm : α → Prop} {f : β → α} (hf : ∀ a, ∃ b, f b = a) (h : Opens enc P w t d Sm) : Opens enc P w t (Kd.iso d f) (fun b => Sm (f b)) := by
  intro fuel cs x hx
  obtain ⟨y, h1, h2⟩ := h _ _ _ hx
  obtain ⟨b, rfl⟩ := hf y
  exact ⟨b, h1, h2⟩
theorem Opens.imp {α : Type} {t : TypeId} {d : Kd α} {Sm Sm' : α → Prop} (h : Opens enc P w t d Sm) (hS : ∀ a, Sm a → Sm' a) : Opens enc P w t d Sm' := by
  intro fuel cs x hx
  obtain ⟨y, h1, h2⟩ := h _ _ _ hx
  exact ⟨y, h1, fun a => hS _ (h2 a)⟩
end
end Go.Proofs.Ytiiaadgibkpaaaa.Plain
