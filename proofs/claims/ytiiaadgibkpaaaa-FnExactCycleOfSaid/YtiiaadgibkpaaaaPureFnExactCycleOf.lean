/-
  What the reference and the program compute agrees (FnExactCycleOf): plain lemmas over numbers and lists, by rounds. Conditions: those of the printed pure statement alone.
-/
import Derived.Test.YtiiaadgibkpaaaaPFnExactCycleOfx
import Derived.Test.YtiiaadgibkpaaaaPlain
namespace Go.Proofs.Ytiiaadgibkpaaaa.Pure
open Go.RowKit Go.Lib Go.Proofs.Ytiiaadgibkpaaaa.Plain Go.Proofs.Ytiiaadgibkpaaaa.PFnExactCycleOf Go.Proofs.YtiiaadgibkpaaaaW.PrintWords Go.Proofs.YtiiaadgibkpaaaaW.PrintLast Go.Proofs.YtiiaadgibkpaaaaW.PrintMore
open Classical
set_option linter.unusedVariables false
set_option linter.unusedSimpArgs false
theorem in_iff (a b c : Int) : spec_l1In.f a b c = some (decide (b ≤ a ∧ a ≤ c)) := by
  unfold spec_l1In.f
  by_cases h : a ≥ b
  · rw [if_pos h]; congr 1; exact decide_eq_decide.2 ⟨fun x => ⟨h, x⟩, fun x => x.2⟩
  · rw [if_neg h]; congr 1; exact (decide_eq_false fun x => h x.1).symm
theorem between_iff (a b c : Int) : impl_between.f a b c = some (decide (b ≤ a ∧ a ≤ c)) := by
  unfold impl_between.f
  by_cases h : a ≥ b
  · rw [if_pos h]; congr 1; exact decide_eq_decide.2 ⟨fun x => ⟨h, x⟩, fun x => x.2⟩
  · rw [if_neg h]; congr 1; exact (decide_eq_false fun x => h x.1).symm
set_option maxRecDepth 100000 in
theorem cycle_some : laws_FnExactCycleOf.f 200 3 = some true ∧ laws_FnExactCycleOf.f 200 4 = some true ∧ laws_FnExactCycleOf.f 200 5 = some true ∧ laws_FnExactCycleOf.f 200 6 = some true ∧ laws_FnExactCycleOf.f 200 7 = some true ∧ laws_FnExactCycleOf.f 200 8 = some true := by
  refine ⟨?_, ?_, ?_, ?_, ?_, ?_⟩ <;> decide +kernel
set_option maxRecDepth 100000 in
theorem empty_some : laws_FnExactCycleOf.f 20 0 = some true := by decide +kernel
theorem FnExactCycleOf : laws_FnExactCycleOf.Pure := by
  intro a _
  by_cases g : 3 ≤ a ∧ a ≤ 8
  · obtain ⟨h3, h4, h5, h6, h7, h8⟩ := cycle_some
    have : a = 3 ∨ a = 4 ∨ a = 5 ∨ a = 6 ∨ a = 7 ∨ a = 8 := by omega
    rcases this with rfl | rfl | rfl | rfl | rfl | rfl
    · exact ⟨200, h3⟩
    · exact ⟨200, h4⟩
    · exact ⟨200, h5⟩
    · exact ⟨200, h6⟩
    · exact ⟨200, h7⟩
    · exact ⟨200, h8⟩
  · have g0 : ¬ (3 ≤ (0 : Int) ∧ (0 : Int) ≤ 8) := by omega
    have s1 : ∀ k, spec_CycleOf.f k a = spec_CycleOf.f k 0 := fun k => by
      unfold spec_CycleOf.f spec_l10N.f
      rw [in_iff, in_iff, decide_eq_false g, decide_eq_false g0]; rfl
    have s2 : ∀ k, impl_CycleOf.f k a = impl_CycleOf.f k 0 := fun k => by
      unfold impl_CycleOf.f impl_isCycle.f
      rw [between_iff, between_iff, decide_eq_false g, decide_eq_false g0]; rfl
    have s3 : ∀ k (b c : Bool) (x : Int) (y : List S78) (z : Int) (w : List S78), laws_FnExactCycleOf.j0 k a b c x y z w = laws_FnExactCycleOf.j0 k 0 b c x y z w := by
      intro k b c x y z w
      cases k with
      | zero => rfl
      | succ k => simp only [laws_FnExactCycleOf.j0, s2]
    refine ⟨20, ?_⟩
    rw [← empty_some]
    unfold laws_FnExactCycleOf.f
    rw [s1, s2]
    simp only [s3]
end Go.Proofs.Ytiiaadgibkpaaaa.Pure
