/-
  What the library functions of this seat do, told for the evaluator.
-/
import Derived.Test.YtiiaadgibkpaaaaShelf
import Derived.Test.YtiiaadgibkpaaaaE3
/-! The library's functions of this seat, told for VE. -/
namespace Go.Proofs.Ytiiaadgibkpaaaa.V
open Go Go.Ve Go.Proofs
theorem clone_s : (cloneFn 72).Says Try.prog := cloneFn_says (clone_contract ⟨_, _, Try.func72, by kernel_rfl, rfl⟩ (fun b off n c zs w => Try.slices_Clone_int b off n c zs w) (fun a c w => (Try.slices_Clone_int_zero a c w).mono fun _ _ ⟨v, h1, h2, _, h3⟩ => ⟨v, h1, h2, h3⟩) Try.slices_Clone_int_nil)
end Go.Proofs.Ytiiaadgibkpaaaa.V
