import Derived.Test.YtklolnaonampeaaDoorRows
import Derived.Test.YtklolnaonampeaaDoorGiven
import Derived.ProofKit
import Derived.LaidMore
import Derived.OpenShut
import Derived.Stop.LaidErr
import Derived.Stop.Joined
/-! The rows' condition on the tables, met by the door's own heap, and what it gives the walks. -/
namespace Go.Proofs.YtklolnaonampeaaDoor
open Go Go.RowKit Go.Lib
def laid3 : List (String × DataW Unit) := [("math/bits.deBruijn32tab", Rows.laid_math_bits_deBruijn32tab), ("math/bits.deBruijn64tab", Rows.laid_math_bits_deBruijn64tab), ("internal/strconv.uint64pow10", Rows.laid_internal_strconv_uint64pow10)]
theorem own : ownKnob Tryd.prog.godebug = none := by kernel_rfl
set_option maxRecDepth 100000 in
theorem laid_plain : (laid3.all fun x => x.2.handleName?.isNone) = true := by kernel_rfl
theorem pow_data : (Rows.laid_internal_strconv_uint64pow10 : DataW Unit) = tabData .u64 pow10Tab := rfl
theorem pow_global : ∃ g t e n, Tryd.prog.globalNamed "internal/strconv.uint64pow10" = some g ∧ (Tryd.prog.globals[g]?).map (·.type) = some t ∧ Tryd.prog.underlying t = some (.array n e) ∧ Tryd.prog.underlying e = some (.int .u64) ∧ Tryd.prog.cellsOf e = 1 ∧ Tryd.prog.cellsOf t = n := by
  exact ⟨1, 106, 73, 20, by kernel_rfl, by kernel_rfl, by kernel_rfl, by kernel_rfl, by kernel_rfl, by kernel_rfl⟩
theorem envW_of_laid {W : World} (h : laidMetH Tryd.prog laid3 W) : EnvW W := by
  rw [MakeChecks.laidMetH_plain _ _ _ laid_plain] at h
  have h3 := h.tail.tail
  rw [pow_data] at h3
  obtain ⟨g, t, e, n, h1, h2, h4, h5, h6, h7⟩ := pow_global
  exact tabIs_of_head h1 h2 h4 h5 h6 h7 h3
set_option maxRecDepth 100000 in
theorem door_met (os : Os) (args : Array Value) : laidMetH Tryd.prog laid3 ((World.doorLaid Tryd.prog 400 os).forCall (fun _ _ => 0) ⟨#[], args, []⟩).memory := by
  rw [MakeChecks.laidMetH_plain _ _ _ laid_plain]
  exact laidMet_of_run' 8 (by kernel_rfl) (by kernel_rfl)
end Go.Proofs.YtklolnaonampeaaDoor
