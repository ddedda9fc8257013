import Derived.Test.YtklolnaonampeaaDoorShelf
import Derived.Test.YtklolnaonampeaaDoorWZ
import Derived.Lib.AppendIntMem
import Derived.Lib.LaidTab
import Derived.WalkKit
import Derived.WalkLawsBesides
import Derived.WalkSpells
/-! Hand contracts of the library's functions that the logs call. -/
namespace Go.Proofs.YtklolnaonampeaaDoor
open Go.RowKit Go.Lib
theorem gpow : ∃ g, Tryd.prog.globalNamed "internal/strconv.uint64pow10" = some g := Option.isSome_iff_exists.1 (by kernel_rfl)
/-- The table of powers of ten stands as laid. -/
def EnvW (w : World) : Prop := Lib.TabIs Tryd.prog w "internal/strconv.uint64pow10" .u64 Lib.pow10Tab
theorem EnvW.below {w w' : World} (h : EnvW w) (hb : Below w.heap.size w w') : EnvW w' := by
  unfold EnvW Lib.TabIs World.var? at *
  obtain ⟨g, hg⟩ := gpow
  rw [hg] at h ⊢
  simp only [Option.bind_some] at h ⊢
  have hlt : g < w.heap.size := by
    rcases Nat.lt_or_ge g w.heap.size with h' | h'
    · exact h'
    · rw [Array.getElem?_eq_none h'] at h; cases h
  rw [hb.block g hlt]
  exact h

end Go.Proofs.YtklolnaonampeaaDoor
