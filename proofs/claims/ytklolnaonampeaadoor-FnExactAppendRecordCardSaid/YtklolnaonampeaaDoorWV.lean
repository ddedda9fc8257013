import Derived.Test.YtklolnaonampeaaDoorWZ
/-! Own words: a block that stays, what lies below over stores; their parts shown in place. -/
namespace Go.Proofs.YtklolnaonampeaaDoorW.PrintLast
open Go.RowKit Go.Proofs.YtklolnaonampeaaDoorW.PrintWords
theorem bk_ {w W : World} {g : Nat} {o : Obj} (h : Aside0 (w.heap[g]? = some o)) (hk : w.heap[g]? = some o → W.heap[g]? = some o := by (intro h_; (with_reducible repeat (first | refine blk_drewN ?_ _ | refine blk_drew ?_ | refine blk_alloc ?_ _)); exact h_)) : W.heap[g]? = some o := hk h.out
theorem bg_ {w W : World} (h : Below w.heap.size w W := by repeat (first | (with_reducible first | exact HB.out | apply below_alloc | apply pw_below_drewN | apply below_drew1 | refine below_set ?_ (Aside0.out (by assumption))) | exact HB.out)) : Below w.heap.size w W := h
end Go.Proofs.YtklolnaonampeaaDoorW.PrintLast
