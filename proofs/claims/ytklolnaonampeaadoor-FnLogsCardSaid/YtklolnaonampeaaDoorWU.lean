-- words of the kit's print, pruned by this repo's wip/tools/prune.py: checked by Lean alone
import Derived.Test.YtklolnaonampeaaDoorWV
namespace Go.Proofs.YtklolnaonampeaaDoorW.PrintLast
open Go.RowKit Go.Proofs.YtklolnaonampeaaDoorW.PrintWords
theorem bb_ {w W w1 : World} {g : Nat} {o : Obj} (h : Aside0 (w.heap[g]? = some o)) (hb : Below W.heap.size W w1) (hk : w.heap[g]? = some o → W.heap[g]? = some o := by (intro h_; (with_reducible repeat (first | refine blk_drewN ?_ _ | refine blk_drew ?_ | refine blk_alloc ?_ _)); exact h_)) : w1.heap[g]? = some o := blk_below (hk h.out) hb
theorem nl_ {w W : World} {g g' : Nat} {o : Obj} (h : Aside0 (w.heap[g]? = some o)) (hg : g' = W.heap.size) (hk : w.heap[g]? = some o → W.heap[g]? = some o := by (intro h_; (with_reducible repeat (first | refine blk_drewN ?_ _ | refine blk_drew ?_ | refine blk_alloc ?_ _)); exact h_)) : g ≠ g' := by rw [hg]; exact Nat.ne_of_lt (blk_lt (hk h.out))
theorem ng_ {w W : World} {g g' : Nat} {o : Obj} (h : Aside0 (w.heap[g]? = some o)) (hg : g' = W.heap.size) (hk : w.heap[g]? = some o → W.heap[g]? = some o := by (intro h_; (with_reducible repeat (first | refine blk_drewN ?_ _ | refine blk_drew ?_ | refine blk_alloc ?_ _)); exact h_)) : g' ≠ g := by rw [hg]; exact Nat.ne_of_gt (blk_lt (hk h.out))
end Go.Proofs.YtklolnaonampeaaDoorW.PrintLast
