/-
  No cell of these rows narrows 'for every input' (looked for: loops, veiled, ifaces, maps, wideKeys, modest, calm, conditions, laid).
  DERIVED. THE GIVEN ROWS OF THIS SEAT. 12 by the template 'for every input the law returns true; each argument reads behind the call as it read before'; 0 by the template 'total and deterministic' (their statements: YtiiaadgibkpaaaaTotals.lean).
  GIVEN WITH THE SEED: the statements are not yours to turn. If you find one false, say at which input.
  Laid BY PROGRAM, IN A SANDBOX (cutbox-rows.mjs): the forced cells as the released guide's own fill.sh prints them over the translation 8c0358d3b1042504… (all of the seat's roots in one cut). By AI agents, Wed Nov 11 2026. No macro, syntax, notation, axiom, sorry.
-/
import Derived.Test.YtiiaadgibkpaaaaChecked
import GoSem.Claim
import GoSem.ClaimJoined
import GoSem.ClaimMapViews
import Derived.JoinedTies
import Derived.KernelRfl
namespace Go.Proofs.Ytiiaadgibkpaaaa
/- THE CELL 'sum', in the pinned program and in every row, IS THE sha256 OF THE DUMP (.gsa) THAT YtiiaadgibkpaaaaProg.lean LOADS. Nothing in Lean hashes anything: it is a label: what it is worth is what the hold of that sum in a sandbox is worth. -/
noncomputable def Try.pinned : Pinned := { name := "ytiiaadgibkpaaaa", sum := "8c0358d3b1042504a2984548c7824a53dab78036895e1f2889b01afdae98d2ce", checked := Try.checked }
namespace Rows
def none {H : Type} : Left H := { results := [], args := [] }

/-- 'laws.FnExactIsMap': WHATEVER THE INPUT: true; the input reads as it did. -/
def fnExactIsMapSpec : ChangeSpec := { name := "fnExactIsMap", fn := fun _ => fun
  | [d1, d2, d3, d4] => { results := [.lit (.bool true)], args := [d1, d2, d3, d4] }
  | _ => none }
def fnExactIsMapRow : OpenClaim := { program := "ytiiaadgibkpaaaa", sum := "8c0358d3b1042504a2984548c7824a53dab78036895e1f2889b01afdae98d2ce", func := "loop.example/g01128/laws.FnExactIsMap", spec := "fnExactIsMap", unfollowed := true, recurses := true, apart := false }
def FnExactIsMapSaid : Prop := fnExactIsMapRow.holds Try.pinned (OpenSpec.ofChange fnExactIsMapSpec)

/-- ITS FALSE NEIGHBOUR: 'it returns false'. Refute it at one input. -/
def fnExactIsMapWrong : ChangeSpec := { name := "fnExactIsMap", fn := fun _ => fun
  | [d1, d2, d3, d4] => { results := [.lit (.bool false)], args := [d1, d2, d3, d4] }
  | _ => none }
def FnExactIsMapWrongFalsely : Prop := fnExactIsMapRow.holds Try.pinned (OpenSpec.ofChange fnExactIsMapWrong)

/-- 'laws.FnExactCountMaps': WHATEVER THE INPUT: true; the input reads as it did. -/
def fnExactCountMapsSpec : ChangeSpec := { name := "fnExactCountMaps", fn := fun _ => fun
  | [d1, d2, d3] => { results := [.lit (.bool true)], args := [d1, d2, d3] }
  | _ => none }
def fnExactCountMapsRow : OpenClaim := { program := "ytiiaadgibkpaaaa", sum := "8c0358d3b1042504a2984548c7824a53dab78036895e1f2889b01afdae98d2ce", func := "loop.example/g01128/laws.FnExactCountMaps", spec := "fnExactCountMaps", unfollowed := true, recurses := true, apart := false }
def FnExactCountMapsSaid : Prop := fnExactCountMapsRow.holds Try.pinned (OpenSpec.ofChange fnExactCountMapsSpec)

/-- ITS FALSE NEIGHBOUR: 'it returns false'. Refute it at one input. -/
def fnExactCountMapsWrong : ChangeSpec := { name := "fnExactCountMaps", fn := fun _ => fun
  | [d1, d2, d3] => { results := [.lit (.bool false)], args := [d1, d2, d3] }
  | _ => none }
def FnExactCountMapsWrongFalsely : Prop := fnExactCountMapsRow.holds Try.pinned (OpenSpec.ofChange fnExactCountMapsWrong)

/-- 'laws.FnExactAfterMap': WHATEVER THE INPUT: true; the input reads as it did. -/
def fnExactAfterMapSpec : ChangeSpec := { name := "fnExactAfterMap", fn := fun _ => fun
  | [d1, d2, d3, d4, d5, d6] => { results := [.lit (.bool true)], args := [d1, d2, d3, d4, d5, d6] }
  | _ => none }
def fnExactAfterMapRow : OpenClaim := { program := "ytiiaadgibkpaaaa", sum := "8c0358d3b1042504a2984548c7824a53dab78036895e1f2889b01afdae98d2ce", func := "loop.example/g01128/laws.FnExactAfterMap", spec := "fnExactAfterMap", unfollowed := true, recurses := true, apart := false }
def FnExactAfterMapSaid : Prop := fnExactAfterMapRow.holds Try.pinned (OpenSpec.ofChange fnExactAfterMapSpec)

/-- ITS FALSE NEIGHBOUR: 'it returns false'. Refute it at one input. -/
def fnExactAfterMapWrong : ChangeSpec := { name := "fnExactAfterMap", fn := fun _ => fun
  | [d1, d2, d3, d4, d5, d6] => { results := [.lit (.bool false)], args := [d1, d2, d3, d4, d5, d6] }
  | _ => none }
def FnExactAfterMapWrongFalsely : Prop := fnExactAfterMapRow.holds Try.pinned (OpenSpec.ofChange fnExactAfterMapWrong)

/-- 'laws.FnExactCanFold': WHATEVER THE INPUT: true; the input reads as it did. -/
def fnExactCanFoldSpec : ChangeSpec := { name := "fnExactCanFold", fn := fun _ => fun
  | [d] => { results := [.lit (.bool true)], args := [d] }
  | _ => none }
def fnExactCanFoldRow : OpenClaim := { program := "ytiiaadgibkpaaaa", sum := "8c0358d3b1042504a2984548c7824a53dab78036895e1f2889b01afdae98d2ce", func := "loop.example/g01128/laws.FnExactCanFold", spec := "fnExactCanFold", unfollowed := true, recurses := true, apart := false }
def FnExactCanFoldSaid : Prop := fnExactCanFoldRow.holds Try.pinned (OpenSpec.ofChange fnExactCanFoldSpec)

/-- ITS FALSE NEIGHBOUR: 'it returns false'. Refute it at one input. -/
def fnExactCanFoldWrong : ChangeSpec := { name := "fnExactCanFold", fn := fun _ => fun
  | [d] => { results := [.lit (.bool false)], args := [d] }
  | _ => none }
def FnExactCanFoldWrongFalsely : Prop := fnExactCanFoldRow.holds Try.pinned (OpenSpec.ofChange fnExactCanFoldWrong)

/-- 'laws.FnExactFoldOrder': WHATEVER THE INPUT: true; the input reads as it did. -/
def fnExactFoldOrderSpec : ChangeSpec := { name := "fnExactFoldOrder", fn := fun _ => fun
  | [d] => { results := [.lit (.bool true)], args := [d] }
  | _ => none }
def fnExactFoldOrderRow : OpenClaim := { program := "ytiiaadgibkpaaaa", sum := "8c0358d3b1042504a2984548c7824a53dab78036895e1f2889b01afdae98d2ce", func := "loop.example/g01128/laws.FnExactFoldOrder", spec := "fnExactFoldOrder", unfollowed := true, recurses := true, apart := false }
def FnExactFoldOrderSaid : Prop := fnExactFoldOrderRow.holds Try.pinned (OpenSpec.ofChange fnExactFoldOrderSpec)

/-- ITS FALSE NEIGHBOUR: 'it returns false'. Refute it at one input. -/
def fnExactFoldOrderWrong : ChangeSpec := { name := "fnExactFoldOrder", fn := fun _ => fun
  | [d] => { results := [.lit (.bool false)], args := [d] }
  | _ => none }
def FnExactFoldOrderWrongFalsely : Prop := fnExactFoldOrderRow.holds Try.pinned (OpenSpec.ofChange fnExactFoldOrderWrong)

/-- 'laws.FnExactFirstMap': WHATEVER THE INPUT: true; the input reads as it did. -/
def fnExactFirstMapSpec : ChangeSpec := { name := "fnExactFirstMap", fn := fun _ => fun
  | [d1, d2, d3] => { results := [.lit (.bool true)], args := [d1, d2, d3] }
  | _ => none }
def fnExactFirstMapRow : OpenClaim := { program := "ytiiaadgibkpaaaa", sum := "8c0358d3b1042504a2984548c7824a53dab78036895e1f2889b01afdae98d2ce", func := "loop.example/g01128/laws.FnExactFirstMap", spec := "fnExactFirstMap", unfollowed := true, recurses := true, apart := false }
def FnExactFirstMapSaid : Prop := fnExactFirstMapRow.holds Try.pinned (OpenSpec.ofChange fnExactFirstMapSpec)

/-- ITS FALSE NEIGHBOUR: 'it returns false'. Refute it at one input. -/
def fnExactFirstMapWrong : ChangeSpec := { name := "fnExactFirstMap", fn := fun _ => fun
  | [d1, d2, d3] => { results := [.lit (.bool false)], args := [d1, d2, d3] }
  | _ => none }
def FnExactFirstMapWrongFalsely : Prop := fnExactFirstMapRow.holds Try.pinned (OpenSpec.ofChange fnExactFirstMapWrong)

/-- 'laws.FnExactAreFairPrices': WHATEVER THE INPUT: true; the input reads as it did. -/
def fnExactAreFairPricesSpec : ChangeSpec := { name := "fnExactAreFairPrices", fn := fun _ => fun
  | [d1, d2, d3] => { results := [.lit (.bool true)], args := [d1, d2, d3] }
  | _ => none }
def fnExactAreFairPricesRow : OpenClaim := { program := "ytiiaadgibkpaaaa", sum := "8c0358d3b1042504a2984548c7824a53dab78036895e1f2889b01afdae98d2ce", func := "loop.example/g01128/laws.FnExactAreFairPrices", spec := "fnExactAreFairPrices", unfollowed := true, recurses := true, apart := false }
def FnExactAreFairPricesSaid : Prop := fnExactAreFairPricesRow.holds Try.pinned (OpenSpec.ofChange fnExactAreFairPricesSpec)

/-- ITS FALSE NEIGHBOUR: 'it returns false'. Refute it at one input. -/
def fnExactAreFairPricesWrong : ChangeSpec := { name := "fnExactAreFairPrices", fn := fun _ => fun
  | [d1, d2, d3] => { results := [.lit (.bool false)], args := [d1, d2, d3] }
  | _ => none }
def FnExactAreFairPricesWrongFalsely : Prop := fnExactAreFairPricesRow.holds Try.pinned (OpenSpec.ofChange fnExactAreFairPricesWrong)

/-- 'laws.FnExactPeakOf': WHATEVER THE INPUT: true; the input reads as it did. -/
def fnExactPeakOfSpec : ChangeSpec := { name := "fnExactPeakOf", fn := fun _ => fun
  | [d1, d2, d3] => { results := [.lit (.bool true)], args := [d1, d2, d3] }
  | _ => none }
def fnExactPeakOfRow : OpenClaim := { program := "ytiiaadgibkpaaaa", sum := "8c0358d3b1042504a2984548c7824a53dab78036895e1f2889b01afdae98d2ce", func := "loop.example/g01128/laws.FnExactPeakOf", spec := "fnExactPeakOf", unfollowed := true, recurses := true, apart := false }
def FnExactPeakOfSaid : Prop := fnExactPeakOfRow.holds Try.pinned (OpenSpec.ofChange fnExactPeakOfSpec)

/-- ITS FALSE NEIGHBOUR: 'it returns false'. Refute it at one input. -/
def fnExactPeakOfWrong : ChangeSpec := { name := "fnExactPeakOf", fn := fun _ => fun
  | [d1, d2, d3] => { results := [.lit (.bool false)], args := [d1, d2, d3] }
  | _ => none }
def FnExactPeakOfWrongFalsely : Prop := fnExactPeakOfRow.holds Try.pinned (OpenSpec.ofChange fnExactPeakOfWrong)

/-- 'laws.FnExactWayCost': WHATEVER THE INPUT: true; the input reads as it did. -/
def fnExactWayCostSpec : ChangeSpec := { name := "fnExactWayCost", fn := fun _ => fun
  | [d1, d2, d3] => { results := [.lit (.bool true)], args := [d1, d2, d3] }
  | _ => none }
def fnExactWayCostRow : OpenClaim := { program := "ytiiaadgibkpaaaa", sum := "8c0358d3b1042504a2984548c7824a53dab78036895e1f2889b01afdae98d2ce", func := "loop.example/g01128/laws.FnExactWayCost", spec := "fnExactWayCost", unfollowed := true, recurses := true, apart := false }
def FnExactWayCostSaid : Prop := fnExactWayCostRow.holds Try.pinned (OpenSpec.ofChange fnExactWayCostSpec)

/-- ITS FALSE NEIGHBOUR: 'it returns false'. Refute it at one input. -/
def fnExactWayCostWrong : ChangeSpec := { name := "fnExactWayCost", fn := fun _ => fun
  | [d1, d2, d3] => { results := [.lit (.bool false)], args := [d1, d2, d3] }
  | _ => none }
def FnExactWayCostWrongFalsely : Prop := fnExactWayCostRow.holds Try.pinned (OpenSpec.ofChange fnExactWayCostWrong)

/-- 'laws.FnExactIsCostProof': WHATEVER THE INPUT: true; the input reads as it did. -/
def fnExactIsCostProofSpec : ChangeSpec := { name := "fnExactIsCostProof", fn := fun _ => fun
  | [d1, d2, d3, d4] => { results := [.lit (.bool true)], args := [d1, d2, d3, d4] }
  | _ => none }
def fnExactIsCostProofRow : OpenClaim := { program := "ytiiaadgibkpaaaa", sum := "8c0358d3b1042504a2984548c7824a53dab78036895e1f2889b01afdae98d2ce", func := "loop.example/g01128/laws.FnExactIsCostProof", spec := "fnExactIsCostProof", unfollowed := true, recurses := true, apart := false }
def FnExactIsCostProofSaid : Prop := fnExactIsCostProofRow.holds Try.pinned (OpenSpec.ofChange fnExactIsCostProofSpec)

/-- ITS FALSE NEIGHBOUR: 'it returns false'. Refute it at one input. -/
def fnExactIsCostProofWrong : ChangeSpec := { name := "fnExactIsCostProof", fn := fun _ => fun
  | [d1, d2, d3, d4] => { results := [.lit (.bool false)], args := [d1, d2, d3, d4] }
  | _ => none }
def FnExactIsCostProofWrongFalsely : Prop := fnExactIsCostProofRow.holds Try.pinned (OpenSpec.ofChange fnExactIsCostProofWrong)

/-- 'laws.FnExactLevelSpace': WHATEVER THE INPUT: true; the input reads as it did. -/
def fnExactLevelSpaceSpec : ChangeSpec := { name := "fnExactLevelSpace", fn := fun _ => fun
  | [d1, d2, d3] => { results := [.lit (.bool true)], args := [d1, d2, d3] }
  | _ => none }
def fnExactLevelSpaceRow : OpenClaim := { program := "ytiiaadgibkpaaaa", sum := "8c0358d3b1042504a2984548c7824a53dab78036895e1f2889b01afdae98d2ce", func := "loop.example/g01128/laws.FnExactLevelSpace", spec := "fnExactLevelSpace", unfollowed := true, recurses := true, apart := false }
def FnExactLevelSpaceSaid : Prop := fnExactLevelSpaceRow.holds Try.pinned (OpenSpec.ofChange fnExactLevelSpaceSpec)

/-- ITS FALSE NEIGHBOUR: 'it returns false'. Refute it at one input. -/
def fnExactLevelSpaceWrong : ChangeSpec := { name := "fnExactLevelSpace", fn := fun _ => fun
  | [d1, d2, d3] => { results := [.lit (.bool false)], args := [d1, d2, d3] }
  | _ => none }
def FnExactLevelSpaceWrongFalsely : Prop := fnExactLevelSpaceRow.holds Try.pinned (OpenSpec.ofChange fnExactLevelSpaceWrong)

/-- 'laws.FnExactCycleOf': WHATEVER THE INPUT: true; the input reads as it did. -/
def fnExactCycleOfSpec : ChangeSpec := { name := "fnExactCycleOf", fn := fun _ => fun
  | [d] => { results := [.lit (.bool true)], args := [d] }
  | _ => none }
def fnExactCycleOfRow : OpenClaim := { program := "ytiiaadgibkpaaaa", sum := "8c0358d3b1042504a2984548c7824a53dab78036895e1f2889b01afdae98d2ce", func := "loop.example/g01128/laws.FnExactCycleOf", spec := "fnExactCycleOf", unfollowed := true, recurses := true, apart := false }
def FnExactCycleOfSaid : Prop := fnExactCycleOfRow.holds Try.pinned (OpenSpec.ofChange fnExactCycleOfSpec)

/-- ITS FALSE NEIGHBOUR: 'it returns false'. Refute it at one input. -/
def fnExactCycleOfWrong : ChangeSpec := { name := "fnExactCycleOf", fn := fun _ => fun
  | [d] => { results := [.lit (.bool false)], args := [d] }
  | _ => none }
def FnExactCycleOfWrongFalsely : Prop := fnExactCycleOfRow.holds Try.pinned (OpenSpec.ofChange fnExactCycleOfWrong)

/- THE SECOND FORM. 'bulk': how many values and letters a reading holds, each counted each time it is reached (what is shared counts as often as it is met; a slice's spare places count too). A statement '..UptoSaid' is the law's where the arguments, and the package variables that the reading takes, are together of bulk at most 1048576: NARROWER than '..Said'. Prove '..Said' where nothing that the law and all that it calls make is longer than what came in: it says more and counts as full. Else prove '..UptoSaid'. A law counts once. -/
mutual
def uptoBulk {H : Type} : DataW H → Nat
  | .lit (.string bytes) => bytes.length + 1
  | .lit _ => 1
  | .nil => 1
  | .ptr d => uptoBulk d + 1
  | .slice elems spare => uptoBulkAll elems + uptoBulkAll spare + 1
  | .agg parts => uptoBulkAll parts + 1
  | .iface _ d => uptoBulk d + 1
  | .map entries => uptoBulkEntries entries + 1
  | .held _ => 1
def uptoBulkAll {H : Type} : List (DataW H) → Nat
  | [] => 0
  | d :: r => uptoBulk d + uptoBulkAll r
def uptoBulkEntries {H : Type} : List (Lit × DataW H) → Nat
  | [] => 0
  | x :: r => uptoBulkEntry x + uptoBulkEntries r
def uptoBulkEntry {H : Type} : Lit × DataW H → Nat
  | (.string bytes, d) => bytes.length + uptoBulk d + 1
  | (_, d) => uptoBulk d + 1
 end
def uptoSmall : (H : Type) → List (DataW H) → Bool := fun _ ds => decide (uptoBulkAll ds ≤ 1048576)
def OpenSpec.upto (s : _root_.Go.ChangeSpec) : _root_.Go.OpenSpec := { _root_.Go.OpenSpec.ofChange s with cond := some uptoSmall }

/-- 'laws.FnExactIsMap', WHERE WHAT IT READS IS OF BULK AT MOST 1048576: true; the input reads as it did. -/
def fnExactIsMapUptoRow : OpenClaim := { program := "ytiiaadgibkpaaaa", sum := "8c0358d3b1042504a2984548c7824a53dab78036895e1f2889b01afdae98d2ce", func := "loop.example/g01128/laws.FnExactIsMap", spec := "fnExactIsMap", unfollowed := true, recurses := true, apart := false, narrowed := true }
def FnExactIsMapUptoSaid : Prop := fnExactIsMapUptoRow.holds Try.pinned (OpenSpec.upto fnExactIsMapSpec)

/-- 'laws.FnExactCountMaps', WHERE WHAT IT READS IS OF BULK AT MOST 1048576: true; the input reads as it did. -/
def fnExactCountMapsUptoRow : OpenClaim := { program := "ytiiaadgibkpaaaa", sum := "8c0358d3b1042504a2984548c7824a53dab78036895e1f2889b01afdae98d2ce", func := "loop.example/g01128/laws.FnExactCountMaps", spec := "fnExactCountMaps", unfollowed := true, recurses := true, apart := false, narrowed := true }
def FnExactCountMapsUptoSaid : Prop := fnExactCountMapsUptoRow.holds Try.pinned (OpenSpec.upto fnExactCountMapsSpec)

/-- 'laws.FnExactAfterMap', WHERE WHAT IT READS IS OF BULK AT MOST 1048576: true; the input reads as it did. -/
def fnExactAfterMapUptoRow : OpenClaim := { program := "ytiiaadgibkpaaaa", sum := "8c0358d3b1042504a2984548c7824a53dab78036895e1f2889b01afdae98d2ce", func := "loop.example/g01128/laws.FnExactAfterMap", spec := "fnExactAfterMap", unfollowed := true, recurses := true, apart := false, narrowed := true }
def FnExactAfterMapUptoSaid : Prop := fnExactAfterMapUptoRow.holds Try.pinned (OpenSpec.upto fnExactAfterMapSpec)

/-- 'laws.FnExactCanFold', WHERE WHAT IT READS IS OF BULK AT MOST 1048576: true; the input reads as it did. -/
def fnExactCanFoldUptoRow : OpenClaim := { program := "ytiiaadgibkpaaaa", sum := "8c0358d3b1042504a2984548c7824a53dab78036895e1f2889b01afdae98d2ce", func := "loop.example/g01128/laws.FnExactCanFold", spec := "fnExactCanFold", unfollowed := true, recurses := true, apart := false, narrowed := true }
def FnExactCanFoldUptoSaid : Prop := fnExactCanFoldUptoRow.holds Try.pinned (OpenSpec.upto fnExactCanFoldSpec)

/-- 'laws.FnExactFoldOrder', WHERE WHAT IT READS IS OF BULK AT MOST 1048576: true; the input reads as it did. -/
def fnExactFoldOrderUptoRow : OpenClaim := { program := "ytiiaadgibkpaaaa", sum := "8c0358d3b1042504a2984548c7824a53dab78036895e1f2889b01afdae98d2ce", func := "loop.example/g01128/laws.FnExactFoldOrder", spec := "fnExactFoldOrder", unfollowed := true, recurses := true, apart := false, narrowed := true }
def FnExactFoldOrderUptoSaid : Prop := fnExactFoldOrderUptoRow.holds Try.pinned (OpenSpec.upto fnExactFoldOrderSpec)

/-- 'laws.FnExactFirstMap', WHERE WHAT IT READS IS OF BULK AT MOST 1048576: true; the input reads as it did. -/
def fnExactFirstMapUptoRow : OpenClaim := { program := "ytiiaadgibkpaaaa", sum := "8c0358d3b1042504a2984548c7824a53dab78036895e1f2889b01afdae98d2ce", func := "loop.example/g01128/laws.FnExactFirstMap", spec := "fnExactFirstMap", unfollowed := true, recurses := true, apart := false, narrowed := true }
def FnExactFirstMapUptoSaid : Prop := fnExactFirstMapUptoRow.holds Try.pinned (OpenSpec.upto fnExactFirstMapSpec)

/-- 'laws.FnExactAreFairPrices', WHERE WHAT IT READS IS OF BULK AT MOST 1048576: true; the input reads as it did. -/
def fnExactAreFairPricesUptoRow : OpenClaim := { program := "ytiiaadgibkpaaaa", sum := "8c0358d3b1042504a2984548c7824a53dab78036895e1f2889b01afdae98d2ce", func := "loop.example/g01128/laws.FnExactAreFairPrices", spec := "fnExactAreFairPrices", unfollowed := true, recurses := true, apart := false, narrowed := true }
def FnExactAreFairPricesUptoSaid : Prop := fnExactAreFairPricesUptoRow.holds Try.pinned (OpenSpec.upto fnExactAreFairPricesSpec)

/-- 'laws.FnExactPeakOf', WHERE WHAT IT READS IS OF BULK AT MOST 1048576: true; the input reads as it did. -/
def fnExactPeakOfUptoRow : OpenClaim := { program := "ytiiaadgibkpaaaa", sum := "8c0358d3b1042504a2984548c7824a53dab78036895e1f2889b01afdae98d2ce", func := "loop.example/g01128/laws.FnExactPeakOf", spec := "fnExactPeakOf", unfollowed := true, recurses := true, apart := false, narrowed := true }
def FnExactPeakOfUptoSaid : Prop := fnExactPeakOfUptoRow.holds Try.pinned (OpenSpec.upto fnExactPeakOfSpec)

/-- 'laws.FnExactWayCost', WHERE WHAT IT READS IS OF BULK AT MOST 1048576: true; the input reads as it did. -/
def fnExactWayCostUptoRow : OpenClaim := { program := "ytiiaadgibkpaaaa", sum := "8c0358d3b1042504a2984548c7824a53dab78036895e1f2889b01afdae98d2ce", func := "loop.example/g01128/laws.FnExactWayCost", spec := "fnExactWayCost", unfollowed := true, recurses := true, apart := false, narrowed := true }
def FnExactWayCostUptoSaid : Prop := fnExactWayCostUptoRow.holds Try.pinned (OpenSpec.upto fnExactWayCostSpec)

/-- 'laws.FnExactIsCostProof', WHERE WHAT IT READS IS OF BULK AT MOST 1048576: true; the input reads as it did. -/
def fnExactIsCostProofUptoRow : OpenClaim := { program := "ytiiaadgibkpaaaa", sum := "8c0358d3b1042504a2984548c7824a53dab78036895e1f2889b01afdae98d2ce", func := "loop.example/g01128/laws.FnExactIsCostProof", spec := "fnExactIsCostProof", unfollowed := true, recurses := true, apart := false, narrowed := true }
def FnExactIsCostProofUptoSaid : Prop := fnExactIsCostProofUptoRow.holds Try.pinned (OpenSpec.upto fnExactIsCostProofSpec)

/-- 'laws.FnExactLevelSpace', WHERE WHAT IT READS IS OF BULK AT MOST 1048576: true; the input reads as it did. -/
def fnExactLevelSpaceUptoRow : OpenClaim := { program := "ytiiaadgibkpaaaa", sum := "8c0358d3b1042504a2984548c7824a53dab78036895e1f2889b01afdae98d2ce", func := "loop.example/g01128/laws.FnExactLevelSpace", spec := "fnExactLevelSpace", unfollowed := true, recurses := true, apart := false, narrowed := true }
def FnExactLevelSpaceUptoSaid : Prop := fnExactLevelSpaceUptoRow.holds Try.pinned (OpenSpec.upto fnExactLevelSpaceSpec)

/-- 'laws.FnExactCycleOf', WHERE WHAT IT READS IS OF BULK AT MOST 1048576: true; the input reads as it did. -/
def fnExactCycleOfUptoRow : OpenClaim := { program := "ytiiaadgibkpaaaa", sum := "8c0358d3b1042504a2984548c7824a53dab78036895e1f2889b01afdae98d2ce", func := "loop.example/g01128/laws.FnExactCycleOf", spec := "fnExactCycleOf", unfollowed := true, recurses := true, apart := false, narrowed := true }
def FnExactCycleOfUptoSaid : Prop := fnExactCycleOfUptoRow.holds Try.pinned (OpenSpec.upto fnExactCycleOfSpec)

end Rows
end Go.Proofs.Ytiiaadgibkpaaaa
