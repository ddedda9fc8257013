-- written by wip/tools of this repo out of the translation (a turned copy of the kit's print): checked by Lean alone
import Derived.Test.YtklolnaonampeaaDoorProg
import Derived.Test.YtklolnaonampeaaDoorWX
import Derived.Test.YtklolnaonampeaaDoorWY
import Derived.Test.YtklolnaonampeaaDoorWZ
import Derived.Below
import Derived.Deep.Draws
import Derived.Deep.AppendLies
import Derived.Maps.AppendAt
import Derived.OwnWalk
import Derived.Laws.BytesArg
import Derived.Laws.MakeOwn
import Derived.Laws.OwnMore
import Derived.Deep.OwnRows
import Derived.Tactics
import Derived.Lib.ConvBytes
import Derived.Laws.Slices
import Derived.WalkKit
import Derived.KernelRfl
import Derived.RowKit3
import Derived.Deep.LoopGhost
import Derived.Deep.QuietTactic
import Derived.BigQuiet
import Derived.WideLaws
import Derived.Deep.DeepCutAuto
import Derived.Deep.CutBlock
import Derived.Deep.RegionHeld3
import Derived.Laws.Rows
import Derived.Lib.AppendStr
import Derived.ArgAppend
import Derived.Laws.IdiomCopy
import Derived.OrdersHeld
import Derived.Laws.BitsLemmas
import Derived.RowKit
import Derived.OrdersHeld
import Derived.Laws.BitsLemmas
import Derived.Test.YtklolnaonampeaaDoorGiven
import Derived.Test.YtklolnaonampeaaDoorWV
import Derived.Test.YtklolnaonampeaaDoorWWords
import Derived.Test.YtklolnaonampeaaDoorWLast
import Derived.Test.YtklolnaonampeaaDoorWTab
import Derived.Test.YtklolnaonampeaaDoorWFour
import Derived.Test.YtklolnaonampeaaDoorWQPut
import Derived.Test.YtklolnaonampeaaDoorWApart
import Derived.Test.YtklolnaonampeaaDoorWArr
import Derived.Test.YtklolnaonampeaaDoorWZeros
import Derived.Test.YtklolnaonampeaaDoorWFoot
import Derived.Test.YtklolnaonampeaaDoorWKept
import Derived.Test.YtklolnaonampeaaDoorWShare
import Derived.Test.YtklolnaonampeaaDoorWN
import Derived.Test.YtklolnaonampeaaDoorWFootNe
import Derived.Test.YtklolnaonampeaaDoorWAt
import Derived.Test.YtklolnaonampeaaDoorWEqStruct
import Derived.Test.YtklolnaonampeaaDoorWRepsOne
import Derived.Test.YtklolnaonampeaaDoorWInv
import Derived.Test.YtklolnaonampeaaDoorWInvWords
import Derived.Test.YtklolnaonampeaaDoorWGuard
import Derived.Test.YtklolnaonampeaaDoorWNEv
import Derived.Test.YtklolnaonampeaaDoorWMore
namespace Go.Proofs.YtklolnaonampeaaDoor.PFnLogs
open Go.RowKit Go.Proofs.YtklolnaonampeaaDoorW.PrintWords Go.Proofs.YtklolnaonampeaaDoorW.PrintLast Go.Proofs.YtklolnaonampeaaDoorW.PrintMore
attribute [local go_sem] max2_int min2_int max_two min_two max_three min_three max_four min_four   -- for this text's walks alone
set_option linter.unusedVariables false
set_option linter.unusedSimpArgs false



def errW : Option Int → Value
 | none => .nilIface
 | some c => .iface 0 (.int .i64 c)
theorem errW_none : errW none = .nilIface := rfl
theorem errW_some (c : Int) : errW (some c) = .iface 0 (.int .i64 c) := rfl

theorem info3 : (Tryd.prog.info? 3).map (fun i => (i.zero, i.size, i.bytes)) = some (some (.int .i64 0), 1, 8) := by kernel_rfl
theorem info5 : (Tryd.prog.info? 5).map (fun i => (i.zero, i.size, i.bytes)) = some (some (.int .u8 0), 1, 1) := by kernel_rfl
theorem info9 : (Tryd.prog.info? 9).map (fun i => (i.zero, i.size, i.bytes)) = some (some (.string ⟨#[]⟩), 1, 16) := by kernel_rfl
theorem info27 : (Tryd.prog.info? 27).map (fun i => (i.zero, i.size, i.bytes)) = some (some (.agg #[(.string ⟨#[]⟩), (.string ⟨#[]⟩)]), 2, 32) := by kernel_rfl
-- the values' own types
/-! #### struct type 27 -/
structure S27 where
 f0 : ByteArray
 f1 : ByteArray
def z27 : S27 := ⟨(⟨#[]⟩ : ByteArray), (⟨#[]⟩ : ByteArray)⟩
def k27 : Kd S27 := Kd.iso (Kd.pair Kd.string Kd.string) (fun x : S27 => (x.f0, x.f1))
theorem k27_open {w : World} {x : S27} {cs : List Value} (h : k27.K w x cs) : cs = [.string x.f0, .string x.f1] := by
 obtain ⟨_, _, rfl, rfl, rfl⟩ := h
 exact rfl
theorem k27_openM {w : World} {base : Nat} {ok : Nat → Prop} {x : S27} {cs : List Value} (h : k27.M w base ok x cs) : cs = [.string x.f0, .string x.f1] := by
 obtain ⟨_, _, rfl, rfl, rfl⟩ := h
 exact rfl
theorem k27_mk (w : World) (x : S27)  : k27.K w x [.string x.f0, .string x.f1] := ⟨[.string x.f0], [.string x.f1], rfl, rfl, rfl⟩
theorem k27_mkM (w : World) (base : Nat) (ok : Nat → Prop) (x : S27)  : k27.M w base ok x [.string x.f0, .string x.f1] := ⟨[.string x.f0], [.string x.f1], rfl, rfl, rfl⟩
def rd_T27 (xs : List S27) (i : Int) : S27 := xs.getD i.toNat z27
theorem at_T27 {w : World} {A : Option Addr} {n : Nat} {xs : List S27} (h : Kd.C k27 w A n xs) (i : Int) (h0 : 0 ≤ i) (h1 : i < n) : ∃ ad , A = some ad ∧ w.cell? (ad.add (i.toNat * 2)) = some (.string (rd_T27 xs i).f0) ∧ w.cell? ⟨(ad.add (i.toNat * 2)).block, (ad.add (i.toNat * 2)).off + 1, none⟩ = some (.string (rd_T27 xs i).f1) := by
 obtain ⟨ad, c, e, _, hK, hc0⟩ := Kd.C_get h z27 i h0 h1
 have hc : ∀ j u, c[j]? = some u → w.cell? (ad.add (i.toNat * 2 + j)) = some u := hc0
 obtain rfl := k27_open hK
 exact ⟨ad, e, hc 0 _ rfl, by rw [← add_field _ _ 1 (by omega)]; exact hc 1 _ rfl⟩

end Go.Proofs.YtklolnaonampeaaDoor.PFnLogs
