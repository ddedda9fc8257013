/-
  The law FnExactAppendRecord answers true for all arguments, where the package-level tables that the row lists hold what the program's text lays. Conditions: none beyond the row's own.
-/
import Derived.Test.YtklolnaonampeaaDoorRows
import Derived.Test.YtklolnaonampeaaDoorLaid
import Derived.Test.YtklolnaonampeaaDoorTie
import Derived.Test.YtklolnaonampeaaDoorCards
import Derived.Test.YtklolnaonampeaaDoorPureFnExactAppendRecord
import Derived.SevenTiedAt
import Derived.WalkKit
import Derived.ProofKit
import Derived.OpenShut
import Derived.ShutString
import Derived.ChangeOld
import Derived.Below
import Derived.SizedLaws
import Derived.Lib.SmallJoins
namespace Go.Proofs.YtklolnaonampeaaDoor.fnExactAppendRecord
open Go.ChangeShapes Go.WideShapes Go.ChangeAt Go.RowKit Go.Joins Go.Proofs.YtklolnaonampeaaDoor.PFnExactAppendRecord
open Go.ChangeMaps (open_string shut_string)
set_option linter.unusedVariables false
theorem laidOut : laidOutB Tryd.prog = true := by kernel_rfl
theorem cells23 : Tryd.prog.cellsOf 23 = 2 := by kernel_rfl
theorem cells36 : Tryd.prog.cellsOf 36 = 3 := by kernel_rfl
set_option maxRecDepth 100000 in
theorem lifted (os : Os) (started : os.Started) (H : Type) (enc : TypeId × Value → H) :
  ReturnsInHanded {} Tryd.checked os 8 .any (fun w args => (Rows.fnExactAppendRecordSpec.pre enc Tryd.prog Tryd.f8 [] false w args ∧ laidMetH Tryd.prog laid3 w) ∧ sizedMet enc Tryd.prog Tryd.f8 (OpenSpec.ofChange Rows.fnExactAppendRecordSpec) false w args) (Rows.fnExactAppendRecordSpec.post enc Tryd.prog Tryd.f8 false true false false) := by
 refine returnsInHanded_of_change_and (C := Tryd.checked) (X := fun w _ => laidMetH Tryd.prog laid3 w) (fun _ _ _ hh h => h.of_heap hh) own started (by kernel_rfl) Tryd.func8
  (ChangeSpec.witness_shaped (enc := enc) (C := Tryd.checked) (os := os) (X := fun w _ => laidMetH Tryd.prog laid3 w) false (World.doorLaid Tryd.prog 400 os) #[.agg #[.string ByteArray.empty, .string ByteArray.empty, .int .i64 0], .agg #[.string ByteArray.empty, .string ByteArray.empty]] 8 rfl (World.shaped_of_RefB (by kernel_rfl) (by kernel_rfl)) (by kernel_rfl) (by kernel_rfl) (by kernel_rfl) (door_met os _)) ?_
 intro W base args ds gs before hval0 hW hcnd hsz0 hL _
 have hsz : (DataW.weightsEach Tryd.prog (Tryd.f8.params.toList ++ Rows.fnExactAppendRecordSpec.plain.varTypes Tryd.prog) (ds ++ gs)).all (· ≤ reachBytes) = true := hsz0
 have hval : ∀ (j : Nat) t v, Tryd.f8.params[j]? = some t → args[j]? = some v → Value.okWide Tryd.prog W .any base t v := hval0
 have hW' := hW
 obtain ⟨p, q, hA0, hV, rfl, hfz, hnd⟩ := hW
 have hA : DataW.TrodAll enc Tryd.prog W 0 (fun _ => true) true Tryd.f8.params.toList args.toList ds p := hA0
 rw [Tryd.params8] at hA hval hsz
 obtain ⟨v0, v1, d0, d1, p0, p1, rfl, rfl, rfl, h0, h1⟩ := trodAll_two hA
 obtain ⟨rfl, rfl⟩ := trodVars_none hV
 have k0 := h0
 have lt0 : ∀ x ∈ p0, x.block < W.heap.size := by obtain ⟨m, hm⟩ := k0; exact DataW.trod_lt m _ _ _ hm
 have wt0 := fun n hn => of_decide_eq_true (List.all_eq_true.1 hsz n (DataW.weights_mem_each (j := 0) (t := 36) rfl rfl n hn))
 have k1 := h1
 have lt1 : ∀ x ∈ p1, x.block < W.heap.size := by obtain ⟨m, hm⟩ := k1; exact DataW.trod_lt m _ _ _ hm
 have wt1 := fun n hn => of_decide_eq_true (List.all_eq_true.1 hsz n (DataW.weights_mem_each (j := 1) (t := 23) rfl rfl n hn))
 obtain ⟨c0_0, c0_1, c0_2, y0_0, y0_1, y0_2, n0, rfl, rfl, hp0, z0_0, z0_1, z0_2⟩ := open_agg3 Tryd.underlying36 (by kernel_rfl) cells36 (hval 0 36 v0 rfl rfl) h0
 obtain ⟨x0_0, e0_0, q0_0, _⟩ := DataW.trod_string Tryd.underlying9 z0_0
 simp only [List.cons.injEq, and_true] at e0_0
 subst e0_0 q0_0
 have b0_0 : x0_0.size ≤ 140737488351232 := by
  have z := wt0 x0_0.data.toList.length (by simp [DataW.weights, Tryd.underlying36, DataW.weightsEach])
  simpa [reachBytes] using z
 obtain ⟨x0_1, e0_1, q0_1, _⟩ := DataW.trod_string Tryd.underlying9 z0_1
 simp only [List.cons.injEq, and_true] at e0_1
 subst e0_1 q0_1
 have b0_1 : x0_1.size ≤ 140737488351232 := by
  have z := wt0 x0_1.data.toList.length (by simp [DataW.weights, Tryd.underlying36, DataW.weightsEach])
  simpa [reachBytes] using z
 obtain ⟨x0_2, e0_2, q0_2, _⟩ := DataW.trod_int Tryd.underlying3 z0_2
 simp only [List.cons.injEq, and_true] at e0_2
 subst e0_2 q0_2
 obtain ⟨c1_0, c1_1, y1_0, y1_1, n1, rfl, rfl, hp1, z1_0, z1_1⟩ := open_agg2 Tryd.underlying23 (by kernel_rfl) cells23 (hval 1 23 v1 rfl rfl) h1
 obtain ⟨x1_0, e1_0, q1_0, _⟩ := DataW.trod_string Tryd.underlying9 z1_0
 simp only [List.cons.injEq, and_true] at e1_0
 subst e1_0 q1_0
 have b1_0 : x1_0.size ≤ 140737488351232 := by
  have z := wt1 x1_0.data.toList.length (by simp [DataW.weights, Tryd.underlying23, DataW.weightsEach])
  simpa [reachBytes] using z
 obtain ⟨x1_1, e1_1, q1_1, _⟩ := DataW.trod_string Tryd.underlying9 z1_1
 simp only [List.cons.injEq, and_true] at e1_1
 subst e1_1 q1_1
 have b1_1 : x1_1.size ≤ 140737488351232 := by
  have z := wt1 x1_1.data.toList.length (by simp [DataW.weights, Tryd.underlying23, DataW.weightsEach])
  simpa [reachBytes] using z
 obtain ⟨k, hk⟩ := Pure.FnExactAppendRecord x0_0 x0_1 x0_2 x1_0 x1_1 b0_0 b0_1 b1_0 b1_1
 refine (PFnExactAppendRecord.laws_FnExactAppendRecord.calls k x0_0 x0_1 x0_2 x1_0 x1_1 true W (envW_of_laid hL) hk).mono fun e W' ⟨he, bel⟩ => ?_
 subst he
 exact ⟨_, rfl, _, _, _, [], _, [], hW', trodAll_mk1 (shut_bool Tryd.underlying4 _), trodAll_mk2 (Below.trod laidOut (by kernel_rfl) (of_decide_eq_true (by kernel_rfl)) k0 bel lt0) (Below.trod laidOut (by kernel_rfl) (of_decide_eq_true (by kernel_rfl)) k1 bel lt1), rfl, bel.frame _, fun h => by cases h⟩
theorem over : Rows.fnExactAppendRecordRow.holds Tryd.pinned (OpenSpec.ofChange Rows.fnExactAppendRecordSpec) :=
 OpenClaim.holds_of_wide 8 Tryd.f8 rfl rfl rfl rfl rfl rfl rfl ⟨rfl, rfl, rfl, rfl, rfl⟩ rfl rfl rfl rfl rfl (by kernel_rfl) Tryd.func8 (by kernel_rfl)
  (of_decide_eq_true (by kernel_rfl)) (by unfold Func.isWrapper; first | (rw [if_pos (by decide +kernel)]; kernel_rfl) | (rw [if_neg (by decide +kernel)]; exact ⟨rfl, rfl⟩))
  (fun os started H enc _ => lifted os started H enc)
theorem proved : Rows.FnExactAppendRecordSaid := over
end Go.Proofs.YtklolnaonampeaaDoor.fnExactAppendRecord
namespace Go.Proofs.YtklolnaonampeaaDoor
open Go
/-- The tied card. -/
theorem fnExactAppendRecord_holds : Rows.FnExactAppendRecordCardSaid :=
  Claim7.holds_tied_plain_at .later [] [.data, .data, .data] true (true, "06e2af12d01eee987747adbce23847abace1296af911c3e9f25890130c553ed3") false
    fnExactAppendRecord.proved (fun _ h => by cases h) (by kernel_rfl) (fun _ h => by cases h) fnExactAppendRecord_row_tie rfl ⟨rfl, rfl⟩ (by kernel_rfl) rfl
    (fun f fn hf hfn => by
      obtain rfl : f = 8 := Option.some.inj ((show Tryd.prog.funcNamed "loop.example/g01128/laws.FnExactAppendRecord" = some 8 by kernel_rfl).symm.trans hf) |>.symm
      obtain rfl : fn = Tryd.f8 := (Option.some.inj (Tryd.func8.symm.trans hfn)).symm
      exact ⟨by kernel_rfl, fun j t ht => by
        have hm : t ∈ Tryd.f8.params.toList := by simpa using Array.mem_of_getElem? ht
        have hall : (Tryd.f8.params.toList.all fun u => !Tryd.prog.wantsStandIn u) = true := by kernel_rfl
        exact (show Tryd.prog.wantsStandIn t = false by simpa using List.all_eq_true.1 hall t hm)⟩)
    (by kernel_rfl)
#print axioms fnExactAppendRecord_holds
end Go.Proofs.YtklolnaonampeaaDoor
