/-
  The law FnExactWindingLabels answers true for all arguments. Conditions: none beyond the row's own.
-/
import Derived.Test.YtcabghamgilafaaRows
import Derived.Test.YtcabghamgilafaaPureFnExactWindingLabels
import Derived.Test.YtcabghamgilafaaTFnExactWindingLabels
import Derived.Test.YtcabghamgilafaaE4
import Derived.ProofKit
namespace Go.Proofs.Ytcabghamgilafaa.fnExactWindingLabels
open Go Go.Ve Go.ChangeShapes Go.WideShapes Go.RowKit Go.Proofs.Ytcabghamgilafaa.V
set_option linter.unusedVariables false
theorem own : ownKnob Try.prog.godebug = none := by kernel_rfl
theorem laidOut : laidOutB Try.prog = true := by kernel_rfl
theorem tysAre : tysOk tab [3, 3] [I, I] := kcast (by kernel_rfl) (⟨⟨⟨I, 0, 8, false⟩, by kernel_rfl, rfl⟩, ⟨⟨I, 0, 8, false⟩, by kernel_rfl, rfl⟩,  trivial⟩ : (∃ i, tab.ti 3 = some i ∧ i.ty = I) ∧ (∃ i, tab.ti 3 = some i ∧ i.ty = I) ∧  True)
set_option maxRecDepth 100000 in
theorem lifted (os : Os) (started : os.Started) (H : Type) (enc : TypeId × Value → H) :
    ReturnsInHanded {} Try.checked os 3 .any (Rows.fnExactWindingLabelsSpec.pre6 enc Try.prog Try.f3 Rows.fnExactWindingLabelsRow.domain false) (Rows.fnExactWindingLabelsSpec.post enc Try.prog Try.f3 false true false false) := by
  refine returnsInHanded_of_change_sized (C := Try.checked) own started (by kernel_rfl) Try.func3
    (ChangeSpec.witness6 (enc := enc) (C := Try.checked) false ⟨#[], #[.int .i64 0, .int .i64 0], []⟩ 8 (by kernel_rfl) (by kernel_rfl) (by kernel_rfl) (by kernel_rfl)) ?_
  intro W base args ds gs before hval0 hW hcnd hsz0 _
  have hsz : (DataW.weightsEach Try.prog (Try.f3.params.toList ++ Rows.fnExactWindingLabelsSpec.plain.varTypes Try.prog) (ds ++ gs)).all (· ≤ reachBytes) = true := hsz0
  have hval : ∀ (j : Nat) t v, Try.f3.params[j]? = some t → args[j]? = some v → Value.okWide Try.prog W .any base t v := hval0
  have hW' := hW
  obtain ⟨p, q, hA0, hV, rfl, hfz, hnd⟩ := hW
  have hA : DataW.TrodAll enc Try.prog W 0 (fun _ => true) true Try.f3.params.toList args.toList ds p := hA0
  obtain ⟨rfl, rfl⟩ := trodVars_none hV
  have hA : DataW.TrodAll enc Try.prog W 0 (fun _ => true) true [3, 3] args.toList ds p := by rw [Try.params3] at hA; exact hA
  have hval : ∀ (j : Nat) t v, ([3, 3] : List TypeId)[j]? = some t → args.toList[j]? = some v → Value.okWide Try.prog W .any base t v := fun j t v h1 h2 => hval j t v (by rw [Try.params3]; simpa using h1) (by simpa using h2)
  obtain ⟨x, hr, hs⟩ := reads_args tabOk.data _ [I, I] 0 _ _ _ tysAre hA hval
  have hsm := hs fun n hn => of_decide_eq_true (List.all_eq_true.1 hsz n (by rw [Try.params3]; exact weightsEach_left _ _ _ _ n hn))
  obtain ⟨d0, d1, rfl⟩ : ∃ d0 d1, ds = [d0, d1] := by
    match ds, trodAll_len _ _ _ _ hA with
    | [d0, d1], _ => exact ⟨d0, d1, rfl⟩
  obtain ⟨x0, x1, ⟨⟩⟩ := x
  obtain ⟨h0, h1, _⟩ := hsm
  refine (law_calls (F := laws_FnExactWindingLabels) laws_FnExactWindingLabels_s (FnExactWindingLabels_true x0 x1 h0 h1) hr).mono fun e W' ⟨he, bel⟩ => ?_
  subst he
  exact ⟨_, rfl, _, _, _, [], _, [], hW', trodAll_mk1 (shut_bool Try.underlying4 _), trodAll_below laidOut bel _ _ _ _ (by kernel_rfl) hA, rfl, bel.frame _, fun h => by cases h⟩
theorem over : Rows.fnExactWindingLabelsRow.holds Try.pinned (OpenSpec.ofChange Rows.fnExactWindingLabelsSpec) :=
  OpenClaim.holds_of_wide 3 Try.f3 rfl rfl rfl rfl rfl rfl rfl ⟨rfl, rfl, rfl, rfl, rfl⟩ rfl rfl rfl rfl rfl (by kernel_rfl) Try.func3 (by kernel_rfl)
    (of_decide_eq_true (by kernel_rfl)) (by unfold Func.isWrapper; first | (rw [if_pos (by decide +kernel)]; kernel_rfl) | (rw [if_neg (by decide +kernel)]; exact ⟨rfl, rfl⟩))
    (fun os started H enc _ => lifted os started H enc)
end Go.Proofs.Ytcabghamgilafaa.fnExactWindingLabels
namespace Go.Proofs.Ytcabghamgilafaa
theorem fnExactWindingLabels_holds : Rows.FnExactWindingLabelsSaid := fnExactWindingLabels.over
end Go.Proofs.Ytcabghamgilafaa
