/-
  The law FnExactMapSpace answers true for all arguments. Conditions: none beyond the row's own.
-/
import Derived.Test.YtcabghamgilafaaRows
import Derived.Test.YtcabghamgilafaaPureFnExactMapSpace
import Derived.Test.YtcabghamgilafaaTFnExactMapSpace
import Derived.Test.YtcabghamgilafaaE4
import Derived.ProofKit
namespace Go.Proofs.Ytcabghamgilafaa.fnExactMapSpace
open Go Go.Ve Go.ChangeShapes Go.WideShapes Go.RowKit Go.Proofs.Ytcabghamgilafaa.V
set_option linter.unusedVariables false
theorem own : ownKnob Try.prog.godebug = none := by kernel_rfl
theorem laidOut : laidOutB Try.prog = true := by kernel_rfl
theorem tysAre : tysOk tab [30, 30, 4] [(.prod I (.list (.prod I I))), (.prod I (.list (.prod I I))), .bool] := kcast (by kernel_rfl) (⟨⟨⟨(.prod I (.list (.prod I I))), 2, 32, false⟩, by kernel_rfl, rfl⟩, ⟨⟨(.prod I (.list (.prod I I))), 2, 32, false⟩, by kernel_rfl, rfl⟩, ⟨⟨.bool, 0, 1, false⟩, by kernel_rfl, rfl⟩,  trivial⟩ : (∃ i, tab.ti 30 = some i ∧ i.ty = (.prod I (.list (.prod I I)))) ∧ (∃ i, tab.ti 30 = some i ∧ i.ty = (.prod I (.list (.prod I I)))) ∧ (∃ i, tab.ti 4 = some i ∧ i.ty = .bool) ∧  True)
set_option maxRecDepth 100000 in
theorem lifted (os : Os) (started : os.Started) (H : Type) (enc : TypeId × Value → H) :
    ReturnsInHanded {} Try.checked os 4 .any (Rows.fnExactMapSpaceSpec.pre6 enc Try.prog Try.f4 Rows.fnExactMapSpaceRow.domain false) (Rows.fnExactMapSpaceSpec.post enc Try.prog Try.f4 false true false false) := by
  refine returnsInHanded_of_change_sized (C := Try.checked) own started (by kernel_rfl) Try.func4
    (ChangeSpec.witness6 (enc := enc) (C := Try.checked) false ⟨#[], #[.agg #[.int .i64 0, .slice none 0 0], .agg #[.int .i64 0, .slice none 0 0], .bool false], []⟩ 8 (by kernel_rfl) (by kernel_rfl) (by kernel_rfl) (by kernel_rfl)) ?_
  intro W base args ds gs before hval0 hW hcnd hsz0 _
  have hsz : (DataW.weightsEach Try.prog (Try.f4.params.toList ++ Rows.fnExactMapSpaceSpec.plain.varTypes Try.prog) (ds ++ gs)).all (· ≤ reachBytes) = true := hsz0
  have hval : ∀ (j : Nat) t v, Try.f4.params[j]? = some t → args[j]? = some v → Value.okWide Try.prog W .any base t v := hval0
  have hW' := hW
  obtain ⟨p, q, hA0, hV, rfl, hfz, hnd⟩ := hW
  have hA : DataW.TrodAll enc Try.prog W 0 (fun _ => true) true Try.f4.params.toList args.toList ds p := hA0
  obtain ⟨rfl, rfl⟩ := trodVars_none hV
  have hA : DataW.TrodAll enc Try.prog W 0 (fun _ => true) true [30, 30, 4] args.toList ds p := by rw [Try.params4] at hA; exact hA
  have hval : ∀ (j : Nat) t v, ([30, 30, 4] : List TypeId)[j]? = some t → args.toList[j]? = some v → Value.okWide Try.prog W .any base t v := fun j t v h1 h2 => hval j t v (by rw [Try.params4]; simpa using h1) (by simpa using h2)
  obtain ⟨x, hr, hs⟩ := reads_args tabOk.data _ [(.prod I (.list (.prod I I))), (.prod I (.list (.prod I I))), .bool] 0 _ _ _ tysAre hA hval
  have hsm := hs fun n hn => of_decide_eq_true (List.all_eq_true.1 hsz n (by rw [Try.params4]; exact weightsEach_left _ _ _ _ n hn))
  obtain ⟨d0, d1, d2, rfl⟩ : ∃ d0 d1 d2, ds = [d0, d1, d2] := by
    match ds, trodAll_len _ _ _ _ hA with
    | [d0, d1, d2], _ => exact ⟨d0, d1, d2, rfl⟩
  obtain ⟨x0, x1, x2, ⟨⟩⟩ := x
  obtain ⟨h0, h1, h2, _⟩ := hsm
  refine (law_calls (F := laws_FnExactMapSpace) laws_FnExactMapSpace_s (FnExactMapSpace_true x0 x1 x2 h0 h1 h2) hr).mono fun e W' ⟨he, bel⟩ => ?_
  subst he
  exact ⟨_, rfl, _, _, _, [], _, [], hW', trodAll_mk1 (shut_bool Try.underlying4 _), trodAll_below laidOut bel _ _ _ _ (by kernel_rfl) hA, rfl, bel.frame _, fun h => by cases h⟩
theorem over : Rows.fnExactMapSpaceRow.holds Try.pinned (OpenSpec.ofChange Rows.fnExactMapSpaceSpec) :=
  OpenClaim.holds_of_wide 4 Try.f4 rfl rfl rfl rfl rfl rfl rfl ⟨rfl, rfl, rfl, rfl, rfl⟩ rfl rfl rfl rfl rfl (by kernel_rfl) Try.func4 (by kernel_rfl)
    (of_decide_eq_true (by kernel_rfl)) (by unfold Func.isWrapper; first | (rw [if_pos (by decide +kernel)]; kernel_rfl) | (rw [if_neg (by decide +kernel)]; exact ⟨rfl, rfl⟩))
    (fun os started H enc _ => lifted os started H enc)
end Go.Proofs.Ytcabghamgilafaa.fnExactMapSpace
namespace Go.Proofs.Ytcabghamgilafaa
theorem fnExactMapSpace_holds : Rows.FnExactMapSpaceSaid := fnExactMapSpace.over
end Go.Proofs.Ytcabghamgilafaa
