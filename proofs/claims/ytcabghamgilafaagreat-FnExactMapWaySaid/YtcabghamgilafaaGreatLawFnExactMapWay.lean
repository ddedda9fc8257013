/-
  The law FnExactMapWay answers true for all arguments. Conditions: none beyond the row's own.
-/
import Derived.Test.YtcabghamgilafaaGreatRows
import Derived.Test.YtcabghamgilafaaGreatPureFnExactMapWay
import Derived.Test.YtcabghamgilafaaGreatTFnExactMapWay
import Derived.Test.YtcabghamgilafaaGreatE4
import Derived.ProofKit
namespace Go.Proofs.YtcabghamgilafaaGreat.fnExactMapWay
open Go Go.Ve Go.ChangeShapes Go.WideShapes Go.RowKit Go.Proofs.YtcabghamgilafaaGreat.V
set_option linter.unusedVariables false
theorem own : ownKnob Tryz.prog.godebug = none := by kernel_rfl
theorem laidOut : laidOutB Tryz.prog = true := by kernel_rfl
theorem tysAre : tysOk tab [24, 24, 25, 25, 4] [(.prod I (.list (.prod I I))), (.prod I (.list (.prod I I))), (.list I), (.list I), .bool] := kcast (by kernel_rfl) (⟨⟨⟨(.prod I (.list (.prod I I))), 2, 32, false⟩, by kernel_rfl, rfl⟩, ⟨⟨(.prod I (.list (.prod I I))), 2, 32, false⟩, by kernel_rfl, rfl⟩, ⟨⟨(.list I), 0, 8, false⟩, by kernel_rfl, rfl⟩, ⟨⟨(.list I), 0, 8, false⟩, by kernel_rfl, rfl⟩, ⟨⟨.bool, 0, 1, false⟩, by kernel_rfl, rfl⟩,  trivial⟩ : (∃ i, tab.ti 24 = some i ∧ i.ty = (.prod I (.list (.prod I I)))) ∧ (∃ i, tab.ti 24 = some i ∧ i.ty = (.prod I (.list (.prod I I)))) ∧ (∃ i, tab.ti 25 = some i ∧ i.ty = (.list I)) ∧ (∃ i, tab.ti 25 = some i ∧ i.ty = (.list I)) ∧ (∃ i, tab.ti 4 = some i ∧ i.ty = .bool) ∧  True)
set_option maxRecDepth 100000 in
theorem lifted (os : Os) (started : os.Started) (H : Type) (enc : TypeId × Value → H) :
    ReturnsInHanded {} Tryz.checked os 3 .any (Rows.fnExactMapWaySpec.pre6 enc Tryz.prog Tryz.f3 Rows.fnExactMapWayRow.domain false) (Rows.fnExactMapWaySpec.post enc Tryz.prog Tryz.f3 false true false false) := by
  refine returnsInHanded_of_change_sized (C := Tryz.checked) own started (by kernel_rfl) Tryz.func3
    (ChangeSpec.witness6 (enc := enc) (C := Tryz.checked) false ⟨#[], #[.agg #[.int .i64 0, .slice none 0 0], .agg #[.int .i64 0, .slice none 0 0], .slice none 0 0, .slice none 0 0, .bool false], []⟩ 8 (by kernel_rfl) (by kernel_rfl) (by kernel_rfl) (by kernel_rfl)) ?_
  intro W base args ds gs before hval0 hW hcnd hsz0 _
  have hsz : (DataW.weightsEach Tryz.prog (Tryz.f3.params.toList ++ Rows.fnExactMapWaySpec.plain.varTypes Tryz.prog) (ds ++ gs)).all (· ≤ reachBytes) = true := hsz0
  have hval : ∀ (j : Nat) t v, Tryz.f3.params[j]? = some t → args[j]? = some v → Value.okWide Tryz.prog W .any base t v := hval0
  have hW' := hW
  obtain ⟨p, q, hA0, hV, rfl, hfz, hnd⟩ := hW
  have hA : DataW.TrodAll enc Tryz.prog W 0 (fun _ => true) true Tryz.f3.params.toList args.toList ds p := hA0
  obtain ⟨rfl, rfl⟩ := trodVars_none hV
  have hA : DataW.TrodAll enc Tryz.prog W 0 (fun _ => true) true [24, 24, 25, 25, 4] args.toList ds p := by rw [Tryz.params3] at hA; exact hA
  have hval : ∀ (j : Nat) t v, ([24, 24, 25, 25, 4] : List TypeId)[j]? = some t → args.toList[j]? = some v → Value.okWide Tryz.prog W .any base t v := fun j t v h1 h2 => hval j t v (by rw [Tryz.params3]; simpa using h1) (by simpa using h2)
  obtain ⟨x, hr, hs⟩ := reads_args tabOk.data _ [(.prod I (.list (.prod I I))), (.prod I (.list (.prod I I))), (.list I), (.list I), .bool] 0 _ _ _ tysAre hA hval
  have hsm := hs fun n hn => of_decide_eq_true (List.all_eq_true.1 hsz n (by rw [Tryz.params3]; exact weightsEach_left _ _ _ _ n hn))
  obtain ⟨d0, d1, d2, d3, d4, rfl⟩ : ∃ d0 d1 d2 d3 d4, ds = [d0, d1, d2, d3, d4] := by
    match ds, trodAll_len _ _ _ _ hA with
    | [d0, d1, d2, d3, d4], _ => exact ⟨d0, d1, d2, d3, d4, rfl⟩
  obtain ⟨x0, x1, x2, x3, x4, ⟨⟩⟩ := x
  obtain ⟨h0, h1, h2, h3, h4, _⟩ := hsm
  refine (law_calls (F := laws_FnExactMapWay) laws_FnExactMapWay_s (FnExactMapWay_true x0 x1 x2 x3 x4 h0 h1 h2 h3 h4) hr).mono fun e W' ⟨he, bel⟩ => ?_
  subst he
  exact ⟨_, rfl, _, _, _, [], _, [], hW', trodAll_mk1 (shut_bool Tryz.underlying4 _), trodAll_below laidOut bel _ _ _ _ (by kernel_rfl) hA, rfl, bel.frame _, fun h => by cases h⟩
theorem c1 : (Rows.fnExactMapWayRow.inPlace == Tryz.prog.inPlace 3) = true := by kernel_rfl
theorem c2 : (Rows.fnExactMapWayRow.unfollowed == Tryz.prog.unfollowed 3) = true := by kernel_rfl
theorem c3 : (Rows.fnExactMapWayRow.recurses == Tryz.prog.recurses 3) = true := by kernel_rfl
theorem c4 : (Rows.fnExactMapWayRow.named == Tryz.prog.varsNamed 3) = true := by kernel_rfl
theorem c5 : (Tryz.prog.stopsHeard) = true := by kernel_rfl
theorem c6 : (Tryz.prog.mayEnter) = true := by kernel_rfl
theorem c7 : (Rows.fnExactMapWayRow.lifted == Tryz.prog.liftsFinal) = true := by kernel_rfl
theorem c8 : (mapsRowed Tryz.prog) = true := by kernel_rfl
theorem c9 : (Rows.fnExactMapWayRow.plainKeys == Tryz.prog.plainKeys) = true := by kernel_rfl
theorem found : Tryz.pinned.checked.prog.funcNamed Rows.fnExactMapWayRow.func = some 3 := by kernel_rfl
theorem closed : joinedFacts Tryz.prog 3 Tryz.f3 Rows.fnExactMapWaySpec Rows.fnExactMapWayRow = true := by
  unfold joinedFacts
  rw [c1, c2, c3, c4, c5, c6, c7, c8, c9]
  kernel_rfl
theorem over : Rows.fnExactMapWayRow.holds Tryz.pinned (OpenSpec.ofChange Rows.fnExactMapWaySpec) :=
  OpenClaim.holds_of_wide 3 Tryz.f3 rfl rfl rfl rfl rfl rfl rfl ⟨rfl, rfl, rfl, rfl, rfl⟩ rfl rfl rfl rfl rfl found Tryz.func3 closed
    (of_decide_eq_true (by kernel_rfl)) (by unfold Func.isWrapper; first | (rw [if_pos (by decide +kernel)]; kernel_rfl) | (rw [if_neg (by decide +kernel)]; exact ⟨rfl, rfl⟩))
    (fun os started H enc _ => lifted os started H enc)
end Go.Proofs.YtcabghamgilafaaGreat.fnExactMapWay
namespace Go.Proofs.YtcabghamgilafaaGreat
theorem fnExactMapWay_holds : Rows.FnExactMapWaySaid := fnExactMapWay.over
end Go.Proofs.YtcabghamgilafaaGreat
