/-
  The law FnMaps answers true for all arguments. Conditions: none beyond the row's own.
-/
import Derived.Test.YtcabghamgilafaaGreatRows
import Derived.Test.YtcabghamgilafaaGreatPureFnMaps
import Derived.Test.YtcabghamgilafaaGreatTFnMaps
import Derived.Test.YtcabghamgilafaaGreatE4
import Derived.ProofKit
namespace Go.Proofs.YtcabghamgilafaaGreat.fnMaps
open Go Go.Ve Go.ChangeShapes Go.WideShapes Go.RowKit Go.Proofs.YtcabghamgilafaaGreat.V
set_option linter.unusedVariables false
theorem own : ownKnob Tryz.prog.godebug = none := by kernel_rfl
theorem laidOut : laidOutB Tryz.prog = true := by kernel_rfl
theorem tysAre : tysOk tab [40] [(.list (.int .u8))] := kcast (by kernel_rfl) (⟨⟨⟨(.list (.int .u8)), 0, 1, false⟩, by kernel_rfl, rfl⟩,  trivial⟩ : (∃ i, tab.ti 40 = some i ∧ i.ty = (.list (.int .u8))) ∧  True)
set_option maxRecDepth 100000 in
theorem lifted (os : Os) (started : os.Started) (H : Type) (enc : TypeId × Value → H) :
    ReturnsInHanded {} Tryz.checked os 7 .any (Rows.fnMapsSpec.pre6 enc Tryz.prog Tryz.f7 Rows.fnMapsRow.domain false) (Rows.fnMapsSpec.post enc Tryz.prog Tryz.f7 false true false false) := by
  refine returnsInHanded_of_change_sized (C := Tryz.checked) own started (by kernel_rfl) Tryz.func7
    (ChangeSpec.witness6 (enc := enc) (C := Tryz.checked) false ⟨#[], #[.slice none 0 0], []⟩ 8 (by kernel_rfl) (by kernel_rfl) (by kernel_rfl) (by kernel_rfl)) ?_
  intro W base args ds gs before hval0 hW hcnd hsz0 _
  have hsz : (DataW.weightsEach Tryz.prog (Tryz.f7.params.toList ++ Rows.fnMapsSpec.plain.varTypes Tryz.prog) (ds ++ gs)).all (· ≤ reachBytes) = true := hsz0
  have hval : ∀ (j : Nat) t v, Tryz.f7.params[j]? = some t → args[j]? = some v → Value.okWide Tryz.prog W .any base t v := hval0
  have hW' := hW
  obtain ⟨p, q, hA0, hV, rfl, hfz, hnd⟩ := hW
  have hA : DataW.TrodAll enc Tryz.prog W 0 (fun _ => true) true Tryz.f7.params.toList args.toList ds p := hA0
  obtain ⟨rfl, rfl⟩ := trodVars_none hV
  have hA : DataW.TrodAll enc Tryz.prog W 0 (fun _ => true) true [40] args.toList ds p := by rw [Tryz.params7] at hA; exact hA
  have hval : ∀ (j : Nat) t v, ([40] : List TypeId)[j]? = some t → args.toList[j]? = some v → Value.okWide Tryz.prog W .any base t v := fun j t v h1 h2 => hval j t v (by rw [Tryz.params7]; simpa using h1) (by simpa using h2)
  obtain ⟨x, hr, hs⟩ := reads_args tabOk.data _ [(.list (.int .u8))] 0 _ _ _ tysAre hA hval
  have hsm := hs fun n hn => of_decide_eq_true (List.all_eq_true.1 hsz n (by rw [Tryz.params7]; exact weightsEach_left _ _ _ _ n hn))
  obtain ⟨d0, rfl⟩ : ∃ d0, ds = [d0] := by
    match ds, trodAll_len _ _ _ _ hA with
    | [d0], _ => exact ⟨d0, rfl⟩
  obtain ⟨x0, ⟨⟩⟩ := x
  obtain ⟨h0, _⟩ := hsm
  refine (law_calls (F := fn78) fn78_s (FnMaps_true x0 h0) hr).mono fun e W' ⟨he, bel⟩ => ?_
  subst he
  exact ⟨_, rfl, _, _, _, [], _, [], hW', trodAll_mk1 (shut_bool Tryz.underlying4 _), trodAll_below laidOut bel _ _ _ _ (by kernel_rfl) hA, rfl, bel.frame _, fun h => by cases h⟩
theorem c1 : (Rows.fnMapsRow.inPlace == Tryz.prog.inPlace 7) = true := by kernel_rfl
theorem c2 : (Rows.fnMapsRow.unfollowed == Tryz.prog.unfollowed 7) = true := by kernel_rfl
theorem c3 : (Rows.fnMapsRow.recurses == Tryz.prog.recurses 7) = true := by kernel_rfl
theorem c4 : (Rows.fnMapsRow.named == Tryz.prog.varsNamed 7) = true := by kernel_rfl
theorem c5 : (Tryz.prog.stopsHeard) = true := by kernel_rfl
theorem c6 : (Tryz.prog.mayEnter) = true := by kernel_rfl
theorem c7 : (Rows.fnMapsRow.lifted == Tryz.prog.liftsFinal) = true := by kernel_rfl
theorem c8 : (mapsRowed Tryz.prog) = true := by kernel_rfl
theorem c9 : (Rows.fnMapsRow.plainKeys == Tryz.prog.plainKeys) = true := by kernel_rfl
theorem found : Tryz.pinned.checked.prog.funcNamed Rows.fnMapsRow.func = some 7 := by kernel_rfl
theorem closed : joinedFacts Tryz.prog 7 Tryz.f7 Rows.fnMapsSpec Rows.fnMapsRow = true := by
  unfold joinedFacts
  rw [c1, c2, c3, c4, c5, c6, c7, c8, c9]
  kernel_rfl
theorem over : Rows.fnMapsRow.holds Tryz.pinned (OpenSpec.ofChange Rows.fnMapsSpec) :=
  OpenClaim.holds_of_wide 7 Tryz.f7 rfl rfl rfl rfl rfl rfl rfl ⟨rfl, rfl, rfl, rfl, rfl⟩ rfl rfl rfl rfl rfl found Tryz.func7 closed
    (of_decide_eq_true (by kernel_rfl)) (by unfold Func.isWrapper; first | (rw [if_pos (by decide +kernel)]; kernel_rfl) | (rw [if_neg (by decide +kernel)]; exact ⟨rfl, rfl⟩))
    (fun os started H enc _ => lifted os started H enc)
end Go.Proofs.YtcabghamgilafaaGreat.fnMaps
namespace Go.Proofs.YtcabghamgilafaaGreat
theorem fnMaps_holds : Rows.FnMapsSaid := fnMaps.over
end Go.Proofs.YtcabghamgilafaaGreat
