/-
  The law FnExactNewConsole answers true for all arguments. Conditions: none beyond the row's own.
-/
import Derived.Test.YtckbihhaameffaaGreatRows
import Derived.Test.YtckbihhaameffaaGreatPureFnExactNewConsole
import Derived.Test.YtckbihhaameffaaGreatTFnExactNewConsole
import Derived.Test.YtckbihhaameffaaGreatE4
import Derived.ProofKit
namespace Go.Proofs.YtckbihhaameffaaGreat.fnExactNewConsole
open Go Go.Ve Go.ChangeShapes Go.WideShapes Go.RowKit Go.Proofs.YtckbihhaameffaaGreat.V
set_option linter.unusedVariables false
theorem own : ownKnob Tryz.prog.godebug = none := by kernel_rfl
theorem laidOut : laidOutB Tryz.prog = true := by kernel_rfl
theorem tysAre : tysOk tab [27] [(.prod (.prod I (.list (.prod I I))) (.prod I (.prod (.list I) (.prod (.list I) (.prod (.list I) I)))))] := kcast (by kernel_rfl) (⟨⟨⟨(.prod (.prod I (.list (.prod I I))) (.prod I (.prod (.list I) (.prod (.list I) (.prod (.list I) I))))), 6, 120, false⟩, by kernel_rfl, rfl⟩,  trivial⟩ : (∃ i, tab.ti 27 = some i ∧ i.ty = (.prod (.prod I (.list (.prod I I))) (.prod I (.prod (.list I) (.prod (.list I) (.prod (.list I) I)))))) ∧  True)
set_option maxRecDepth 100000 in
theorem lifted (os : Os) (started : os.Started) (H : Type) (enc : TypeId × Value → H) :
    ReturnsInHanded {} Tryz.checked os 3 .any (Rows.fnExactNewConsoleSpec.pre6 enc Tryz.prog Tryz.f3 Rows.fnExactNewConsoleRow.domain false) (Rows.fnExactNewConsoleSpec.post enc Tryz.prog Tryz.f3 false true false false) := by
  refine returnsInHanded_of_change_sized (C := Tryz.checked) own started (by kernel_rfl) Tryz.func3
    (ChangeSpec.witness6 (enc := enc) (C := Tryz.checked) false ⟨#[], #[.agg #[.int .i64 0, .slice none 0 0, .int .i64 0, .slice none 0 0, .slice none 0 0, .slice none 0 0, .int .i64 0]], []⟩ 8 (by kernel_rfl) (by kernel_rfl) (by kernel_rfl) (by kernel_rfl)) ?_
  intro W base args ds gs before hval0 hW hcnd hsz0 _
  have hsz : (DataW.weightsEach Tryz.prog (Tryz.f3.params.toList ++ Rows.fnExactNewConsoleSpec.plain.varTypes Tryz.prog) (ds ++ gs)).all (· ≤ reachBytes) = true := hsz0
  have hval : ∀ (j : Nat) t v, Tryz.f3.params[j]? = some t → args[j]? = some v → Value.okWide Tryz.prog W .any base t v := hval0
  have hW' := hW
  obtain ⟨p, q, hA0, hV, rfl, hfz, hnd⟩ := hW
  have hA : DataW.TrodAll enc Tryz.prog W 0 (fun _ => true) true Tryz.f3.params.toList args.toList ds p := hA0
  obtain ⟨rfl, rfl⟩ := trodVars_none hV
  have hA : DataW.TrodAll enc Tryz.prog W 0 (fun _ => true) true [27] args.toList ds p := by rw [Tryz.params3] at hA; exact hA
  have hval : ∀ (j : Nat) t v, ([27] : List TypeId)[j]? = some t → args.toList[j]? = some v → Value.okWide Tryz.prog W .any base t v := fun j t v h1 h2 => hval j t v (by rw [Tryz.params3]; simpa using h1) (by simpa using h2)
  obtain ⟨x, hr, hs⟩ := reads_args tabOk.data _ [(.prod (.prod I (.list (.prod I I))) (.prod I (.prod (.list I) (.prod (.list I) (.prod (.list I) I)))))] 0 _ _ _ tysAre hA hval
  have hsm := hs fun n hn => of_decide_eq_true (List.all_eq_true.1 hsz n (by rw [Tryz.params3]; exact weightsEach_left _ _ _ _ n hn))
  obtain ⟨d0, rfl⟩ : ∃ d0, ds = [d0] := by
    match ds, trodAll_len _ _ _ _ hA with
    | [d0], _ => exact ⟨d0, rfl⟩
  obtain ⟨x0, ⟨⟩⟩ := x
  obtain ⟨h0, _⟩ := hsm
  refine (law_calls (F := laws_FnExactNewConsole) laws_FnExactNewConsole_s (FnExactNewConsole_true x0 h0) hr).mono fun e W' ⟨he, bel⟩ => ?_
  subst he
  exact ⟨_, rfl, _, _, _, [], _, [], hW', trodAll_mk1 (shut_bool Tryz.underlying4 _), trodAll_below laidOut bel _ _ _ _ (by kernel_rfl) hA, rfl, bel.frame _, fun h => by cases h⟩
theorem over : Rows.fnExactNewConsoleRow.holds Tryz.pinned (OpenSpec.ofChange Rows.fnExactNewConsoleSpec) :=
  OpenClaim.holds_of_wide 3 Tryz.f3 rfl rfl rfl rfl rfl rfl rfl ⟨rfl, rfl, rfl, rfl, rfl⟩ rfl rfl rfl rfl rfl (by kernel_rfl) Tryz.func3 (by kernel_rfl)
    (of_decide_eq_true (by kernel_rfl)) (by unfold Func.isWrapper; first | (rw [if_pos (by decide +kernel)]; kernel_rfl) | (rw [if_neg (by decide +kernel)]; exact ⟨rfl, rfl⟩))
    (fun os started H enc _ => lifted os started H enc)
end Go.Proofs.YtckbihhaameffaaGreat.fnExactNewConsole
namespace Go.Proofs.YtckbihhaameffaaGreat
theorem fnExactNewConsole_holds : Rows.FnExactNewConsoleSaid := fnExactNewConsole.over
end Go.Proofs.YtckbihhaameffaaGreat
