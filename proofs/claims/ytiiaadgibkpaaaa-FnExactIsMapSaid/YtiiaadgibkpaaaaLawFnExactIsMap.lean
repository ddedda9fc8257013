/-
  The law FnExactIsMap answers true for all arguments. Conditions: none beyond the row's own.
-/
import Derived.Test.YtiiaadgibkpaaaaRows
import Derived.Test.YtiiaadgibkpaaaaPureFnExactIsMap
import Derived.Test.YtiiaadgibkpaaaaOpens
import Derived.WalkKit
import Derived.ProofKit
import Derived.OpenShut
import Derived.ShutString
import Derived.ChangeOld
import Derived.Below
import Derived.SizedLaws
import Derived.Lib.SmallJoins
/-! The row: for every input. Conditions: none beyond the row's own. -/
namespace Go.Proofs.Ytiiaadgibkpaaaa.fnExactIsMap
open Go.ChangeShapes Go.WideShapes Go.ChangeAt Go.RowKit Go.Joins Go.Proofs.YtiiaadgibkpaaaaW.PrintWords Go.Proofs.Ytiiaadgibkpaaaa.Plain Go.Proofs.Ytiiaadgibkpaaaa.PFnExactIsMap
open Go.ChangeMaps (open_string shut_string)
set_option linter.unusedVariables false
theorem own : ownKnob Try.prog.godebug = none := by kernel_rfl
theorem laidOut : laidOutB Try.prog = true := by kernel_rfl
section
variable {H : Type} {enc : TypeId × Value → H} {w : World}
theorem open3 : Opens enc Try.prog w 3 (Kd.int .i64) (fun _ => True) := Opens.int Try.underlying3
theorem open25 : Opens enc Try.prog w 25 (Kd.slice 3 (Kd.int .i64)) (fun xs => xs.length ≤ 140737488351232) := (Opens.slice Try.underlying25 (by kernel_rfl) (of_decide_eq_true (by kernel_rfl)) open3).imp fun _ h => h.1
theorem open78 : Opens enc Try.prog w 78 k78 (fun _ => True) := (Opens.array2 Try.underlying78 (by kernel_rfl) (by kernel_rfl) open3).iso (fun a => ⟨⟨a.1, a.2⟩, rfl⟩)
theorem open22 : Opens enc Try.prog w 22 (Kd.slice 78 k78) (fun xs => xs.length ≤ 140737488351232) := (Opens.slice Try.underlying22 (by kernel_rfl) (of_decide_eq_true (by kernel_rfl)) open78).imp fun _ h => h.1
end
theorem cells24 : Try.prog.cellsOf 24 = 2 := by kernel_rfl
set_option maxRecDepth 100000 in
theorem lifted (os : Os) (started : os.Started) (H : Type) (enc : TypeId × Value → H) :
    ReturnsInHanded {} Try.checked os 3 .any (Rows.fnExactIsMapSpec.pre6 enc Try.prog Try.f3 Rows.fnExactIsMapRow.domain false) (Rows.fnExactIsMapSpec.post enc Try.prog Try.f3 false true false false) := by
  refine returnsInHanded_of_change_sized (C := Try.checked) own started (by kernel_rfl) Try.func3
    (ChangeSpec.witness6 (enc := enc) (C := Try.checked) false ⟨#[], #[.agg #[.int .i64 0, .slice none 0 0], .agg #[.int .i64 0, .slice none 0 0], .slice none 0 0, .bool false], []⟩ 8 (by kernel_rfl) (by kernel_rfl) (by kernel_rfl) (by kernel_rfl)) ?_
  intro W base args ds gs before hval0 hW hcnd hsz0 _
  have hsz : (DataW.weightsEach Try.prog (Try.f3.params.toList ++ Rows.fnExactIsMapSpec.plain.varTypes Try.prog) (ds ++ gs)).all (· ≤ reachBytes) = true := hsz0
  have hval : ∀ (j : Nat) t v, Try.f3.params[j]? = some t → args[j]? = some v → Value.okWide Try.prog W .any base t v := hval0
  have hW' := hW
  obtain ⟨p, q, hA0, hV, rfl, hfz, hnd⟩ := hW
  have hA : DataW.TrodAll enc Try.prog W 0 (fun _ => true) true Try.f3.params.toList args.toList ds p := hA0
  rw [Try.params3] at hA hval hsz
  obtain ⟨v0, v1, v2, v3, d0, d1, d2, d3, p0, p1, p2, p3, rfl, rfl, rfl, h0, h1, h2, h3⟩ := trodAll_four hA
  obtain ⟨rfl, rfl⟩ := trodVars_none hV
  have k0 := h0
  have lt0 : ∀ x ∈ p0, x.block < W.heap.size := by obtain ⟨m, hm⟩ := k0; exact DataW.trod_lt m _ _ _ hm
  have wt0 := fun n hn => of_decide_eq_true (List.all_eq_true.1 hsz n (DataW.weights_mem_each (j := 0) (t := 24) rfl rfl n hn))
  have k1 := h1
  have lt1 : ∀ x ∈ p1, x.block < W.heap.size := by obtain ⟨m, hm⟩ := k1; exact DataW.trod_lt m _ _ _ hm
  have wt1 := fun n hn => of_decide_eq_true (List.all_eq_true.1 hsz n (DataW.weights_mem_each (j := 1) (t := 24) rfl rfl n hn))
  have k2 := h2
  have lt2 : ∀ x ∈ p2, x.block < W.heap.size := by obtain ⟨m, hm⟩ := k2; exact DataW.trod_lt m _ _ _ hm
  have wt2 := fun n hn => of_decide_eq_true (List.all_eq_true.1 hsz n (DataW.weights_mem_each (j := 2) (t := 25) rfl rfl n hn))
  have k3 := h3
  have lt3 : ∀ x ∈ p3, x.block < W.heap.size := by obtain ⟨m, hm⟩ := k3; exact DataW.trod_lt m _ _ _ hm
  have wt3 := fun n hn => of_decide_eq_true (List.all_eq_true.1 hsz n (DataW.weights_mem_each (j := 3) (t := 4) rfl rfl n hn))
  obtain ⟨v0_0, v0_1, z0_0, z0_1, n0, rfl, rfl, rfl, y0_0, y0_1⟩ := open_agg2 Try.underlying24 (by kernel_rfl) cells24 (hval 0 24 v0 rfl rfl) h0
  obtain ⟨x0_0, e0_0, _⟩ := open3 _ _ _ y0_0
  have e0_0 : [v0_0] = [Value.int .i64 x0_0] := e0_0
  simp only [List.cons.injEq, and_true] at e0_0
  subst e0_0
  obtain ⟨x0_1, ⟨A0_1, c0_1, e0_1, hc0_1, hr0_1⟩, b0_1⟩ := open22 _ _ _ y0_1
  simp only [List.cons.injEq, and_true] at e0_1
  subst e0_1
  have b0_1 := b0_1 fun n hn => wt0 n (by simp only [DataW.weights, Try.underlying24, DataW.weightsEach, List.map_cons, List.map_nil, List.mem_append]; refine .inr ?_; exact .inl hn)
  obtain ⟨v1_0, v1_1, z1_0, z1_1, n1, rfl, rfl, rfl, y1_0, y1_1⟩ := open_agg2 Try.underlying24 (by kernel_rfl) cells24 (hval 1 24 v1 rfl rfl) h1
  obtain ⟨x1_0, e1_0, _⟩ := open3 _ _ _ y1_0
  have e1_0 : [v1_0] = [Value.int .i64 x1_0] := e1_0
  simp only [List.cons.injEq, and_true] at e1_0
  subst e1_0
  obtain ⟨x1_1, ⟨A1_1, c1_1, e1_1, hc1_1, hr1_1⟩, b1_1⟩ := open22 _ _ _ y1_1
  simp only [List.cons.injEq, and_true] at e1_1
  subst e1_1
  have b1_1 := b1_1 fun n hn => wt1 n (by simp only [DataW.weights, Try.underlying24, DataW.weightsEach, List.map_cons, List.map_nil, List.mem_append]; refine .inr ?_; exact .inl hn)
  obtain ⟨A2', l2', cp2', rfl⟩ := okWide_slice Try.underlying25 (hval 2 25 v2 rfl rfl)
  obtain ⟨f2, y2⟩ := h2
  obtain ⟨x2, ⟨A2, c2, e2, hc2, hr2⟩, b2⟩ := open25 _ _ _ y2
  have e2 : [Value.slice A2' l2' cp2'] = _ := e2
  simp only [List.cons.injEq, and_true] at e2
  rw [e2] at hW' k2 ⊢
  have b2 := b2 fun n hn => wt2 n hn
  obtain ⟨x3, rfl, rfl, rfl⟩ := open_bool Try.underlying4 (hval 3 4 v3 rfl rfl) h3
  obtain ⟨k, hk⟩ := Pure.FnExactIsMap x0_0 x0_1 x1_0 x1_1 x2 x3 b0_1 b1_1
  refine (PFnExactIsMap.laws_FnExactIsMap.calls k x0_0 A0_1 c0_1 x0_1 x1_0 A1_1 c1_1 x1_1 A2 c2 x2 x3 true W hr0_1 hc0_1 hr1_1 hc1_1 hr2 hc2 hk).mono fun e W' ⟨he, bel⟩ => ?_
  subst he
  exact ⟨_, rfl, _, _, _, [], _, [], hW', trodAll_mk1 (shut_bool Try.underlying4 _), trodAll_mk4 (Below.trod laidOut (by kernel_rfl) (of_decide_eq_true (by kernel_rfl)) k0 bel lt0) (Below.trod laidOut (by kernel_rfl) (of_decide_eq_true (by kernel_rfl)) k1 bel lt1) (Below.trod laidOut (by kernel_rfl) (of_decide_eq_true (by kernel_rfl)) k2 bel lt2) (Below.trod laidOut (by kernel_rfl) (of_decide_eq_true (by kernel_rfl)) k3 bel lt3), rfl, bel.frame _, fun h => by cases h⟩
theorem over : Rows.fnExactIsMapRow.holds Try.pinned (OpenSpec.ofChange Rows.fnExactIsMapSpec) :=
  OpenClaim.holds_of_wide 3 Try.f3 rfl rfl rfl rfl rfl rfl rfl ⟨rfl, rfl, rfl, rfl, rfl⟩ rfl rfl rfl rfl rfl (by kernel_rfl) Try.func3 (by kernel_rfl)
    (of_decide_eq_true (by kernel_rfl)) (by unfold Func.isWrapper; first | (rw [if_pos (by decide +kernel)]; kernel_rfl) | (rw [if_neg (by decide +kernel)]; exact ⟨rfl, rfl⟩))
    (fun os started H enc _ => lifted os started H enc)
end Go.Proofs.Ytiiaadgibkpaaaa.fnExactIsMap
namespace Go.Proofs.Ytiiaadgibkpaaaa
theorem fnExactIsMap_holds : Rows.FnExactIsMapSaid := fnExactIsMap.over
end Go.Proofs.Ytiiaadgibkpaaaa
