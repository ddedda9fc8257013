import Derived.Test.YtiiaadgibkpaaaaRows
import Derived.Test.YtiiaadgibkpaaaaPureFnExactIsCostProof
import Derived.Test.YtiiaadgibkpaaaaOpens
import Derived.WalkKit
import Derived.ProofKit
import Derived.OpenShut
import Derived.ShutString
import Derived.ChangeOld
import Derived.Below
import Derived.SizedLaws
import Derived.Lib.SmallJoins
/-! The row: for every input. Conditions: none beyond the row's own. -/
namespace Go.Proofs.Ytiiaadgibkpaaaa.fnExactIsCostProof
open Go.ChangeShapes Go.WideShapes Go.ChangeAt Go.RowKit Go.Joins Go.Proofs.YtiiaadgibkpaaaaW.PrintWords Go.Proofs.Ytiiaadgibkpaaaa.Plain Go.Proofs.Ytiiaadgibkpaaaa.PFnExactIsCostProof
open Go.ChangeMaps (open_string shut_string)
set_option linter.unusedVariables false
theorem own : ownKnob Try.prog.godebug = none := by kernel_rfl
theorem laidOut : laidOutB Try.prog = true := by kernel_rfl
section
variable {H : Type} {enc : TypeId × Value → H} {w : World}
theorem open3 : Opens enc Try.prog w 3 (Kd.int .i64) (fun _ => True) := Opens.int Try.underlying3
theorem open25 : Opens enc Try.prog w 25 (Kd.slice 3 (Kd.int .i64)) (fun xs => xs.length ≤ 140737488351232) := (Opens.slice Try.underlying25 (by kernel_rfl) (of_decide_eq_true (by kernel_rfl)) open3).imp fun _ h => h.1
theorem open50 : Opens enc Try.prog w 50 (Kd.slice 25 (Kd.slice 3 (Kd.int .i64))) (fun xs => xs.length ≤ 140737488351232 ∧ ∀ x ∈ xs, x.length ≤ 140737488351232) := Opens.slice Try.underlying50 (by kernel_rfl) (of_decide_eq_true (by kernel_rfl)) open25
theorem open78 : Opens enc Try.prog w 78 k78 (fun _ => True) := (Opens.array2 Try.underlying78 (by kernel_rfl) (by kernel_rfl) open3).iso (fun a => ⟨⟨a.1, a.2⟩, rfl⟩)
theorem open22 : Opens enc Try.prog w 22 (Kd.slice 78 k78) (fun xs => xs.length ≤ 140737488351232) := (Opens.slice Try.underlying22 (by kernel_rfl) (of_decide_eq_true (by kernel_rfl)) open78).imp fun _ h => h.1
end
theorem cells52 : Try.prog.cellsOf 52 = 2 := by kernel_rfl
set_option maxRecDepth 100000 in
theorem lifted (os : Os) (started : os.Started) (H : Type) (enc : TypeId × Value → H) :
    ReturnsInHanded {} Try.checked os 12 .any (Rows.fnExactIsCostProofSpec.pre6 enc Try.prog Try.f12 Rows.fnExactIsCostProofRow.domain false) (Rows.fnExactIsCostProofSpec.post enc Try.prog Try.f12 false true false false) := by
  refine returnsInHanded_of_change_sized (C := Try.checked) own started (by kernel_rfl) Try.func12
    (ChangeSpec.witness6 (enc := enc) (C := Try.checked) false ⟨#[], #[.agg #[.slice none 0 0, .slice none 0 0], .slice none 0 0, .slice none 0 0, .slice none 0 0], []⟩ 8 (by kernel_rfl) (by kernel_rfl) (by kernel_rfl) (by kernel_rfl)) ?_
  intro W base args ds gs before hval0 hW hcnd hsz0 _
  have hsz : (DataW.weightsEach Try.prog (Try.f12.params.toList ++ Rows.fnExactIsCostProofSpec.plain.varTypes Try.prog) (ds ++ gs)).all (· ≤ reachBytes) = true := hsz0
  have hval : ∀ (j : Nat) t v, Try.f12.params[j]? = some t → args[j]? = some v → Value.okWide Try.prog W .any base t v := hval0
  have hW' := hW
  obtain ⟨p, q, hA0, hV, rfl, hfz, hnd⟩ := hW
  have hA : DataW.TrodAll enc Try.prog W 0 (fun _ => true) true Try.f12.params.toList args.toList ds p := hA0
  rw [Try.params12] at hA hval hsz
  obtain ⟨v0, v1, v2, v3, d0, d1, d2, d3, p0, p1, p2, p3, rfl, rfl, rfl, h0, h1, h2, h3⟩ := trodAll_four hA
  obtain ⟨rfl, rfl⟩ := trodVars_none hV
  have k0 := h0
  have lt0 : ∀ x ∈ p0, x.block < W.heap.size := by obtain ⟨m, hm⟩ := k0; exact DataW.trod_lt m _ _ _ hm
  have wt0 := fun n hn => of_decide_eq_true (List.all_eq_true.1 hsz n (DataW.weights_mem_each (j := 0) (t := 52) rfl rfl n hn))
  have k1 := h1
  have lt1 : ∀ x ∈ p1, x.block < W.heap.size := by obtain ⟨m, hm⟩ := k1; exact DataW.trod_lt m _ _ _ hm
  have wt1 := fun n hn => of_decide_eq_true (List.all_eq_true.1 hsz n (DataW.weights_mem_each (j := 1) (t := 25) rfl rfl n hn))
  have k2 := h2
  have lt2 : ∀ x ∈ p2, x.block < W.heap.size := by obtain ⟨m, hm⟩ := k2; exact DataW.trod_lt m _ _ _ hm
  have wt2 := fun n hn => of_decide_eq_true (List.all_eq_true.1 hsz n (DataW.weights_mem_each (j := 2) (t := 25) rfl rfl n hn))
  have k3 := h3
  have lt3 : ∀ x ∈ p3, x.block < W.heap.size := by obtain ⟨m, hm⟩ := k3; exact DataW.trod_lt m _ _ _ hm
  have wt3 := fun n hn => of_decide_eq_true (List.all_eq_true.1 hsz n (DataW.weights_mem_each (j := 3) (t := 25) rfl rfl n hn))
  obtain ⟨v0_0, v0_1, z0_0, z0_1, n0, rfl, rfl, rfl, y0_0, y0_1⟩ := open_agg2 Try.underlying52 (by kernel_rfl) cells52 (hval 0 52 v0 rfl rfl) h0
  obtain ⟨x0_0, ⟨A0_0, c0_0, e0_0, hc0_0, hr0_0⟩, b0_0⟩ := open50 _ _ _ y0_0
  simp only [List.cons.injEq, and_true] at e0_0
  subst e0_0
  obtain ⟨x0_1, ⟨A0_1, c0_1, e0_1, hc0_1, hr0_1⟩, b0_1⟩ := open22 _ _ _ y0_1
  simp only [List.cons.injEq, and_true] at e0_1
  subst e0_1
  have b0_0 := b0_0 fun n hn => wt0 n (by simp only [DataW.weights, Try.underlying52, DataW.weightsEach, List.map_cons, List.map_nil, List.mem_append]; exact .inl hn)
  have b0_1 := b0_1 fun n hn => wt0 n (by simp only [DataW.weights, Try.underlying52, DataW.weightsEach, List.map_cons, List.map_nil, List.mem_append]; refine .inr ?_; exact .inl hn)
  obtain ⟨A1', l1', cp1', rfl⟩ := okWide_slice Try.underlying25 (hval 1 25 v1 rfl rfl)
  obtain ⟨f1, y1⟩ := h1
  obtain ⟨x1, ⟨A1, c1, e1, hc1, hr1⟩, b1⟩ := open25 _ _ _ y1
  have e1 : [Value.slice A1' l1' cp1'] = _ := e1
  simp only [List.cons.injEq, and_true] at e1
  rw [e1] at hW' k1 ⊢
  have b1 := b1 fun n hn => wt1 n hn
  obtain ⟨A2', l2', cp2', rfl⟩ := okWide_slice Try.underlying25 (hval 2 25 v2 rfl rfl)
  obtain ⟨f2, y2⟩ := h2
  obtain ⟨x2, ⟨A2, c2, e2, hc2, hr2⟩, b2⟩ := open25 _ _ _ y2
  have e2 : [Value.slice A2' l2' cp2'] = _ := e2
  simp only [List.cons.injEq, and_true] at e2
  rw [e2] at hW' k2 ⊢
  have b2 := b2 fun n hn => wt2 n hn
  obtain ⟨A3', l3', cp3', rfl⟩ := okWide_slice Try.underlying25 (hval 3 25 v3 rfl rfl)
  obtain ⟨f3, y3⟩ := h3
  obtain ⟨x3, ⟨A3, c3, e3, hc3, hr3⟩, b3⟩ := open25 _ _ _ y3
  have e3 : [Value.slice A3' l3' cp3'] = _ := e3
  simp only [List.cons.injEq, and_true] at e3
  rw [e3] at hW' k3 ⊢
  have b3 := b3 fun n hn => wt3 n hn
  obtain ⟨k, hk⟩ := PureFnExactIsCostProof.FnExactIsCostProof x0_0 x0_1 x1 x2 x3 b0_0.1 b0_0.2 b0_1
  refine (PFnExactIsCostProof.laws_FnExactIsCostProof.calls k A0_0 c0_0 x0_0 A0_1 c0_1 x0_1 A1 c1 x1 A2 c2 x2 A3 c3 x3 true W hr0_0 hc0_0 hr0_1 hc0_1 hr1 hc1 hr2 hc2 hr3 hc3 hk).mono fun e W' ⟨he, bel⟩ => ?_
  subst he
  exact ⟨_, rfl, _, _, _, [], _, [], hW', trodAll_mk1 (shut_bool Try.underlying4 _), trodAll_mk4 (Below.trod laidOut (by kernel_rfl) (of_decide_eq_true (by kernel_rfl)) k0 bel lt0) (Below.trod laidOut (by kernel_rfl) (of_decide_eq_true (by kernel_rfl)) k1 bel lt1) (Below.trod laidOut (by kernel_rfl) (of_decide_eq_true (by kernel_rfl)) k2 bel lt2) (Below.trod laidOut (by kernel_rfl) (of_decide_eq_true (by kernel_rfl)) k3 bel lt3), rfl, bel.frame _, fun h => by cases h⟩
theorem over : Rows.fnExactIsCostProofRow.holds Try.pinned (OpenSpec.ofChange Rows.fnExactIsCostProofSpec) :=
  OpenClaim.holds_of_wide 12 Try.f12 rfl rfl rfl rfl rfl rfl rfl ⟨rfl, rfl, rfl, rfl, rfl⟩ rfl rfl rfl rfl rfl (by kernel_rfl) Try.func12 (by kernel_rfl)
    (of_decide_eq_true (by kernel_rfl)) (by unfold Func.isWrapper; first | (rw [if_pos (by decide +kernel)]; kernel_rfl) | (rw [if_neg (by decide +kernel)]; exact ⟨rfl, rfl⟩))
    (fun os started H enc _ => lifted os started H enc)
end Go.Proofs.Ytiiaadgibkpaaaa.fnExactIsCostProof
namespace Go.Proofs.Ytiiaadgibkpaaaa
theorem fnExactIsCostProof_holds : Rows.FnExactIsCostProofSaid := fnExactIsCostProof.over
end Go.Proofs.Ytiiaadgibkpaaaa
