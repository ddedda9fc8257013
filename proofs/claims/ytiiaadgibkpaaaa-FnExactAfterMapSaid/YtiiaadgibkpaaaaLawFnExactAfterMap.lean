/-
  The law FnExactAfterMap answers true for all arguments. Conditions: none beyond the row's own.
-/
import Derived.Test.YtiiaadgibkpaaaaRows
import Derived.Test.YtiiaadgibkpaaaaPureFnExactAfterMap
import Derived.Test.YtiiaadgibkpaaaaOpens
import Derived.WalkKit
import Derived.ProofKit
import Derived.OpenShut
import Derived.ShutString
import Derived.ChangeOld
import Derived.Below
import Derived.SizedLaws
import Derived.Lib.SmallJoins
/-! The row: for every input. Conditions: none beyond the row's own. -/
namespace Go.Proofs.Ytiiaadgibkpaaaa.fnExactAfterMap
open Go.ChangeShapes Go.WideShapes Go.ChangeAt Go.RowKit Go.Joins Go.Proofs.YtiiaadgibkpaaaaW.PrintWords Go.Proofs.Ytiiaadgibkpaaaa.Plain Go.Proofs.Ytiiaadgibkpaaaa.PFnExactAfterMap
open Go.ChangeMaps (open_string shut_string)
set_option linter.unusedVariables false
theorem own : ownKnob Try.prog.godebug = none := by kernel_rfl
theorem laidOut : laidOutB Try.prog = true := by kernel_rfl
section
variable {H : Type} {enc : TypeId × Value → H} {w : World}
theorem open3 : Opens enc Try.prog w 3 (Kd.int .i64) (fun _ => True) := Opens.int Try.underlying3
theorem open25 : Opens enc Try.prog w 25 (Kd.slice 3 (Kd.int .i64)) (fun xs => xs.length ≤ 140737488351232) := (Opens.slice Try.underlying25 (by kernel_rfl) (of_decide_eq_true (by kernel_rfl)) open3).imp fun _ h => h.1
theorem open78 : Opens enc Try.prog w 78 k78 (fun _ => True) := (Opens.array2 Try.underlying78 (by kernel_rfl) (by kernel_rfl) open3).iso (fun a => ⟨⟨a.1, a.2⟩, rfl⟩)
theorem open22 : Opens enc Try.prog w 22 (Kd.slice 78 k78) (fun xs => xs.length ≤ 140737488351232) := (Opens.slice Try.underlying22 (by kernel_rfl) (of_decide_eq_true (by kernel_rfl)) open78).imp fun _ h => h.1
end
section
variable {H : Type} {enc : TypeId × Value → H} {P : Program} {w : World} {base : Nat} {spare : Nat → Bool} {held : Bool}
theorem trodAll_n6 {t0 t1 t2 t3 t4 t5 : TypeId} {args : Array Value} {ds : List (DataW H)} {ps : List MemPlace} (h : DataW.TrodAll enc P w base spare held [t0, t1, t2, t3, t4, t5] args.toList ds ps) :
    ∃ v0 v1 v2 v3 v4 v5 d0 d1 d2 d3 d4 d5 p0 p1 p2 p3 p4 p5, args = #[v0, v1, v2, v3, v4, v5] ∧ ds = [d0, d1, d2, d3, d4, d5] ∧ ps = p0 ++ p1 ++ p2 ++ p3 ++ p4 ++ p5 ∧ DataW.Trod enc P w base spare held t0 v0 d0 p0 ∧ DataW.Trod enc P w base spare held t1 v1 d1 p1 ∧ DataW.Trod enc P w base spare held t2 v2 d2 p2 ∧ DataW.Trod enc P w base spare held t3 v3 d3 p3 ∧ DataW.Trod enc P w base spare held t4 v4 d4 p4 ∧ DataW.Trod enc P w base spare held t5 v5 d5 p5 := by
  obtain ⟨v0, vs0, d0, ds0, p0, q0, hargs, rfl, rfl, k0, h0⟩ := trodAll_cons h
  obtain ⟨v1, vs1, d1, ds1, p1, q1, rfl, rfl, rfl, k1, h1⟩ := trodAll_cons h0
  obtain ⟨v2, vs2, d2, ds2, p2, q2, rfl, rfl, rfl, k2, h2⟩ := trodAll_cons h1
  obtain ⟨v3, vs3, d3, ds3, p3, q3, rfl, rfl, rfl, k3, h3⟩ := trodAll_cons h2
  obtain ⟨v4, vs4, d4, ds4, p4, q4, rfl, rfl, rfl, k4, h4⟩ := trodAll_cons h3
  obtain ⟨v5, vs5, d5, ds5, p5, q5, rfl, rfl, rfl, k5, h5⟩ := trodAll_cons h4
  obtain ⟨rfl, rfl, rfl⟩ := trodAll_nil h5
  exact ⟨v0, v1, v2, v3, v4, v5, d0, d1, d2, d3, d4, d5, p0, p1, p2, p3, p4, p5, by cases args; simp_all, rfl, by simp, k0, k1, k2, k3, k4, k5⟩
theorem trodAll_mk5 {t0 t1 t2 t3 t4 : TypeId} {v0 v1 v2 v3 v4 : Value} {d0 d1 d2 d3 d4 : DataW H} {p0 p1 p2 p3 p4 : List MemPlace} (h0 : DataW.Trod enc P w base spare held t0 v0 d0 p0) (h1 : DataW.Trod enc P w base spare held t1 v1 d1 p1) (h2 : DataW.Trod enc P w base spare held t2 v2 d2 p2) (h3 : DataW.Trod enc P w base spare held t3 v3 d3 p3) (h4 : DataW.Trod enc P w base spare held t4 v4 d4 p4) : DataW.TrodAll enc P w base spare held [t0, t1, t2, t3, t4] [v0, v1, v2, v3, v4] [d0, d1, d2, d3, d4] (p0 ++ (p1 ++ (p2 ++ (p3 ++ (p4))))) := ⟨p0, p1 ++ (p2 ++ (p3 ++ (p4))), h0, trodAll_mk4 h1 h2 h3 h4, rfl⟩
theorem trodAll_mk6 {t0 t1 t2 t3 t4 t5 : TypeId} {v0 v1 v2 v3 v4 v5 : Value} {d0 d1 d2 d3 d4 d5 : DataW H} {p0 p1 p2 p3 p4 p5 : List MemPlace} (h0 : DataW.Trod enc P w base spare held t0 v0 d0 p0) (h1 : DataW.Trod enc P w base spare held t1 v1 d1 p1) (h2 : DataW.Trod enc P w base spare held t2 v2 d2 p2) (h3 : DataW.Trod enc P w base spare held t3 v3 d3 p3) (h4 : DataW.Trod enc P w base spare held t4 v4 d4 p4) (h5 : DataW.Trod enc P w base spare held t5 v5 d5 p5) : DataW.TrodAll enc P w base spare held [t0, t1, t2, t3, t4, t5] [v0, v1, v2, v3, v4, v5] [d0, d1, d2, d3, d4, d5] (p0 ++ (p1 ++ (p2 ++ (p3 ++ (p4 ++ (p5)))))) := ⟨p0, p1 ++ (p2 ++ (p3 ++ (p4 ++ (p5)))), h0, trodAll_mk5 h1 h2 h3 h4 h5, rfl⟩
end
theorem cells24 : Try.prog.cellsOf 24 = 2 := by kernel_rfl
set_option maxRecDepth 100000 in
theorem lifted (os : Os) (started : os.Started) (H : Type) (enc : TypeId × Value → H) :
    ReturnsInHanded {} Try.checked os 5 .any (Rows.fnExactAfterMapSpec.pre6 enc Try.prog Try.f5 Rows.fnExactAfterMapRow.domain false) (Rows.fnExactAfterMapSpec.post enc Try.prog Try.f5 false true false false) := by
  refine returnsInHanded_of_change_sized (C := Try.checked) own started (by kernel_rfl) Try.func5
    (ChangeSpec.witness6 (enc := enc) (C := Try.checked) false ⟨#[], #[.agg #[.int .i64 0, .slice none 0 0], .agg #[.int .i64 0, .slice none 0 0], .agg #[.int .i64 0, .slice none 0 0], .slice none 0 0, .slice none 0 0, .bool false], []⟩ 8 (by kernel_rfl) (by kernel_rfl) (by kernel_rfl) (by kernel_rfl)) ?_
  intro W base args ds gs before hval0 hW hcnd hsz0 _
  have hsz : (DataW.weightsEach Try.prog (Try.f5.params.toList ++ Rows.fnExactAfterMapSpec.plain.varTypes Try.prog) (ds ++ gs)).all (· ≤ reachBytes) = true := hsz0
  have hval : ∀ (j : Nat) t v, Try.f5.params[j]? = some t → args[j]? = some v → Value.okWide Try.prog W .any base t v := hval0
  have hW' := hW
  obtain ⟨p, q, hA0, hV, rfl, hfz, hnd⟩ := hW
  have hA : DataW.TrodAll enc Try.prog W 0 (fun _ => true) true Try.f5.params.toList args.toList ds p := hA0
  rw [Try.params5] at hA hval hsz
  obtain ⟨v0, v1, v2, v3, v4, v5, d0, d1, d2, d3, d4, d5, p0, p1, p2, p3, p4, p5, rfl, rfl, rfl, h0, h1, h2, h3, h4, h5⟩ := trodAll_n6 hA
  obtain ⟨rfl, rfl⟩ := trodVars_none hV
  have k0 := h0
  have lt0 : ∀ x ∈ p0, x.block < W.heap.size := by obtain ⟨m, hm⟩ := k0; exact DataW.trod_lt m _ _ _ hm
  have wt0 := fun n hn => of_decide_eq_true (List.all_eq_true.1 hsz n (DataW.weights_mem_each (j := 0) (t := 24) rfl rfl n hn))
  have k1 := h1
  have lt1 : ∀ x ∈ p1, x.block < W.heap.size := by obtain ⟨m, hm⟩ := k1; exact DataW.trod_lt m _ _ _ hm
  have wt1 := fun n hn => of_decide_eq_true (List.all_eq_true.1 hsz n (DataW.weights_mem_each (j := 1) (t := 24) rfl rfl n hn))
  have k2 := h2
  have lt2 : ∀ x ∈ p2, x.block < W.heap.size := by obtain ⟨m, hm⟩ := k2; exact DataW.trod_lt m _ _ _ hm
  have wt2 := fun n hn => of_decide_eq_true (List.all_eq_true.1 hsz n (DataW.weights_mem_each (j := 2) (t := 24) rfl rfl n hn))
  have k3 := h3
  have lt3 : ∀ x ∈ p3, x.block < W.heap.size := by obtain ⟨m, hm⟩ := k3; exact DataW.trod_lt m _ _ _ hm
  have wt3 := fun n hn => of_decide_eq_true (List.all_eq_true.1 hsz n (DataW.weights_mem_each (j := 3) (t := 25) rfl rfl n hn))
  have k4 := h4
  have lt4 : ∀ x ∈ p4, x.block < W.heap.size := by obtain ⟨m, hm⟩ := k4; exact DataW.trod_lt m _ _ _ hm
  have wt4 := fun n hn => of_decide_eq_true (List.all_eq_true.1 hsz n (DataW.weights_mem_each (j := 4) (t := 25) rfl rfl n hn))
  have k5 := h5
  have lt5 : ∀ x ∈ p5, x.block < W.heap.size := by obtain ⟨m, hm⟩ := k5; exact DataW.trod_lt m _ _ _ hm
  have wt5 := fun n hn => of_decide_eq_true (List.all_eq_true.1 hsz n (DataW.weights_mem_each (j := 5) (t := 4) rfl rfl n hn))
  obtain ⟨v0_0, v0_1, z0_0, z0_1, n0, rfl, rfl, rfl, y0_0, y0_1⟩ := open_agg2 Try.underlying24 (by kernel_rfl) cells24 (hval 0 24 v0 rfl rfl) h0
  obtain ⟨x0_0, e0_0, _⟩ := open3 _ _ _ y0_0
  have e0_0 : [v0_0] = [Value.int .i64 x0_0] := e0_0
  simp only [List.cons.injEq, and_true] at e0_0
  subst e0_0
  obtain ⟨x0_1, ⟨A0_1, c0_1, e0_1, hc0_1, hr0_1⟩, b0_1⟩ := open22 _ _ _ y0_1
  simp only [List.cons.injEq, and_true] at e0_1
  subst e0_1
  have b0_1 := b0_1 fun n hn => wt0 n (by simp only [DataW.weights, Try.underlying24, DataW.weightsEach, List.map_cons, List.map_nil, List.mem_append]; refine .inr ?_; exact .inl hn)
  obtain ⟨v1_0, v1_1, z1_0, z1_1, n1, rfl, rfl, rfl, y1_0, y1_1⟩ := open_agg2 Try.underlying24 (by kernel_rfl) cells24 (hval 1 24 v1 rfl rfl) h1
  obtain ⟨x1_0, e1_0, _⟩ := open3 _ _ _ y1_0
  have e1_0 : [v1_0] = [Value.int .i64 x1_0] := e1_0
  simp only [List.cons.injEq, and_true] at e1_0
  subst e1_0
  obtain ⟨x1_1, ⟨A1_1, c1_1, e1_1, hc1_1, hr1_1⟩, b1_1⟩ := open22 _ _ _ y1_1
  simp only [List.cons.injEq, and_true] at e1_1
  subst e1_1
  have b1_1 := b1_1 fun n hn => wt1 n (by simp only [DataW.weights, Try.underlying24, DataW.weightsEach, List.map_cons, List.map_nil, List.mem_append]; refine .inr ?_; exact .inl hn)
  obtain ⟨v2_0, v2_1, z2_0, z2_1, n2, rfl, rfl, rfl, y2_0, y2_1⟩ := open_agg2 Try.underlying24 (by kernel_rfl) cells24 (hval 2 24 v2 rfl rfl) h2
  obtain ⟨x2_0, e2_0, _⟩ := open3 _ _ _ y2_0
  have e2_0 : [v2_0] = [Value.int .i64 x2_0] := e2_0
  simp only [List.cons.injEq, and_true] at e2_0
  subst e2_0
  obtain ⟨x2_1, ⟨A2_1, c2_1, e2_1, hc2_1, hr2_1⟩, b2_1⟩ := open22 _ _ _ y2_1
  simp only [List.cons.injEq, and_true] at e2_1
  subst e2_1
  have b2_1 := b2_1 fun n hn => wt2 n (by simp only [DataW.weights, Try.underlying24, DataW.weightsEach, List.map_cons, List.map_nil, List.mem_append]; refine .inr ?_; exact .inl hn)
  obtain ⟨A3', l3', cp3', rfl⟩ := okWide_slice Try.underlying25 (hval 3 25 v3 rfl rfl)
  obtain ⟨f3, y3⟩ := h3
  obtain ⟨x3, ⟨A3, c3, e3, hc3, hr3⟩, b3⟩ := open25 _ _ _ y3
  have e3 : [Value.slice A3' l3' cp3'] = _ := e3
  simp only [List.cons.injEq, and_true] at e3
  rw [e3] at hW' k3 ⊢
  have b3 := b3 fun n hn => wt3 n hn
  obtain ⟨A4', l4', cp4', rfl⟩ := okWide_slice Try.underlying25 (hval 4 25 v4 rfl rfl)
  obtain ⟨f4, y4⟩ := h4
  obtain ⟨x4, ⟨A4, c4, e4, hc4, hr4⟩, b4⟩ := open25 _ _ _ y4
  have e4 : [Value.slice A4' l4' cp4'] = _ := e4
  simp only [List.cons.injEq, and_true] at e4
  rw [e4] at hW' k4 ⊢
  have b4 := b4 fun n hn => wt4 n hn
  obtain ⟨x5, rfl, rfl, rfl⟩ := open_bool Try.underlying4 (hval 5 4 v5 rfl rfl) h5
  obtain ⟨k, hk⟩ := Pure.FnExactAfterMap x0_0 x0_1 x1_0 x1_1 x2_0 x2_1 x3 x4 x5 b0_1 b1_1 b2_1
  refine (PFnExactAfterMap.laws_FnExactAfterMap.calls k x0_0 A0_1 c0_1 x0_1 x1_0 A1_1 c1_1 x1_1 x2_0 A2_1 c2_1 x2_1 A3 c3 x3 A4 c4 x4 x5 true W hr0_1 hc0_1 hr1_1 hc1_1 hr2_1 hc2_1 hr3 hc3 hr4 hc4 hk).mono fun e W' ⟨he, bel⟩ => ?_
  subst he
  exact ⟨_, rfl, _, _, _, [], _, [], hW', trodAll_mk1 (shut_bool Try.underlying4 _), trodAll_mk6 (Below.trod laidOut (by kernel_rfl) (of_decide_eq_true (by kernel_rfl)) k0 bel lt0) (Below.trod laidOut (by kernel_rfl) (of_decide_eq_true (by kernel_rfl)) k1 bel lt1) (Below.trod laidOut (by kernel_rfl) (of_decide_eq_true (by kernel_rfl)) k2 bel lt2) (Below.trod laidOut (by kernel_rfl) (of_decide_eq_true (by kernel_rfl)) k3 bel lt3) (Below.trod laidOut (by kernel_rfl) (of_decide_eq_true (by kernel_rfl)) k4 bel lt4) (Below.trod laidOut (by kernel_rfl) (of_decide_eq_true (by kernel_rfl)) k5 bel lt5), rfl, bel.frame _, fun h => by cases h⟩
theorem over : Rows.fnExactAfterMapRow.holds Try.pinned (OpenSpec.ofChange Rows.fnExactAfterMapSpec) :=
  OpenClaim.holds_of_wide 5 Try.f5 rfl rfl rfl rfl rfl rfl rfl ⟨rfl, rfl, rfl, rfl, rfl⟩ rfl rfl rfl rfl rfl (by kernel_rfl) Try.func5 (by kernel_rfl)
    (of_decide_eq_true (by kernel_rfl)) (by unfold Func.isWrapper; first | (rw [if_pos (by decide +kernel)]; kernel_rfl) | (rw [if_neg (by decide +kernel)]; exact ⟨rfl, rfl⟩))
    (fun os started H enc _ => lifted os started H enc)
end Go.Proofs.Ytiiaadgibkpaaaa.fnExactAfterMap
namespace Go.Proofs.Ytiiaadgibkpaaaa
theorem fnExactAfterMap_holds : Rows.FnExactAfterMapSaid := fnExactAfterMap.over
end Go.Proofs.Ytiiaadgibkpaaaa
