-- written by wip/tools of this repo out of the translation (a turned copy of the kit's print): checked by Lean alone
import Derived.Test.YtiiaadgibkpaaaaPFnExactIsCostProofx0
import Derived.Test.YtiiaadgibkpaaaaPFnExactIsCostProofx5
import Derived.Test.YtiiaadgibkpaaaaPFnExactIsCostProofx6
import Derived.Test.YtiiaadgibkpaaaaPFnExactIsCostProofx8
namespace Go.Proofs.Ytiiaadgibkpaaaa.PFnExactIsCostProof
open Go.RowKit Go.Proofs.YtiiaadgibkpaaaaW.PrintWords Go.Proofs.YtiiaadgibkpaaaaW.PrintLast Go.Proofs.YtiiaadgibkpaaaaW.PrintMore
attribute [local go_sem] max2_int min2_int max_two min_two max_three min_three max_four min_four   -- for this text's walks alone
set_option linter.unusedVariables false
set_option linter.unusedSimpArgs false

/-! ### spec_IsCostProof: function 47 -/
def spec_IsCostProof.j0 : Nat → List Int → List Int → List Int → Bool → List (List Int) → List (S78) → Option (Bool × Bool)
 | 0, _, _, _, _, _, _ => none
 | k + 1, x1, x2, x3, x25, x213000, x213001 => if x25 = true then (some (false, false)) else ((spec_l11Fair.f k x213000 x213001 x1 x2).bind fun t216 => (if t216 = true then ((spec_l11Cost.f k x213000 x213001 x1 x3).bind fun t217 => (if 0 ≤ (wrap64 ((x3.length : Int) - 1)) then (if (wrap64 ((x3.length : Int) - 1)) < (x3.length : Int) then (if 0 ≤ (rd x3 (wrap64 ((x3.length : Int) - 1))) then (if (rd x3 (wrap64 ((x3.length : Int) - 1))) < (x2.length : Int) then (if 0 < (x3.length : Int) then (if 0 ≤ (rd x3 0) then (if (rd x3 0) < (x2.length : Int) then (some ((t217 == (wrap64 ((rd x2 (rd x3 (wrap64 ((x3.length : Int) - 1)))) - (rd x2 (rd x3 0))))), true)) else (none)) else (none)) else (none)) else (none)) else (none)) else (none)) else (none))) else (some (false, true))))
def spec_IsCostProof.f (k : Nat) (l0_0 : List (List Int)) (l0_1 : List (S78)) (l1 : List Int) (l2 : List Int) (l3 : List Int) : Option (Bool × Bool) := (spec_l11Weighted.f k l0_0 l0_1 l1).bind fun t213 => (if t213 = true then ((spec_l2Values.f k l0_0 l0_1 l2).bind fun t214 => (if t214 = true then ((spec_l11Way.f k l0_0 l0_1 l3).bind fun t215 => (spec_IsCostProof.j0 k l1 l2 l3 (!t215) l0_0 l0_1)) else (spec_IsCostProof.j0 k l1 l2 l3 true l0_0 l0_1))) else (spec_IsCostProof.j0 k l1 l2 l3 true l0_0 l0_1))
def spec_IsCostProof.T3 : Bool × List (List Nat × List Nat) := (true, [([], []), ([], []), ([], []), ([0, 1, 2], [0, 1, 2]), ([3, 3], [3]), ([4], [4]), ([4], [4]), ([4], [4]), ([5, 6, 7, 4, 4], [4, 5, 6, 7]), ([4], [4]), ([4], [4]), ([4], [4]), ([11, 4], [4, 11]), ([12, 4], [4, 12]), ([10, 13, 4], [4, 10, 13]), ([14, 4], [4, 14]), ([9, 15, 4], [4, 9, 15]), ([16, 4], [4, 16]), ([4], [4]), ([4], [4]), ([19, 4], [4, 19]), ([20, 4], [4, 20]), ([18, 21, 4], [4, 18, 21]), ([22, 4], [4, 22]), ([17, 23, 4], [4, 17, 23]), ([8, 24, 4], [4, 8, 24]), ([4, 25], [4, 25]), ([26, 8, 0, 1, 2, 3, 4, 5, 6, 7, 8, 9, 10, 11, 12, 13, 14, 15, 16, 17, 18, 19, 20, 21, 22, 23, 24, 25, 26], [26]), ([27, 0, 1, 2, 3, 4, 5, 6, 7, 8, 9, 10, 11, 12, 13, 14, 15, 16, 17, 18, 19, 20, 21, 22, 23, 24, 25, 26, 27], [])])
def spec_IsCostProof.B3 : List Nat := [0, 0, 0, 7, 15, 31, 31, 31, 255, 31, 31, 31, 2079, 6175, 15391, 31775, 65055, 130591, 31, 31, 524319, 1572895, 3932191, 8126495, 16776735, 33554431, 67108863, 134217727, 268435455]
theorem spec_IsCostProof.tab3 : rtab .any (opsOf Try.f47 3) = spec_IsCostProof.T3 := by kernel_rfl
theorem spec_IsCostProof.bits3 : waitsOk spec_IsCostProof.T3.2 spec_IsCostProof.B3 = true := by kernel_rfl
set_option maxHeartbeats 8000000 in
set_option maxRecDepth 100000 in
theorem spec_IsCostProof.calls (k : Nat) (A0_0 : Option Addr) (c0_0 : Nat) (l0_0 : List (List Int)) (A0_1 : Option Addr) (c0_1 : Nat) (l0_1 : List (S78)) (A1 : Option Addr) (c1 : Nat) (l1 : List Int) (A2 : Option Addr) (c2 : Nat) (l2 : List Int) (A3 : Option Addr) (c3 : Nat) (l3 : List Int) (r1 : Bool) (r2 : Bool) (w : World) (hr0_0 : Kd.C (Kd.slice 3 (Kd.int .i64)) w A0_0 l0_0.length l0_0) (hc0_0 : l0_0.length ≤ c0_0) (hr0_1 : Kd.C k78 w A0_1 l0_1.length l0_1) (hc0_1 : l0_1.length ≤ c0_1) (hr1 : Kd.C (Kd.int .i64) w A1 l1.length l1) (hc1 : l1.length ≤ c1) (hr2 : Kd.C (Kd.int .i64) w A2 l2.length l2) (hc2 : l2.length ≤ c2) (hr3 : Kd.C (Kd.int .i64) w A3 l3.length l3) (hc3 : l3.length ≤ c3) (h : spec_IsCostProof.f k l0_0 l0_1 l1 l2 l3 = some (r1, r2)) :
  Calls Try.prog 47 #[.agg #[.slice A0_0 l0_0.length c0_0, .slice A0_1 l0_1.length c0_1], .slice A1 l1.length c1, .slice A2 l2.length c2, .slice A3 l3.length c3] w fun e w' => e = .returned (.tuple #[.bool r1, .bool r2]) ∧ Below w.heap.size w w' := by
 have hu55 := Try.underlying55
 have HR0_0 := Aside0.mk hr0_0
 have HC0_0 := Aside0.mk hc0_0
 clear hr0_0 hc0_0
 have HR0_1 := Aside0.mk hr0_1
 have HC0_1 := Aside0.mk hc0_1
 clear hr0_1 hc0_1
 have HR1 := Aside0.mk hr1
 have HC1 := Aside0.mk hc1
 clear hr1 hc1
 have HR2 := Aside0.mk hr2
 have HC2 := Aside0.mk hc2
 clear hr2 hc2
 have HR3 := Aside0.mk hr3
 have HC3 := Aside0.mk hc3
 clear hr3 hc3
 have HB := Aside0.mk (Below.refl w.heap.size w)
 have H : ((spec_l11Weighted.f k l0_0 l0_1 l1).bind fun t213 => (if t213 = true then ((spec_l2Values.f k l0_0 l0_1 l2).bind fun t214 => (if t214 = true then ((spec_l11Way.f k l0_0 l0_1 l3).bind fun t215 => (spec_IsCostProof.j0 k l1 l2 l3 (!t215) l0_0 l0_1)) else (spec_IsCostProof.j0 k l1 l2 l3 true l0_0 l0_1))) else (spec_IsCostProof.j0 k l1 l2 l3 true l0_0 l0_1))) = some (r1, r2) := h
 clear h
 have HC5 := Aside0.mk H
 clear H
 go_enter Try.func47, Try.ntmps47
 go_upto_region 1 with (first | ((with_reducible refine gate_dst (N := 4) rfl ?_); (try (refine gate_guard (by rfl) ?_; dsimp only)); refine box_event ?hg (N := 4) ?hd (cs := #[.slice A0_0 l0_0.length c0_0, .slice A0_1 l0_1.length c0_1]) (t := 55) ?hr ?_; (case hd => rfl); (case hg => rfl); (case hr => first | (go_simp; done) | (go_simp; rfl)); intro gb212 hg w6 hbox hb; have n0_ := Aside0.mk (below_step bl_ hb); have n1_ := Aside0.mk (hbox); have n2_ := Aside0.mk ((by rw [hg]; exact (below_size bl_) : w.heap.size ≤ gb212)); have n3_ := Aside0.mk ((by rw [hg]; exact (below_size bl_) : w.heap.size ≤ gb212)); clear HB; have HB := n0_; have BK212 := n1_; have GW212 := n2_; have GE212 := n3_; clear n0_ n1_ n2_ n3_; clear hb hbox hg))
 (try simp only [Act.put, List.setIfInBounds_toArray, List.set_cons_zero, List.set_cons_succ])
 go_cut [25] (fun v25 wc => ∃ (kq : Nat) (x25_4 : Bool), v25 = .bool x25_4 ∧ Aside0 (spec_IsCostProof.j0 kq l1 l2 l3 x25_4 l0_0 l0_1 = some (r1, r2)) ∧ Aside0 (kq ≤ k) ∧ Aside0 (wc.heap[gb212]? = some (.cells #[(.slice A0_0 l0_0.length c0_0), (.slice A0_1 l0_1.length c0_1)] 55 (0, 0))) ∧ Aside0 (Below w.heap.size w wc))
 case first =>
  have H := HC5.out
  clear HC5
  replace H := Option.bind_eq_some_iff.mp H
  obtain ⟨t213, A70, H⟩ := H
  replace H : (if t213 = true then ((spec_l2Values.f k l0_0 l0_1 l2).bind fun t214 => (if t214 = true then ((spec_l11Way.f k l0_0 l0_1 l3).bind fun t215 => (spec_IsCostProof.j0 k l1 l2 l3 (!t215) l0_0 l0_1)) else (spec_IsCostProof.j0 k l1 l2 l3 true l0_0 l0_1))) else (spec_IsCostProof.j0 k l1 l2 l3 true l0_0 l0_1)) = some (r1, r2) := H
  have A7 := Aside0.mk A70
  clear A70
  by_cases c8 : t213 = true
  ·subst c8
   have H1 : ((spec_l2Values.f k l0_0 l0_1 l2).bind fun t214 => (if t214 = true then ((spec_l11Way.f k l0_0 l0_1 l3).bind fun t215 => (spec_IsCostProof.j0 k l1 l2 l3 (!t215) l0_0 l0_1)) else (spec_IsCostProof.j0 k l1 l2 l3 true l0_0 l0_1))) = some (r1, r2) := by rw [if_pos rfl] at H; exact H
   clear H
   have H := H1
   clear H1
   replace H := Option.bind_eq_some_iff.mp H
   obtain ⟨t214, A90, H⟩ := H
   replace H : (if t214 = true then ((spec_l11Way.f k l0_0 l0_1 l3).bind fun t215 => (spec_IsCostProof.j0 k l1 l2 l3 (!t215) l0_0 l0_1)) else (spec_IsCostProof.j0 k l1 l2 l3 true l0_0 l0_1)) = some (r1, r2) := H
   have A9 := Aside0.mk A90
   clear A90
   by_cases c10 : t214 = true
   ·subst c10
    have H1 : ((spec_l11Way.f k l0_0 l0_1 l3).bind fun t215 => (spec_IsCostProof.j0 k l1 l2 l3 (!t215) l0_0 l0_1)) = some (r1, r2) := by rw [if_pos rfl] at H; exact H
    clear H
    have H := H1
    clear H1
    replace H := Option.bind_eq_some_iff.mp H
    obtain ⟨t215, A110, H⟩ := H
    replace H : (spec_IsCostProof.j0 k l1 l2 l3 (!t215) l0_0 l0_1) = some (r1, r2) := H
    have A11 := Aside0.mk A110
    clear A110
    have H' := Aside0.mk H
    clear H
    have hcz12_0 : w6.cell? ⟨gb212, 0, none⟩ = some (.slice A0_0 l0_0.length c0_0) := (blk_cell BK212.out 0).trans rfl
    have hcz12_1 : w6.cell? ⟨gb212, 1, none⟩ = some (.slice A0_1 l0_1.length c0_1) := (blk_cell BK212.out 1).trans rfl
    have hfz12_0 := blk_frozen BK212.out 0
    have hfz12_1 := blk_frozen BK212.out 1
    go_wp2_with (first | ((with_reducible refine gate_callee (f := 74) rfl ?_); refine gL_ (some 12) Try.func74 #[.agg #[.slice A0_0 l0_0.length c0_0, .slice A0_1 l0_1.length c0_1], .slice A1 l1.length c1] ?_ rfl rfl; (with_reducible refine (spec_l11Weighted.calls k _ _ l0_0 _ _ l0_1 _ _ l1 true _ ?side1 ?side2 ?side3 ?side4 ?side5 ?side6 A7.out).mono ?_); (case side1 => exact cb_ HR0_0); (case side2 => exact HC0_0.out); (case side3 => exact cb_ HR0_1); (case side4 => exact HC0_1.out); (case side5 => exact cb_ HR1); (case side6 => exact HC1.out); rintro e w13 ⟨rfl, hb⟩; refine ⟨_, rfl, ?_⟩; have n0_ := Aside0.mk (blk_below (g := gb212) (o := .cells #[.slice A0_0 l0_0.length c0_0, .slice A0_1 l0_1.length c0_1] 55 (0, 0)) (by (with_reducible repeat (first | refine blk_drewN ?_ _ | refine blk_drew ?_ | refine blk_alloc ?_ _)); exact BK212.out) hb); have n1_ := Aside0.mk (below_step (by repeat (first | (with_reducible first | exact HB.out | apply below_alloc | apply pw_below_drewN | apply below_drew1 | refine below_set ?_ GE212.out) | exact HB.out)) hb); clear BK212; clear HB; have BK212 := n0_; have HB := n1_; clear n0_ n1_; (try clear hb); (try clear hb2); (try clear hk); (try clear hi); have hcz14_0 : w13.cell? ⟨gb212, 0, none⟩ = some (.slice A0_0 l0_0.length c0_0) := (blk_cell BK212.out 0).trans rfl; have hcz14_1 : w13.cell? ⟨gb212, 1, none⟩ = some (.slice A0_1 l0_1.length c0_1) := (blk_cell BK212.out 1).trans rfl; have hfz14_0 := blk_frozen BK212.out 0; have hfz14_1 := blk_frozen BK212.out 1) | (go_at_call 75; (with_reducible refine (spec_l2Values.calls k _ _ l0_0 _ _ l0_1 _ _ l2 true _ ?side1 ?side2 ?side3 ?side4 ?side5 ?side6 A9.out).mono ?_); (case side1 => exact cb_ HR0_0); (case side2 => exact HC0_0.out); (case side3 => exact cb_ HR0_1); (case side4 => exact HC0_1.out); (case side5 => exact cb_ HR2); (case side6 => exact HC2.out); rintro e w15 ⟨rfl, hb⟩; have n0_ := Aside0.mk (blk_below (g := gb212) (o := .cells #[.slice A0_0 l0_0.length c0_0, .slice A0_1 l0_1.length c0_1] 55 (0, 0)) (by (with_reducible repeat (first | refine blk_drewN ?_ _ | refine blk_drew ?_ | refine blk_alloc ?_ _)); exact BK212.out) hb); have n1_ := Aside0.mk (below_step (by repeat (first | (with_reducible first | exact HB.out | apply below_alloc | apply pw_below_drewN | apply below_drew1 | refine below_set ?_ GE212.out) | exact HB.out)) hb); clear BK212; clear HB; have BK212 := n0_; have HB := n1_; clear n0_ n1_; (try clear hb); (try clear hb2); (try clear hk); (try clear hi); have hcz16_0 : w15.cell? ⟨gb212, 0, none⟩ = some (.slice A0_0 l0_0.length c0_0) := (blk_cell BK212.out 0).trans rfl; have hcz16_1 : w15.cell? ⟨gb212, 1, none⟩ = some (.slice A0_1 l0_1.length c0_1) := (blk_cell BK212.out 1).trans rfl; have hfz16_0 := blk_frozen BK212.out 0; have hfz16_1 := blk_frozen BK212.out 1) | (go_at_call 83; (with_reducible refine (spec_l11Way.calls k _ _ l0_0 _ _ l0_1 _ _ l3 t215 _ ?side1 ?side2 ?side3 ?side4 ?side5 ?side6 A11.out).mono ?_); (case side1 => exact cb_ HR0_0); (case side2 => exact HC0_0.out); (case side3 => exact cb_ HR0_1); (case side4 => exact HC0_1.out); (case side5 => exact cb_ HR3); (case side6 => exact HC3.out); rintro e w17 ⟨rfl, hb⟩; have n0_ := Aside0.mk (blk_below (g := gb212) (o := .cells #[.slice A0_0 l0_0.length c0_0, .slice A0_1 l0_1.length c0_1] 55 (0, 0)) (by (with_reducible repeat (first | refine blk_drewN ?_ _ | refine blk_drew ?_ | refine blk_alloc ?_ _)); exact BK212.out) hb); have n1_ := Aside0.mk (below_step (by repeat (first | (with_reducible first | exact HB.out | apply below_alloc | apply pw_below_drewN | apply below_drew1 | refine below_set ?_ GE212.out) | exact HB.out)) hb); clear BK212; clear HB; have BK212 := n0_; have HB := n1_; clear n0_ n1_; (try clear hb); (try clear hb2); (try clear hk); (try clear hi)))
    go_meet
    case rel => exact ⟨_, (!t215), (by first | rfl | (simp; done) | (simp [*]; done)), H', ⟨by first | omega | exact Nat.le_refl _⟩, ⟨by (with_reducible repeat (first | refine blk_drewN ?_ _ | refine blk_drew ?_ | refine blk_alloc ?_ _)); exact BK212.out⟩, ⟨by repeat (first | (with_reducible first | exact HB.out | apply below_alloc | apply pw_below_drewN | apply below_drew1 | refine below_set ?_ GE212.out) | exact HB.out)⟩⟩
   ·replace c10 := Bool.eq_false_iff.mpr c10
    subst c10
    have H1 : (spec_IsCostProof.j0 k l1 l2 l3 true l0_0 l0_1) = some (r1, r2) := by rw [if_neg (show ¬ (false = true) by decide)] at H; exact H
    clear H
    have H := H1
    clear H1
    have H' := Aside0.mk H
    clear H
    have hcz18_0 : w6.cell? ⟨gb212, 0, none⟩ = some (.slice A0_0 l0_0.length c0_0) := (blk_cell BK212.out 0).trans rfl
    have hcz18_1 : w6.cell? ⟨gb212, 1, none⟩ = some (.slice A0_1 l0_1.length c0_1) := (blk_cell BK212.out 1).trans rfl
    have hfz18_0 := blk_frozen BK212.out 0
    have hfz18_1 := blk_frozen BK212.out 1
    go_wp2_with (first | ((with_reducible refine gate_callee (f := 74) rfl ?_); refine gL_ (some 12) Try.func74 #[.agg #[.slice A0_0 l0_0.length c0_0, .slice A0_1 l0_1.length c0_1], .slice A1 l1.length c1] ?_ rfl rfl; (with_reducible refine (spec_l11Weighted.calls k _ _ l0_0 _ _ l0_1 _ _ l1 true _ ?side1 ?side2 ?side3 ?side4 ?side5 ?side6 A7.out).mono ?_); (case side1 => exact cb_ HR0_0); (case side2 => exact HC0_0.out); (case side3 => exact cb_ HR0_1); (case side4 => exact HC0_1.out); (case side5 => exact cb_ HR1); (case side6 => exact HC1.out); rintro e w19 ⟨rfl, hb⟩; refine ⟨_, rfl, ?_⟩; have n0_ := Aside0.mk (blk_below (g := gb212) (o := .cells #[.slice A0_0 l0_0.length c0_0, .slice A0_1 l0_1.length c0_1] 55 (0, 0)) (by (with_reducible repeat (first | refine blk_drewN ?_ _ | refine blk_drew ?_ | refine blk_alloc ?_ _)); exact BK212.out) hb); have n1_ := Aside0.mk (below_step (by repeat (first | (with_reducible first | exact HB.out | apply below_alloc | apply pw_below_drewN | apply below_drew1 | refine below_set ?_ GE212.out) | exact HB.out)) hb); clear BK212; clear HB; have BK212 := n0_; have HB := n1_; clear n0_ n1_; (try clear hb); (try clear hb2); (try clear hk); (try clear hi); have hcz20_0 : w19.cell? ⟨gb212, 0, none⟩ = some (.slice A0_0 l0_0.length c0_0) := (blk_cell BK212.out 0).trans rfl; have hcz20_1 : w19.cell? ⟨gb212, 1, none⟩ = some (.slice A0_1 l0_1.length c0_1) := (blk_cell BK212.out 1).trans rfl; have hfz20_0 := blk_frozen BK212.out 0; have hfz20_1 := blk_frozen BK212.out 1) | (go_at_call 75; (with_reducible refine (spec_l2Values.calls k _ _ l0_0 _ _ l0_1 _ _ l2 false _ ?side1 ?side2 ?side3 ?side4 ?side5 ?side6 A9.out).mono ?_); (case side1 => exact cb_ HR0_0); (case side2 => exact HC0_0.out); (case side3 => exact cb_ HR0_1); (case side4 => exact HC0_1.out); (case side5 => exact cb_ HR2); (case side6 => exact HC2.out); rintro e w21 ⟨rfl, hb⟩; have n0_ := Aside0.mk (blk_below (g := gb212) (o := .cells #[.slice A0_0 l0_0.length c0_0, .slice A0_1 l0_1.length c0_1] 55 (0, 0)) (by (with_reducible repeat (first | refine blk_drewN ?_ _ | refine blk_drew ?_ | refine blk_alloc ?_ _)); exact BK212.out) hb); have n1_ := Aside0.mk (below_step (by repeat (first | (with_reducible first | exact HB.out | apply below_alloc | apply pw_below_drewN | apply below_drew1 | refine below_set ?_ GE212.out) | exact HB.out)) hb); clear BK212; clear HB; have BK212 := n0_; have HB := n1_; clear n0_ n1_; (try clear hb); (try clear hb2); (try clear hk); (try clear hi)))
    go_meet
    case rel => exact ⟨_, (true), (by first | rfl | (simp; done) | (simp [*]; done)), H', ⟨by first | omega | exact Nat.le_refl _⟩, ⟨by (with_reducible repeat (first | refine blk_drewN ?_ _ | refine blk_drew ?_ | refine blk_alloc ?_ _)); exact BK212.out⟩, ⟨by repeat (first | (with_reducible first | exact HB.out | apply below_alloc | apply pw_below_drewN | apply below_drew1 | refine below_set ?_ GE212.out) | exact HB.out)⟩⟩
  ·replace c8 := Bool.eq_false_iff.mpr c8
   subst c8
   have H1 : (spec_IsCostProof.j0 k l1 l2 l3 true l0_0 l0_1) = some (r1, r2) := by rw [if_neg (show ¬ (false = true) by decide)] at H; exact H
   clear H
   have H := H1
   clear H1
   have H' := Aside0.mk H
   clear H
   have hcz22_0 : w6.cell? ⟨gb212, 0, none⟩ = some (.slice A0_0 l0_0.length c0_0) := (blk_cell BK212.out 0).trans rfl
   have hcz22_1 : w6.cell? ⟨gb212, 1, none⟩ = some (.slice A0_1 l0_1.length c0_1) := (blk_cell BK212.out 1).trans rfl
   have hfz22_0 := blk_frozen BK212.out 0
   have hfz22_1 := blk_frozen BK212.out 1
   go_wp2_with (first | ((with_reducible refine gate_callee (f := 74) rfl ?_); refine gL_ (some 12) Try.func74 #[.agg #[.slice A0_0 l0_0.length c0_0, .slice A0_1 l0_1.length c0_1], .slice A1 l1.length c1] ?_ rfl rfl; (with_reducible refine (spec_l11Weighted.calls k _ _ l0_0 _ _ l0_1 _ _ l1 false _ ?side1 ?side2 ?side3 ?side4 ?side5 ?side6 A7.out).mono ?_); (case side1 => exact cb_ HR0_0); (case side2 => exact HC0_0.out); (case side3 => exact cb_ HR0_1); (case side4 => exact HC0_1.out); (case side5 => exact cb_ HR1); (case side6 => exact HC1.out); rintro e w23 ⟨rfl, hb⟩; refine ⟨_, rfl, ?_⟩; have n0_ := Aside0.mk (blk_below (g := gb212) (o := .cells #[.slice A0_0 l0_0.length c0_0, .slice A0_1 l0_1.length c0_1] 55 (0, 0)) (by (with_reducible repeat (first | refine blk_drewN ?_ _ | refine blk_drew ?_ | refine blk_alloc ?_ _)); exact BK212.out) hb); have n1_ := Aside0.mk (below_step (by repeat (first | (with_reducible first | exact HB.out | apply below_alloc | apply pw_below_drewN | apply below_drew1 | refine below_set ?_ GE212.out) | exact HB.out)) hb); clear BK212; clear HB; have BK212 := n0_; have HB := n1_; clear n0_ n1_; (try clear hb); (try clear hb2); (try clear hk); (try clear hi)))
   go_meet
   case rel => exact ⟨_, (true), (by first | rfl | (simp; done) | (simp [*]; done)), H', ⟨by first | omega | exact Nat.le_refl _⟩, ⟨by (with_reducible repeat (first | refine blk_drewN ?_ _ | refine blk_drew ?_ | refine blk_alloc ?_ _)); exact BK212.out⟩, ⟨by repeat (first | (with_reducible first | exact HB.out | apply below_alloc | apply pw_below_drewN | apply below_drew1 | refine below_set ?_ GE212.out) | exact HB.out)⟩⟩
 case rest =>
  clear HC5
  try clear c1
  try clear c2
  try clear p2
  try clear c3
  try clear c4
  try clear c7
  try clear c8
  try clear c10
  try clear hcz12_0
  try clear hcz12_1
  try clear hcz14_0
  try clear hcz14_1
  try clear hcz16_0
  try clear hcz16_1
  try clear hcz18_0
  try clear hcz18_1
  try clear hcz20_0
  try clear hcz20_1
  try clear hcz22_0
  try clear hcz22_1
  try clear hfz12_0
  try clear hfz12_1
  try clear hfz14_0
  try clear hfz14_1
  try clear hfz16_0
  try clear hfz16_1
  try clear hfz18_0
  try clear hfz18_1
  try clear hfz20_0
  try clear hfz20_1
  try clear hfz22_0
  try clear hfz22_1
  obtain ⟨kq, x25_4, rfl, HA, HJ4, BK212, HB⟩ := hcut
  cases kq with
  | zero => exact absurd HA.out (by simp [spec_IsCostProof.j0])
  | succ kj4 =>
   have H := HA.out
   clear HA
   simp only [spec_IsCostProof.j0] at H
   by_cases c24 : x25_4 = true
   ·subst c24
    have H1 : (some (false, false)) = some (r1, r2) := by rw [if_pos rfl] at H; exact H
    clear H
    have H := H1
    clear H1
    simp only [Option.some.injEq, Prod.mk.injEq] at H
    obtain ⟨rfl, rfl⟩ := H
    go_wp2
    go_ret2
    exact ⟨by first | rfl | (simp [errW_none, errW_some] <;> rfl) | (simp [*, errW_none, errW_some] <;> rfl), by repeat (first | (with_reducible first | exact HB.out | apply below_alloc | apply pw_below_drewN | apply below_drew1 | refine below_set ?_ GE212.out) | exact HB.out)⟩
   ·replace c24 := Bool.eq_false_iff.mpr c24
    subst c24
    have H1 : ((spec_l11Fair.f kj4 l0_0 l0_1 l1 l2).bind fun t216 => (if t216 = true then ((spec_l11Cost.f kj4 l0_0 l0_1 l1 l3).bind fun t217 => (if 0 ≤ (wrap64 ((l3.length : Int) - 1)) then (if (wrap64 ((l3.length : Int) - 1)) < (l3.length : Int) then (if 0 ≤ (rd l3 (wrap64 ((l3.length : Int) - 1))) then (if (rd l3 (wrap64 ((l3.length : Int) - 1))) < (l2.length : Int) then (if 0 < (l3.length : Int) then (if 0 ≤ (rd l3 0) then (if (rd l3 0) < (l2.length : Int) then (some ((t217 == (wrap64 ((rd l2 (rd l3 (wrap64 ((l3.length : Int) - 1)))) - (rd l2 (rd l3 0))))), true)) else (none)) else (none)) else (none)) else (none)) else (none)) else (none)) else (none))) else (some (false, true)))) = some (r1, r2) := by rw [if_neg (show ¬ (false = true) by decide)] at H; exact H
    clear H
    have H := H1
    clear H1
    replace H := Option.bind_eq_some_iff.mp H
    obtain ⟨t216, A250, H⟩ := H
    replace H : (if t216 = true then ((spec_l11Cost.f kj4 l0_0 l0_1 l1 l3).bind fun t217 => (if 0 ≤ (wrap64 ((l3.length : Int) - 1)) then (if (wrap64 ((l3.length : Int) - 1)) < (l3.length : Int) then (if 0 ≤ (rd l3 (wrap64 ((l3.length : Int) - 1))) then (if (rd l3 (wrap64 ((l3.length : Int) - 1))) < (l2.length : Int) then (if 0 < (l3.length : Int) then (if 0 ≤ (rd l3 0) then (if (rd l3 0) < (l2.length : Int) then (some ((t217 == (wrap64 ((rd l2 (rd l3 (wrap64 ((l3.length : Int) - 1)))) - (rd l2 (rd l3 0))))), true)) else (none)) else (none)) else (none)) else (none)) else (none)) else (none)) else (none))) else (some (false, true))) = some (r1, r2) := H
    have A25 := Aside0.mk A250
    clear A250
    by_cases c26 : t216 = true
    ·subst c26
     have H1 : ((spec_l11Cost.f kj4 l0_0 l0_1 l1 l3).bind fun t217 => (if 0 ≤ (wrap64 ((l3.length : Int) - 1)) then (if (wrap64 ((l3.length : Int) - 1)) < (l3.length : Int) then (if 0 ≤ (rd l3 (wrap64 ((l3.length : Int) - 1))) then (if (rd l3 (wrap64 ((l3.length : Int) - 1))) < (l2.length : Int) then (if 0 < (l3.length : Int) then (if 0 ≤ (rd l3 0) then (if (rd l3 0) < (l2.length : Int) then (some ((t217 == (wrap64 ((rd l2 (rd l3 (wrap64 ((l3.length : Int) - 1)))) - (rd l2 (rd l3 0))))), true)) else (none)) else (none)) else (none)) else (none)) else (none)) else (none)) else (none))) = some (r1, r2) := by rw [if_pos rfl] at H; exact H
     clear H
     have H := H1
     clear H1
     replace H := Option.bind_eq_some_iff.mp H
     obtain ⟨t217, A270, H⟩ := H
     replace H : (if 0 ≤ (wrap64 ((l3.length : Int) - 1)) then (if (wrap64 ((l3.length : Int) - 1)) < (l3.length : Int) then (if 0 ≤ (rd l3 (wrap64 ((l3.length : Int) - 1))) then (if (rd l3 (wrap64 ((l3.length : Int) - 1))) < (l2.length : Int) then (if 0 < (l3.length : Int) then (if 0 ≤ (rd l3 0) then (if (rd l3 0) < (l2.length : Int) then (some ((t217 == (wrap64 ((rd l2 (rd l3 (wrap64 ((l3.length : Int) - 1)))) - (rd l2 (rd l3 0))))), true)) else (none)) else (none)) else (none)) else (none)) else (none)) else (none)) else (none)) = some (r1, r2) := H
     have A27 := Aside0.mk A270
     clear A270
     obtain ⟨ji28, hji28⟩ : ∃ j_ : Int, (wrap64 ((l3.length : Int) - 1)) = j_ := ⟨_, rfl⟩
     replace H : (if 0 ≤ (ji28) then (if (ji28) < (l3.length : Int) then (if 0 ≤ (rd l3 (ji28)) then (if (rd l3 (ji28)) < (l2.length : Int) then (if 0 < (l3.length : Int) then (if 0 ≤ (rd l3 0) then (if (rd l3 0) < (l2.length : Int) then (some ((t217 == (wrap64 ((rd l2 (rd l3 (ji28))) - (rd l2 (rd l3 0))))), true)) else (none)) else (none)) else (none)) else (none)) else (none)) else (none)) else (none)) = some (r1, r2) := by first | (rw [hji28] at H; exact H) | (simp only [hji28] at H ⊢; exact H)
     (try rw [hji28] at A25)
     (try rw [hji28] at A27)
     have hji28w : (IntKind.i64.wrap ((l3.length : Int) - 1)) = ji28 := (i64_w _).trans hji28
     by_cases c29 : 0 ≤ (ji28)
     ·rw [if_pos c29] at H
      have c29b0 : decide (0 ≤ (ji28)) = true := decide_eq_true c29
      clear c29
      by_cases c30 : (ji28) < (l3.length : Int)
      ·rw [if_pos c30] at H
       have c30b0 : decide ((ji28) < (l3.length : Int)) = true := decide_eq_true c30
       clear c30
       by_cases c31 : 0 ≤ (rd l3 (ji28))
       ·rw [if_pos c31] at H
        have c31b0 : decide (0 ≤ (rd l3 (ji28))) = true := decide_eq_true c31
        clear c31
        by_cases c32 : (rd l3 (ji28)) < (l2.length : Int)
        ·rw [if_pos c32] at H
         have c32b0 : decide ((rd l3 (ji28)) < (l2.length : Int)) = true := decide_eq_true c32
         clear c32
         by_cases c33 : 0 < (l3.length : Int)
         ·rw [if_pos c33] at H
          have c33b0 : decide (0 < (l3.length : Int)) = true := decide_eq_true c33
          have c33b1 : decide (0 < l3.length) = true := decide_eq_true (by omega)
          clear c33
          by_cases c34 : 0 ≤ (rd l3 0)
          ·rw [if_pos c34] at H
           have c34b0 : decide (0 ≤ (rd l3 0)) = true := decide_eq_true c34
           clear c34
           by_cases c35 : (rd l3 0) < (l2.length : Int)
           ·rw [if_pos c35] at H
            have c35b0 : decide ((rd l3 0) < (l2.length : Int)) = true := decide_eq_true c35
            clear c35
            simp only [Option.some.injEq, Prod.mk.injEq] at H
            obtain ⟨rfl, rfl⟩ := H
            try go_wp2
            have n0_ := Aside0.mk (blk_drew BK212.out)
            have n1_ := Aside0.mk (below_drew1 HB.out)
            clear BK212
            clear HB
            have BK212 := n0_
            have HB := n1_
            clear n0_ n1_
            have p218 : 0 ≤ ((ji28) : Int) := od_
            have q218 : (ji28) < (l3.length : Int) := od_
            obtain ⟨ad218, e218, hx218_0⟩ := Kd.at_int HR3.out (ji28) p218 q218
            have hw218_0 := hx218_0
            cases e218
            replace hx218_0 := (HB.out.cell (World.block_lt_of_cell? w _ hx218_0)).trans hx218_0
            replace p218 := eq_true p218
            replace q218 := eq_true q218
            have p219 : 0 ≤ ((rd l3 (ji28)) : Int) := od_
            have q219 : (rd l3 (ji28)) < (l2.length : Int) := od_
            obtain ⟨ad219, e219, hx219_0⟩ := Kd.at_int HR2.out (rd l3 (ji28)) p219 q219
            have hw219_0 := hx219_0
            cases e219
            replace hx219_0 := (HB.out.cell (World.block_lt_of_cell? w _ hx219_0)).trans hx219_0
            replace p219 := eq_true p219
            replace q219 := eq_true q219
            have p220 : 0 ≤ (0 : Int) := (by omega)
            have q220 : 0 < (l3.length : Int) := od_
            obtain ⟨ad220, e220, hx220_0⟩ := Kd.at_int HR3.out 0 p220 q220
            have hw220_0 := hx220_0
            (try rw [show ((0 : Int)).toNat = 0 from rfl] at hw220_0)
            (try rw [show 0 * 1 = 0 from rfl] at hw220_0)
            (try rw [Addr.add_zero'] at hw220_0)
            obtain rfl : ad218 = ad220 := (by injection e220)
            have qi220 : (0 < l3.length) = True := eq_true (by omega)
            (try rw [show ((0 : Int)).toNat = 0 from rfl] at hx220_0)
            (try rw [Addr.add_zero'] at hx220_0)
            replace hx220_0 := (HB.out.cell (World.block_lt_of_cell? w _ hx220_0)).trans hx220_0
            replace p220 := eq_true p220
            replace q220 := eq_true q220
            have p221 : 0 ≤ ((rd l3 0) : Int) := od_
            have q221 : (rd l3 0) < (l2.length : Int) := od_
            obtain ⟨ad221, e221, hx221_0⟩ := Kd.at_int HR2.out (rd l3 0) p221 q221
            have hw221_0 := hx221_0
            obtain rfl : ad219 = ad221 := (by injection e221)
            replace hx221_0 := (HB.out.cell (World.block_lt_of_cell? w _ hx221_0)).trans hx221_0
            replace p221 := eq_true p221
            replace q221 := eq_true q221
            refine start_ (n := 29) (S := fun w' => w'.cell? ⟨gb212, 0, none⟩ = some (.slice A0_0 l0_0.length c0_0) ∧ w'.cell? ⟨gb212, 1, none⟩ = some (.slice A0_1 l0_1.length c0_1) ∧ w'.cell? (ad218.add ((ji28)).toNat) = some (.int .i64 (rd l3 (ji28))) ∧ w'.cell? (ad219.add ((rd l3 (ji28))).toNat) = some (.int .i64 (rd l2 (rd l3 (ji28)))) ∧ w'.cell? ad218 = some (.int .i64 (rd l3 0)) ∧ w'.cell? (ad219.add ((rd l3 0)).toNat) = some (.int .i64 (rd l2 (rd l3 0)))) (ds := []) (bm 29 0) (by kernel_rfl) rfl rfl ⟨(blk_cell BK212.out 0).trans rfl, (blk_cell BK212.out 1).trans rfl, ((HB.out.cell (World.block_lt_of_cell? w _ hw218_0)).trans hw218_0), ((HB.out.cell (World.block_lt_of_cell? w _ hw219_0)).trans hw219_0), ((HB.out.cell (World.block_lt_of_cell? w _ hw220_0)).trans hw220_0), ((HB.out.cell (World.block_lt_of_cell? w _ hw221_0)).trans hw221_0)⟩ (fun hHeld => ?_); refine with_tabW spec_IsCostProof.tab3 spec_IsCostProof.bits3 (fun HT_ HW_ => ?_)
            generalize wc.drew = w36 at BK212 HB hx218_0 hx219_0 hx220_0 hx221_0 hHeld ⊢
            refine pa_ 1 (some 27) (bm 29 2) rfl rfl HT_.out ?_
            refine pa_ 2 (some 28) (bm 29 6) rfl rfl HT_.out ?_
            refine take_ (i := 0) (N := some 26) (v := ?_) (a' := ?_) (bm 29 7) rfl rfl (take_ofW HT_.out HW_.out (by kernel_rfl)) (fun _ _ _ h => h) (Or.inl ⟨by rfl, ?_⟩) hHeld ?_ ?_
            rotate_left
            ·rintro w' ⟨s0, s1, s2, s3, s4, s5⟩
             go_simp
             with_reducible rfl
            rotate_left
            ·simp only [Act.put, List.setIfInBounds_toArray, List.set_cons_zero, List.set_cons_succ, i64_w, i32_w]
             rfl
            refine one_ (i := 3) (N := some 29) (bm 29 15) rfl rfl (one_of HT_.out (by kernel_rfl)) (by decide) (fun K hK => ?_)
            refine goes_ Try.func76 (by kernel_rfl) rfl #[.agg #[.slice A0_0 l0_0.length c0_0, .slice A0_1 l0_1.length c0_1], .slice A1 l1.length c1, .slice (some ad219) l2.length c2] (by rfl) rfl rfl (by (try simp only [List.map_toArray, List.map_cons, List.map_nil]); first | done | rfl | (simp only [List.length_drop, List.length_take]; rfl)) ?_
            with_reducible refine (spec_l11Fair.calls kj4 _ _ l0_0 _ _ l0_1 _ _ l1 _ _ l2 true _ ?side1 ?side2 ?side3 ?side4 ?side5 ?side6 ?side7 ?side8 A25.out).mono ?_
            (case side1 => exact cb_ HR0_0)
            (case side2 => exact HC0_0.out)
            (case side3 => exact cb_ HR0_1)
            (case side4 => exact HC0_1.out)
            (case side5 => exact cb_ HR1)
            (case side6 => exact HC1.out)
            (case side7 => exact cb_ HR2)
            (case side8 => exact HC2.out)
            rintro e w37 ⟨rfl, hb⟩
            refine ⟨_, rfl, ?_⟩
            have n0_ := Aside0.mk (blk_below (g := gb212) (o := .cells #[.slice A0_0 l0_0.length c0_0, .slice A0_1 l0_1.length c0_1] 55 (0, 0)) (by (with_reducible repeat (first | refine blk_drewN ?_ _ | refine blk_drew ?_ | refine blk_alloc ?_ _)); exact BK212.out) hb)
            have n1_ := Aside0.mk (below_step (by repeat (first | (with_reducible first | exact HB.out | apply below_alloc | apply pw_below_drewN | apply below_drew1 | refine below_set ?_ GE212.out) | exact HB.out)) hb)
            clear BK212
            clear HB
            have BK212 := n0_
            have HB := n1_
            clear n0_ n1_
            (try clear hb)
            (try clear hb2)
            (try clear hk)
            (try clear hi)
            refine hK.out _ _ ⟨(blk_cell BK212.out 0).trans rfl, (blk_cell BK212.out 1).trans rfl, ((HB.out.cell (World.block_lt_of_cell? w _ hw218_0)).trans hw218_0), ((HB.out.cell (World.block_lt_of_cell? w _ hw219_0)).trans hw219_0), ((HB.out.cell (World.block_lt_of_cell? w _ hw220_0)).trans hw220_0), ((HB.out.cell (World.block_lt_of_cell? w _ hw221_0)).trans hw221_0)⟩ (fun hHeld => ?_)
            clear hK K
            refine norm_ (a' := ?_) ?_ ?_
            rotate_left
            ·show Act.put _ (some 29) _ = _
             simp only [Act.put, List.setIfInBounds_toArray, List.set_cons_zero, List.set_cons_succ, i64_w, i32_w]
             rfl
            refine pa_ 4 (some 30) (bm 29 31) rfl rfl HT_.out ?_
            refine pa_ 6 (some 32) (bm 29 95) rfl rfl HT_.out ?_
            refine pa_ 7 (some 33) (bm 29 223) rfl rfl HT_.out ?_
            refine pa_ 9 (some 35) (bm 29 735) rfl rfl HT_.out ?_
            refine pa_ 10 (some 36) (bm 29 1759) rfl rfl HT_.out ?_
            refine pa_ 11 (some 37) (bm 29 3807) rfl rfl HT_.out ?_
            refine pa_ 12 (some 38) (bm 29 7903) rfl rfl HT_.out ?_
            refine pa_ 13 (some 39) (bm 29 16095) rfl rfl HT_.out ?_
            refine pa_ 14 (some 40) (bm 29 32479) rfl rfl HT_.out ?_
            refine pa_ 18 (some 44) (bm 29 294623) rfl rfl HT_.out ?_
            refine pa_ 19 (some 45) (bm 29 818911) rfl rfl HT_.out ?_
            refine pa_ 20 (some 46) (bm 29 1867487) rfl rfl HT_.out ?_
            refine take_ (i := 5) (N := some 31) (v := ?_) (a' := ?_) (bm 29 1867519) rfl rfl (take_ofW HT_.out HW_.out (by kernel_rfl)) (fun _ _ _ h => h) (Or.inl ⟨by rfl, ?_⟩) hHeld ?_ ?_
            rotate_left
            ·rintro w' ⟨s0, s1, s2, s3, s4, s5⟩
             go_simp
             with_reducible rfl
            rotate_left
            ·simp only [Act.put, List.setIfInBounds_toArray, List.set_cons_zero, List.set_cons_succ, i64_w, i32_w]
             rfl
            refine take_ (i := 15) (N := some 41) (v := ?_) (a' := ?_) (bm 29 1900287) rfl rfl (take_ofW HT_.out HW_.out (by kernel_rfl)) (fun _ _ _ h => h) (Or.inl ⟨by rfl, ?_⟩) hHeld ?_ ?_
            rotate_left
            ·rintro w' ⟨s0, s1, s2, s3, s4, s5⟩
             go_simp
             with_reducible rfl
            rotate_left
            ·simp only [Act.put, List.setIfInBounds_toArray, List.set_cons_zero, List.set_cons_succ, i64_w, i32_w]
             rfl
            refine pa_ 16 (some 42) (bm 29 1965823) rfl rfl HT_.out ?_
            refine take_ (i := 17) (N := some 43) (v := ?_) (a' := ?_) (bm 29 2096895) rfl rfl (take_ofW HT_.out HW_.out (by kernel_rfl)) (fun _ _ _ h => h) (Or.inl ⟨by rfl, ?_⟩) hHeld ?_ ?_
            rotate_left
            ·rintro w' ⟨s0, s1, s2, s3, s4, s5⟩
             go_simp
             with_reducible rfl
            rotate_left
            ·simp only [Act.put, List.setIfInBounds_toArray, List.set_cons_zero, List.set_cons_succ, i64_w, i32_w]
             rfl
            refine take_ (i := 21) (N := some 47) (v := ?_) (a' := ?_) (bm 29 4194047) rfl rfl (take_ofW HT_.out HW_.out (by kernel_rfl)) (fun _ _ _ h => h) (Or.inl ⟨by rfl, ?_⟩) hHeld ?_ ?_
            rotate_left
            ·rintro w' ⟨s0, s1, s2, s3, s4, s5⟩
             go_simp
             with_reducible rfl
            rotate_left
            ·simp only [Act.put, List.setIfInBounds_toArray, List.set_cons_zero, List.set_cons_succ, i64_w, i32_w]
             rfl
            refine pa_ 22 (some 48) (bm 29 8388351) rfl rfl HT_.out ?_
            refine take_ (i := 23) (N := some 49) (v := ?_) (a' := ?_) (bm 29 16776959) rfl rfl (take_ofW HT_.out HW_.out (by kernel_rfl)) (fun _ _ _ h => h) (Or.inl ⟨by rfl, ?_⟩) hHeld ?_ ?_
            rotate_left
            ·rintro w' ⟨s0, s1, s2, s3, s4, s5⟩
             go_simp
             with_reducible rfl
            rotate_left
            ·simp only [Act.put, List.setIfInBounds_toArray, List.set_cons_zero, List.set_cons_succ, i64_w, i32_w]
             rfl
            refine pa_ 24 (some 50) (bm 29 33554175) rfl rfl HT_.out ?_
            refine one_ (i := 8) (N := some 34) (bm 29 33554431) rfl rfl (one_of HT_.out (by kernel_rfl)) (by decide) (fun K hK => ?_)
            refine goes_ Try.func87 (by kernel_rfl) rfl #[.agg #[.slice A0_0 l0_0.length c0_0, .slice A0_1 l0_1.length c0_1], .slice A1 l1.length c1, .slice (some ad218) l3.length c3] (by rfl) rfl rfl (by (try simp only [List.map_toArray, List.map_cons, List.map_nil]); first | done | rfl | (simp only [List.length_drop, List.length_take]; rfl)) ?_
            with_reducible refine (spec_l11Cost.calls kj4 _ _ l0_0 _ _ l0_1 _ _ l1 _ _ l3 t217 _ ?side1 ?side2 ?side3 ?side4 ?side5 ?side6 ?side7 ?side8 A27.out).mono ?_
            (case side1 => exact cb_ HR0_0)
            (case side2 => exact HC0_0.out)
            (case side3 => exact cb_ HR0_1)
            (case side4 => exact HC0_1.out)
            (case side5 => exact cb_ HR1)
            (case side6 => exact HC1.out)
            (case side7 => exact cb_ HR3)
            (case side8 => exact HC3.out)
            rintro e w38 ⟨rfl, hb⟩
            refine ⟨_, rfl, ?_⟩
            have n0_ := Aside0.mk (blk_below (g := gb212) (o := .cells #[.slice A0_0 l0_0.length c0_0, .slice A0_1 l0_1.length c0_1] 55 (0, 0)) (by (with_reducible repeat (first | refine blk_drewN ?_ _ | refine blk_drew ?_ | refine blk_alloc ?_ _)); exact BK212.out) hb)
            have n1_ := Aside0.mk (below_step (by repeat (first | (with_reducible first | exact HB.out | apply below_alloc | apply pw_below_drewN | apply below_drew1 | refine below_set ?_ GE212.out) | exact HB.out)) hb)
            clear BK212
            clear HB
            have BK212 := n0_
            have HB := n1_
            clear n0_ n1_
            (try clear hb)
            (try clear hb2)
            (try clear hk)
            (try clear hi)
            refine hK.out _ _ ⟨(blk_cell BK212.out 0).trans rfl, (blk_cell BK212.out 1).trans rfl, ((HB.out.cell (World.block_lt_of_cell? w _ hw218_0)).trans hw218_0), ((HB.out.cell (World.block_lt_of_cell? w _ hw219_0)).trans hw219_0), ((HB.out.cell (World.block_lt_of_cell? w _ hw220_0)).trans hw220_0), ((HB.out.cell (World.block_lt_of_cell? w _ hw221_0)).trans hw221_0)⟩ (fun hHeld => ?_)
            clear hK K
            refine norm_ (a' := ?_) ?_ ?_
            rotate_left
            ·show Act.put _ (some 34) _ = _
             simp only [Act.put, List.setIfInBounds_toArray, List.set_cons_zero, List.set_cons_succ, i64_w, i32_w]
             rfl
            refine pa_ 25 (some 51) (bm 29 67108863) rfl rfl HT_.out ?_
            refine pa_ 26 (some 52) (bm 29 134217727) rfl rfl HT_.out ?_
            refine pa_ 27 (some 8) (bm 29 268435455) rfl rfl HT_.out ?_
            refine pa_ 28 (some 9) (bm 29 536870911) rfl rfl HT_.out ?_
            refine done_ (done_of HT_.out (by kernel_rfl)) ?_
            try go_wp2
            go_ret2
            exact ⟨by first | rfl | (simp [errW_none, errW_some] <;> rfl) | (simp only [← hji28]; first | rfl | (simp [errW_none, errW_some] <;> rfl)) | (simp [*, errW_none, errW_some] <;> rfl), by repeat (first | (with_reducible first | exact HB.out | apply below_alloc | apply pw_below_drewN | apply below_drew1 | refine below_set ?_ GE212.out) | exact HB.out)⟩
           ·rw [if_neg c35] at H
            exact absurd H (by simp)
          ·rw [if_neg c34] at H
           exact absurd H (by simp)
         ·rw [if_neg c33] at H
          exact absurd H (by simp)
        ·rw [if_neg c32] at H
         exact absurd H (by simp)
       ·rw [if_neg c31] at H
        exact absurd H (by simp)
      ·rw [if_neg c30] at H
       exact absurd H (by simp)
     ·rw [if_neg c29] at H
      exact absurd H (by simp)
    ·replace c26 := Bool.eq_false_iff.mpr c26
     subst c26
     have H1 : (some (false, true)) = some (r1, r2) := by rw [if_neg (show ¬ (false = true) by decide)] at H; exact H
     clear H
     have H := H1
     clear H1
     simp only [Option.some.injEq, Prod.mk.injEq] at H
     obtain ⟨rfl, rfl⟩ := H
     try go_wp2
     have n0_ := Aside0.mk (blk_drew BK212.out)
     have n1_ := Aside0.mk (below_drew1 HB.out)
     clear BK212
     clear HB
     have BK212 := n0_
     have HB := n1_
     clear n0_ n1_
     refine start_ (n := 29) (S := fun w' => w'.cell? ⟨gb212, 0, none⟩ = some (.slice A0_0 l0_0.length c0_0) ∧ w'.cell? ⟨gb212, 1, none⟩ = some (.slice A0_1 l0_1.length c0_1)) (ds := []) (bm 29 0) (by kernel_rfl) rfl rfl ⟨(blk_cell BK212.out 0).trans rfl, (blk_cell BK212.out 1).trans rfl⟩ (fun hHeld => ?_); refine with_tabW spec_IsCostProof.tab3 spec_IsCostProof.bits3 (fun HT_ HW_ => ?_)
     generalize wc.drew = w39 at BK212 HB hHeld ⊢
     refine pa_ 1 (some 27) (bm 29 2) rfl rfl HT_.out ?_
     refine pa_ 2 (some 28) (bm 29 6) rfl rfl HT_.out ?_
     refine take_ (i := 0) (N := some 26) (v := ?_) (a' := ?_) (bm 29 7) rfl rfl (take_ofW HT_.out HW_.out (by kernel_rfl)) (fun _ _ _ h => h) (Or.inl ⟨by rfl, ?_⟩) hHeld ?_ ?_
     rotate_left
     ·rintro w' ⟨s0, s1⟩
      go_simp
      with_reducible rfl
     rotate_left
     ·simp only [Act.put, List.setIfInBounds_toArray, List.set_cons_zero, List.set_cons_succ, i64_w, i32_w]
      rfl
     refine one_ (i := 3) (N := some 29) (bm 29 15) rfl rfl (one_of HT_.out (by kernel_rfl)) (by decide) (fun K hK => ?_)
     refine goes_ Try.func76 (by kernel_rfl) rfl #[.agg #[.slice A0_0 l0_0.length c0_0, .slice A0_1 l0_1.length c0_1], .slice A1 l1.length c1, .slice A2 l2.length c2] (by rfl) rfl rfl (by (try simp only [List.map_toArray, List.map_cons, List.map_nil]); first | done | rfl | (simp only [List.length_drop, List.length_take]; rfl)) ?_
     with_reducible refine (spec_l11Fair.calls kj4 _ _ l0_0 _ _ l0_1 _ _ l1 _ _ l2 false _ ?side1 ?side2 ?side3 ?side4 ?side5 ?side6 ?side7 ?side8 A25.out).mono ?_
     (case side1 => exact cb_ HR0_0)
     (case side2 => exact HC0_0.out)
     (case side3 => exact cb_ HR0_1)
     (case side4 => exact HC0_1.out)
     (case side5 => exact cb_ HR1)
     (case side6 => exact HC1.out)
     (case side7 => exact cb_ HR2)
     (case side8 => exact HC2.out)
     rintro e w40 ⟨rfl, hb⟩
     refine ⟨_, rfl, ?_⟩
     have n0_ := Aside0.mk (blk_below (g := gb212) (o := .cells #[.slice A0_0 l0_0.length c0_0, .slice A0_1 l0_1.length c0_1] 55 (0, 0)) (by (with_reducible repeat (first | refine blk_drewN ?_ _ | refine blk_drew ?_ | refine blk_alloc ?_ _)); exact BK212.out) hb)
     have n1_ := Aside0.mk (below_step (by repeat (first | (with_reducible first | exact HB.out | apply below_alloc | apply pw_below_drewN | apply below_drew1 | refine below_set ?_ GE212.out) | exact HB.out)) hb)
     clear BK212
     clear HB
     have BK212 := n0_
     have HB := n1_
     clear n0_ n1_
     (try clear hb)
     (try clear hb2)
     (try clear hk)
     (try clear hi)
     refine hK.out _ _ ⟨(blk_cell BK212.out 0).trans rfl, (blk_cell BK212.out 1).trans rfl⟩ (fun hHeld => ?_)
     clear hK K
     refine norm_ (a' := ?_) ?_ ?_
     rotate_left
     ·show Act.put _ (some 29) _ = _
      simp only [Act.put, List.setIfInBounds_toArray, List.set_cons_zero, List.set_cons_succ, i64_w, i32_w]
      rfl
     refine pa_ 4 (some 30) (bm 29 31) rfl rfl HT_.out ?_
     refine pu_ 5 (some 31) (bm 29 63) rfl rfl HT_.out ?_
     refine pu_ 6 (some 32) (bm 29 127) rfl rfl HT_.out ?_
     refine pu_ 7 (some 33) (bm 29 255) rfl rfl HT_.out ?_
     refine pu_ 8 (some 34) (bm 29 511) rfl rfl HT_.out ?_
     refine pu_ 9 (some 35) (bm 29 1023) rfl rfl HT_.out ?_
     refine pu_ 10 (some 36) (bm 29 2047) rfl rfl HT_.out ?_
     refine pu_ 11 (some 37) (bm 29 4095) rfl rfl HT_.out ?_
     refine pu_ 12 (some 38) (bm 29 8191) rfl rfl HT_.out ?_
     refine pu_ 13 (some 39) (bm 29 16383) rfl rfl HT_.out ?_
     refine pu_ 14 (some 40) (bm 29 32767) rfl rfl HT_.out ?_
     refine pu_ 15 (some 41) (bm 29 65535) rfl rfl HT_.out ?_
     refine pu_ 16 (some 42) (bm 29 131071) rfl rfl HT_.out ?_
     refine pu_ 17 (some 43) (bm 29 262143) rfl rfl HT_.out ?_
     refine pu_ 18 (some 44) (bm 29 524287) rfl rfl HT_.out ?_
     refine pu_ 19 (some 45) (bm 29 1048575) rfl rfl HT_.out ?_
     refine pu_ 20 (some 46) (bm 29 2097151) rfl rfl HT_.out ?_
     refine pu_ 21 (some 47) (bm 29 4194303) rfl rfl HT_.out ?_
     refine pu_ 22 (some 48) (bm 29 8388607) rfl rfl HT_.out ?_
     refine pu_ 23 (some 49) (bm 29 16777215) rfl rfl HT_.out ?_
     refine pu_ 24 (some 50) (bm 29 33554431) rfl rfl HT_.out ?_
     refine pu_ 25 (some 51) (bm 29 67108863) rfl rfl HT_.out ?_
     refine pa_ 26 (some 52) (bm 29 134217727) rfl rfl HT_.out ?_
     refine pa_ 27 (some 8) (bm 29 268435455) rfl rfl HT_.out ?_
     refine pa_ 28 (some 9) (bm 29 536870911) rfl rfl HT_.out ?_
     refine done_ (done_of HT_.out (by kernel_rfl)) ?_
     try go_wp2
     go_ret2
     exact ⟨by first | rfl | (simp [errW_none, errW_some] <;> rfl) | (simp [*, errW_none, errW_some] <;> rfl), by repeat (first | (with_reducible first | exact HB.out | apply below_alloc | apply pw_below_drewN | apply below_drew1 | refine below_set ?_ GE212.out) | exact HB.out)⟩

/-! ### cmp_Or_int: function 159 -/
def cmp_Or_int.l0 : Nat → Int → List Int → Int → Int → Option (Int)
 | 0, _, _, _, _ => none
 | k + 1, x3, x6, x7, x8 => if x8 < x7 then (if 0 ≤ x8 then (if x8 < (x6.length : Int) then (if (rd x6 x8) = x3 then (cmp_Or_int.l0 k x3 x6 x7 (wrap64 (x8 + 1))) else (some (rd x6 x8))) else (none)) else (none)) else (some x3)
def cmp_Or_int.f (k : Nat) (l0 : List Int) : Option (Int) := cmp_Or_int.l0 k 0 l0 (l0.length : Int) 0
set_option maxHeartbeats 8000000 in
set_option maxRecDepth 100000 in
theorem cmp_Or_int.calls (k : Nat) (A0 : Option Addr) (c0 : Nat) (l0 : List Int) (r : Int) (w : World) (hr0 : Kd.C (Kd.int .i64) w A0 l0.length l0) (hc0 : l0.length ≤ c0) (h : cmp_Or_int.f k l0 = some r) :
  Calls Try.prog 159 #[.slice A0 l0.length c0] w fun e w' => e = .returned (.int .i64 r) ∧ Drawn0 w w' := by
 have HR0 := Aside0.mk hr0
 have HC0 := Aside0.mk hc0
 clear hr0 hc0
 have H : (cmp_Or_int.l0 k 0 l0 (l0.length : Int) 0) = some r := h
 clear h
 have H' := Aside0.mk H
 clear H
 go_enter Try.func159, Try.ntmps159
 go_wp2
 go_loopg [8] k (fun kq v8 w' => ∃ (x8_1 : Int), v8 = .int .i64 x8_1 ∧ Aside0 (cmp_Or_int.l0 kq 0 l0 (l0.length : Int) x8_1 = some r) ∧ Aside0 (kq ≤ k) ∧ Drawn0 w w')
 case atStart => exact ⟨(0), (by first | rfl | (simp; done) | (simp [*]; done)), H', ⟨Nat.le_refl _⟩, by repeat (first | exact Drawn0.refl _ | apply Drawn0.step)⟩
 case round =>
  clear H'
  try clear c1
  obtain ⟨x8_1, rfl, HA, HK1, ⟨m1, rfl⟩⟩ := hrel
  cases gk with
  | zero => exact absurd HA.out (by simp [cmp_Or_int.l0])
  | succ k1 =>
   have H := HA.out
   clear HA
   simp only [cmp_Or_int.l0] at H
   by_cases c2 : x8_1 < (l0.length : Int)
   ·rw [if_pos c2] at H
    have c2b0 : decide (x8_1 < (l0.length : Int)) = true := decide_eq_true c2
    clear c2
    by_cases c3 : 0 ≤ x8_1
    ·rw [if_pos c3] at H
     have c3b0 : decide (0 ≤ x8_1) = true := decide_eq_true c3
     clear c3
     by_cases c4 : x8_1 < (l0.length : Int)
     ·rw [if_pos c4] at H
      have c4b0 : decide (x8_1 < (l0.length : Int)) = true := decide_eq_true c4
      clear c4
      by_cases c5 : (rd l0 x8_1) = 0
      ·rw [if_pos c5] at H
       have c5b0 : ((rd l0 x8_1) == 0) = true := beq_iff_eq.mpr c5
       have c5b1 : ((rd l0 x8_1) != 0) = false := bne_eq_false_iff_eq.mpr c5
       clear c5
       have H' := Aside0.mk H
       clear H
       have p222 : 0 ≤ (x8_1 : Int) := od_
       have q222 : x8_1 < (l0.length : Int) := od_
       obtain ⟨ad222, e222, hx222_0⟩ := Kd.at_int HR0.out x8_1 p222 q222
       cases e222
       replace p222 := eq_true p222
       replace q222 := eq_true q222
       go_wp2
       go_roundg k1
       case measure => have := HK1.out; omega
       case rel => exact ⟨(wrap64 (x8_1 + 1)), (by first | rfl | (simp; done) | (simp [*]; done)), H', ⟨by have := HK1.out; omega⟩, by repeat (first | exact Drawn0.refl _ | apply Drawn0.step)⟩
      ·rw [if_neg c5] at H
       have c5b0 : ((rd l0 x8_1) == 0) = false := beq_eq_false_iff_ne.mpr c5
       have c5b1 : ((rd l0 x8_1) != 0) = true := bne_iff_ne.mpr c5
       obtain rfl := Option.some.inj H
       have p222 : 0 ≤ (x8_1 : Int) := od_
       have q222 : x8_1 < (l0.length : Int) := od_
       obtain ⟨ad222, e222, hx222_0⟩ := Kd.at_int HR0.out x8_1 p222 q222
       cases e222
       replace p222 := eq_true p222
       replace q222 := eq_true q222
       go_wp2
       go_ret
       exact ⟨by first | rfl | (simp; done) | (simp [*]; done), by repeat (first | exact Drawn0.refl _ | apply Drawn0.step)⟩
     ·rw [if_neg c4] at H
      exact absurd H (by simp)
    ·rw [if_neg c3] at H
     exact absurd H (by simp)
   ·rw [if_neg c2] at H
    have c2b0 : decide (x8_1 < (l0.length : Int)) = false := decide_eq_false c2
    clear c2
    obtain rfl := Option.some.inj H
    go_wp2
    go_ret
    exact ⟨by first | rfl | (simp; done) | (simp [*]; done), by repeat (first | exact Drawn0.refl _ | apply Drawn0.step)⟩

/-! ### cmp_isNaN_int: function 163 -/
def cmp_isNaN_int.f (a0 : Int) : Option (Bool) := some (a0 != a0)
set_option maxHeartbeats 8000000 in
set_option maxRecDepth 100000 in
theorem cmp_isNaN_int.calls (a0 : Int) (r : Bool) (w : World) (h : cmp_isNaN_int.f a0 = some r) :
  Calls Try.prog 163 #[.int .i64 a0] w fun e w' => e = .returned (.bool r) ∧ Drawn0 w w' := by
 have H : (some (a0 != a0)) = some r := h
 clear h
 obtain rfl := Option.some.inj H
 go_enter Try.func163, Try.ntmps163
 go_wp2
 go_ret
 exact ⟨by first | rfl | (simp; done) | (simp [*]; done), by repeat (first | exact Drawn0.refl _ | apply Drawn0.step)⟩

end Go.Proofs.Ytiiaadgibkpaaaa.PFnExactIsCostProof
