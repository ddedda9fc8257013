-- written by wip/tools of this repo out of the translation (a turned copy of the kit's print): checked by Lean alone
import Derived.Test.YtiiaadgibkpaaaaPFnExactAfterMapx0
import Derived.Test.YtiiaadgibkpaaaaPFnExactAfterMapx3
import Derived.Test.YtiiaadgibkpaaaaPFnExactAfterMapx4
namespace Go.Proofs.Ytiiaadgibkpaaaa.PFnExactAfterMap
open Go.RowKit Go.Proofs.YtiiaadgibkpaaaaW.PrintWords Go.Proofs.YtiiaadgibkpaaaaW.PrintLast Go.Proofs.YtiiaadgibkpaaaaW.PrintMore
attribute [local go_sem] max2_int min2_int max_two min_two max_three min_three max_four min_four   -- for this text's walks alone
set_option linter.unusedVariables false
set_option linter.unusedSimpArgs false

/-! ### spec_l2Good: function 65 -/
def spec_l2Good.f (k : Nat) (a0_0 : Int) (l0_1 : List (S78)) : Option (Bool) := (spec_l1In.f a0_0 0 8).bind fun t143 => (if t143 = true then ((spec_l2Pairs.f k l0_1 a0_0).bind fun t144 => (some t144)) else (some false))
set_option maxHeartbeats 8000000 in
set_option maxRecDepth 100000 in
theorem spec_l2Good.calls (k : Nat) (a0_0 : Int) (A0_1 : Option Addr) (c0_1 : Nat) (l0_1 : List (S78)) (r : Bool) (w : World) (hr0_1 : Kd.C k78 w A0_1 l0_1.length l0_1) (hc0_1 : l0_1.length ≤ c0_1) (h : spec_l2Good.f k a0_0 l0_1 = some r) :
  Calls Try.prog 65 #[.agg #[.int .i64 a0_0, .slice A0_1 l0_1.length c0_1]] w fun e w' => e = .returned (.bool r) ∧ Below w.heap.size w w' := by
 have hu29 := Try.underlying29
 have HR0_1 := Aside0.mk hr0_1
 have HC0_1 := Aside0.mk hc0_1
 clear hr0_1 hc0_1
 have HB := Aside0.mk (Below.refl w.heap.size w)
 have H : ((spec_l1In.f a0_0 0 8).bind fun t143 => (if t143 = true then ((spec_l2Pairs.f k l0_1 a0_0).bind fun t144 => (some t144)) else (some false))) = some r := h
 clear h
 replace H := Option.bind_eq_some_iff.mp H
 obtain ⟨t143, A20, H⟩ := H
 (try dsimp only at H)
 have A2 := Aside0.mk A20
 clear A20
 by_cases c3 : t143 = true
 ·subst c3
  have H1 : ((spec_l2Pairs.f k l0_1 a0_0).bind fun t144 => (some t144)) = some r := by rw [if_pos rfl] at H; exact H
  clear H
  have H := H1
  clear H1
  replace H := Option.bind_eq_some_iff.mp H
  obtain ⟨t144, A40, H⟩ := H
  (try dsimp only at H)
  have A4 := Aside0.mk A40
  clear A40
  obtain rfl := Option.some.inj H
  go_enter Try.func65, Try.ntmps65
  go_wp2_with (first | ((with_reducible refine gate_dst (N := 1) rfl ?_); refine box_event ?hg (N := 1) ?hd (cs := #[.int .i64 a0_0, .slice A0_1 l0_1.length c0_1]) (t := 29) ?hr ?_; (case hd => rfl); (case hg => rfl); (case hr => first | (go_simp; done) | (go_simp; rfl)); intro gb142 hg w5 hbox hb; have n_ := And.intro (Aside0.mk (below_step bl_ hb)) (And.intro (Aside0.mk (hbox)) (And.intro (Aside0.mk ((by rw [hg]; exact (below_size bl_) : w.heap.size ≤ gb142))) (Aside0.mk ((by rw [hg]; exact (below_size bl_) : w.heap.size ≤ gb142))))); clear HB; obtain ⟨HB, BK142, GW142, GE142⟩ := n_; clear hb hbox hg; have hcz6_0 : w5.cell? ⟨gb142, 0, none⟩ = some (.int .i64 a0_0) := (blk_cell BK142.out 0).trans rfl; have hcz6_1 : w5.cell? ⟨gb142, 1, none⟩ = some (.slice A0_1 l0_1.length c0_1) := (blk_cell BK142.out 1).trans rfl; have hfz6_0 := blk_frozen BK142.out 0; have hfz6_1 := blk_frozen BK142.out 1) | ((with_reducible refine gate_callee (f := 89) rfl ?_); refine gL_ (some 5) Try.func89 #[.int .i64 a0_0, .int .i64 0, .int .i64 8] ?_ rfl rfl; (with_reducible refine (spec_l1In.calls a0_0 0 8 true _ A2.out).mono ?_); rintro e w' ⟨rfl, ⟨nd, rfl⟩⟩; refine ⟨_, rfl, ?_⟩) | (go_at_call 113; (with_reducible refine (spec_l2Pairs.calls k _ _ l0_1 a0_0 t144 _ ?side1 ?side2 A4.out).mono ?_); (case side1 => repeat (first | exact (Kd.C_below HR0_1.out bg_) | (with_reducible refine Kd.C_alloc ?_ _) | (with_reducible refine Kd.C_drewN ?_ _) | (with_reducible refine Kd.C_drew ?_))); (case side2 => exact HC0_1.out); rintro e w7 ⟨rfl, hb⟩; have n_ := And.intro (Aside0.mk (blk_below (g := gb142) (o := .cells #[.int .i64 a0_0, .slice A0_1 l0_1.length c0_1] 29 (0, 0)) (bk_ BK142) hb)) (Aside0.mk (below_step bg_ hb)); clear BK142 HB; obtain ⟨BK142, HB⟩ := n_; (try clear hb); (try clear hb2); (try clear hk); (try clear hi)))
  go_ret
  exact ⟨by first | rfl | (simp [errW_none, errW_some] <;> rfl) | (simp [*, errW_none, errW_some] <;> rfl), by repeat (first | (with_reducible first | exact HB.out | apply below_alloc | apply pw_below_drewN | apply below_drew1 | refine below_set ?_ GE142.out) | exact HB.out)⟩
 ·replace c3 := Bool.eq_false_iff.mpr c3
  subst c3
  have H1 : (some false) = some r := by rw [if_neg (show ¬ (false = true) by decide)] at H; exact H
  clear H
  have H := H1
  clear H1
  obtain rfl := Option.some.inj H
  go_enter Try.func65, Try.ntmps65
  go_wp2_with (first | ((with_reducible refine gate_dst (N := 1) rfl ?_); refine box_event ?hg (N := 1) ?hd (cs := #[.int .i64 a0_0, .slice A0_1 l0_1.length c0_1]) (t := 29) ?hr ?_; (case hd => rfl); (case hg => rfl); (case hr => first | (go_simp; done) | (go_simp; rfl)); intro gb142 hg w8 hbox hb; have n_ := And.intro (Aside0.mk (below_step bl_ hb)) (And.intro (Aside0.mk (hbox)) (And.intro (Aside0.mk ((by rw [hg]; exact (below_size bl_) : w.heap.size ≤ gb142))) (Aside0.mk ((by rw [hg]; exact (below_size bl_) : w.heap.size ≤ gb142))))); clear HB; obtain ⟨HB, BK142, GW142, GE142⟩ := n_; clear hb hbox hg; have hcz9_0 : w8.cell? ⟨gb142, 0, none⟩ = some (.int .i64 a0_0) := (blk_cell BK142.out 0).trans rfl; have hcz9_1 : w8.cell? ⟨gb142, 1, none⟩ = some (.slice A0_1 l0_1.length c0_1) := (blk_cell BK142.out 1).trans rfl; have hfz9_0 := blk_frozen BK142.out 0; have hfz9_1 := blk_frozen BK142.out 1) | ((with_reducible refine gate_callee (f := 89) rfl ?_); refine gL_ (some 5) Try.func89 #[.int .i64 a0_0, .int .i64 0, .int .i64 8] ?_ rfl rfl; (with_reducible refine (spec_l1In.calls a0_0 0 8 false _ A2.out).mono ?_); rintro e w' ⟨rfl, ⟨nd, rfl⟩⟩; refine ⟨_, rfl, ?_⟩))
  go_ret
  exact ⟨by first | rfl | (simp [errW_none, errW_some] <;> rfl) | (simp [*, errW_none, errW_some] <;> rfl), by repeat (first | (with_reducible first | exact HB.out | apply below_alloc | apply pw_below_drewN | apply below_drew1 | refine below_set ?_ GE142.out) | exact HB.out)⟩

/-! ### spec_l10Good: function 57 -/
def spec_l10Good.f (k : Nat) (a0_0 : Int) (l0_1 : List (S78)) (a1_0 : Int) (l1_1 : List (S78)) : Option (Bool) := (spec_l2Good.f k a0_0 l0_1).bind fun t147 => (if t147 = true then ((spec_l2Good.f k a1_0 l1_1).bind fun t148 => (if t148 = true then (some (decide (a0_0 ≤ 6))) else (some false))) else (some false))
set_option maxHeartbeats 8000000 in
set_option maxRecDepth 100000 in
theorem spec_l10Good.calls (k : Nat) (a0_0 : Int) (A0_1 : Option Addr) (c0_1 : Nat) (l0_1 : List (S78)) (a1_0 : Int) (A1_1 : Option Addr) (c1_1 : Nat) (l1_1 : List (S78)) (r : Bool) (w : World) (hr0_1 : Kd.C k78 w A0_1 l0_1.length l0_1) (hc0_1 : l0_1.length ≤ c0_1) (hr1_1 : Kd.C k78 w A1_1 l1_1.length l1_1) (hc1_1 : l1_1.length ≤ c1_1) (h : spec_l10Good.f k a0_0 l0_1 a1_0 l1_1 = some r) :
  Calls Try.prog 57 #[.agg #[.int .i64 a0_0, .slice A0_1 l0_1.length c0_1], .agg #[.int .i64 a1_0, .slice A1_1 l1_1.length c1_1]] w fun e w' => e = .returned (.bool r) ∧ Below w.heap.size w w' := by
 have hu29 := Try.underlying29
 have HR0_1 := Aside0.mk hr0_1
 have HC0_1 := Aside0.mk hc0_1
 clear hr0_1 hc0_1
 have HR1_1 := Aside0.mk hr1_1
 have HC1_1 := Aside0.mk hc1_1
 clear hr1_1 hc1_1
 have HB := Aside0.mk (Below.refl w.heap.size w)
 have H : ((spec_l2Good.f k a0_0 l0_1).bind fun t147 => (if t147 = true then ((spec_l2Good.f k a1_0 l1_1).bind fun t148 => (if t148 = true then (some (decide (a0_0 ≤ 6))) else (some false))) else (some false))) = some r := h
 clear h
 replace H := Option.bind_eq_some_iff.mp H
 obtain ⟨t147, A30, H⟩ := H
 (try dsimp only at H)
 have A3 := Aside0.mk A30
 clear A30
 by_cases c4 : t147 = true
 ·subst c4
  have H1 : ((spec_l2Good.f k a1_0 l1_1).bind fun t148 => (if t148 = true then (some (decide (a0_0 ≤ 6))) else (some false))) = some r := by rw [if_pos rfl] at H; exact H
  clear H
  have H := H1
  clear H1
  replace H := Option.bind_eq_some_iff.mp H
  obtain ⟨t148, A50, H⟩ := H
  (try dsimp only at H)
  have A5 := Aside0.mk A50
  clear A50
  by_cases c6 : t148 = true
  ·subst c6
   have H1 : (some (decide (a0_0 ≤ 6))) = some r := by rw [if_pos rfl] at H; exact H
   clear H
   have H := H1
   clear H1
   obtain rfl := Option.some.inj H
   go_enter Try.func57, Try.ntmps57
   go_wp2_with (first | ((with_reducible refine gate_dst (N := 2) rfl ?_); refine box_event ?hg (N := 2) ?hd (cs := #[.int .i64 a0_0, .slice A0_1 l0_1.length c0_1]) (t := 29) ?hr ?_; (case hd => rfl); (case hg => rfl); (case hr => first | (go_simp; done) | (go_simp; rfl)); intro gb145 hg w7 hbox hb; have n_ := And.intro (Aside0.mk (below_step bl_ hb)) (And.intro (Aside0.mk (hbox)) (And.intro (Aside0.mk ((by rw [hg]; exact (below_size bl_) : w.heap.size ≤ gb145))) (Aside0.mk ((by rw [hg]; exact (below_size bl_) : w.heap.size ≤ gb145))))); clear HB; obtain ⟨HB, BK145, GW145, GE145⟩ := n_; clear hb hbox hg) | ((with_reducible refine gate_dst (N := 3) rfl ?_); refine box_event ?hg (N := 3) ?hd (cs := #[.int .i64 a1_0, .slice A1_1 l1_1.length c1_1]) (t := 29) ?hr ?_; (case hd => rfl); (case hg => rfl); (case hr => first | (go_simp; done) | (go_simp; rfl)); intro gb146 hg w8 hbox hb; have n_ := And.intro (Aside0.mk (blk_below (g := gb145) (o := .cells #[.int .i64 a0_0, .slice A0_1 l0_1.length c0_1] 29 (0, 0)) (bk_ BK145) hb)) (And.intro (Aside0.mk (below_step bg_ hb)) (And.intro (Aside0.mk (hbox)) (And.intro (Aside0.mk ((by rw [hg]; exact (below_size bg_) : w.heap.size ≤ gb146))) (And.intro (Aside0.mk ((by rw [hg]; exact (below_size bg_) : w.heap.size ≤ gb146))) (And.intro (Aside0.mk ((by rw [hg]; exact Nat.ne_of_lt (blk_lt (g := gb145) (o := .cells #[.int .i64 a0_0, .slice A0_1 l0_1.length c0_1] 29 (0, 0)) (bk_ BK145)) : gb145 ≠ gb146))) (Aside0.mk ((by rw [hg]; exact Nat.ne_of_gt (blk_lt (g := gb145) (o := .cells #[.int .i64 a0_0, .slice A0_1 l0_1.length c0_1] 29 (0, 0)) (bk_ BK145)) : gb146 ≠ gb145)))))))); clear BK145 HB; obtain ⟨BK145, HB, BK146, GW146, GE146, NB145_146, NB146_145⟩ := n_; clear hb hbox hg; have hnb9 := NB145_146.out; have hnc9 := NB146_145.out; have hcz10_0 : w8.cell? ⟨gb145, 0, none⟩ = some (.int .i64 a0_0) := (blk_cell BK145.out 0).trans rfl; have hcz10_1 : w8.cell? ⟨gb145, 1, none⟩ = some (.slice A0_1 l0_1.length c0_1) := (blk_cell BK145.out 1).trans rfl; have hfz10_0 := blk_frozen BK145.out 0; have hfz10_1 := blk_frozen BK145.out 1) | ((with_reducible refine gate_callee (f := 65) rfl ?_); refine gL_ (some 6) Try.func65 #[.agg #[.int .i64 a0_0, .slice A0_1 l0_1.length c0_1]] ?_ rfl rfl; (with_reducible refine (spec_l2Good.calls k a0_0 _ _ l0_1 true _ ?side1 ?side2 A3.out).mono ?_); (case side1 => exact cb_ HR0_1); (case side2 => exact HC0_1.out); rintro e w11 ⟨rfl, hb⟩; refine ⟨_, rfl, ?_⟩; have n_ := And.intro (Aside0.mk (blk_below (g := gb145) (o := .cells #[.int .i64 a0_0, .slice A0_1 l0_1.length c0_1] 29 (0, 0)) (bk_ BK145) hb)) (And.intro (Aside0.mk (blk_below (g := gb146) (o := .cells #[.int .i64 a1_0, .slice A1_1 l1_1.length c1_1] 29 (0, 0)) (bk_ BK146) hb)) (Aside0.mk (below_step bg_ hb))); clear BK145 BK146 HB; obtain ⟨BK145, BK146, HB⟩ := n_; (try clear hb); (try clear hb2); (try clear hk); (try clear hi); have hcz12_0 : w11.cell? ⟨gb146, 0, none⟩ = some (.int .i64 a1_0) := (blk_cell BK146.out 0).trans rfl; have hcz12_1 : w11.cell? ⟨gb146, 1, none⟩ = some (.slice A1_1 l1_1.length c1_1) := (blk_cell BK146.out 1).trans rfl; have hfz12_0 := blk_frozen BK146.out 0; have hfz12_1 := blk_frozen BK146.out 1) | (go_at_call 65; (with_reducible refine (spec_l2Good.calls k a1_0 _ _ l1_1 true _ ?side1 ?side2 A5.out).mono ?_); (case side1 => exact cb_ HR1_1); (case side2 => exact HC1_1.out); rintro e w13 ⟨rfl, hb⟩; have n_ := And.intro (Aside0.mk (blk_below (g := gb145) (o := .cells #[.int .i64 a0_0, .slice A0_1 l0_1.length c0_1] 29 (0, 0)) (bk_ BK145) hb)) (And.intro (Aside0.mk (blk_below (g := gb146) (o := .cells #[.int .i64 a1_0, .slice A1_1 l1_1.length c1_1] 29 (0, 0)) (bk_ BK146) hb)) (Aside0.mk (below_step bg_ hb))); clear BK145 BK146 HB; obtain ⟨BK145, BK146, HB⟩ := n_; (try clear hb); (try clear hb2); (try clear hk); (try clear hi); have hcz14_0 : w13.cell? ⟨gb145, 0, none⟩ = some (.int .i64 a0_0) := (blk_cell BK145.out 0).trans rfl; have hcz14_1 : w13.cell? ⟨gb145, 1, none⟩ = some (.slice A0_1 l0_1.length c0_1) := (blk_cell BK145.out 1).trans rfl; have hfz14_0 := blk_frozen BK145.out 0; have hfz14_1 := blk_frozen BK145.out 1))
   go_ret
   exact ⟨by first | rfl | (simp [errW_none, errW_some] <;> rfl) | (simp [*, errW_none, errW_some] <;> rfl), by repeat (first | (with_reducible first | exact HB.out | apply below_alloc | apply pw_below_drewN | apply below_drew1 | refine below_set ?_ GE145.out | refine below_set ?_ GE146.out) | exact HB.out)⟩
  ·replace c6 := Bool.eq_false_iff.mpr c6
   subst c6
   have H1 : (some false) = some r := by rw [if_neg (show ¬ (false = true) by decide)] at H; exact H
   clear H
   have H := H1
   clear H1
   obtain rfl := Option.some.inj H
   go_enter Try.func57, Try.ntmps57
   go_wp2_with (first | ((with_reducible refine gate_dst (N := 2) rfl ?_); refine box_event ?hg (N := 2) ?hd (cs := #[.int .i64 a0_0, .slice A0_1 l0_1.length c0_1]) (t := 29) ?hr ?_; (case hd => rfl); (case hg => rfl); (case hr => first | (go_simp; done) | (go_simp; rfl)); intro gb145 hg w15 hbox hb; have n_ := And.intro (Aside0.mk (below_step bl_ hb)) (And.intro (Aside0.mk (hbox)) (And.intro (Aside0.mk ((by rw [hg]; exact (below_size bl_) : w.heap.size ≤ gb145))) (Aside0.mk ((by rw [hg]; exact (below_size bl_) : w.heap.size ≤ gb145))))); clear HB; obtain ⟨HB, BK145, GW145, GE145⟩ := n_; clear hb hbox hg) | ((with_reducible refine gate_dst (N := 3) rfl ?_); refine box_event ?hg (N := 3) ?hd (cs := #[.int .i64 a1_0, .slice A1_1 l1_1.length c1_1]) (t := 29) ?hr ?_; (case hd => rfl); (case hg => rfl); (case hr => first | (go_simp; done) | (go_simp; rfl)); intro gb146 hg w16 hbox hb; have n_ := And.intro (Aside0.mk (blk_below (g := gb145) (o := .cells #[.int .i64 a0_0, .slice A0_1 l0_1.length c0_1] 29 (0, 0)) (bk_ BK145) hb)) (And.intro (Aside0.mk (below_step bg_ hb)) (And.intro (Aside0.mk (hbox)) (And.intro (Aside0.mk ((by rw [hg]; exact (below_size bg_) : w.heap.size ≤ gb146))) (And.intro (Aside0.mk ((by rw [hg]; exact (below_size bg_) : w.heap.size ≤ gb146))) (And.intro (Aside0.mk ((by rw [hg]; exact Nat.ne_of_lt (blk_lt (g := gb145) (o := .cells #[.int .i64 a0_0, .slice A0_1 l0_1.length c0_1] 29 (0, 0)) (bk_ BK145)) : gb145 ≠ gb146))) (Aside0.mk ((by rw [hg]; exact Nat.ne_of_gt (blk_lt (g := gb145) (o := .cells #[.int .i64 a0_0, .slice A0_1 l0_1.length c0_1] 29 (0, 0)) (bk_ BK145)) : gb146 ≠ gb145)))))))); clear BK145 HB; obtain ⟨BK145, HB, BK146, GW146, GE146, NB145_146, NB146_145⟩ := n_; clear hb hbox hg; have hnb17 := NB145_146.out; have hnc17 := NB146_145.out; have hcz18_0 : w16.cell? ⟨gb145, 0, none⟩ = some (.int .i64 a0_0) := (blk_cell BK145.out 0).trans rfl; have hcz18_1 : w16.cell? ⟨gb145, 1, none⟩ = some (.slice A0_1 l0_1.length c0_1) := (blk_cell BK145.out 1).trans rfl; have hfz18_0 := blk_frozen BK145.out 0; have hfz18_1 := blk_frozen BK145.out 1) | ((with_reducible refine gate_callee (f := 65) rfl ?_); refine gL_ (some 6) Try.func65 #[.agg #[.int .i64 a0_0, .slice A0_1 l0_1.length c0_1]] ?_ rfl rfl; (with_reducible refine (spec_l2Good.calls k a0_0 _ _ l0_1 true _ ?side1 ?side2 A3.out).mono ?_); (case side1 => exact cb_ HR0_1); (case side2 => exact HC0_1.out); rintro e w19 ⟨rfl, hb⟩; refine ⟨_, rfl, ?_⟩; have n_ := And.intro (Aside0.mk (blk_below (g := gb145) (o := .cells #[.int .i64 a0_0, .slice A0_1 l0_1.length c0_1] 29 (0, 0)) (bk_ BK145) hb)) (And.intro (Aside0.mk (blk_below (g := gb146) (o := .cells #[.int .i64 a1_0, .slice A1_1 l1_1.length c1_1] 29 (0, 0)) (bk_ BK146) hb)) (Aside0.mk (below_step bg_ hb))); clear BK145 BK146 HB; obtain ⟨BK145, BK146, HB⟩ := n_; (try clear hb); (try clear hb2); (try clear hk); (try clear hi); have hcz20_0 : w19.cell? ⟨gb146, 0, none⟩ = some (.int .i64 a1_0) := (blk_cell BK146.out 0).trans rfl; have hcz20_1 : w19.cell? ⟨gb146, 1, none⟩ = some (.slice A1_1 l1_1.length c1_1) := (blk_cell BK146.out 1).trans rfl; have hfz20_0 := blk_frozen BK146.out 0; have hfz20_1 := blk_frozen BK146.out 1) | (go_at_call 65; (with_reducible refine (spec_l2Good.calls k a1_0 _ _ l1_1 false _ ?side1 ?side2 A5.out).mono ?_); (case side1 => exact cb_ HR1_1); (case side2 => exact HC1_1.out); rintro e w21 ⟨rfl, hb⟩; have n_ := And.intro (Aside0.mk (blk_below (g := gb145) (o := .cells #[.int .i64 a0_0, .slice A0_1 l0_1.length c0_1] 29 (0, 0)) (bk_ BK145) hb)) (And.intro (Aside0.mk (blk_below (g := gb146) (o := .cells #[.int .i64 a1_0, .slice A1_1 l1_1.length c1_1] 29 (0, 0)) (bk_ BK146) hb)) (Aside0.mk (below_step bg_ hb))); clear BK145 BK146 HB; obtain ⟨BK145, BK146, HB⟩ := n_; (try clear hb); (try clear hb2); (try clear hk); (try clear hi)))
   go_ret
   exact ⟨by first | rfl | (simp [errW_none, errW_some] <;> rfl) | (simp [*, errW_none, errW_some] <;> rfl), by repeat (first | (with_reducible first | exact HB.out | apply below_alloc | apply pw_below_drewN | apply below_drew1 | refine below_set ?_ GE145.out | refine below_set ?_ GE146.out) | exact HB.out)⟩
 ·replace c4 := Bool.eq_false_iff.mpr c4
  subst c4
  have H1 : (some false) = some r := by rw [if_neg (show ¬ (false = true) by decide)] at H; exact H
  clear H
  have H := H1
  clear H1
  obtain rfl := Option.some.inj H
  go_enter Try.func57, Try.ntmps57
  go_wp2_with (first | ((with_reducible refine gate_dst (N := 2) rfl ?_); refine box_event ?hg (N := 2) ?hd (cs := #[.int .i64 a0_0, .slice A0_1 l0_1.length c0_1]) (t := 29) ?hr ?_; (case hd => rfl); (case hg => rfl); (case hr => first | (go_simp; done) | (go_simp; rfl)); intro gb145 hg w22 hbox hb; have n_ := And.intro (Aside0.mk (below_step bl_ hb)) (And.intro (Aside0.mk (hbox)) (And.intro (Aside0.mk ((by rw [hg]; exact (below_size bl_) : w.heap.size ≤ gb145))) (Aside0.mk ((by rw [hg]; exact (below_size bl_) : w.heap.size ≤ gb145))))); clear HB; obtain ⟨HB, BK145, GW145, GE145⟩ := n_; clear hb hbox hg) | ((with_reducible refine gate_dst (N := 3) rfl ?_); refine box_event ?hg (N := 3) ?hd (cs := #[.int .i64 a1_0, .slice A1_1 l1_1.length c1_1]) (t := 29) ?hr ?_; (case hd => rfl); (case hg => rfl); (case hr => first | (go_simp; done) | (go_simp; rfl)); intro gb146 hg w23 hbox hb; have n_ := And.intro (Aside0.mk (blk_below (g := gb145) (o := .cells #[.int .i64 a0_0, .slice A0_1 l0_1.length c0_1] 29 (0, 0)) (bk_ BK145) hb)) (And.intro (Aside0.mk (below_step bg_ hb)) (And.intro (Aside0.mk (hbox)) (And.intro (Aside0.mk ((by rw [hg]; exact (below_size bg_) : w.heap.size ≤ gb146))) (And.intro (Aside0.mk ((by rw [hg]; exact (below_size bg_) : w.heap.size ≤ gb146))) (And.intro (Aside0.mk ((by rw [hg]; exact Nat.ne_of_lt (blk_lt (g := gb145) (o := .cells #[.int .i64 a0_0, .slice A0_1 l0_1.length c0_1] 29 (0, 0)) (bk_ BK145)) : gb145 ≠ gb146))) (Aside0.mk ((by rw [hg]; exact Nat.ne_of_gt (blk_lt (g := gb145) (o := .cells #[.int .i64 a0_0, .slice A0_1 l0_1.length c0_1] 29 (0, 0)) (bk_ BK145)) : gb146 ≠ gb145)))))))); clear BK145 HB; obtain ⟨BK145, HB, BK146, GW146, GE146, NB145_146, NB146_145⟩ := n_; clear hb hbox hg; have hnb24 := NB145_146.out; have hnc24 := NB146_145.out; have hcz25_0 : w23.cell? ⟨gb145, 0, none⟩ = some (.int .i64 a0_0) := (blk_cell BK145.out 0).trans rfl; have hcz25_1 : w23.cell? ⟨gb145, 1, none⟩ = some (.slice A0_1 l0_1.length c0_1) := (blk_cell BK145.out 1).trans rfl; have hfz25_0 := blk_frozen BK145.out 0; have hfz25_1 := blk_frozen BK145.out 1) | ((with_reducible refine gate_callee (f := 65) rfl ?_); refine gL_ (some 6) Try.func65 #[.agg #[.int .i64 a0_0, .slice A0_1 l0_1.length c0_1]] ?_ rfl rfl; (with_reducible refine (spec_l2Good.calls k a0_0 _ _ l0_1 false _ ?side1 ?side2 A3.out).mono ?_); (case side1 => exact cb_ HR0_1); (case side2 => exact HC0_1.out); rintro e w26 ⟨rfl, hb⟩; refine ⟨_, rfl, ?_⟩; have n_ := And.intro (Aside0.mk (blk_below (g := gb145) (o := .cells #[.int .i64 a0_0, .slice A0_1 l0_1.length c0_1] 29 (0, 0)) (bk_ BK145) hb)) (And.intro (Aside0.mk (blk_below (g := gb146) (o := .cells #[.int .i64 a1_0, .slice A1_1 l1_1.length c1_1] 29 (0, 0)) (bk_ BK146) hb)) (Aside0.mk (below_step bg_ hb))); clear BK145 BK146 HB; obtain ⟨BK145, BK146, HB⟩ := n_; (try clear hb); (try clear hb2); (try clear hk); (try clear hi)))
  go_ret
  exact ⟨by first | rfl | (simp [errW_none, errW_some] <;> rfl) | (simp [*, errW_none, errW_some] <;> rfl), by repeat (first | (with_reducible first | exact HB.out | apply below_alloc | apply pw_below_drewN | apply below_drew1 | refine below_set ?_ GE145.out | refine below_set ?_ GE146.out) | exact HB.out)⟩

/-! ### spec_l2Near: function 108 -/
def spec_l2Near.l0 : Nat → Int → Int → Int → Int → List (S78) → Option (Bool)
 | 0, _, _, _, _, _ => none
 | k + 1, x1, x2, x7, x150000, x150001 => if x7 < (x150001.length : Int) then (if 0 ≤ x7 then (if ((rd_T78 x150001 x7).f0) = x1 then (if ((rd_T78 x150001 x7).f1) = x2 then (some true) else (if ((rd_T78 x150001 x7).f0) = x2 then (if ((rd_T78 x150001 x7).f1) = x1 then (some true) else (spec_l2Near.l0 k x1 x2 (wrap64 (x7 + 1)) x150000 x150001)) else (spec_l2Near.l0 k x1 x2 (wrap64 (x7 + 1)) x150000 x150001))) else (if ((rd_T78 x150001 x7).f0) = x2 then (if ((rd_T78 x150001 x7).f1) = x1 then (some true) else (spec_l2Near.l0 k x1 x2 (wrap64 (x7 + 1)) x150000 x150001)) else (spec_l2Near.l0 k x1 x2 (wrap64 (x7 + 1)) x150000 x150001))) else (none)) else (some false)
def spec_l2Near.f (k : Nat) (a0_0 : Int) (l0_1 : List (S78)) (a1 : Int) (a2 : Int) : Option (Bool) := spec_l2Near.l0 k a1 a2 0 a0_0 l0_1
set_option maxHeartbeats 8000000 in
set_option maxRecDepth 100000 in
theorem spec_l2Near.calls (k : Nat) (a0_0 : Int) (A0_1 : Option Addr) (c0_1 : Nat) (l0_1 : List (S78)) (a1 : Int) (a2 : Int) (r : Bool) (w : World) (hr0_1 : Kd.C k78 w A0_1 l0_1.length l0_1) (hc0_1 : l0_1.length ≤ c0_1) (h : spec_l2Near.f k a0_0 l0_1 a1 a2 = some r) :
  Calls Try.prog 108 #[.agg #[.int .i64 a0_0, .slice A0_1 l0_1.length c0_1], .int .i64 a1, .int .i64 a2] w fun e w' => e = .returned (.bool r) ∧ Below w.heap.size w w' := by
 have hu29 := Try.underlying29
 have hu78 := Try.underlying78
 have HR0_1 := Aside0.mk hr0_1
 have HC0_1 := Aside0.mk hc0_1
 clear hr0_1 hc0_1
 have HB := Aside0.mk (Below.refl w.heap.size w)
 have H : (spec_l2Near.l0 k a1 a2 0 a0_0 l0_1) = some r := h
 clear h
 have H' := Aside0.mk H
 clear H
 go_enter Try.func108, Try.ntmps108
 go_wp2_with (first | ((with_reducible refine gate_dst (N := 3) rfl ?_); refine box_event ?hg (N := 3) ?hd (cs := #[.int .i64 a0_0, .slice A0_1 l0_1.length c0_1]) (t := 29) ?hr ?_; (case hd => rfl); (case hg => rfl); (case hr => first | (go_simp; done) | (go_simp; rfl)); intro gb149 hg w4 hbox hb; have n_ := And.intro (Aside0.mk (below_step bl_ hb)) (And.intro (Aside0.mk (hbox)) (And.intro (Aside0.mk ((by rw [hg]; exact (below_size bl_) : w.heap.size ≤ gb149))) (Aside0.mk ((by rw [hg]; exact (below_size bl_) : w.heap.size ≤ gb149))))); clear HB; obtain ⟨HB, BK149, GW149, GE149⟩ := n_; clear hb hbox hg))
 go_loopg [7] k (fun kq v7 w' => ∃ (x7_1 : Int), v7 = .int .i64 x7_1 ∧ Aside0 (spec_l2Near.l0 kq a1 a2 x7_1 a0_0 l0_1 = some r) ∧ Aside0 (kq ≤ k) ∧ Aside0 (w'.heap[gb149]? = some (.cells #[.int .i64 a0_0, (.slice A0_1 l0_1.length c0_1)] 29 (0, 0))) ∧ Aside0 (Below w.heap.size w w'))
 case atStart => exact ⟨(0), (by first | rfl | (simp; done) | (simp [*]; done)), H', ⟨Nat.le_refl _⟩, ⟨by (with_reducible repeat (first | refine blk_drewN ?_ _ | refine blk_drew ?_ | refine blk_alloc ?_ _)); exact BK149.out⟩, ⟨by repeat (first | (with_reducible first | exact HB.out | apply below_alloc | apply pw_below_drewN | apply below_drew1 | refine below_set ?_ GE149.out) | exact HB.out)⟩⟩
 case round =>
  clear H'
  try clear c1
  try clear p2
  obtain ⟨x7_1, rfl, HA, HK1, BK149, HB⟩ := hrel
  cases gk with
  | zero => exact absurd HA.out (by simp [spec_l2Near.l0])
  | succ k1 =>
   have H := HA.out
   clear HA
   simp only [spec_l2Near.l0] at H
   by_cases c5 : x7_1 < (l0_1.length : Int)
   ·rw [if_pos c5] at H
    have c5b0 : decide (x7_1 < (l0_1.length : Int)) = true := decide_eq_true c5
    clear c5
    by_cases c6 : 0 ≤ x7_1
    ·rw [if_pos c6] at H
     have c6b0 : decide (0 ≤ x7_1) = true := decide_eq_true c6
     clear c6
     by_cases c7 : ((rd_T78 l0_1 x7_1).f0) = a1
     ·rw [if_pos c7] at H
      have c7b0 : (((rd_T78 l0_1 x7_1).f0) == a1) = true := beq_iff_eq.mpr c7
      have c7b1 : (((rd_T78 l0_1 x7_1).f0) != a1) = false := bne_eq_false_iff_eq.mpr c7
      clear c7
      by_cases c8 : ((rd_T78 l0_1 x7_1).f1) = a2
      ·rw [if_pos c8] at H
       have c8b0 : (((rd_T78 l0_1 x7_1).f1) == a2) = true := beq_iff_eq.mpr c8
       have c8b1 : (((rd_T78 l0_1 x7_1).f1) != a2) = false := bne_eq_false_iff_eq.mpr c8
       clear c8
       obtain rfl := Option.some.inj H
       have hcz9_0 : wr.cell? ⟨gb149, 0, none⟩ = some (.int .i64 a0_0) := (blk_cell BK149.out 0).trans rfl
       have hcz9_1 : wr.cell? ⟨gb149, 1, none⟩ = some (.slice A0_1 l0_1.length c0_1) := (blk_cell BK149.out 1).trans rfl
       have hfz9_0 := blk_frozen BK149.out 0
       have hfz9_1 := blk_frozen BK149.out 1
       have p150 : 0 ≤ (x7_1 : Int) := od_
       have q150 : x7_1 < (l0_1.length : Int) := od_
       obtain ⟨ad150, e150, hx150_0, hx150_1⟩ := at_T78 HR0_1.out x7_1 p150 q150
       cases e150
       replace hx150_0 := (HB.out.cell (World.block_lt_of_cell? w _ hx150_0)).trans hx150_0
       replace hx150_1 := (HB.out.cell (World.block_lt_of_cell? w _ hx150_1)).trans hx150_1
       replace p150 := eq_true p150
       replace q150 := eq_true q150
       go_wp2_with (first | ((with_reducible refine gate_dst (N := 8) rfl ?_); refine box_event ?hg (N := 8) ?hd (cs := #[.int .i64 0, .int .i64 0]) (t := 78) ?hr ?_; (case hd => rfl); (case hg => rfl); (case hr => first | (go_simp; done) | (go_simp; rfl)); intro gb151 hg w10 hbox hb; have n_ := And.intro (Aside0.mk (blk_below (g := gb149) (o := .cells #[.int .i64 a0_0, .slice (some ad150) l0_1.length c0_1] 29 (0, 0)) (bk_ BK149) hb)) (And.intro (Aside0.mk (below_step bg_ hb)) (And.intro (Aside0.mk (hbox)) (And.intro (Aside0.mk ((by rw [hg]; exact (below_size bg_) : w.heap.size ≤ gb151))) (And.intro (Aside0.mk ((by rw [hg]; exact (below_size bg_) : w.heap.size ≤ gb151))) (And.intro (Aside0.mk ((by rw [hg]; exact Nat.ne_of_lt (blk_lt (g := gb149) (o := .cells #[.int .i64 a0_0, .slice (some ad150) l0_1.length c0_1] 29 (0, 0)) (bk_ BK149)) : gb149 ≠ gb151))) (Aside0.mk ((by rw [hg]; exact Nat.ne_of_gt (blk_lt (g := gb149) (o := .cells #[.int .i64 a0_0, .slice (some ad150) l0_1.length c0_1] 29 (0, 0)) (bk_ BK149)) : gb151 ≠ gb149)))))))); clear BK149 HB; obtain ⟨BK149, HB, BK151, GW151, GE151, NB149_151, NB151_149⟩ := n_; clear hb hbox hg; have hnb11 := NB151_149.out; have hnc11 := NB149_151.out; have hcz12_0 : w10.cell? ⟨gb151, 0, none⟩ = some (.int .i64 0) := (blk_cell BK151.out 0).trans rfl; have hcz12_1 : w10.cell? ⟨gb151, 1, none⟩ = some (.int .i64 0) := (blk_cell BK151.out 1).trans rfl; have hfz12_0 := blk_frozen BK151.out 0; have hfz12_1 := blk_frozen BK151.out 1))
       go_ret
       exact ⟨by first | rfl | (simp [errW_none, errW_some] <;> rfl) | (simp [*, errW_none, errW_some] <;> rfl), by repeat (first | (with_reducible first | exact HB.out | apply below_alloc | apply pw_below_drewN | apply below_drew1 | refine below_set ?_ GE149.out | refine below_set ?_ GE151.out) | exact HB.out)⟩
      ·rw [if_neg c8] at H
       have c8b0 : (((rd_T78 l0_1 x7_1).f1) == a2) = false := beq_eq_false_iff_ne.mpr c8
       have c8b1 : (((rd_T78 l0_1 x7_1).f1) != a2) = true := bne_iff_ne.mpr c8
       by_cases c13 : ((rd_T78 l0_1 x7_1).f0) = a2
       ·rw [if_pos c13] at H
        have c13b0 : (((rd_T78 l0_1 x7_1).f0) == a2) = true := beq_iff_eq.mpr c13
        have c13b1 : (((rd_T78 l0_1 x7_1).f0) != a2) = false := bne_eq_false_iff_eq.mpr c13
        clear c13
        by_cases c14 : ((rd_T78 l0_1 x7_1).f1) = a1
        ·rw [if_pos c14] at H
         have c14b0 : (((rd_T78 l0_1 x7_1).f1) == a1) = true := beq_iff_eq.mpr c14
         have c14b1 : (((rd_T78 l0_1 x7_1).f1) != a1) = false := bne_eq_false_iff_eq.mpr c14
         clear c14
         obtain rfl := Option.some.inj H
         have hcz15_0 : wr.cell? ⟨gb149, 0, none⟩ = some (.int .i64 a0_0) := (blk_cell BK149.out 0).trans rfl
         have hcz15_1 : wr.cell? ⟨gb149, 1, none⟩ = some (.slice A0_1 l0_1.length c0_1) := (blk_cell BK149.out 1).trans rfl
         have hfz15_0 := blk_frozen BK149.out 0
         have hfz15_1 := blk_frozen BK149.out 1
         have p150 : 0 ≤ (x7_1 : Int) := od_
         have q150 : x7_1 < (l0_1.length : Int) := od_
         obtain ⟨ad150, e150, hx150_0, hx150_1⟩ := at_T78 HR0_1.out x7_1 p150 q150
         cases e150
         replace hx150_0 := (HB.out.cell (World.block_lt_of_cell? w _ hx150_0)).trans hx150_0
         replace hx150_1 := (HB.out.cell (World.block_lt_of_cell? w _ hx150_1)).trans hx150_1
         replace p150 := eq_true p150
         replace q150 := eq_true q150
         go_wp2_with (first | ((with_reducible refine gate_dst (N := 8) rfl ?_); refine box_event ?hg (N := 8) ?hd (cs := #[.int .i64 0, .int .i64 0]) (t := 78) ?hr ?_; (case hd => rfl); (case hg => rfl); (case hr => first | (go_simp; done) | (go_simp; rfl)); intro gb151 hg w16 hbox hb; have n_ := And.intro (Aside0.mk (blk_below (g := gb149) (o := .cells #[.int .i64 a0_0, .slice (some ad150) l0_1.length c0_1] 29 (0, 0)) (bk_ BK149) hb)) (And.intro (Aside0.mk (below_step bg_ hb)) (And.intro (Aside0.mk (hbox)) (And.intro (Aside0.mk ((by rw [hg]; exact (below_size bg_) : w.heap.size ≤ gb151))) (And.intro (Aside0.mk ((by rw [hg]; exact (below_size bg_) : w.heap.size ≤ gb151))) (And.intro (Aside0.mk ((by rw [hg]; exact Nat.ne_of_lt (blk_lt (g := gb149) (o := .cells #[.int .i64 a0_0, .slice (some ad150) l0_1.length c0_1] 29 (0, 0)) (bk_ BK149)) : gb149 ≠ gb151))) (Aside0.mk ((by rw [hg]; exact Nat.ne_of_gt (blk_lt (g := gb149) (o := .cells #[.int .i64 a0_0, .slice (some ad150) l0_1.length c0_1] 29 (0, 0)) (bk_ BK149)) : gb151 ≠ gb149)))))))); clear BK149 HB; obtain ⟨BK149, HB, BK151, GW151, GE151, NB149_151, NB151_149⟩ := n_; clear hb hbox hg; have hnb17 := NB151_149.out; have hnc17 := NB149_151.out; have hcz18_0 : w16.cell? ⟨gb151, 0, none⟩ = some (.int .i64 0) := (blk_cell BK151.out 0).trans rfl; have hcz18_1 : w16.cell? ⟨gb151, 1, none⟩ = some (.int .i64 0) := (blk_cell BK151.out 1).trans rfl; have hfz18_0 := blk_frozen BK151.out 0; have hfz18_1 := blk_frozen BK151.out 1))
         go_ret
         exact ⟨by first | rfl | (simp [errW_none, errW_some] <;> rfl) | (simp [*, errW_none, errW_some] <;> rfl), by repeat (first | (with_reducible first | exact HB.out | apply below_alloc | apply pw_below_drewN | apply below_drew1 | refine below_set ?_ GE149.out | refine below_set ?_ GE151.out) | exact HB.out)⟩
        ·rw [if_neg c14] at H
         have c14b0 : (((rd_T78 l0_1 x7_1).f1) == a1) = false := beq_eq_false_iff_ne.mpr c14
         have c14b1 : (((rd_T78 l0_1 x7_1).f1) != a1) = true := bne_iff_ne.mpr c14
         have H' := Aside0.mk H
         clear H
         have hcz19_0 : wr.cell? ⟨gb149, 0, none⟩ = some (.int .i64 a0_0) := (blk_cell BK149.out 0).trans rfl
         have hcz19_1 : wr.cell? ⟨gb149, 1, none⟩ = some (.slice A0_1 l0_1.length c0_1) := (blk_cell BK149.out 1).trans rfl
         have hfz19_0 := blk_frozen BK149.out 0
         have hfz19_1 := blk_frozen BK149.out 1
         have p150 : 0 ≤ (x7_1 : Int) := od_
         have q150 : x7_1 < (l0_1.length : Int) := od_
         obtain ⟨ad150, e150, hx150_0, hx150_1⟩ := at_T78 HR0_1.out x7_1 p150 q150
         cases e150
         replace hx150_0 := (HB.out.cell (World.block_lt_of_cell? w _ hx150_0)).trans hx150_0
         replace hx150_1 := (HB.out.cell (World.block_lt_of_cell? w _ hx150_1)).trans hx150_1
         replace p150 := eq_true p150
         replace q150 := eq_true q150
         go_wp2_with (first | ((with_reducible refine gate_dst (N := 8) rfl ?_); refine box_event ?hg (N := 8) ?hd (cs := #[.int .i64 0, .int .i64 0]) (t := 78) ?hr ?_; (case hd => rfl); (case hg => rfl); (case hr => first | (go_simp; done) | (go_simp; rfl)); intro gb151 hg w20 hbox hb; have n_ := And.intro (Aside0.mk (blk_below (g := gb149) (o := .cells #[.int .i64 a0_0, .slice (some ad150) l0_1.length c0_1] 29 (0, 0)) (bk_ BK149) hb)) (And.intro (Aside0.mk (below_step bg_ hb)) (And.intro (Aside0.mk (hbox)) (And.intro (Aside0.mk ((by rw [hg]; exact (below_size bg_) : w.heap.size ≤ gb151))) (And.intro (Aside0.mk ((by rw [hg]; exact (below_size bg_) : w.heap.size ≤ gb151))) (And.intro (Aside0.mk ((by rw [hg]; exact Nat.ne_of_lt (blk_lt (g := gb149) (o := .cells #[.int .i64 a0_0, .slice (some ad150) l0_1.length c0_1] 29 (0, 0)) (bk_ BK149)) : gb149 ≠ gb151))) (Aside0.mk ((by rw [hg]; exact Nat.ne_of_gt (blk_lt (g := gb149) (o := .cells #[.int .i64 a0_0, .slice (some ad150) l0_1.length c0_1] 29 (0, 0)) (bk_ BK149)) : gb151 ≠ gb149)))))))); clear BK149 HB; obtain ⟨BK149, HB, BK151, GW151, GE151, NB149_151, NB151_149⟩ := n_; clear hb hbox hg; have hnb21 := NB151_149.out; have hnc21 := NB149_151.out; have hcz22_0 : w20.cell? ⟨gb151, 0, none⟩ = some (.int .i64 0) := (blk_cell BK151.out 0).trans rfl; have hcz22_1 : w20.cell? ⟨gb151, 1, none⟩ = some (.int .i64 0) := (blk_cell BK151.out 1).trans rfl; have hfz22_0 := blk_frozen BK151.out 0; have hfz22_1 := blk_frozen BK151.out 1))
         go_roundg k1
         case measure => have := HK1.out; omega
         case rel => exact ⟨(wrap64 (x7_1 + 1)), (by first | rfl | (simp; done) | (simp [*]; done)), H', ⟨by have := HK1.out; omega⟩, ⟨by (with_reducible repeat (first | refine blk_drewN ?_ _ | refine blk_drew ?_ | refine blk_alloc ?_ _)); refine blk_far ?_ NB149_151.out _; (with_reducible repeat (first | refine blk_drewN ?_ _ | refine blk_drew ?_ | refine blk_alloc ?_ _)); refine blk_far ?_ NB149_151.out _; (with_reducible repeat (first | refine blk_drewN ?_ _ | refine blk_drew ?_ | refine blk_alloc ?_ _)); exact BK149.out⟩, ⟨by repeat (first | (with_reducible first | exact HB.out | apply below_alloc | apply pw_below_drewN | apply below_drew1 | refine below_set ?_ GE149.out | refine below_set ?_ GE151.out) | exact HB.out)⟩⟩
       ·rw [if_neg c13] at H
        have c13b0 : (((rd_T78 l0_1 x7_1).f0) == a2) = false := beq_eq_false_iff_ne.mpr c13
        have c13b1 : (((rd_T78 l0_1 x7_1).f0) != a2) = true := bne_iff_ne.mpr c13
        have H' := Aside0.mk H
        clear H
        have hcz23_0 : wr.cell? ⟨gb149, 0, none⟩ = some (.int .i64 a0_0) := (blk_cell BK149.out 0).trans rfl
        have hcz23_1 : wr.cell? ⟨gb149, 1, none⟩ = some (.slice A0_1 l0_1.length c0_1) := (blk_cell BK149.out 1).trans rfl
        have hfz23_0 := blk_frozen BK149.out 0
        have hfz23_1 := blk_frozen BK149.out 1
        have p150 : 0 ≤ (x7_1 : Int) := od_
        have q150 : x7_1 < (l0_1.length : Int) := od_
        obtain ⟨ad150, e150, hx150_0, hx150_1⟩ := at_T78 HR0_1.out x7_1 p150 q150
        cases e150
        replace hx150_0 := (HB.out.cell (World.block_lt_of_cell? w _ hx150_0)).trans hx150_0
        replace hx150_1 := (HB.out.cell (World.block_lt_of_cell? w _ hx150_1)).trans hx150_1
        replace p150 := eq_true p150
        replace q150 := eq_true q150
        go_wp2_with (first | ((with_reducible refine gate_dst (N := 8) rfl ?_); refine box_event ?hg (N := 8) ?hd (cs := #[.int .i64 0, .int .i64 0]) (t := 78) ?hr ?_; (case hd => rfl); (case hg => rfl); (case hr => first | (go_simp; done) | (go_simp; rfl)); intro gb151 hg w24 hbox hb; have n_ := And.intro (Aside0.mk (blk_below (g := gb149) (o := .cells #[.int .i64 a0_0, .slice (some ad150) l0_1.length c0_1] 29 (0, 0)) (bk_ BK149) hb)) (And.intro (Aside0.mk (below_step bg_ hb)) (And.intro (Aside0.mk (hbox)) (And.intro (Aside0.mk ((by rw [hg]; exact (below_size bg_) : w.heap.size ≤ gb151))) (And.intro (Aside0.mk ((by rw [hg]; exact (below_size bg_) : w.heap.size ≤ gb151))) (And.intro (Aside0.mk ((by rw [hg]; exact Nat.ne_of_lt (blk_lt (g := gb149) (o := .cells #[.int .i64 a0_0, .slice (some ad150) l0_1.length c0_1] 29 (0, 0)) (bk_ BK149)) : gb149 ≠ gb151))) (Aside0.mk ((by rw [hg]; exact Nat.ne_of_gt (blk_lt (g := gb149) (o := .cells #[.int .i64 a0_0, .slice (some ad150) l0_1.length c0_1] 29 (0, 0)) (bk_ BK149)) : gb151 ≠ gb149)))))))); clear BK149 HB; obtain ⟨BK149, HB, BK151, GW151, GE151, NB149_151, NB151_149⟩ := n_; clear hb hbox hg; have hnb25 := NB151_149.out; have hnc25 := NB149_151.out; have hcz26_0 : w24.cell? ⟨gb151, 0, none⟩ = some (.int .i64 0) := (blk_cell BK151.out 0).trans rfl; have hcz26_1 : w24.cell? ⟨gb151, 1, none⟩ = some (.int .i64 0) := (blk_cell BK151.out 1).trans rfl; have hfz26_0 := blk_frozen BK151.out 0; have hfz26_1 := blk_frozen BK151.out 1))
        go_roundg k1
        case measure => have := HK1.out; omega
        case rel => exact ⟨(wrap64 (x7_1 + 1)), (by first | rfl | (simp; done) | (simp [*]; done)), H', ⟨by have := HK1.out; omega⟩, ⟨by (with_reducible repeat (first | refine blk_drewN ?_ _ | refine blk_drew ?_ | refine blk_alloc ?_ _)); refine blk_far ?_ NB149_151.out _; (with_reducible repeat (first | refine blk_drewN ?_ _ | refine blk_drew ?_ | refine blk_alloc ?_ _)); refine blk_far ?_ NB149_151.out _; (with_reducible repeat (first | refine blk_drewN ?_ _ | refine blk_drew ?_ | refine blk_alloc ?_ _)); exact BK149.out⟩, ⟨by repeat (first | (with_reducible first | exact HB.out | apply below_alloc | apply pw_below_drewN | apply below_drew1 | refine below_set ?_ GE149.out | refine below_set ?_ GE151.out) | exact HB.out)⟩⟩
     ·rw [if_neg c7] at H
      have c7b0 : (((rd_T78 l0_1 x7_1).f0) == a1) = false := beq_eq_false_iff_ne.mpr c7
      have c7b1 : (((rd_T78 l0_1 x7_1).f0) != a1) = true := bne_iff_ne.mpr c7
      by_cases c27 : ((rd_T78 l0_1 x7_1).f0) = a2
      ·rw [if_pos c27] at H
       have c27b0 : (((rd_T78 l0_1 x7_1).f0) == a2) = true := beq_iff_eq.mpr c27
       have c27b1 : (((rd_T78 l0_1 x7_1).f0) != a2) = false := bne_eq_false_iff_eq.mpr c27
       clear c27
       by_cases c28 : ((rd_T78 l0_1 x7_1).f1) = a1
       ·rw [if_pos c28] at H
        have c28b0 : (((rd_T78 l0_1 x7_1).f1) == a1) = true := beq_iff_eq.mpr c28
        have c28b1 : (((rd_T78 l0_1 x7_1).f1) != a1) = false := bne_eq_false_iff_eq.mpr c28
        clear c28
        obtain rfl := Option.some.inj H
        have hcz29_0 : wr.cell? ⟨gb149, 0, none⟩ = some (.int .i64 a0_0) := (blk_cell BK149.out 0).trans rfl
        have hcz29_1 : wr.cell? ⟨gb149, 1, none⟩ = some (.slice A0_1 l0_1.length c0_1) := (blk_cell BK149.out 1).trans rfl
        have hfz29_0 := blk_frozen BK149.out 0
        have hfz29_1 := blk_frozen BK149.out 1
        have p150 : 0 ≤ (x7_1 : Int) := od_
        have q150 : x7_1 < (l0_1.length : Int) := od_
        obtain ⟨ad150, e150, hx150_0, hx150_1⟩ := at_T78 HR0_1.out x7_1 p150 q150
        cases e150
        replace hx150_0 := (HB.out.cell (World.block_lt_of_cell? w _ hx150_0)).trans hx150_0
        replace hx150_1 := (HB.out.cell (World.block_lt_of_cell? w _ hx150_1)).trans hx150_1
        replace p150 := eq_true p150
        replace q150 := eq_true q150
        go_wp2_with (first | ((with_reducible refine gate_dst (N := 8) rfl ?_); refine box_event ?hg (N := 8) ?hd (cs := #[.int .i64 0, .int .i64 0]) (t := 78) ?hr ?_; (case hd => rfl); (case hg => rfl); (case hr => first | (go_simp; done) | (go_simp; rfl)); intro gb151 hg w30 hbox hb; have n_ := And.intro (Aside0.mk (blk_below (g := gb149) (o := .cells #[.int .i64 a0_0, .slice (some ad150) l0_1.length c0_1] 29 (0, 0)) (bk_ BK149) hb)) (And.intro (Aside0.mk (below_step bg_ hb)) (And.intro (Aside0.mk (hbox)) (And.intro (Aside0.mk ((by rw [hg]; exact (below_size bg_) : w.heap.size ≤ gb151))) (And.intro (Aside0.mk ((by rw [hg]; exact (below_size bg_) : w.heap.size ≤ gb151))) (And.intro (Aside0.mk ((by rw [hg]; exact Nat.ne_of_lt (blk_lt (g := gb149) (o := .cells #[.int .i64 a0_0, .slice (some ad150) l0_1.length c0_1] 29 (0, 0)) (bk_ BK149)) : gb149 ≠ gb151))) (Aside0.mk ((by rw [hg]; exact Nat.ne_of_gt (blk_lt (g := gb149) (o := .cells #[.int .i64 a0_0, .slice (some ad150) l0_1.length c0_1] 29 (0, 0)) (bk_ BK149)) : gb151 ≠ gb149)))))))); clear BK149 HB; obtain ⟨BK149, HB, BK151, GW151, GE151, NB149_151, NB151_149⟩ := n_; clear hb hbox hg; have hnb31 := NB151_149.out; have hnc31 := NB149_151.out; have hcz32_0 : w30.cell? ⟨gb151, 0, none⟩ = some (.int .i64 0) := (blk_cell BK151.out 0).trans rfl; have hcz32_1 : w30.cell? ⟨gb151, 1, none⟩ = some (.int .i64 0) := (blk_cell BK151.out 1).trans rfl; have hfz32_0 := blk_frozen BK151.out 0; have hfz32_1 := blk_frozen BK151.out 1))
        go_ret
        exact ⟨by first | rfl | (simp [errW_none, errW_some] <;> rfl) | (simp [*, errW_none, errW_some] <;> rfl), by repeat (first | (with_reducible first | exact HB.out | apply below_alloc | apply pw_below_drewN | apply below_drew1 | refine below_set ?_ GE149.out | refine below_set ?_ GE151.out) | exact HB.out)⟩
       ·rw [if_neg c28] at H
        have c28b0 : (((rd_T78 l0_1 x7_1).f1) == a1) = false := beq_eq_false_iff_ne.mpr c28
        have c28b1 : (((rd_T78 l0_1 x7_1).f1) != a1) = true := bne_iff_ne.mpr c28
        have H' := Aside0.mk H
        clear H
        have hcz33_0 : wr.cell? ⟨gb149, 0, none⟩ = some (.int .i64 a0_0) := (blk_cell BK149.out 0).trans rfl
        have hcz33_1 : wr.cell? ⟨gb149, 1, none⟩ = some (.slice A0_1 l0_1.length c0_1) := (blk_cell BK149.out 1).trans rfl
        have hfz33_0 := blk_frozen BK149.out 0
        have hfz33_1 := blk_frozen BK149.out 1
        have p150 : 0 ≤ (x7_1 : Int) := od_
        have q150 : x7_1 < (l0_1.length : Int) := od_
        obtain ⟨ad150, e150, hx150_0, hx150_1⟩ := at_T78 HR0_1.out x7_1 p150 q150
        cases e150
        replace hx150_0 := (HB.out.cell (World.block_lt_of_cell? w _ hx150_0)).trans hx150_0
        replace hx150_1 := (HB.out.cell (World.block_lt_of_cell? w _ hx150_1)).trans hx150_1
        replace p150 := eq_true p150
        replace q150 := eq_true q150
        go_wp2_with (first | ((with_reducible refine gate_dst (N := 8) rfl ?_); refine box_event ?hg (N := 8) ?hd (cs := #[.int .i64 0, .int .i64 0]) (t := 78) ?hr ?_; (case hd => rfl); (case hg => rfl); (case hr => first | (go_simp; done) | (go_simp; rfl)); intro gb151 hg w34 hbox hb; have n_ := And.intro (Aside0.mk (blk_below (g := gb149) (o := .cells #[.int .i64 a0_0, .slice (some ad150) l0_1.length c0_1] 29 (0, 0)) (bk_ BK149) hb)) (And.intro (Aside0.mk (below_step bg_ hb)) (And.intro (Aside0.mk (hbox)) (And.intro (Aside0.mk ((by rw [hg]; exact (below_size bg_) : w.heap.size ≤ gb151))) (And.intro (Aside0.mk ((by rw [hg]; exact (below_size bg_) : w.heap.size ≤ gb151))) (And.intro (Aside0.mk ((by rw [hg]; exact Nat.ne_of_lt (blk_lt (g := gb149) (o := .cells #[.int .i64 a0_0, .slice (some ad150) l0_1.length c0_1] 29 (0, 0)) (bk_ BK149)) : gb149 ≠ gb151))) (Aside0.mk ((by rw [hg]; exact Nat.ne_of_gt (blk_lt (g := gb149) (o := .cells #[.int .i64 a0_0, .slice (some ad150) l0_1.length c0_1] 29 (0, 0)) (bk_ BK149)) : gb151 ≠ gb149)))))))); clear BK149 HB; obtain ⟨BK149, HB, BK151, GW151, GE151, NB149_151, NB151_149⟩ := n_; clear hb hbox hg; have hnb35 := NB151_149.out; have hnc35 := NB149_151.out; have hcz36_0 : w34.cell? ⟨gb151, 0, none⟩ = some (.int .i64 0) := (blk_cell BK151.out 0).trans rfl; have hcz36_1 : w34.cell? ⟨gb151, 1, none⟩ = some (.int .i64 0) := (blk_cell BK151.out 1).trans rfl; have hfz36_0 := blk_frozen BK151.out 0; have hfz36_1 := blk_frozen BK151.out 1))
        go_roundg k1
        case measure => have := HK1.out; omega
        case rel => exact ⟨(wrap64 (x7_1 + 1)), (by first | rfl | (simp; done) | (simp [*]; done)), H', ⟨by have := HK1.out; omega⟩, ⟨by (with_reducible repeat (first | refine blk_drewN ?_ _ | refine blk_drew ?_ | refine blk_alloc ?_ _)); refine blk_far ?_ NB149_151.out _; (with_reducible repeat (first | refine blk_drewN ?_ _ | refine blk_drew ?_ | refine blk_alloc ?_ _)); refine blk_far ?_ NB149_151.out _; (with_reducible repeat (first | refine blk_drewN ?_ _ | refine blk_drew ?_ | refine blk_alloc ?_ _)); exact BK149.out⟩, ⟨by repeat (first | (with_reducible first | exact HB.out | apply below_alloc | apply pw_below_drewN | apply below_drew1 | refine below_set ?_ GE149.out | refine below_set ?_ GE151.out) | exact HB.out)⟩⟩
      ·rw [if_neg c27] at H
       have c27b0 : (((rd_T78 l0_1 x7_1).f0) == a2) = false := beq_eq_false_iff_ne.mpr c27
       have c27b1 : (((rd_T78 l0_1 x7_1).f0) != a2) = true := bne_iff_ne.mpr c27
       have H' := Aside0.mk H
       clear H
       have hcz37_0 : wr.cell? ⟨gb149, 0, none⟩ = some (.int .i64 a0_0) := (blk_cell BK149.out 0).trans rfl
       have hcz37_1 : wr.cell? ⟨gb149, 1, none⟩ = some (.slice A0_1 l0_1.length c0_1) := (blk_cell BK149.out 1).trans rfl
       have hfz37_0 := blk_frozen BK149.out 0
       have hfz37_1 := blk_frozen BK149.out 1
       have p150 : 0 ≤ (x7_1 : Int) := od_
       have q150 : x7_1 < (l0_1.length : Int) := od_
       obtain ⟨ad150, e150, hx150_0, hx150_1⟩ := at_T78 HR0_1.out x7_1 p150 q150
       cases e150
       replace hx150_0 := (HB.out.cell (World.block_lt_of_cell? w _ hx150_0)).trans hx150_0
       replace hx150_1 := (HB.out.cell (World.block_lt_of_cell? w _ hx150_1)).trans hx150_1
       replace p150 := eq_true p150
       replace q150 := eq_true q150
       go_wp2_with (first | ((with_reducible refine gate_dst (N := 8) rfl ?_); refine box_event ?hg (N := 8) ?hd (cs := #[.int .i64 0, .int .i64 0]) (t := 78) ?hr ?_; (case hd => rfl); (case hg => rfl); (case hr => first | (go_simp; done) | (go_simp; rfl)); intro gb151 hg w38 hbox hb; have n_ := And.intro (Aside0.mk (blk_below (g := gb149) (o := .cells #[.int .i64 a0_0, .slice (some ad150) l0_1.length c0_1] 29 (0, 0)) (bk_ BK149) hb)) (And.intro (Aside0.mk (below_step bg_ hb)) (And.intro (Aside0.mk (hbox)) (And.intro (Aside0.mk ((by rw [hg]; exact (below_size bg_) : w.heap.size ≤ gb151))) (And.intro (Aside0.mk ((by rw [hg]; exact (below_size bg_) : w.heap.size ≤ gb151))) (And.intro (Aside0.mk ((by rw [hg]; exact Nat.ne_of_lt (blk_lt (g := gb149) (o := .cells #[.int .i64 a0_0, .slice (some ad150) l0_1.length c0_1] 29 (0, 0)) (bk_ BK149)) : gb149 ≠ gb151))) (Aside0.mk ((by rw [hg]; exact Nat.ne_of_gt (blk_lt (g := gb149) (o := .cells #[.int .i64 a0_0, .slice (some ad150) l0_1.length c0_1] 29 (0, 0)) (bk_ BK149)) : gb151 ≠ gb149)))))))); clear BK149 HB; obtain ⟨BK149, HB, BK151, GW151, GE151, NB149_151, NB151_149⟩ := n_; clear hb hbox hg; have hnb39 := NB151_149.out; have hnc39 := NB149_151.out; have hcz40_0 : w38.cell? ⟨gb151, 0, none⟩ = some (.int .i64 0) := (blk_cell BK151.out 0).trans rfl; have hcz40_1 : w38.cell? ⟨gb151, 1, none⟩ = some (.int .i64 0) := (blk_cell BK151.out 1).trans rfl; have hfz40_0 := blk_frozen BK151.out 0; have hfz40_1 := blk_frozen BK151.out 1))
       go_roundg k1
       case measure => have := HK1.out; omega
       case rel => exact ⟨(wrap64 (x7_1 + 1)), (by first | rfl | (simp; done) | (simp [*]; done)), H', ⟨by have := HK1.out; omega⟩, ⟨by (with_reducible repeat (first | refine blk_drewN ?_ _ | refine blk_drew ?_ | refine blk_alloc ?_ _)); refine blk_far ?_ NB149_151.out _; (with_reducible repeat (first | refine blk_drewN ?_ _ | refine blk_drew ?_ | refine blk_alloc ?_ _)); refine blk_far ?_ NB149_151.out _; (with_reducible repeat (first | refine blk_drewN ?_ _ | refine blk_drew ?_ | refine blk_alloc ?_ _)); exact BK149.out⟩, ⟨by repeat (first | (with_reducible first | exact HB.out | apply below_alloc | apply pw_below_drewN | apply below_drew1 | refine below_set ?_ GE149.out | refine below_set ?_ GE151.out) | exact HB.out)⟩⟩
    ·rw [if_neg c6] at H
     exact absurd H (by simp)
   ·rw [if_neg c5] at H
    have c5b0 : decide (x7_1 < (l0_1.length : Int)) = false := decide_eq_false c5
    clear c5
    obtain rfl := Option.some.inj H
    have hcz41_0 : wr.cell? ⟨gb149, 0, none⟩ = some (.int .i64 a0_0) := (blk_cell BK149.out 0).trans rfl
    have hcz41_1 : wr.cell? ⟨gb149, 1, none⟩ = some (.slice A0_1 l0_1.length c0_1) := (blk_cell BK149.out 1).trans rfl
    have hfz41_0 := blk_frozen BK149.out 0
    have hfz41_1 := blk_frozen BK149.out 1
    go_wp2
    go_ret
    exact ⟨by first | rfl | (simp [errW_none, errW_some] <;> rfl) | (simp [*, errW_none, errW_some] <;> rfl), by repeat (first | (with_reducible first | exact HB.out | apply below_alloc | apply pw_below_drewN | apply below_drew1 | refine below_set ?_ GE149.out) | exact HB.out)⟩

/-! ### spec_l10Fits: function 101 -/
def spec_l10Fits.f (k : Nat) (a0_0 : Int) (l0_1 : List (S78)) (a1 : Int) (a2 : Int) (a3 : Bool) : Option (Bool) := (spec_l2Near.f k a0_0 l0_1 a1 a2).bind fun t153 => (if t153 = true then (some true) else (if a3 = true then (some (a1 == a2)) else (some false)))
set_option maxHeartbeats 8000000 in
set_option maxRecDepth 100000 in
theorem spec_l10Fits.calls (k : Nat) (a0_0 : Int) (A0_1 : Option Addr) (c0_1 : Nat) (l0_1 : List (S78)) (a1 : Int) (a2 : Int) (a3 : Bool) (r : Bool) (w : World) (hr0_1 : Kd.C k78 w A0_1 l0_1.length l0_1) (hc0_1 : l0_1.length ≤ c0_1) (h : spec_l10Fits.f k a0_0 l0_1 a1 a2 a3 = some r) :
  Calls Try.prog 101 #[.agg #[.int .i64 a0_0, .slice A0_1 l0_1.length c0_1], .int .i64 a1, .int .i64 a2, .bool a3] w fun e w' => e = .returned (.bool r) ∧ Below w.heap.size w w' := by
 have hu29 := Try.underlying29
 have HR0_1 := Aside0.mk hr0_1
 have HC0_1 := Aside0.mk hc0_1
 clear hr0_1 hc0_1
 have HB := Aside0.mk (Below.refl w.heap.size w)
 have H : ((spec_l2Near.f k a0_0 l0_1 a1 a2).bind fun t153 => (if t153 = true then (some true) else (if a3 = true then (some (a1 == a2)) else (some false)))) = some r := h
 clear h
 replace H := Option.bind_eq_some_iff.mp H
 obtain ⟨t153, A50, H⟩ := H
 (try dsimp only at H)
 have A5 := Aside0.mk A50
 clear A50
 by_cases c6 : t153 = true
 ·subst c6
  have H1 : (some true) = some r := by rw [if_pos rfl] at H; exact H
  clear H
  have H := H1
  clear H1
  obtain rfl := Option.some.inj H
  go_enter Try.func101, Try.ntmps101
  go_wp2_with (first | ((with_reducible refine gate_dst (N := 4) rfl ?_); refine box_event ?hg (N := 4) ?hd (cs := #[.int .i64 a0_0, .slice A0_1 l0_1.length c0_1]) (t := 29) ?hr ?_; (case hd => rfl); (case hg => rfl); (case hr => first | (go_simp; done) | (go_simp; rfl)); intro gb152 hg w7 hbox hb; have n_ := And.intro (Aside0.mk (below_step bl_ hb)) (And.intro (Aside0.mk (hbox)) (And.intro (Aside0.mk ((by rw [hg]; exact (below_size bl_) : w.heap.size ≤ gb152))) (Aside0.mk ((by rw [hg]; exact (below_size bl_) : w.heap.size ≤ gb152))))); clear HB; obtain ⟨HB, BK152, GW152, GE152⟩ := n_; clear hb hbox hg; have hcz8_0 : w7.cell? ⟨gb152, 0, none⟩ = some (.int .i64 a0_0) := (blk_cell BK152.out 0).trans rfl; have hcz8_1 : w7.cell? ⟨gb152, 1, none⟩ = some (.slice A0_1 l0_1.length c0_1) := (blk_cell BK152.out 1).trans rfl; have hfz8_0 := blk_frozen BK152.out 0; have hfz8_1 := blk_frozen BK152.out 1) | ((with_reducible refine gate_callee (f := 108) rfl ?_); refine gL_ (some 12) Try.func108 #[.agg #[.int .i64 a0_0, .slice A0_1 l0_1.length c0_1], .int .i64 a1, .int .i64 a2] ?_ rfl rfl; (with_reducible refine (spec_l2Near.calls k a0_0 _ _ l0_1 a1 a2 true _ ?side1 ?side2 A5.out).mono ?_); (case side1 => exact cb_ HR0_1); (case side2 => exact HC0_1.out); rintro e w9 ⟨rfl, hb⟩; refine ⟨_, rfl, ?_⟩; have n_ := And.intro (Aside0.mk (blk_below (g := gb152) (o := .cells #[.int .i64 a0_0, .slice A0_1 l0_1.length c0_1] 29 (0, 0)) (bk_ BK152) hb)) (Aside0.mk (below_step bg_ hb)); clear BK152 HB; obtain ⟨BK152, HB⟩ := n_; (try clear hb); (try clear hb2); (try clear hk); (try clear hi)))
  go_ret
  exact ⟨by first | rfl | (simp [errW_none, errW_some] <;> rfl) | (simp [*, errW_none, errW_some] <;> rfl), by repeat (first | (with_reducible first | exact HB.out | apply below_alloc | apply pw_below_drewN | apply below_drew1 | refine below_set ?_ GE152.out) | exact HB.out)⟩
 ·replace c6 := Bool.eq_false_iff.mpr c6
  subst c6
  have H1 : (if a3 = true then (some (a1 == a2)) else (some false)) = some r := by rw [if_neg (show ¬ (false = true) by decide)] at H; exact H
  clear H
  have H := H1
  clear H1
  by_cases c10 : a3 = true
  ·subst c10
   have H1 : (some (a1 == a2)) = some r := by rw [if_pos rfl] at H; exact H
   clear H
   have H := H1
   clear H1
   obtain rfl := Option.some.inj H
   go_enter Try.func101, Try.ntmps101
   go_wp2_with (first | ((with_reducible refine gate_dst (N := 4) rfl ?_); refine box_event ?hg (N := 4) ?hd (cs := #[.int .i64 a0_0, .slice A0_1 l0_1.length c0_1]) (t := 29) ?hr ?_; (case hd => rfl); (case hg => rfl); (case hr => first | (go_simp; done) | (go_simp; rfl)); intro gb152 hg w11 hbox hb; have n_ := And.intro (Aside0.mk (below_step bl_ hb)) (And.intro (Aside0.mk (hbox)) (And.intro (Aside0.mk ((by rw [hg]; exact (below_size bl_) : w.heap.size ≤ gb152))) (Aside0.mk ((by rw [hg]; exact (below_size bl_) : w.heap.size ≤ gb152))))); clear HB; obtain ⟨HB, BK152, GW152, GE152⟩ := n_; clear hb hbox hg; have hcz12_0 : w11.cell? ⟨gb152, 0, none⟩ = some (.int .i64 a0_0) := (blk_cell BK152.out 0).trans rfl; have hcz12_1 : w11.cell? ⟨gb152, 1, none⟩ = some (.slice A0_1 l0_1.length c0_1) := (blk_cell BK152.out 1).trans rfl; have hfz12_0 := blk_frozen BK152.out 0; have hfz12_1 := blk_frozen BK152.out 1) | ((with_reducible refine gate_callee (f := 108) rfl ?_); refine gL_ (some 12) Try.func108 #[.agg #[.int .i64 a0_0, .slice A0_1 l0_1.length c0_1], .int .i64 a1, .int .i64 a2] ?_ rfl rfl; (with_reducible refine (spec_l2Near.calls k a0_0 _ _ l0_1 a1 a2 false _ ?side1 ?side2 A5.out).mono ?_); (case side1 => exact cb_ HR0_1); (case side2 => exact HC0_1.out); rintro e w13 ⟨rfl, hb⟩; refine ⟨_, rfl, ?_⟩; have n_ := And.intro (Aside0.mk (blk_below (g := gb152) (o := .cells #[.int .i64 a0_0, .slice A0_1 l0_1.length c0_1] 29 (0, 0)) (bk_ BK152) hb)) (Aside0.mk (below_step bg_ hb)); clear BK152 HB; obtain ⟨BK152, HB⟩ := n_; (try clear hb); (try clear hb2); (try clear hk); (try clear hi)))
   go_ret
   exact ⟨by first | rfl | (simp [errW_none, errW_some] <;> rfl) | (simp [*, errW_none, errW_some] <;> rfl), by repeat (first | (with_reducible first | exact HB.out | apply below_alloc | apply pw_below_drewN | apply below_drew1 | refine below_set ?_ GE152.out) | exact HB.out)⟩
  ·replace c10 := Bool.eq_false_iff.mpr c10
   subst c10
   have H1 : (some false) = some r := by rw [if_neg (show ¬ (false = true) by decide)] at H; exact H
   clear H
   have H := H1
   clear H1
   obtain rfl := Option.some.inj H
   go_enter Try.func101, Try.ntmps101
   go_wp2_with (first | ((with_reducible refine gate_dst (N := 4) rfl ?_); refine box_event ?hg (N := 4) ?hd (cs := #[.int .i64 a0_0, .slice A0_1 l0_1.length c0_1]) (t := 29) ?hr ?_; (case hd => rfl); (case hg => rfl); (case hr => first | (go_simp; done) | (go_simp; rfl)); intro gb152 hg w14 hbox hb; have n_ := And.intro (Aside0.mk (below_step bl_ hb)) (And.intro (Aside0.mk (hbox)) (And.intro (Aside0.mk ((by rw [hg]; exact (below_size bl_) : w.heap.size ≤ gb152))) (Aside0.mk ((by rw [hg]; exact (below_size bl_) : w.heap.size ≤ gb152))))); clear HB; obtain ⟨HB, BK152, GW152, GE152⟩ := n_; clear hb hbox hg; have hcz15_0 : w14.cell? ⟨gb152, 0, none⟩ = some (.int .i64 a0_0) := (blk_cell BK152.out 0).trans rfl; have hcz15_1 : w14.cell? ⟨gb152, 1, none⟩ = some (.slice A0_1 l0_1.length c0_1) := (blk_cell BK152.out 1).trans rfl; have hfz15_0 := blk_frozen BK152.out 0; have hfz15_1 := blk_frozen BK152.out 1) | ((with_reducible refine gate_callee (f := 108) rfl ?_); refine gL_ (some 12) Try.func108 #[.agg #[.int .i64 a0_0, .slice A0_1 l0_1.length c0_1], .int .i64 a1, .int .i64 a2] ?_ rfl rfl; (with_reducible refine (spec_l2Near.calls k a0_0 _ _ l0_1 a1 a2 false _ ?side1 ?side2 A5.out).mono ?_); (case side1 => exact cb_ HR0_1); (case side2 => exact HC0_1.out); rintro e w16 ⟨rfl, hb⟩; refine ⟨_, rfl, ?_⟩; have n_ := And.intro (Aside0.mk (blk_below (g := gb152) (o := .cells #[.int .i64 a0_0, .slice A0_1 l0_1.length c0_1] 29 (0, 0)) (bk_ BK152) hb)) (Aside0.mk (below_step bg_ hb)); clear BK152 HB; obtain ⟨BK152, HB⟩ := n_; (try clear hb); (try clear hb2); (try clear hk); (try clear hi)))
   go_ret
   exact ⟨by first | rfl | (simp [errW_none, errW_some] <;> rfl) | (simp [*, errW_none, errW_some] <;> rfl), by repeat (first | (with_reducible first | exact HB.out | apply below_alloc | apply pw_below_drewN | apply below_drew1 | refine below_set ?_ GE152.out) | exact HB.out)⟩

end Go.Proofs.Ytiiaadgibkpaaaa.PFnExactAfterMap
