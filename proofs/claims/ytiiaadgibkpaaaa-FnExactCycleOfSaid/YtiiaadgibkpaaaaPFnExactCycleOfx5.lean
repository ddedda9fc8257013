-- written by wip/tools of this repo out of the translation (a turned copy of the kit's print): checked by Lean alone
import Derived.Test.YtiiaadgibkpaaaaPFnExactCycleOfx0
import Derived.Test.YtiiaadgibkpaaaaPFnExactCycleOfx1
import Derived.Test.YtiiaadgibkpaaaaPFnExactCycleOfx2
import Derived.Test.YtiiaadgibkpaaaaPFnExactCycleOfx4
namespace Go.Proofs.Ytiiaadgibkpaaaa.PFnExactCycleOf
open Go.RowKit Go.Proofs.YtiiaadgibkpaaaaW.PrintWords Go.Proofs.YtiiaadgibkpaaaaW.PrintLast Go.Proofs.YtiiaadgibkpaaaaW.PrintMore
attribute [local go_sem] max2_int min2_int max_two min_two max_three min_three max_four min_four   -- for this text's walks alone
set_option linter.unusedVariables false
set_option linter.unusedSimpArgs false

/-! ### laws_FnExactCycleOf: function 14 -/
mutual
def laws_FnExactCycleOf.j0 : Nat → Int → Bool → Bool → Int → List (S78) → Int → List (S78) → Option (Bool)
 | 0, _, _, _, _, _, _, _ => none
 | k + 1, x0, x4, x29, x167000, x167001, x173000, x173001 => if x29 = true then (some false) else ((laws_markGraph.f k x173000 x173001 1).bind fun bt174 => ((laws_heldGraph.f k x173000 bt174.2 1).bind fun t176 => (if t176 < 0 then (some false) else (if t176 = bt174.1 then ((impl_CycleOf.f k x0).bind fun bt177 => ((laws_eqGraph.f k bt177.1 bt177.2.1 x167000 x167001).bind fun t183 => (if t183 = true then (laws_FnExactCycleOf.j1 k bt174.1 (bt177.2.2 != x4) x173000 bt174.2) else (laws_FnExactCycleOf.j1 k bt174.1 true x173000 bt174.2)))) else (some false)))))
def laws_FnExactCycleOf.j1 : Nat → Int → Bool → Int → List (S78) → Option (Bool)
 | 0, _, _, _, _ => none
 | k + 1, x7, x54, x173000, x173001 => if x54 = true then (some false) else ((laws_heldGraph.f k x173000 x173001 1).bind fun t184 => (if t184 < 0 then (some false) else (if t184 = x7 then (some true) else (some false))))
end
def laws_FnExactCycleOf.f (k : Nat) (a0 : Int) : Option (Bool) := (spec_CycleOf.f k a0).bind fun bt161 => ((impl_CycleOf.f k a0).bind fun bt167 => ((laws_eqGraph.f k bt167.1 bt167.2.1 bt161.1 bt161.2.1).bind fun t173 => (if t173 = true then (laws_FnExactCycleOf.j0 k a0 bt161.2.2 (bt167.2.2 != bt161.2.2) bt161.1 bt161.2.1 bt167.1 bt167.2.1) else (laws_FnExactCycleOf.j0 k a0 bt161.2.2 true bt161.1 bt161.2.1 bt167.1 bt167.2.1))))
set_option maxHeartbeats 8000000 in
set_option maxRecDepth 100000 in
theorem laws_FnExactCycleOf.calls (k : Nat) (a0 : Int) (r : Bool) (w : World) (h : laws_FnExactCycleOf.f k a0 = some r) :
  Calls Try.prog 14 #[.int .i64 a0] w fun e w' => e = .returned (.bool r) ∧ Below w.heap.size w w' := by
 have hu29 := Try.underlying29
 have HB := Aside0.mk (Below.refl w.heap.size w)
 have H : ((spec_CycleOf.f k a0).bind fun bt161 => ((impl_CycleOf.f k a0).bind fun bt167 => ((laws_eqGraph.f k bt167.1 bt167.2.1 bt161.1 bt161.2.1).bind fun t173 => (if t173 = true then (laws_FnExactCycleOf.j0 k a0 bt161.2.2 (bt167.2.2 != bt161.2.2) bt161.1 bt161.2.1 bt167.1 bt167.2.1) else (laws_FnExactCycleOf.j0 k a0 bt161.2.2 true bt161.1 bt161.2.1 bt167.1 bt167.2.1))))) = some r := h
 clear h
 replace H := Option.bind_eq_some_iff.mp H
 obtain ⟨⟨t161, t162, t165⟩, A20, H⟩ := H
 replace H : ((impl_CycleOf.f k a0).bind fun bt167 => ((laws_eqGraph.f k bt167.1 bt167.2.1 t161 t162).bind fun t173 => (if t173 = true then (laws_FnExactCycleOf.j0 k a0 t165 (bt167.2.2 != t165) t161 t162 bt167.1 bt167.2.1) else (laws_FnExactCycleOf.j0 k a0 t165 true t161 t162 bt167.1 bt167.2.1)))) = some r := H
 have A2 := Aside0.mk A20
 clear A20
 replace H := Option.bind_eq_some_iff.mp H
 obtain ⟨⟨t167, t168, t171⟩, A30, H⟩ := H
 replace H : ((laws_eqGraph.f k t167 t168 t161 t162).bind fun t173 => (if t173 = true then (laws_FnExactCycleOf.j0 k a0 t165 (t171 != t165) t161 t162 t167 t168) else (laws_FnExactCycleOf.j0 k a0 t165 true t161 t162 t167 t168))) = some r := H
 have A3 := Aside0.mk A30
 clear A30
 have HC4 := Aside0.mk H
 clear H
 go_enter Try.func14, Try.ntmps14
 go_upto_region 3 with (first | ((with_reducible refine gate_callee (f := 53) rfl ?_); refine gL_ (some 13) Try.func53 #[.int .i64 a0] ?_ rfl rfl; (with_reducible refine (spec_CycleOf.calls k a0 t161 t162 t165 _ A2.out).mono ?_); rintro e w5 ⟨v163, rfl, ho0, hb⟩; refine ⟨_, rfl, ?_⟩; have n0_ := Aside0.mk (Kd.R_lower ho0 (below_size bl_)); have n1_ := Aside0.mk (below_step bl_ hb); clear HB; have HO164 := n0_; have HB := n1_; clear n0_ n1_; (try clear hb); (try clear hb2); (try clear hk); (try clear hi); (try clear ho0)) | ((with_reducible refine gate_dst (N := 3) rfl ?_); refine box_event ?hg (N := 3) ?hd (cs := #[.int .i64 0, .slice none 0 0]) (t := 29) ?hr ?_; (case hd => rfl); (case hg => rfl); (case hr => first | (go_simp; done) | (go_simp; rfl)); intro gb166 hg w6 hbox hb; have n0_ := Aside0.mk (Kd.R_below (by (with_reducible repeat (first | apply Kd.R_alloc | apply Kd.R_drewN | apply Kd.R_drew)); exact HO164.out) hb); have n1_ := Aside0.mk (below_step bl_ hb); have n2_ := Aside0.mk (hbox); have n3_ := Aside0.mk ((by rw [hg]; exact (below_size bl_) : w.heap.size ≤ gb166)); have n4_ := Aside0.mk ((by rw [hg]; exact (below_size bl_) : w.heap.size ≤ gb166)); clear HO164; clear HB; have HO164 := n0_; have HB := n1_; have BK166 := n2_; have GW166 := n3_; have GE166 := n4_; clear n0_ n1_ n2_ n3_ n4_; clear hb hbox hg; have hcz7_0 : w6.cell? ⟨gb166, 0, none⟩ = some (.int .i64 0) := (blk_cell BK166.out 0).trans rfl; have hcz7_1 : w6.cell? ⟨gb166, 1, none⟩ = some (.slice none 0 0) := (blk_cell BK166.out 1).trans rfl; have hfz7_0 := blk_frozen BK166.out 0; have hfz7_1 := blk_frozen BK166.out 1; obtain ⟨Ao8, co8, eo8⟩ := Kd.R_slice HO164.out; subst eo8) | ((with_reducible refine gate_callee (f := 54) rfl ?_); refine gL_ (some 18) Try.func54 #[.int .i64 a0] ?_ rfl rfl; (with_reducible refine (impl_CycleOf.calls k a0 t167 t168 t171 _ A3.out).mono ?_); rintro e w9 ⟨v169, rfl, ho0, hb⟩; refine ⟨_, rfl, ?_⟩; have n0_ := Aside0.mk (Kd.R_elder' (by (with_reducible repeat (first | apply Kd.R_alloc | apply Kd.R_drewN | apply Kd.R_drew)); exact (Kd.R_mono (Kd.R_far (p := ⟨gb166, 1, none⟩) (Kd.R_far (p := ⟨gb166, 0, none⟩) (Kd.R_types HO164.out BK166.out (by decide)) (fun _ hk => hk.2) (.int .i64 t161)) (fun _ hk => hk.2) (.slice Ao8 t162.length co8)) (fun _ h_ => h_.1))) (Kd.R_base ho0) hb); have n1_ := Aside0.mk (Kd.R_lower (Kd.R_new' ho0 (Kd.R_lt (by (with_reducible repeat (first | apply Kd.R_alloc | apply Kd.R_drewN | apply Kd.R_drew)); exact (Kd.R_mono (Kd.R_far (p := ⟨gb166, 1, none⟩) (Kd.R_far (p := ⟨gb166, 0, none⟩) (Kd.R_types HO164.out BK166.out (by decide)) (fun _ hk => hk.2) (.int .i64 t161)) (fun _ hk => hk.2) (.slice Ao8 t162.length co8)) (fun _ h_ => h_.1))))) (below_size (by repeat (first | (with_reducible first | exact HB.out | apply below_alloc | apply pw_below_drewN | apply below_drew1 | refine below_set ?_ GE166.out) | exact HB.out)))); have n2_ := Aside0.mk (blk_below (g := gb166) (o := .cells #[.int .i64 t161, .slice Ao8 t162.length co8] 29 (0, 0)) (by (with_reducible repeat (first | refine blk_drewN ?_ _ | refine blk_drew ?_ | refine blk_alloc ?_ _)); refine blk_put (cs := #[.int .i64 t161, .slice none 0 0]) ?_ 1 _ rfl; (with_reducible repeat (first | refine blk_drewN ?_ _ | refine blk_drew ?_ | refine blk_alloc ?_ _)); refine blk_put (cs := #[.int .i64 0, .slice none 0 0]) ?_ 0 _ rfl; (with_reducible repeat (first | refine blk_drewN ?_ _ | refine blk_drew ?_ | refine blk_alloc ?_ _)); exact BK166.out) hb); have n3_ := Aside0.mk (below_step (by repeat (first | (with_reducible first | exact HB.out | apply below_alloc | apply pw_below_drewN | apply below_drew1 | refine below_set ?_ GE166.out) | exact HB.out)) hb); clear HO164; clear BK166; clear HB; have HO164 := n0_; have HO170 := n1_; have BK166 := n2_; have HB := n3_; clear n0_ n1_ n2_ n3_; (try clear hb); (try clear hb2); (try clear hk); (try clear hi); (try clear ho0)) | ((with_reducible refine gate_dst (N := 5) rfl ?_); refine box_event ?hg (N := 5) ?hd (cs := #[.int .i64 0, .slice none 0 0]) (t := 29) ?hr ?_; (case hd => rfl); (case hg => rfl); (case hr => first | (go_simp; done) | (go_simp; rfl)); intro gb172 hg w10 hbox hb; have n0_ := Aside0.mk (Kd.R_below (by (with_reducible repeat (first | apply Kd.R_alloc | apply Kd.R_drewN | apply Kd.R_drew)); exact HO164.out) hb); have n1_ := Aside0.mk (Kd.R_below (by (with_reducible repeat (first | apply Kd.R_alloc | apply Kd.R_drewN | apply Kd.R_drew)); exact HO170.out) hb); have n2_ := Aside0.mk (blk_below (g := gb166) (o := .cells #[.int .i64 t161, .slice Ao8 t162.length co8] 29 (0, 0)) (by (with_reducible repeat (first | refine blk_drewN ?_ _ | refine blk_drew ?_ | refine blk_alloc ?_ _)); exact BK166.out) hb); have n3_ := Aside0.mk (below_step (by repeat (first | (with_reducible first | exact HB.out | apply below_alloc | apply pw_below_drewN | apply below_drew1 | refine below_set ?_ GE166.out) | exact HB.out)) hb); have n4_ := Aside0.mk (hbox); have n5_ := Aside0.mk ((by rw [hg]; exact (below_size (by repeat (first | (with_reducible first | exact HB.out | apply below_alloc | apply pw_below_drewN | apply below_drew1 | refine below_set ?_ GE166.out) | exact HB.out))) : w.heap.size ≤ gb172)); have n6_ := Aside0.mk ((by rw [hg]; exact (below_size (by repeat (first | (with_reducible first | exact HB.out | apply below_alloc | apply pw_below_drewN | apply below_drew1 | refine below_set ?_ GE166.out) | exact HB.out))) : w.heap.size ≤ gb172)); have n7_ := Aside0.mk ((by rw [hg]; exact Nat.ne_of_lt (blk_lt (g := gb166) (o := .cells #[.int .i64 t161, .slice Ao8 t162.length co8] 29 (0, 0)) (by (with_reducible repeat (first | refine blk_drewN ?_ _ | refine blk_drew ?_ | refine blk_alloc ?_ _)); exact BK166.out)) : gb166 ≠ gb172)); have n8_ := Aside0.mk ((by rw [hg]; exact Nat.ne_of_gt (blk_lt (g := gb166) (o := .cells #[.int .i64 t161, .slice Ao8 t162.length co8] 29 (0, 0)) (by (with_reducible repeat (first | refine blk_drewN ?_ _ | refine blk_drew ?_ | refine blk_alloc ?_ _)); exact BK166.out)) : gb172 ≠ gb166)); clear HO164; clear HO170; clear BK166; clear HB; have HO164 := n0_; have HO170 := n1_; have BK166 := n2_; have HB := n3_; have BK172 := n4_; have GW172 := n5_; have GE172 := n6_; have NB166_172 := n7_; have NB172_166 := n8_; clear n0_ n1_ n2_ n3_ n4_ n5_ n6_ n7_ n8_; clear hb hbox hg; have hnb11 := NB172_166.out; have hnc11 := NB166_172.out; have hcz12_0 : w10.cell? ⟨gb172, 0, none⟩ = some (.int .i64 0) := (blk_cell BK172.out 0).trans rfl; have hcz12_1 : w10.cell? ⟨gb172, 1, none⟩ = some (.slice none 0 0) := (blk_cell BK172.out 1).trans rfl; have hfz12_0 := blk_frozen BK172.out 0; have hfz12_1 := blk_frozen BK172.out 1; obtain ⟨Ao13, co13, eo13⟩ := Kd.R_slice HO170.out; subst eo13))
 (try simp only [Act.put, List.setIfInBounds_toArray, List.set_cons_zero, List.set_cons_succ])
 go_cut [29] (fun v29 wc => ∃ (kq : Nat) (x29_3 : Bool), v29 = .bool x29_3 ∧ Aside0 (laws_FnExactCycleOf.j0 kq a0 t165 x29_3 t161 t162 t167 t168 = some r) ∧ Aside0 (kq ≤ k) ∧ Aside0 (Kd.R k78 78 wc w.heap.size (fun k_ => some k_ ≠ ((.slice Ao13 t168.length co13) : Value).ownBlock) (.slice Ao8 t162.length co8) t162) ∧ Aside0 (Kd.R k78 78 wc w.heap.size (fun k_ => some k_ ≠ ((.slice Ao8 t162.length co8) : Value).ownBlock) (.slice Ao13 t168.length co13) t168) ∧ Aside0 (wc.heap[gb166]? = some (.cells #[.int .i64 t161, (.slice Ao8 t162.length co8)] 29 (0, 0))) ∧ Aside0 (wc.heap[gb172]? = some (.cells #[.int .i64 t167, (.slice Ao13 t168.length co13)] 29 (0, 0))) ∧ Aside0 (Below w.heap.size w wc))
 case first =>
  have H := HC4.out
  clear HC4
  replace H := Option.bind_eq_some_iff.mp H
  obtain ⟨t173, A140, H⟩ := H
  replace H : (if t173 = true then (laws_FnExactCycleOf.j0 k a0 t165 (t171 != t165) t161 t162 t167 t168) else (laws_FnExactCycleOf.j0 k a0 t165 true t161 t162 t167 t168)) = some r := H
  have A14 := Aside0.mk A140
  clear A140
  by_cases c15 : t173 = true
  ·subst c15
   have H1 : (laws_FnExactCycleOf.j0 k a0 t165 (t171 != t165) t161 t162 t167 t168) = some r := by rw [if_pos rfl] at H; exact H
   clear H
   have H := H1
   clear H1
   have H' := Aside0.mk H
   clear H
   have hnb16 := NB172_166.out
   have hnc16 := NB166_172.out
   have hcz17_0 : w10.cell? ⟨gb172, 0, none⟩ = some (.int .i64 0) := (blk_cell BK172.out 0).trans rfl
   have hcz17_1 : w10.cell? ⟨gb172, 1, none⟩ = some (.slice none 0 0) := (blk_cell BK172.out 1).trans rfl
   have hfz17_0 := blk_frozen BK172.out 0
   have hfz17_1 := blk_frozen BK172.out 1
   have hcz18_0 : w10.cell? ⟨gb166, 0, none⟩ = some (.int .i64 t161) := (blk_cell BK166.out 0).trans rfl
   have hcz18_1 : w10.cell? ⟨gb166, 1, none⟩ = some (.slice Ao8 t162.length co8) := (blk_cell BK166.out 1).trans rfl
   have hfz18_0 := blk_frozen BK166.out 0
   have hfz18_1 := blk_frozen BK166.out 1
   go_wp2_with (first | ((with_reducible refine gate_callee (f := 20) rfl ?_); refine gL_ (some 23) Try.func20 #[.agg #[.int .i64 t167, .slice Ao13 t168.length co13], .agg #[.int .i64 t161, .slice Ao8 t162.length co8]] ?_ rfl rfl; (with_reducible refine (laws_eqGraph.calls k t167 _ _ t168 t161 _ _ t162 true _ ?side1 ?side2 ?side3 ?side4 A14.out).mono ?_); (case side1 => refine (Kd.R_reads' (e := 78) (base := w.heap.size) (ok := fun k_ => (True ∧ some k_ ≠ (.slice Ao8 t162.length co8 : Value).ownBlock)) (n := t168.length) (c := co13) ?_).2.2; exact (by (with_reducible repeat (first | apply Kd.R_alloc | apply Kd.R_drewN | apply Kd.R_drew)); exact (Kd.R_mono (Kd.R_far (p := ⟨gb172, 1, none⟩) (Kd.R_far (p := ⟨gb172, 0, none⟩) (Kd.R_types HO170.out BK172.out (by decide)) (fun _ hk => hk.2) (.int .i64 t167)) (fun _ hk => hk.2) (.slice Ao13 t168.length co13)) (fun _ h_ => h_.1)))); (case side2 => exact (Kd.R_reads' HO170.out).2.1); (case side3 => refine (Kd.R_reads' (e := 78) (base := w.heap.size) (ok := fun k_ => (True ∧ some k_ ≠ (.slice Ao13 t168.length co13 : Value).ownBlock)) (n := t162.length) (c := co8) ?_).2.2; exact (by (with_reducible repeat (first | apply Kd.R_alloc | apply Kd.R_drewN | apply Kd.R_drew)); exact (Kd.R_mono (Kd.R_far (p := ⟨gb172, 1, none⟩) (Kd.R_far (p := ⟨gb172, 0, none⟩) (Kd.R_types HO164.out BK172.out (by decide)) (fun _ hk => hk.2) (.int .i64 t167)) (fun _ hk => hk.2) (.slice Ao13 t168.length co13)) (fun _ h_ => h_.1)))); (case side4 => exact (Kd.R_reads' HO164.out).2.1); rintro e w19 ⟨rfl, hb⟩; refine ⟨_, rfl, ?_⟩; have n0_ := Aside0.mk (Kd.R_below (by (with_reducible repeat (first | apply Kd.R_alloc | apply Kd.R_drewN | apply Kd.R_drew)); exact (Kd.R_mono (Kd.R_far (p := ⟨gb172, 1, none⟩) (Kd.R_far (p := ⟨gb172, 0, none⟩) (Kd.R_types HO164.out BK172.out (by decide)) (fun _ hk => hk.2) (.int .i64 t167)) (fun _ hk => hk.2) (.slice Ao13 t168.length co13)) (fun _ h_ => h_.1))) hb); have n1_ := Aside0.mk (Kd.R_below (by (with_reducible repeat (first | apply Kd.R_alloc | apply Kd.R_drewN | apply Kd.R_drew)); exact (Kd.R_mono (Kd.R_far (p := ⟨gb172, 1, none⟩) (Kd.R_far (p := ⟨gb172, 0, none⟩) (Kd.R_types HO170.out BK172.out (by decide)) (fun _ hk => hk.2) (.int .i64 t167)) (fun _ hk => hk.2) (.slice Ao13 t168.length co13)) (fun _ h_ => h_.1))) hb); have n2_ := Aside0.mk (blk_below (g := gb166) (o := .cells #[.int .i64 t161, .slice Ao8 t162.length co8] 29 (0, 0)) (by (with_reducible repeat (first | refine blk_drewN ?_ _ | refine blk_drew ?_ | refine blk_alloc ?_ _)); refine blk_far ?_ NB166_172.out _; (with_reducible repeat (first | refine blk_drewN ?_ _ | refine blk_drew ?_ | refine blk_alloc ?_ _)); refine blk_far ?_ NB166_172.out _; (with_reducible repeat (first | refine blk_drewN ?_ _ | refine blk_drew ?_ | refine blk_alloc ?_ _)); exact BK166.out) hb); have n3_ := Aside0.mk (blk_below (g := gb172) (o := .cells #[.int .i64 t167, .slice Ao13 t168.length co13] 29 (0, 0)) (by (with_reducible repeat (first | refine blk_drewN ?_ _ | refine blk_drew ?_ | refine blk_alloc ?_ _)); refine blk_put (cs := #[.int .i64 t167, .slice none 0 0]) ?_ 1 _ rfl; (with_reducible repeat (first | refine blk_drewN ?_ _ | refine blk_drew ?_ | refine blk_alloc ?_ _)); refine blk_put (cs := #[.int .i64 0, .slice none 0 0]) ?_ 0 _ rfl; (with_reducible repeat (first | refine blk_drewN ?_ _ | refine blk_drew ?_ | refine blk_alloc ?_ _)); exact BK172.out) hb); have n4_ := Aside0.mk (below_step (by repeat (first | (with_reducible first | exact HB.out | apply below_alloc | apply pw_below_drewN | apply below_drew1 | refine below_set ?_ GE166.out | refine below_set ?_ GE172.out) | exact HB.out)) hb); clear HO164; clear HO170; clear BK166; clear BK172; clear HB; have HO164 := n0_; have HO170 := n1_; have BK166 := n2_; have BK172 := n3_; have HB := n4_; clear n0_ n1_ n2_ n3_ n4_; (try clear hb); (try clear hb2); (try clear hk); (try clear hi)))
   go_meet
   case rel => exact ⟨_, ((t171 != t165)), (by first | rfl | (simp; done) | (simp [*]; done)), H', ⟨by first | omega | exact Nat.le_refl _⟩, ⟨by (with_reducible repeat (first | apply Kd.R_alloc | apply Kd.R_drewN | apply Kd.R_drew)); exact Kd.R_mono HO164.out (fun _ hk => hk.2)⟩, ⟨by (with_reducible repeat (first | apply Kd.R_alloc | apply Kd.R_drewN | apply Kd.R_drew)); exact Kd.R_mono HO170.out (fun _ hk => hk.2)⟩, ⟨by (with_reducible repeat (first | refine blk_drewN ?_ _ | refine blk_drew ?_ | refine blk_alloc ?_ _)); exact BK166.out⟩, ⟨by (with_reducible repeat (first | refine blk_drewN ?_ _ | refine blk_drew ?_ | refine blk_alloc ?_ _)); exact BK172.out⟩, ⟨by repeat (first | (with_reducible first | exact HB.out | apply below_alloc | apply pw_below_drewN | apply below_drew1 | refine below_set ?_ GE166.out | refine below_set ?_ GE172.out) | exact HB.out)⟩⟩
  ·replace c15 := Bool.eq_false_iff.mpr c15
   subst c15
   have H1 : (laws_FnExactCycleOf.j0 k a0 t165 true t161 t162 t167 t168) = some r := by rw [if_neg (show ¬ (false = true) by decide)] at H; exact H
   clear H
   have H := H1
   clear H1
   have H' := Aside0.mk H
   clear H
   have hnb20 := NB172_166.out
   have hnc20 := NB166_172.out
   have hcz21_0 : w10.cell? ⟨gb172, 0, none⟩ = some (.int .i64 0) := (blk_cell BK172.out 0).trans rfl
   have hcz21_1 : w10.cell? ⟨gb172, 1, none⟩ = some (.slice none 0 0) := (blk_cell BK172.out 1).trans rfl
   have hfz21_0 := blk_frozen BK172.out 0
   have hfz21_1 := blk_frozen BK172.out 1
   have hcz22_0 : w10.cell? ⟨gb166, 0, none⟩ = some (.int .i64 t161) := (blk_cell BK166.out 0).trans rfl
   have hcz22_1 : w10.cell? ⟨gb166, 1, none⟩ = some (.slice Ao8 t162.length co8) := (blk_cell BK166.out 1).trans rfl
   have hfz22_0 := blk_frozen BK166.out 0
   have hfz22_1 := blk_frozen BK166.out 1
   go_wp2_with (first | ((with_reducible refine gate_callee (f := 20) rfl ?_); refine gL_ (some 23) Try.func20 #[.agg #[.int .i64 t167, .slice Ao13 t168.length co13], .agg #[.int .i64 t161, .slice Ao8 t162.length co8]] ?_ rfl rfl; (with_reducible refine (laws_eqGraph.calls k t167 _ _ t168 t161 _ _ t162 false _ ?side1 ?side2 ?side3 ?side4 A14.out).mono ?_); (case side1 => refine (Kd.R_reads' (e := 78) (base := w.heap.size) (ok := fun k_ => (True ∧ some k_ ≠ (.slice Ao8 t162.length co8 : Value).ownBlock)) (n := t168.length) (c := co13) ?_).2.2; exact (by (with_reducible repeat (first | apply Kd.R_alloc | apply Kd.R_drewN | apply Kd.R_drew)); exact (Kd.R_mono (Kd.R_far (p := ⟨gb172, 1, none⟩) (Kd.R_far (p := ⟨gb172, 0, none⟩) (Kd.R_types HO170.out BK172.out (by decide)) (fun _ hk => hk.2) (.int .i64 t167)) (fun _ hk => hk.2) (.slice Ao13 t168.length co13)) (fun _ h_ => h_.1)))); (case side2 => exact (Kd.R_reads' HO170.out).2.1); (case side3 => refine (Kd.R_reads' (e := 78) (base := w.heap.size) (ok := fun k_ => (True ∧ some k_ ≠ (.slice Ao13 t168.length co13 : Value).ownBlock)) (n := t162.length) (c := co8) ?_).2.2; exact (by (with_reducible repeat (first | apply Kd.R_alloc | apply Kd.R_drewN | apply Kd.R_drew)); exact (Kd.R_mono (Kd.R_far (p := ⟨gb172, 1, none⟩) (Kd.R_far (p := ⟨gb172, 0, none⟩) (Kd.R_types HO164.out BK172.out (by decide)) (fun _ hk => hk.2) (.int .i64 t167)) (fun _ hk => hk.2) (.slice Ao13 t168.length co13)) (fun _ h_ => h_.1)))); (case side4 => exact (Kd.R_reads' HO164.out).2.1); rintro e w23 ⟨rfl, hb⟩; refine ⟨_, rfl, ?_⟩; have n0_ := Aside0.mk (Kd.R_below (by (with_reducible repeat (first | apply Kd.R_alloc | apply Kd.R_drewN | apply Kd.R_drew)); exact (Kd.R_mono (Kd.R_far (p := ⟨gb172, 1, none⟩) (Kd.R_far (p := ⟨gb172, 0, none⟩) (Kd.R_types HO164.out BK172.out (by decide)) (fun _ hk => hk.2) (.int .i64 t167)) (fun _ hk => hk.2) (.slice Ao13 t168.length co13)) (fun _ h_ => h_.1))) hb); have n1_ := Aside0.mk (Kd.R_below (by (with_reducible repeat (first | apply Kd.R_alloc | apply Kd.R_drewN | apply Kd.R_drew)); exact (Kd.R_mono (Kd.R_far (p := ⟨gb172, 1, none⟩) (Kd.R_far (p := ⟨gb172, 0, none⟩) (Kd.R_types HO170.out BK172.out (by decide)) (fun _ hk => hk.2) (.int .i64 t167)) (fun _ hk => hk.2) (.slice Ao13 t168.length co13)) (fun _ h_ => h_.1))) hb); have n2_ := Aside0.mk (blk_below (g := gb166) (o := .cells #[.int .i64 t161, .slice Ao8 t162.length co8] 29 (0, 0)) (by (with_reducible repeat (first | refine blk_drewN ?_ _ | refine blk_drew ?_ | refine blk_alloc ?_ _)); refine blk_far ?_ NB166_172.out _; (with_reducible repeat (first | refine blk_drewN ?_ _ | refine blk_drew ?_ | refine blk_alloc ?_ _)); refine blk_far ?_ NB166_172.out _; (with_reducible repeat (first | refine blk_drewN ?_ _ | refine blk_drew ?_ | refine blk_alloc ?_ _)); exact BK166.out) hb); have n3_ := Aside0.mk (blk_below (g := gb172) (o := .cells #[.int .i64 t167, .slice Ao13 t168.length co13] 29 (0, 0)) (by (with_reducible repeat (first | refine blk_drewN ?_ _ | refine blk_drew ?_ | refine blk_alloc ?_ _)); refine blk_put (cs := #[.int .i64 t167, .slice none 0 0]) ?_ 1 _ rfl; (with_reducible repeat (first | refine blk_drewN ?_ _ | refine blk_drew ?_ | refine blk_alloc ?_ _)); refine blk_put (cs := #[.int .i64 0, .slice none 0 0]) ?_ 0 _ rfl; (with_reducible repeat (first | refine blk_drewN ?_ _ | refine blk_drew ?_ | refine blk_alloc ?_ _)); exact BK172.out) hb); have n4_ := Aside0.mk (below_step (by repeat (first | (with_reducible first | exact HB.out | apply below_alloc | apply pw_below_drewN | apply below_drew1 | refine below_set ?_ GE166.out | refine below_set ?_ GE172.out) | exact HB.out)) hb); clear HO164; clear HO170; clear BK166; clear BK172; clear HB; have HO164 := n0_; have HO170 := n1_; have BK166 := n2_; have BK172 := n3_; have HB := n4_; clear n0_ n1_ n2_ n3_ n4_; (try clear hb); (try clear hb2); (try clear hk); (try clear hi)))
   go_meet
   case rel => exact ⟨_, (true), (by first | rfl | (simp; done) | (simp [*]; done)), H', ⟨by first | omega | exact Nat.le_refl _⟩, ⟨by (with_reducible repeat (first | apply Kd.R_alloc | apply Kd.R_drewN | apply Kd.R_drew)); exact Kd.R_mono HO164.out (fun _ hk => hk.2)⟩, ⟨by (with_reducible repeat (first | apply Kd.R_alloc | apply Kd.R_drewN | apply Kd.R_drew)); exact Kd.R_mono HO170.out (fun _ hk => hk.2)⟩, ⟨by (with_reducible repeat (first | refine blk_drewN ?_ _ | refine blk_drew ?_ | refine blk_alloc ?_ _)); exact BK166.out⟩, ⟨by (with_reducible repeat (first | refine blk_drewN ?_ _ | refine blk_drew ?_ | refine blk_alloc ?_ _)); exact BK172.out⟩, ⟨by repeat (first | (with_reducible first | exact HB.out | apply below_alloc | apply pw_below_drewN | apply below_drew1 | refine below_set ?_ GE166.out | refine below_set ?_ GE172.out) | exact HB.out)⟩⟩
 case rest =>
  clear HC4
  try clear c1
  try clear c2
  try clear p2
  try clear c5
  try clear c11
  try clear c14
  try clear c15
  try clear c16
  try clear c20
  try clear hcz12_0
  try clear hcz12_1
  try clear hcz17_0
  try clear hcz17_1
  try clear hcz18_0
  try clear hcz18_1
  try clear hcz21_0
  try clear hcz21_1
  try clear hcz22_0
  try clear hcz22_1
  try clear hcz7_0
  try clear hcz7_1
  try clear hfz12_0
  try clear hfz12_1
  try clear hfz17_0
  try clear hfz17_1
  try clear hfz18_0
  try clear hfz18_1
  try clear hfz21_0
  try clear hfz21_1
  try clear hfz22_0
  try clear hfz22_1
  try clear hfz7_0
  try clear hfz7_1
  obtain ⟨kq, x29_3, rfl, HA, HJ3, HO_167001, HO_173001, BK166, BK172, HB⟩ := hcut
  cases kq with
  | zero => exact absurd HA.out (by simp [laws_FnExactCycleOf.j0])
  | succ kj3 =>
   have H := HA.out
   clear HA
   simp only [laws_FnExactCycleOf.j0] at H
   by_cases c24 : x29_3 = true
   ·subst c24
    have H1 : (some false) = some r := by rw [if_pos rfl] at H; exact H
    clear H
    have H := H1
    clear H1
    obtain rfl := Option.some.inj H
    go_wp2
    go_ret
    exact ⟨by first | rfl | (simp [errW_none, errW_some] <;> rfl) | (simp [*, errW_none, errW_some] <;> rfl), by repeat (first | (with_reducible first | exact HB.out | apply below_alloc | apply pw_below_drewN | apply below_drew1 | refine below_set ?_ GE166.out | refine below_set ?_ GE172.out) | exact HB.out)⟩
   ·replace c24 := Bool.eq_false_iff.mpr c24
    subst c24
    have H1 : ((laws_markGraph.f kj3 t167 t168 1).bind fun bt174 => ((laws_heldGraph.f kj3 t167 bt174.2 1).bind fun t176 => (if t176 < 0 then (some false) else (if t176 = bt174.1 then ((impl_CycleOf.f kj3 a0).bind fun bt177 => ((laws_eqGraph.f kj3 bt177.1 bt177.2.1 t161 t162).bind fun t183 => (if t183 = true then (laws_FnExactCycleOf.j1 kj3 bt174.1 (bt177.2.2 != t165) t167 bt174.2) else (laws_FnExactCycleOf.j1 kj3 bt174.1 true t167 bt174.2)))) else (some false))))) = some r := by rw [if_neg (show ¬ (false = true) by decide)] at H; exact H
    clear H
    have H := H1
    clear H1
    replace H := Option.bind_eq_some_iff.mp H
    obtain ⟨⟨t174, t175⟩, A250, H⟩ := H
    replace H : ((laws_heldGraph.f kj3 t167 t175 1).bind fun t176 => (if t176 < 0 then (some false) else (if t176 = t174 then ((impl_CycleOf.f kj3 a0).bind fun bt177 => ((laws_eqGraph.f kj3 bt177.1 bt177.2.1 t161 t162).bind fun t183 => (if t183 = true then (laws_FnExactCycleOf.j1 kj3 t174 (bt177.2.2 != t165) t167 t175) else (laws_FnExactCycleOf.j1 kj3 t174 true t167 t175)))) else (some false)))) = some r := H
    have A25 := Aside0.mk A250
    clear A250
    replace H := Option.bind_eq_some_iff.mp H
    obtain ⟨t176, A260, H⟩ := H
    replace H : (if t176 < 0 then (some false) else (if t176 = t174 then ((impl_CycleOf.f kj3 a0).bind fun bt177 => ((laws_eqGraph.f kj3 bt177.1 bt177.2.1 t161 t162).bind fun t183 => (if t183 = true then (laws_FnExactCycleOf.j1 kj3 t174 (bt177.2.2 != t165) t167 t175) else (laws_FnExactCycleOf.j1 kj3 t174 true t167 t175)))) else (some false))) = some r := H
    have A26 := Aside0.mk A260
    clear A260
    by_cases c27 : t176 < 0
    ·rw [if_pos c27] at H
     have c27b0 : decide (t176 < 0) = true := decide_eq_true c27
     clear c27
     obtain rfl := Option.some.inj H
     have hnb28 := NB172_166.out
     have hnc28 := NB166_172.out
     have hcz29_0 : wc.cell? ⟨gb172, 0, none⟩ = some (.int .i64 t167) := (blk_cell BK172.out 0).trans rfl
     have hcz29_1 : wc.cell? ⟨gb172, 1, none⟩ = some (.slice Ao13 t168.length co13) := (blk_cell BK172.out 1).trans rfl
     have hfz29_0 := blk_frozen BK172.out 0
     have hfz29_1 := blk_frozen BK172.out 1
     go_wp2_with (first | ((with_reducible refine gate_callee (f := 26) rfl ?_); refine gL_ (some 32) Try.func26 #[.agg #[.int .i64 t167, .slice Ao13 t168.length co13], .int .i64 1] ?_ rfl rfl; (with_reducible refine (laws_markGraph.calls kj3 t167 (fun k_ => some k_ = (.slice Ao13 t168.length co13 : Value).ownBlock) (.slice Ao13 t168.length co13) t168 1 t174 t175 w _ ?side1 ?side2 A25.out).mono ?_); (case side1 => repeat (first | (with_reducible first | exact HB.out | apply below_alloc | apply pw_below_drewN | apply below_drew1 | refine below_set ?_ GE166.out | refine below_set ?_ GE172.out) | exact HB.out)); (case side2 => exact Kd.R_tight rfl HO_173001.out); rintro e w30 ⟨rfl, hy0, hb, hkp⟩; refine ⟨_, rfl, ?_⟩; have n0_ := Aside0.mk (Kd.R_mono (ok' := fun k_ => some k_ ≠ (.slice Ao13 t168.length co13 : Value).ownBlock) (Kd.R_keptB (HO_167001.out) hkp (fun k_ hk_ hs_ => (hk_) hs_)) (fun k_ hk_ => hk_.1)); have n1_ := Aside0.mk (Kd.R_reok rfl hy0 (fun k_ e_ => HO_173001.out.1 k_ e_)); have n2_ := Aside0.mk (blk_kept (by (with_reducible repeat (first | refine blk_drewN ?_ _ | refine blk_drew ?_ | refine blk_alloc ?_ _)); exact BK166.out) hkp (fun hs_ => (fun e_ => (Kd.R_ne HO_173001.out BK166.out (by decide)) e_) hs_)); have n3_ := Aside0.mk (blk_kept (by (with_reducible repeat (first | refine blk_drewN ?_ _ | refine blk_drew ?_ | refine blk_alloc ?_ _)); exact BK172.out) hkp (fun hs_ => (fun e_ => (Kd.R_ne HO_173001.out BK172.out (by decide)) e_) hs_)); have n4_ := Aside0.mk (hb); clear HO_167001; clear HO_173001; clear BK166; clear BK172; clear HB; have HO_167001 := n0_; have HO_173001 := n1_; have BK166 := n2_; have BK172 := n3_; have HB := n4_; clear n0_ n1_ n2_ n3_ n4_; (try clear hb); (try clear hkp); (try clear hy0); have hcz31_0 : w30.cell? ⟨gb172, 0, none⟩ = some (.int .i64 t167) := (blk_cell BK172.out 0).trans rfl; have hcz31_1 : w30.cell? ⟨gb172, 1, none⟩ = some (.slice Ao13 t168.length co13) := (blk_cell BK172.out 1).trans rfl; have hfz31_0 := blk_frozen BK172.out 0; have hfz31_1 := blk_frozen BK172.out 1) | ((with_reducible refine gate_callee (f := 55) rfl ?_); refine goesL_ (some 35) rfl rfl Try.func55 (by kernel_rfl) rfl #[.agg #[.int .i64 t167, .slice Ao13 t175.length co13], .int .i64 1] rfl (by (try simp only [List.map_toArray, List.map_cons, List.map_nil]); first | done | (rw [show t175.length = t168.length from (Kd.R_reads' HO_173001.out).1.symm] <;> rfl) | rfl | (simp only [List.length_drop, List.length_take]; rfl)) ?_; (with_reducible refine (laws_heldGraph.calls kj3 t167 _ _ t175 1 t176 _ ?side1 ?side2 A26.out).mono ?_); (case side1 => repeat (first | exact (Kd.R_reads' HO_173001.out).2.2 | (with_reducible refine Kd.C_alloc ?_ _) | (with_reducible refine Kd.C_drewN ?_ _) | (with_reducible refine Kd.C_drew ?_))); (case side2 => rw [show t175.length = t168.length from (Kd.R_reads' HO_173001.out).1.symm]; exact (Kd.R_reads' HO_173001.out).2.1); rintro e w32 ⟨rfl, hb⟩; refine ⟨_, rfl, ?_⟩; have n0_ := Aside0.mk (Kd.R_below (by (with_reducible repeat (first | apply Kd.R_alloc | apply Kd.R_drewN | apply Kd.R_drew)); exact HO_167001.out) hb); have n1_ := Aside0.mk (Kd.R_below (by (with_reducible repeat (first | apply Kd.R_alloc | apply Kd.R_drewN | apply Kd.R_drew)); exact HO_173001.out) hb); have n2_ := Aside0.mk (blk_below (g := gb166) (o := .cells #[.int .i64 t161, .slice Ao8 t162.length co8] 29 (0, 0)) (by (with_reducible repeat (first | refine blk_drewN ?_ _ | refine blk_drew ?_ | refine blk_alloc ?_ _)); exact BK166.out) hb); have n3_ := Aside0.mk (blk_below (g := gb172) (o := .cells #[.int .i64 t167, .slice Ao13 t168.length co13] 29 (0, 0)) (by (with_reducible repeat (first | refine blk_drewN ?_ _ | refine blk_drew ?_ | refine blk_alloc ?_ _)); exact BK172.out) hb); have n4_ := Aside0.mk (below_step (by repeat (first | (with_reducible first | exact HB.out | apply below_alloc | apply pw_below_drewN | apply below_drew1 | refine below_set ?_ GE166.out | refine below_set ?_ GE172.out) | exact HB.out)) hb); clear HO_167001; clear HO_173001; clear BK166; clear BK172; clear HB; have HO_167001 := n0_; have HO_173001 := n1_; have BK166 := n2_; have BK172 := n3_; have HB := n4_; clear n0_ n1_ n2_ n3_ n4_; (try clear hb); (try clear hb2); (try clear hk); (try clear hi)))
     go_ret
     exact ⟨by first | rfl | (simp [errW_none, errW_some] <;> rfl) | (simp [*, errW_none, errW_some] <;> rfl), by repeat (first | (with_reducible first | exact HB.out | apply below_alloc | apply pw_below_drewN | apply below_drew1 | refine below_set ?_ GE166.out | refine below_set ?_ GE172.out) | exact HB.out)⟩
    ·rw [if_neg c27] at H
     have c27b0 : decide (t176 < 0) = false := decide_eq_false c27
     clear c27
     by_cases c33 : t176 = t174
     ·rw [if_pos c33] at H
      have c33b0 : (t176 == t174) = true := beq_iff_eq.mpr c33
      have c33b1 : (t176 != t174) = false := bne_eq_false_iff_eq.mpr c33
      clear c33
      replace H := Option.bind_eq_some_iff.mp H
      obtain ⟨⟨t177, t178, t181⟩, A340, H⟩ := H
      replace H : ((laws_eqGraph.f kj3 t177 t178 t161 t162).bind fun t183 => (if t183 = true then (laws_FnExactCycleOf.j1 kj3 t174 (t181 != t165) t167 t175) else (laws_FnExactCycleOf.j1 kj3 t174 true t167 t175))) = some r := H
      have A34 := Aside0.mk A340
      clear A340
      have HC35 := Aside0.mk H
      clear H
      have hnb36 := NB172_166.out
      have hnc36 := NB166_172.out
      have hcz37_0 : wc.cell? ⟨gb172, 0, none⟩ = some (.int .i64 t167) := (blk_cell BK172.out 0).trans rfl
      have hcz37_1 : wc.cell? ⟨gb172, 1, none⟩ = some (.slice Ao13 t168.length co13) := (blk_cell BK172.out 1).trans rfl
      have hfz37_0 := blk_frozen BK172.out 0
      have hfz37_1 := blk_frozen BK172.out 1
      go_upto_region 14 with (first | ((with_reducible refine gate_callee (f := 26) rfl ?_); refine gL_ (some 32) Try.func26 #[.agg #[.int .i64 t167, .slice Ao13 t168.length co13], .int .i64 1] ?_ rfl rfl; (with_reducible refine (laws_markGraph.calls kj3 t167 (fun k_ => some k_ = (.slice Ao13 t168.length co13 : Value).ownBlock) (.slice Ao13 t168.length co13) t168 1 t174 t175 w _ ?side1 ?side2 A25.out).mono ?_); (case side1 => repeat (first | (with_reducible first | exact HB.out | apply below_alloc | apply pw_below_drewN | apply below_drew1 | refine below_set ?_ GE166.out | refine below_set ?_ GE172.out) | exact HB.out)); (case side2 => exact Kd.R_tight rfl HO_173001.out); rintro e w38 ⟨rfl, hy0, hb, hkp⟩; refine ⟨_, rfl, ?_⟩; have n0_ := Aside0.mk (Kd.R_mono (ok' := fun k_ => some k_ ≠ (.slice Ao13 t168.length co13 : Value).ownBlock) (Kd.R_keptB (HO_167001.out) hkp (fun k_ hk_ hs_ => (hk_) hs_)) (fun k_ hk_ => hk_.1)); have n1_ := Aside0.mk (Kd.R_reok rfl hy0 (fun k_ e_ => HO_173001.out.1 k_ e_)); have n2_ := Aside0.mk (blk_kept (by (with_reducible repeat (first | refine blk_drewN ?_ _ | refine blk_drew ?_ | refine blk_alloc ?_ _)); exact BK166.out) hkp (fun hs_ => (fun e_ => (Kd.R_ne HO_173001.out BK166.out (by decide)) e_) hs_)); have n3_ := Aside0.mk (blk_kept (by (with_reducible repeat (first | refine blk_drewN ?_ _ | refine blk_drew ?_ | refine blk_alloc ?_ _)); exact BK172.out) hkp (fun hs_ => (fun e_ => (Kd.R_ne HO_173001.out BK172.out (by decide)) e_) hs_)); have n4_ := Aside0.mk (hb); clear HO_167001; clear HO_173001; clear BK166; clear BK172; clear HB; have HO_167001 := n0_; have HO_173001 := n1_; have BK166 := n2_; have BK172 := n3_; have HB := n4_; clear n0_ n1_ n2_ n3_ n4_; (try clear hb); (try clear hkp); (try clear hy0); have hcz39_0 : w38.cell? ⟨gb172, 0, none⟩ = some (.int .i64 t167) := (blk_cell BK172.out 0).trans rfl; have hcz39_1 : w38.cell? ⟨gb172, 1, none⟩ = some (.slice Ao13 t168.length co13) := (blk_cell BK172.out 1).trans rfl; have hfz39_0 := blk_frozen BK172.out 0; have hfz39_1 := blk_frozen BK172.out 1) | ((with_reducible refine gate_callee (f := 55) rfl ?_); refine goesL_ (some 35) rfl rfl Try.func55 (by kernel_rfl) rfl #[.agg #[.int .i64 t167, .slice Ao13 t175.length co13], .int .i64 1] rfl (by (try simp only [List.map_toArray, List.map_cons, List.map_nil]); first | done | (rw [show t175.length = t168.length from (Kd.R_reads' HO_173001.out).1.symm] <;> rfl) | rfl | (simp only [List.length_drop, List.length_take]; rfl)) ?_; (with_reducible refine (laws_heldGraph.calls kj3 t167 _ _ t175 1 t176 _ ?side1 ?side2 A26.out).mono ?_); (case side1 => repeat (first | exact (Kd.R_reads' HO_173001.out).2.2 | (with_reducible refine Kd.C_alloc ?_ _) | (with_reducible refine Kd.C_drewN ?_ _) | (with_reducible refine Kd.C_drew ?_))); (case side2 => rw [show t175.length = t168.length from (Kd.R_reads' HO_173001.out).1.symm]; exact (Kd.R_reads' HO_173001.out).2.1); rintro e w40 ⟨rfl, hb⟩; refine ⟨_, rfl, ?_⟩; have n0_ := Aside0.mk (Kd.R_below (by (with_reducible repeat (first | apply Kd.R_alloc | apply Kd.R_drewN | apply Kd.R_drew)); exact HO_167001.out) hb); have n1_ := Aside0.mk (Kd.R_below (by (with_reducible repeat (first | apply Kd.R_alloc | apply Kd.R_drewN | apply Kd.R_drew)); exact HO_173001.out) hb); have n2_ := Aside0.mk (blk_below (g := gb166) (o := .cells #[.int .i64 t161, .slice Ao8 t162.length co8] 29 (0, 0)) (by (with_reducible repeat (first | refine blk_drewN ?_ _ | refine blk_drew ?_ | refine blk_alloc ?_ _)); exact BK166.out) hb); have n3_ := Aside0.mk (blk_below (g := gb172) (o := .cells #[.int .i64 t167, .slice Ao13 t168.length co13] 29 (0, 0)) (by (with_reducible repeat (first | refine blk_drewN ?_ _ | refine blk_drew ?_ | refine blk_alloc ?_ _)); exact BK172.out) hb); have n4_ := Aside0.mk (below_step (by repeat (first | (with_reducible first | exact HB.out | apply below_alloc | apply pw_below_drewN | apply below_drew1 | refine below_set ?_ GE166.out | refine below_set ?_ GE172.out) | exact HB.out)) hb); clear HO_167001; clear HO_173001; clear BK166; clear BK172; clear HB; have HO_167001 := n0_; have HO_173001 := n1_; have BK166 := n2_; have BK172 := n3_; have HB := n4_; clear n0_ n1_ n2_ n3_ n4_; (try clear hb); (try clear hb2); (try clear hk); (try clear hi)) | ((with_reducible refine gate_callee (f := 54) rfl ?_); refine gL_ (some 43) Try.func54 #[.int .i64 a0] ?_ rfl rfl; (with_reducible refine (impl_CycleOf.calls kj3 a0 t177 t178 t181 _ A34.out).mono ?_); rintro e w41 ⟨v179, rfl, ho0, hb⟩; refine ⟨_, rfl, ?_⟩; have n0_ := Aside0.mk (Kd.R_elder' (by (with_reducible repeat (first | apply Kd.R_alloc | apply Kd.R_drewN | apply Kd.R_drew)); exact HO_167001.out) (Kd.R_base ho0) hb); have n1_ := Aside0.mk (Kd.R_elder' (by (with_reducible repeat (first | apply Kd.R_alloc | apply Kd.R_drewN | apply Kd.R_drew)); exact HO_173001.out) (Kd.R_base ho0) hb); have n2_ := Aside0.mk (Kd.R_lower (Kd.R_new' (Kd.R_new' ho0 (Kd.R_lt (by (with_reducible repeat (first | apply Kd.R_alloc | apply Kd.R_drewN | apply Kd.R_drew)); exact HO_167001.out))) (Kd.R_lt (by (with_reducible repeat (first | apply Kd.R_alloc | apply Kd.R_drewN | apply Kd.R_drew)); exact HO_173001.out))) (below_size (by repeat (first | (with_reducible first | exact HB.out | apply below_alloc | apply pw_below_drewN | apply below_drew1 | refine below_set ?_ GE166.out | refine below_set ?_ GE172.out) | exact HB.out)))); have n3_ := Aside0.mk (blk_below (g := gb166) (o := .cells #[.int .i64 t161, .slice Ao8 t162.length co8] 29 (0, 0)) (by (with_reducible repeat (first | refine blk_drewN ?_ _ | refine blk_drew ?_ | refine blk_alloc ?_ _)); exact BK166.out) hb); have n4_ := Aside0.mk (blk_below (g := gb172) (o := .cells #[.int .i64 t167, .slice Ao13 t168.length co13] 29 (0, 0)) (by (with_reducible repeat (first | refine blk_drewN ?_ _ | refine blk_drew ?_ | refine blk_alloc ?_ _)); exact BK172.out) hb); have n5_ := Aside0.mk (below_step (by repeat (first | (with_reducible first | exact HB.out | apply below_alloc | apply pw_below_drewN | apply below_drew1 | refine below_set ?_ GE166.out | refine below_set ?_ GE172.out) | exact HB.out)) hb); clear HO_167001; clear HO_173001; clear BK166; clear BK172; clear HB; have HO_167001 := n0_; have HO_173001 := n1_; have HO180 := n2_; have BK166 := n3_; have BK172 := n4_; have HB := n5_; clear n0_ n1_ n2_ n3_ n4_ n5_; (try clear hb); (try clear hb2); (try clear hk); (try clear hi); (try clear ho0)) | ((with_reducible refine gate_dst (N := 9) rfl ?_); refine box_event ?hg (N := 9) ?hd (cs := #[.int .i64 0, .slice none 0 0]) (t := 29) ?hr ?_; (case hd => rfl); (case hg => rfl); (case hr => first | (go_simp; done) | (go_simp; rfl)); intro gb182 hg w42 hbox hb; have n0_ := Aside0.mk (Kd.R_below (by (with_reducible repeat (first | apply Kd.R_alloc | apply Kd.R_drewN | apply Kd.R_drew)); exact HO_167001.out) hb); have n1_ := Aside0.mk (Kd.R_below (by (with_reducible repeat (first | apply Kd.R_alloc | apply Kd.R_drewN | apply Kd.R_drew)); exact HO_173001.out) hb); have n2_ := Aside0.mk (Kd.R_below (by (with_reducible repeat (first | apply Kd.R_alloc | apply Kd.R_drewN | apply Kd.R_drew)); exact HO180.out) hb); have n3_ := Aside0.mk (blk_below (g := gb166) (o := .cells #[.int .i64 t161, .slice Ao8 t162.length co8] 29 (0, 0)) (by (with_reducible repeat (first | refine blk_drewN ?_ _ | refine blk_drew ?_ | refine blk_alloc ?_ _)); exact BK166.out) hb); have n4_ := Aside0.mk (blk_below (g := gb172) (o := .cells #[.int .i64 t167, .slice Ao13 t168.length co13] 29 (0, 0)) (by (with_reducible repeat (first | refine blk_drewN ?_ _ | refine blk_drew ?_ | refine blk_alloc ?_ _)); exact BK172.out) hb); have n5_ := Aside0.mk (below_step (by repeat (first | (with_reducible first | exact HB.out | apply below_alloc | apply pw_below_drewN | apply below_drew1 | refine below_set ?_ GE166.out | refine below_set ?_ GE172.out) | exact HB.out)) hb); have n6_ := Aside0.mk (hbox); have n7_ := Aside0.mk ((by rw [hg]; exact (below_size (by repeat (first | (with_reducible first | exact HB.out | apply below_alloc | apply pw_below_drewN | apply below_drew1 | refine below_set ?_ GE166.out | refine below_set ?_ GE172.out) | exact HB.out))) : w.heap.size ≤ gb182)); have n8_ := Aside0.mk ((by rw [hg]; exact (below_size (by repeat (first | (with_reducible first | exact HB.out | apply below_alloc | apply pw_below_drewN | apply below_drew1 | refine below_set ?_ GE166.out | refine below_set ?_ GE172.out) | exact HB.out))) : w.heap.size ≤ gb182)); have n9_ := Aside0.mk ((by rw [hg]; exact Nat.ne_of_lt (blk_lt (g := gb166) (o := .cells #[.int .i64 t161, .slice Ao8 t162.length co8] 29 (0, 0)) (by (with_reducible repeat (first | refine blk_drewN ?_ _ | refine blk_drew ?_ | refine blk_alloc ?_ _)); exact BK166.out)) : gb166 ≠ gb182)); have n10_ := Aside0.mk ((by rw [hg]; exact Nat.ne_of_gt (blk_lt (g := gb166) (o := .cells #[.int .i64 t161, .slice Ao8 t162.length co8] 29 (0, 0)) (by (with_reducible repeat (first | refine blk_drewN ?_ _ | refine blk_drew ?_ | refine blk_alloc ?_ _)); exact BK166.out)) : gb182 ≠ gb166)); have n11_ := Aside0.mk ((by rw [hg]; exact Nat.ne_of_lt (blk_lt (g := gb172) (o := .cells #[.int .i64 t167, .slice Ao13 t168.length co13] 29 (0, 0)) (by (with_reducible repeat (first | refine blk_drewN ?_ _ | refine blk_drew ?_ | refine blk_alloc ?_ _)); exact BK172.out)) : gb172 ≠ gb182)); have n12_ := Aside0.mk ((by rw [hg]; exact Nat.ne_of_gt (blk_lt (g := gb172) (o := .cells #[.int .i64 t167, .slice Ao13 t168.length co13] 29 (0, 0)) (by (with_reducible repeat (first | refine blk_drewN ?_ _ | refine blk_drew ?_ | refine blk_alloc ?_ _)); exact BK172.out)) : gb182 ≠ gb172)); clear HO_167001; clear HO_173001; clear HO180; clear BK166; clear BK172; clear HB; have HO_167001 := n0_; have HO_173001 := n1_; have HO180 := n2_; have BK166 := n3_; have BK172 := n4_; have HB := n5_; have BK182 := n6_; have GW182 := n7_; have GE182 := n8_; have NB166_182 := n9_; have NB182_166 := n10_; have NB172_182 := n11_; have NB182_172 := n12_; clear n0_ n1_ n2_ n3_ n4_ n5_ n6_ n7_ n8_ n9_ n10_ n11_ n12_; clear hb hbox hg; have hnb43 := NB182_166.out; have hnc43 := NB166_182.out; have hnb44 := NB182_172.out; have hnc44 := NB172_182.out; have hcz45_0 : w42.cell? ⟨gb182, 0, none⟩ = some (.int .i64 0) := (blk_cell BK182.out 0).trans rfl; have hcz45_1 : w42.cell? ⟨gb182, 1, none⟩ = some (.slice none 0 0) := (blk_cell BK182.out 1).trans rfl; have hfz45_0 := blk_frozen BK182.out 0; have hfz45_1 := blk_frozen BK182.out 1; obtain ⟨Ao46, co46, eo46⟩ := Kd.R_slice HO180.out; subst eo46))
      (try simp only [Act.put, List.setIfInBounds_toArray, List.set_cons_zero, List.set_cons_succ])
      go_cut [54] (fun v54 wc => ∃ (kq : Nat) (x54_34 : Bool), v54 = .bool x54_34 ∧ Aside0 (laws_FnExactCycleOf.j1 kq t174 x54_34 t167 t175 = some r) ∧ Aside0 (kq ≤ kj3) ∧ Aside0 (Kd.R k78 78 wc w.heap.size (fun k_ => some k_ ≠ ((.slice Ao13 t168.length co13) : Value).ownBlock ∧ some k_ ≠ ((.slice Ao46 t178.length co46) : Value).ownBlock) (.slice Ao8 t162.length co8) t162) ∧ Aside0 (Kd.R k78 78 wc w.heap.size (fun k_ => some k_ ≠ ((.slice Ao8 t162.length co8) : Value).ownBlock ∧ some k_ ≠ ((.slice Ao46 t178.length co46) : Value).ownBlock) (.slice Ao13 t168.length co13) t175) ∧ Aside0 (Kd.R k78 78 wc w.heap.size (fun k_ => some k_ ≠ ((.slice Ao8 t162.length co8) : Value).ownBlock ∧ some k_ ≠ ((.slice Ao13 t168.length co13) : Value).ownBlock) (.slice Ao46 t178.length co46) t178) ∧ Aside0 (wc.heap[gb166]? = some (.cells #[.int .i64 t161, (.slice Ao8 t162.length co8)] 29 (0, 0))) ∧ Aside0 (wc.heap[gb172]? = some (.cells #[.int .i64 t167, (.slice Ao13 t168.length co13)] 29 (0, 0))) ∧ Aside0 (wc.heap[gb182]? = some (.cells #[.int .i64 t177, (.slice Ao46 t178.length co46)] 29 (0, 0))) ∧ Aside0 (Below w.heap.size w wc))
      case first =>
       have H := HC35.out
       clear HC35
       replace H := Option.bind_eq_some_iff.mp H
       obtain ⟨t183, A470, H⟩ := H
       replace H : (if t183 = true then (laws_FnExactCycleOf.j1 kj3 t174 (t181 != t165) t167 t175) else (laws_FnExactCycleOf.j1 kj3 t174 true t167 t175)) = some r := H
       have A47 := Aside0.mk A470
       clear A470
       by_cases c48 : t183 = true
       ·subst c48
        have H1 : (laws_FnExactCycleOf.j1 kj3 t174 (t181 != t165) t167 t175) = some r := by rw [if_pos rfl] at H; exact H
        clear H
        have H := H1
        clear H1
        have H' := Aside0.mk H
        clear H
        have hnb49 := NB182_166.out
        have hnc49 := NB166_182.out
        have hnb50 := NB182_172.out
        have hnc50 := NB172_182.out
        have hcz51_0 : w42.cell? ⟨gb182, 0, none⟩ = some (.int .i64 0) := (blk_cell BK182.out 0).trans rfl
        have hcz51_1 : w42.cell? ⟨gb182, 1, none⟩ = some (.slice none 0 0) := (blk_cell BK182.out 1).trans rfl
        have hfz51_0 := blk_frozen BK182.out 0
        have hfz51_1 := blk_frozen BK182.out 1
        have hnb52 := NB166_172.out
        have hnc52 := NB172_166.out
        have hcz53_0 : w42.cell? ⟨gb166, 0, none⟩ = some (.int .i64 t161) := (blk_cell BK166.out 0).trans rfl
        have hcz53_1 : w42.cell? ⟨gb166, 1, none⟩ = some (.slice Ao8 t162.length co8) := (blk_cell BK166.out 1).trans rfl
        have hfz53_0 := blk_frozen BK166.out 0
        have hfz53_1 := blk_frozen BK166.out 1
        go_wp2_with (first | ((with_reducible refine gate_callee (f := 20) rfl ?_); refine gL_ (some 48) Try.func20 #[.agg #[.int .i64 t177, .slice Ao46 t178.length co46], .agg #[.int .i64 t161, .slice Ao8 t162.length co8]] ?_ rfl rfl; (with_reducible refine (laws_eqGraph.calls kj3 t177 _ _ t178 t161 _ _ t162 true _ ?side1 ?side2 ?side3 ?side4 A47.out).mono ?_); (case side1 => refine (Kd.R_reads' (e := 78) (base := w.heap.size) (ok := fun k_ => ((True ∧ some k_ ≠ (.slice Ao8 t162.length co8 : Value).ownBlock) ∧ some k_ ≠ (.slice Ao13 t168.length co13 : Value).ownBlock)) (n := t178.length) (c := co46) ?_).2.2; exact (by (with_reducible repeat (first | apply Kd.R_alloc | apply Kd.R_drewN | apply Kd.R_drew)); exact (Kd.R_mono (Kd.R_far (p := ⟨gb182, 1, none⟩) (Kd.R_far (p := ⟨gb182, 0, none⟩) (Kd.R_types HO180.out BK182.out (by decide)) (fun _ hk => hk.2) (.int .i64 t177)) (fun _ hk => hk.2) (.slice Ao46 t178.length co46)) (fun _ h_ => h_.1)))); (case side2 => exact (Kd.R_reads' HO180.out).2.1); (case side3 => refine (Kd.R_reads' (e := 78) (base := w.heap.size) (ok := fun k_ => (some k_ ≠ (.slice Ao13 t168.length co13 : Value).ownBlock ∧ some k_ ≠ (.slice Ao46 t178.length co46 : Value).ownBlock)) (n := t162.length) (c := co8) ?_).2.2; exact (by (with_reducible repeat (first | apply Kd.R_alloc | apply Kd.R_drewN | apply Kd.R_drew)); exact (Kd.R_mono (Kd.R_far (p := ⟨gb182, 1, none⟩) (Kd.R_far (p := ⟨gb182, 0, none⟩) (Kd.R_types HO_167001.out BK182.out (by decide)) (fun _ hk => hk.2) (.int .i64 t177)) (fun _ hk => hk.2) (.slice Ao46 t178.length co46)) (fun _ h_ => h_.1)))); (case side4 => exact (Kd.R_reads' HO_167001.out).2.1); rintro e w54 ⟨rfl, hb⟩; refine ⟨_, rfl, ?_⟩; have n0_ := Aside0.mk (Kd.R_below (by (with_reducible repeat (first | apply Kd.R_alloc | apply Kd.R_drewN | apply Kd.R_drew)); exact (Kd.R_mono (Kd.R_far (p := ⟨gb182, 1, none⟩) (Kd.R_far (p := ⟨gb182, 0, none⟩) (Kd.R_types HO_167001.out BK182.out (by decide)) (fun _ hk => hk.2) (.int .i64 t177)) (fun _ hk => hk.2) (.slice Ao46 t178.length co46)) (fun _ h_ => h_.1))) hb); have n1_ := Aside0.mk (Kd.R_below (by (with_reducible repeat (first | apply Kd.R_alloc | apply Kd.R_drewN | apply Kd.R_drew)); exact (Kd.R_mono (Kd.R_far (p := ⟨gb182, 1, none⟩) (Kd.R_far (p := ⟨gb182, 0, none⟩) (Kd.R_types HO_173001.out BK182.out (by decide)) (fun _ hk => hk.2) (.int .i64 t177)) (fun _ hk => hk.2) (.slice Ao46 t178.length co46)) (fun _ h_ => h_.1))) hb); have n2_ := Aside0.mk (Kd.R_below (by (with_reducible repeat (first | apply Kd.R_alloc | apply Kd.R_drewN | apply Kd.R_drew)); exact (Kd.R_mono (Kd.R_far (p := ⟨gb182, 1, none⟩) (Kd.R_far (p := ⟨gb182, 0, none⟩) (Kd.R_types HO180.out BK182.out (by decide)) (fun _ hk => hk.2) (.int .i64 t177)) (fun _ hk => hk.2) (.slice Ao46 t178.length co46)) (fun _ h_ => h_.1))) hb); have n3_ := Aside0.mk (blk_below (g := gb166) (o := .cells #[.int .i64 t161, .slice Ao8 t162.length co8] 29 (0, 0)) (by (with_reducible repeat (first | refine blk_drewN ?_ _ | refine blk_drew ?_ | refine blk_alloc ?_ _)); refine blk_far ?_ NB166_182.out _; (with_reducible repeat (first | refine blk_drewN ?_ _ | refine blk_drew ?_ | refine blk_alloc ?_ _)); refine blk_far ?_ NB166_182.out _; (with_reducible repeat (first | refine blk_drewN ?_ _ | refine blk_drew ?_ | refine blk_alloc ?_ _)); exact BK166.out) hb); have n4_ := Aside0.mk (blk_below (g := gb172) (o := .cells #[.int .i64 t167, .slice Ao13 t168.length co13] 29 (0, 0)) (by (with_reducible repeat (first | refine blk_drewN ?_ _ | refine blk_drew ?_ | refine blk_alloc ?_ _)); refine blk_far ?_ NB172_182.out _; (with_reducible repeat (first | refine blk_drewN ?_ _ | refine blk_drew ?_ | refine blk_alloc ?_ _)); refine blk_far ?_ NB172_182.out _; (with_reducible repeat (first | refine blk_drewN ?_ _ | refine blk_drew ?_ | refine blk_alloc ?_ _)); exact BK172.out) hb); have n5_ := Aside0.mk (blk_below (g := gb182) (o := .cells #[.int .i64 t177, .slice Ao46 t178.length co46] 29 (0, 0)) (by (with_reducible repeat (first | refine blk_drewN ?_ _ | refine blk_drew ?_ | refine blk_alloc ?_ _)); refine blk_put (cs := #[.int .i64 t177, .slice none 0 0]) ?_ 1 _ rfl; (with_reducible repeat (first | refine blk_drewN ?_ _ | refine blk_drew ?_ | refine blk_alloc ?_ _)); refine blk_put (cs := #[.int .i64 0, .slice none 0 0]) ?_ 0 _ rfl; (with_reducible repeat (first | refine blk_drewN ?_ _ | refine blk_drew ?_ | refine blk_alloc ?_ _)); exact BK182.out) hb); have n6_ := Aside0.mk (below_step (by repeat (first | (with_reducible first | exact HB.out | apply below_alloc | apply pw_below_drewN | apply below_drew1 | refine below_set ?_ GE166.out | refine below_set ?_ GE172.out | refine below_set ?_ GE182.out) | exact HB.out)) hb); clear HO_167001; clear HO_173001; clear HO180; clear BK166; clear BK172; clear BK182; clear HB; have HO_167001 := n0_; have HO_173001 := n1_; have HO180 := n2_; have BK166 := n3_; have BK172 := n4_; have BK182 := n5_; have HB := n6_; clear n0_ n1_ n2_ n3_ n4_ n5_ n6_; (try clear hb); (try clear hb2); (try clear hk); (try clear hi)))
        go_meet
        case rel => exact ⟨_, ((t181 != t165)), (by first | rfl | (simp; done) | (simp [*]; done)), H', ⟨by have := HJ3.out; first | omega | exact Nat.le_refl _⟩, ⟨by (with_reducible repeat (first | apply Kd.R_alloc | apply Kd.R_drewN | apply Kd.R_drew)); exact HO_167001.out⟩, ⟨by (with_reducible repeat (first | apply Kd.R_alloc | apply Kd.R_drewN | apply Kd.R_drew)); exact HO_173001.out⟩, ⟨by (with_reducible repeat (first | apply Kd.R_alloc | apply Kd.R_drewN | apply Kd.R_drew)); exact Kd.R_mono HO180.out (fun _ hk => ⟨hk.1.2, hk.2⟩)⟩, ⟨by (with_reducible repeat (first | refine blk_drewN ?_ _ | refine blk_drew ?_ | refine blk_alloc ?_ _)); exact BK166.out⟩, ⟨by (with_reducible repeat (first | refine blk_drewN ?_ _ | refine blk_drew ?_ | refine blk_alloc ?_ _)); exact BK172.out⟩, ⟨by (with_reducible repeat (first | refine blk_drewN ?_ _ | refine blk_drew ?_ | refine blk_alloc ?_ _)); exact BK182.out⟩, ⟨by repeat (first | (with_reducible first | exact HB.out | apply below_alloc | apply pw_below_drewN | apply below_drew1 | refine below_set ?_ GE166.out | refine below_set ?_ GE172.out | refine below_set ?_ GE182.out) | exact HB.out)⟩⟩
       ·replace c48 := Bool.eq_false_iff.mpr c48
        subst c48
        have H1 : (laws_FnExactCycleOf.j1 kj3 t174 true t167 t175) = some r := by rw [if_neg (show ¬ (false = true) by decide)] at H; exact H
        clear H
        have H := H1
        clear H1
        have H' := Aside0.mk H
        clear H
        have hnb55 := NB182_166.out
        have hnc55 := NB166_182.out
        have hnb56 := NB182_172.out
        have hnc56 := NB172_182.out
        have hcz57_0 : w42.cell? ⟨gb182, 0, none⟩ = some (.int .i64 0) := (blk_cell BK182.out 0).trans rfl
        have hcz57_1 : w42.cell? ⟨gb182, 1, none⟩ = some (.slice none 0 0) := (blk_cell BK182.out 1).trans rfl
        have hfz57_0 := blk_frozen BK182.out 0
        have hfz57_1 := blk_frozen BK182.out 1
        have hnb58 := NB166_172.out
        have hnc58 := NB172_166.out
        have hcz59_0 : w42.cell? ⟨gb166, 0, none⟩ = some (.int .i64 t161) := (blk_cell BK166.out 0).trans rfl
        have hcz59_1 : w42.cell? ⟨gb166, 1, none⟩ = some (.slice Ao8 t162.length co8) := (blk_cell BK166.out 1).trans rfl
        have hfz59_0 := blk_frozen BK166.out 0
        have hfz59_1 := blk_frozen BK166.out 1
        go_wp2_with (first | ((with_reducible refine gate_callee (f := 20) rfl ?_); refine gL_ (some 48) Try.func20 #[.agg #[.int .i64 t177, .slice Ao46 t178.length co46], .agg #[.int .i64 t161, .slice Ao8 t162.length co8]] ?_ rfl rfl; (with_reducible refine (laws_eqGraph.calls kj3 t177 _ _ t178 t161 _ _ t162 false _ ?side1 ?side2 ?side3 ?side4 A47.out).mono ?_); (case side1 => refine (Kd.R_reads' (e := 78) (base := w.heap.size) (ok := fun k_ => ((True ∧ some k_ ≠ (.slice Ao8 t162.length co8 : Value).ownBlock) ∧ some k_ ≠ (.slice Ao13 t168.length co13 : Value).ownBlock)) (n := t178.length) (c := co46) ?_).2.2; exact (by (with_reducible repeat (first | apply Kd.R_alloc | apply Kd.R_drewN | apply Kd.R_drew)); exact (Kd.R_mono (Kd.R_far (p := ⟨gb182, 1, none⟩) (Kd.R_far (p := ⟨gb182, 0, none⟩) (Kd.R_types HO180.out BK182.out (by decide)) (fun _ hk => hk.2) (.int .i64 t177)) (fun _ hk => hk.2) (.slice Ao46 t178.length co46)) (fun _ h_ => h_.1)))); (case side2 => exact (Kd.R_reads' HO180.out).2.1); (case side3 => refine (Kd.R_reads' (e := 78) (base := w.heap.size) (ok := fun k_ => (some k_ ≠ (.slice Ao13 t168.length co13 : Value).ownBlock ∧ some k_ ≠ (.slice Ao46 t178.length co46 : Value).ownBlock)) (n := t162.length) (c := co8) ?_).2.2; exact (by (with_reducible repeat (first | apply Kd.R_alloc | apply Kd.R_drewN | apply Kd.R_drew)); exact (Kd.R_mono (Kd.R_far (p := ⟨gb182, 1, none⟩) (Kd.R_far (p := ⟨gb182, 0, none⟩) (Kd.R_types HO_167001.out BK182.out (by decide)) (fun _ hk => hk.2) (.int .i64 t177)) (fun _ hk => hk.2) (.slice Ao46 t178.length co46)) (fun _ h_ => h_.1)))); (case side4 => exact (Kd.R_reads' HO_167001.out).2.1); rintro e w60 ⟨rfl, hb⟩; refine ⟨_, rfl, ?_⟩; have n0_ := Aside0.mk (Kd.R_below (by (with_reducible repeat (first | apply Kd.R_alloc | apply Kd.R_drewN | apply Kd.R_drew)); exact (Kd.R_mono (Kd.R_far (p := ⟨gb182, 1, none⟩) (Kd.R_far (p := ⟨gb182, 0, none⟩) (Kd.R_types HO_167001.out BK182.out (by decide)) (fun _ hk => hk.2) (.int .i64 t177)) (fun _ hk => hk.2) (.slice Ao46 t178.length co46)) (fun _ h_ => h_.1))) hb); have n1_ := Aside0.mk (Kd.R_below (by (with_reducible repeat (first | apply Kd.R_alloc | apply Kd.R_drewN | apply Kd.R_drew)); exact (Kd.R_mono (Kd.R_far (p := ⟨gb182, 1, none⟩) (Kd.R_far (p := ⟨gb182, 0, none⟩) (Kd.R_types HO_173001.out BK182.out (by decide)) (fun _ hk => hk.2) (.int .i64 t177)) (fun _ hk => hk.2) (.slice Ao46 t178.length co46)) (fun _ h_ => h_.1))) hb); have n2_ := Aside0.mk (Kd.R_below (by (with_reducible repeat (first | apply Kd.R_alloc | apply Kd.R_drewN | apply Kd.R_drew)); exact (Kd.R_mono (Kd.R_far (p := ⟨gb182, 1, none⟩) (Kd.R_far (p := ⟨gb182, 0, none⟩) (Kd.R_types HO180.out BK182.out (by decide)) (fun _ hk => hk.2) (.int .i64 t177)) (fun _ hk => hk.2) (.slice Ao46 t178.length co46)) (fun _ h_ => h_.1))) hb); have n3_ := Aside0.mk (blk_below (g := gb166) (o := .cells #[.int .i64 t161, .slice Ao8 t162.length co8] 29 (0, 0)) (by (with_reducible repeat (first | refine blk_drewN ?_ _ | refine blk_drew ?_ | refine blk_alloc ?_ _)); refine blk_far ?_ NB166_182.out _; (with_reducible repeat (first | refine blk_drewN ?_ _ | refine blk_drew ?_ | refine blk_alloc ?_ _)); refine blk_far ?_ NB166_182.out _; (with_reducible repeat (first | refine blk_drewN ?_ _ | refine blk_drew ?_ | refine blk_alloc ?_ _)); exact BK166.out) hb); have n4_ := Aside0.mk (blk_below (g := gb172) (o := .cells #[.int .i64 t167, .slice Ao13 t168.length co13] 29 (0, 0)) (by (with_reducible repeat (first | refine blk_drewN ?_ _ | refine blk_drew ?_ | refine blk_alloc ?_ _)); refine blk_far ?_ NB172_182.out _; (with_reducible repeat (first | refine blk_drewN ?_ _ | refine blk_drew ?_ | refine blk_alloc ?_ _)); refine blk_far ?_ NB172_182.out _; (with_reducible repeat (first | refine blk_drewN ?_ _ | refine blk_drew ?_ | refine blk_alloc ?_ _)); exact BK172.out) hb); have n5_ := Aside0.mk (blk_below (g := gb182) (o := .cells #[.int .i64 t177, .slice Ao46 t178.length co46] 29 (0, 0)) (by (with_reducible repeat (first | refine blk_drewN ?_ _ | refine blk_drew ?_ | refine blk_alloc ?_ _)); refine blk_put (cs := #[.int .i64 t177, .slice none 0 0]) ?_ 1 _ rfl; (with_reducible repeat (first | refine blk_drewN ?_ _ | refine blk_drew ?_ | refine blk_alloc ?_ _)); refine blk_put (cs := #[.int .i64 0, .slice none 0 0]) ?_ 0 _ rfl; (with_reducible repeat (first | refine blk_drewN ?_ _ | refine blk_drew ?_ | refine blk_alloc ?_ _)); exact BK182.out) hb); have n6_ := Aside0.mk (below_step (by repeat (first | (with_reducible first | exact HB.out | apply below_alloc | apply pw_below_drewN | apply below_drew1 | refine below_set ?_ GE166.out | refine below_set ?_ GE172.out | refine below_set ?_ GE182.out) | exact HB.out)) hb); clear HO_167001; clear HO_173001; clear HO180; clear BK166; clear BK172; clear BK182; clear HB; have HO_167001 := n0_; have HO_173001 := n1_; have HO180 := n2_; have BK166 := n3_; have BK172 := n4_; have BK182 := n5_; have HB := n6_; clear n0_ n1_ n2_ n3_ n4_ n5_ n6_; (try clear hb); (try clear hb2); (try clear hk); (try clear hi)))
        go_meet
        case rel => exact ⟨_, (true), (by first | rfl | (simp; done) | (simp [*]; done)), H', ⟨by have := HJ3.out; first | omega | exact Nat.le_refl _⟩, ⟨by (with_reducible repeat (first | apply Kd.R_alloc | apply Kd.R_drewN | apply Kd.R_drew)); exact HO_167001.out⟩, ⟨by (with_reducible repeat (first | apply Kd.R_alloc | apply Kd.R_drewN | apply Kd.R_drew)); exact HO_173001.out⟩, ⟨by (with_reducible repeat (first | apply Kd.R_alloc | apply Kd.R_drewN | apply Kd.R_drew)); exact Kd.R_mono HO180.out (fun _ hk => ⟨hk.1.2, hk.2⟩)⟩, ⟨by (with_reducible repeat (first | refine blk_drewN ?_ _ | refine blk_drew ?_ | refine blk_alloc ?_ _)); exact BK166.out⟩, ⟨by (with_reducible repeat (first | refine blk_drewN ?_ _ | refine blk_drew ?_ | refine blk_alloc ?_ _)); exact BK172.out⟩, ⟨by (with_reducible repeat (first | refine blk_drewN ?_ _ | refine blk_drew ?_ | refine blk_alloc ?_ _)); exact BK182.out⟩, ⟨by repeat (first | (with_reducible first | exact HB.out | apply below_alloc | apply pw_below_drewN | apply below_drew1 | refine below_set ?_ GE166.out | refine below_set ?_ GE172.out | refine below_set ?_ GE182.out) | exact HB.out)⟩⟩
      case rest =>
       clear HC35
       try clear c1
       try clear c2
       try clear p2
       try clear c3
       try clear c4
       try clear c5
       try clear c11
       try clear c14
       try clear c15
       try clear c16
       try clear c20
       try clear c24
       try clear c26
       try clear c27
       try clear c27b0
       try clear c28
       try clear c33
       try clear c33b0
       try clear c33b1
       try clear c36
       try clear c43
       try clear c44
       try clear c48
       try clear c49
       try clear c50
       try clear c52
       try clear c53
       try clear c54
       try clear c55
       try clear c56
       try clear c58
       try clear hcz12_0
       try clear hcz12_1
       try clear hcz17_0
       try clear hcz17_1
       try clear hcz18_0
       try clear hcz18_1
       try clear hcz21_0
       try clear hcz21_1
       try clear hcz22_0
       try clear hcz22_1
       try clear hcz29_0
       try clear hcz29_1
       try clear hcz31_0
       try clear hcz31_1
       try clear hcz37_0
       try clear hcz37_1
       try clear hcz39_0
       try clear hcz39_1
       try clear hcz45_0
       try clear hcz45_1
       try clear hcz51_0
       try clear hcz51_1
       try clear hcz53_0
       try clear hcz53_1
       try clear hcz57_0
       try clear hcz57_1
       try clear hcz59_0
       try clear hcz59_1
       try clear hcz7_0
       try clear hcz7_1
       try clear hfz12_0
       try clear hfz12_1
       try clear hfz17_0
       try clear hfz17_1
       try clear hfz18_0
       try clear hfz18_1
       try clear hfz21_0
       try clear hfz21_1
       try clear hfz22_0
       try clear hfz22_1
       try clear hfz29_0
       try clear hfz29_1
       try clear hfz31_0
       try clear hfz31_1
       try clear hfz37_0
       try clear hfz37_1
       try clear hfz39_0
       try clear hfz39_1
       try clear hfz45_0
       try clear hfz45_1
       try clear hfz51_0
       try clear hfz51_1
       try clear hfz53_0
       try clear hfz53_1
       try clear hfz57_0
       try clear hfz57_1
       try clear hfz59_0
       try clear hfz59_1
       try clear hfz7_0
       try clear hfz7_1
       try clear p2
       obtain ⟨kq, x54_34, rfl, HA, HJ34, HO_167001, HO_173001, HO_183001, BK166, BK172, BK182, HB⟩ := hcut
       have hl173001_34 := (Kd.R_reads' HO_173001.out).1
       rw [hl173001_34] at HO_173001
       (try simp only [hl173001_34])
       (try simp only [hl173001_34] at BK166)
       (try simp only [hl173001_34] at BK172)
       (try simp only [hl173001_34] at BK182)
       (try simp only [hl173001_34] at HO_167001)
       (try simp only [hl173001_34] at HO_183001)
       cases kq with
       | zero => exact absurd HA.out (by simp [laws_FnExactCycleOf.j1])
       | succ kj34 =>
        have H := HA.out
        clear HA
        simp only [laws_FnExactCycleOf.j1] at H
        by_cases c61 : x54_34 = true
        ·subst c61
         have H1 : (some false) = some r := by rw [if_pos rfl] at H; exact H
         clear H
         have H := H1
         clear H1
         obtain rfl := Option.some.inj H
         go_wp2
         go_ret
         exact ⟨by first | rfl | (simp [errW_none, errW_some] <;> rfl) | (simp [*, errW_none, errW_some] <;> rfl), by repeat (first | (with_reducible first | exact HB.out | apply below_alloc | apply pw_below_drewN | apply below_drew1 | refine below_set ?_ GE166.out | refine below_set ?_ GE172.out | refine below_set ?_ GE182.out) | exact HB.out)⟩
        ·replace c61 := Bool.eq_false_iff.mpr c61
         subst c61
         have H1 : ((laws_heldGraph.f kj34 t167 t175 1).bind fun t184 => (if t184 < 0 then (some false) else (if t184 = t174 then (some true) else (some false)))) = some r := by rw [if_neg (show ¬ (false = true) by decide)] at H; exact H
         clear H
         have H := H1
         clear H1
         replace H := Option.bind_eq_some_iff.mp H
         obtain ⟨t184, A620, H⟩ := H
         replace H : (if t184 < 0 then (some false) else (if t184 = t174 then (some true) else (some false))) = some r := H
         have A62 := Aside0.mk A620
         clear A620
         by_cases c63 : t184 < 0
         ·rw [if_pos c63] at H
          have c63b0 : decide (t184 < 0) = true := decide_eq_true c63
          clear c63
          obtain rfl := Option.some.inj H
          have hnb64 := NB172_166.out
          have hnc64 := NB166_172.out
          have hnb65 := NB172_182.out
          have hnc65 := NB182_172.out
          have hcz66_0 : wc.cell? ⟨gb172, 0, none⟩ = some (.int .i64 t167) := (blk_cell BK172.out 0).trans rfl
          have hcz66_1 : wc.cell? ⟨gb172, 1, none⟩ = some (.slice Ao13 t175.length co13) := (blk_cell BK172.out 1).trans rfl
          have hfz66_0 := blk_frozen BK172.out 0
          have hfz66_1 := blk_frozen BK172.out 1
          go_wp2_with (first | ((with_reducible refine gate_callee (f := 55) rfl ?_); refine gL_ (some 57) Try.func55 #[.agg #[.int .i64 t167, .slice Ao13 t175.length co13], .int .i64 1] ?_ rfl rfl; (with_reducible refine (laws_heldGraph.calls kj34 t167 _ _ t175 1 t184 _ ?side1 ?side2 A62.out).mono ?_); (case side1 => repeat (first | exact (Kd.R_reads' HO_173001.out).2.2 | (with_reducible refine Kd.C_alloc ?_ _) | (with_reducible refine Kd.C_drewN ?_ _) | (with_reducible refine Kd.C_drew ?_))); (case side2 => exact (Kd.R_reads' HO_173001.out).2.1); rintro e w67 ⟨rfl, hb⟩; refine ⟨_, rfl, ?_⟩; have n0_ := Aside0.mk (Kd.R_below (by (with_reducible repeat (first | apply Kd.R_alloc | apply Kd.R_drewN | apply Kd.R_drew)); exact HO_167001.out) hb); have n1_ := Aside0.mk (Kd.R_below (by (with_reducible repeat (first | apply Kd.R_alloc | apply Kd.R_drewN | apply Kd.R_drew)); exact HO_173001.out) hb); have n2_ := Aside0.mk (Kd.R_below (by (with_reducible repeat (first | apply Kd.R_alloc | apply Kd.R_drewN | apply Kd.R_drew)); exact HO_183001.out) hb); have n3_ := Aside0.mk (blk_below (g := gb166) (o := .cells #[.int .i64 t161, .slice Ao8 t162.length co8] 29 (0, 0)) (by (with_reducible repeat (first | refine blk_drewN ?_ _ | refine blk_drew ?_ | refine blk_alloc ?_ _)); exact BK166.out) hb); have n4_ := Aside0.mk (blk_below (g := gb172) (o := .cells #[.int .i64 t167, .slice Ao13 t175.length co13] 29 (0, 0)) (by (with_reducible repeat (first | refine blk_drewN ?_ _ | refine blk_drew ?_ | refine blk_alloc ?_ _)); exact BK172.out) hb); have n5_ := Aside0.mk (blk_below (g := gb182) (o := .cells #[.int .i64 t177, .slice Ao46 t178.length co46] 29 (0, 0)) (by (with_reducible repeat (first | refine blk_drewN ?_ _ | refine blk_drew ?_ | refine blk_alloc ?_ _)); exact BK182.out) hb); have n6_ := Aside0.mk (below_step (by repeat (first | (with_reducible first | exact HB.out | apply below_alloc | apply pw_below_drewN | apply below_drew1 | refine below_set ?_ GE166.out | refine below_set ?_ GE172.out | refine below_set ?_ GE182.out) | exact HB.out)) hb); clear HO_167001; clear HO_173001; clear HO_183001; clear BK166; clear BK172; clear BK182; clear HB; have HO_167001 := n0_; have HO_173001 := n1_; have HO_183001 := n2_; have BK166 := n3_; have BK172 := n4_; have BK182 := n5_; have HB := n6_; clear n0_ n1_ n2_ n3_ n4_ n5_ n6_; (try clear hb); (try clear hb2); (try clear hk); (try clear hi)))
          go_ret
          exact ⟨by first | rfl | (simp [errW_none, errW_some] <;> rfl) | (simp [*, errW_none, errW_some] <;> rfl), by repeat (first | (with_reducible first | exact HB.out | apply below_alloc | apply pw_below_drewN | apply below_drew1 | refine below_set ?_ GE166.out | refine below_set ?_ GE172.out | refine below_set ?_ GE182.out) | exact HB.out)⟩
         ·rw [if_neg c63] at H
          have c63b0 : decide (t184 < 0) = false := decide_eq_false c63
          clear c63
          by_cases c68 : t184 = t174
          ·rw [if_pos c68] at H
           have c68b0 : (t184 == t174) = true := beq_iff_eq.mpr c68
           have c68b1 : (t184 != t174) = false := bne_eq_false_iff_eq.mpr c68
           clear c68
           obtain rfl := Option.some.inj H
           have hnb69 := NB172_166.out
           have hnc69 := NB166_172.out
           have hnb70 := NB172_182.out
           have hnc70 := NB182_172.out
           have hcz71_0 : wc.cell? ⟨gb172, 0, none⟩ = some (.int .i64 t167) := (blk_cell BK172.out 0).trans rfl
           have hcz71_1 : wc.cell? ⟨gb172, 1, none⟩ = some (.slice Ao13 t175.length co13) := (blk_cell BK172.out 1).trans rfl
           have hfz71_0 := blk_frozen BK172.out 0
           have hfz71_1 := blk_frozen BK172.out 1
           go_wp2_with (first | ((with_reducible refine gate_callee (f := 55) rfl ?_); refine gL_ (some 57) Try.func55 #[.agg #[.int .i64 t167, .slice Ao13 t175.length co13], .int .i64 1] ?_ rfl rfl; (with_reducible refine (laws_heldGraph.calls kj34 t167 _ _ t175 1 t184 _ ?side1 ?side2 A62.out).mono ?_); (case side1 => repeat (first | exact (Kd.R_reads' HO_173001.out).2.2 | (with_reducible refine Kd.C_alloc ?_ _) | (with_reducible refine Kd.C_drewN ?_ _) | (with_reducible refine Kd.C_drew ?_))); (case side2 => exact (Kd.R_reads' HO_173001.out).2.1); rintro e w72 ⟨rfl, hb⟩; refine ⟨_, rfl, ?_⟩; have n0_ := Aside0.mk (Kd.R_below (by (with_reducible repeat (first | apply Kd.R_alloc | apply Kd.R_drewN | apply Kd.R_drew)); exact HO_167001.out) hb); have n1_ := Aside0.mk (Kd.R_below (by (with_reducible repeat (first | apply Kd.R_alloc | apply Kd.R_drewN | apply Kd.R_drew)); exact HO_173001.out) hb); have n2_ := Aside0.mk (Kd.R_below (by (with_reducible repeat (first | apply Kd.R_alloc | apply Kd.R_drewN | apply Kd.R_drew)); exact HO_183001.out) hb); have n3_ := Aside0.mk (blk_below (g := gb166) (o := .cells #[.int .i64 t161, .slice Ao8 t162.length co8] 29 (0, 0)) (by (with_reducible repeat (first | refine blk_drewN ?_ _ | refine blk_drew ?_ | refine blk_alloc ?_ _)); exact BK166.out) hb); have n4_ := Aside0.mk (blk_below (g := gb172) (o := .cells #[.int .i64 t167, .slice Ao13 t175.length co13] 29 (0, 0)) (by (with_reducible repeat (first | refine blk_drewN ?_ _ | refine blk_drew ?_ | refine blk_alloc ?_ _)); exact BK172.out) hb); have n5_ := Aside0.mk (blk_below (g := gb182) (o := .cells #[.int .i64 t177, .slice Ao46 t178.length co46] 29 (0, 0)) (by (with_reducible repeat (first | refine blk_drewN ?_ _ | refine blk_drew ?_ | refine blk_alloc ?_ _)); exact BK182.out) hb); have n6_ := Aside0.mk (below_step (by repeat (first | (with_reducible first | exact HB.out | apply below_alloc | apply pw_below_drewN | apply below_drew1 | refine below_set ?_ GE166.out | refine below_set ?_ GE172.out | refine below_set ?_ GE182.out) | exact HB.out)) hb); clear HO_167001; clear HO_173001; clear HO_183001; clear BK166; clear BK172; clear BK182; clear HB; have HO_167001 := n0_; have HO_173001 := n1_; have HO_183001 := n2_; have BK166 := n3_; have BK172 := n4_; have BK182 := n5_; have HB := n6_; clear n0_ n1_ n2_ n3_ n4_ n5_ n6_; (try clear hb); (try clear hb2); (try clear hk); (try clear hi)))
           go_ret
           exact ⟨by first | rfl | (simp [errW_none, errW_some] <;> rfl) | (simp [*, errW_none, errW_some] <;> rfl), by repeat (first | (with_reducible first | exact HB.out | apply below_alloc | apply pw_below_drewN | apply below_drew1 | refine below_set ?_ GE166.out | refine below_set ?_ GE172.out | refine below_set ?_ GE182.out) | exact HB.out)⟩
          ·rw [if_neg c68] at H
           have c68b0 : (t184 == t174) = false := beq_eq_false_iff_ne.mpr c68
           have c68b1 : (t184 != t174) = true := bne_iff_ne.mpr c68
           obtain rfl := Option.some.inj H
           have hnb73 := NB172_166.out
           have hnc73 := NB166_172.out
           have hnb74 := NB172_182.out
           have hnc74 := NB182_172.out
           have hcz75_0 : wc.cell? ⟨gb172, 0, none⟩ = some (.int .i64 t167) := (blk_cell BK172.out 0).trans rfl
           have hcz75_1 : wc.cell? ⟨gb172, 1, none⟩ = some (.slice Ao13 t175.length co13) := (blk_cell BK172.out 1).trans rfl
           have hfz75_0 := blk_frozen BK172.out 0
           have hfz75_1 := blk_frozen BK172.out 1
           go_wp2_with (first | ((with_reducible refine gate_callee (f := 55) rfl ?_); refine gL_ (some 57) Try.func55 #[.agg #[.int .i64 t167, .slice Ao13 t175.length co13], .int .i64 1] ?_ rfl rfl; (with_reducible refine (laws_heldGraph.calls kj34 t167 _ _ t175 1 t184 _ ?side1 ?side2 A62.out).mono ?_); (case side1 => repeat (first | exact (Kd.R_reads' HO_173001.out).2.2 | (with_reducible refine Kd.C_alloc ?_ _) | (with_reducible refine Kd.C_drewN ?_ _) | (with_reducible refine Kd.C_drew ?_))); (case side2 => exact (Kd.R_reads' HO_173001.out).2.1); rintro e w76 ⟨rfl, hb⟩; refine ⟨_, rfl, ?_⟩; have n0_ := Aside0.mk (Kd.R_below (by (with_reducible repeat (first | apply Kd.R_alloc | apply Kd.R_drewN | apply Kd.R_drew)); exact HO_167001.out) hb); have n1_ := Aside0.mk (Kd.R_below (by (with_reducible repeat (first | apply Kd.R_alloc | apply Kd.R_drewN | apply Kd.R_drew)); exact HO_173001.out) hb); have n2_ := Aside0.mk (Kd.R_below (by (with_reducible repeat (first | apply Kd.R_alloc | apply Kd.R_drewN | apply Kd.R_drew)); exact HO_183001.out) hb); have n3_ := Aside0.mk (blk_below (g := gb166) (o := .cells #[.int .i64 t161, .slice Ao8 t162.length co8] 29 (0, 0)) (by (with_reducible repeat (first | refine blk_drewN ?_ _ | refine blk_drew ?_ | refine blk_alloc ?_ _)); exact BK166.out) hb); have n4_ := Aside0.mk (blk_below (g := gb172) (o := .cells #[.int .i64 t167, .slice Ao13 t175.length co13] 29 (0, 0)) (by (with_reducible repeat (first | refine blk_drewN ?_ _ | refine blk_drew ?_ | refine blk_alloc ?_ _)); exact BK172.out) hb); have n5_ := Aside0.mk (blk_below (g := gb182) (o := .cells #[.int .i64 t177, .slice Ao46 t178.length co46] 29 (0, 0)) (by (with_reducible repeat (first | refine blk_drewN ?_ _ | refine blk_drew ?_ | refine blk_alloc ?_ _)); exact BK182.out) hb); have n6_ := Aside0.mk (below_step (by repeat (first | (with_reducible first | exact HB.out | apply below_alloc | apply pw_below_drewN | apply below_drew1 | refine below_set ?_ GE166.out | refine below_set ?_ GE172.out | refine below_set ?_ GE182.out) | exact HB.out)) hb); clear HO_167001; clear HO_173001; clear HO_183001; clear BK166; clear BK172; clear BK182; clear HB; have HO_167001 := n0_; have HO_173001 := n1_; have HO_183001 := n2_; have BK166 := n3_; have BK172 := n4_; have BK182 := n5_; have HB := n6_; clear n0_ n1_ n2_ n3_ n4_ n5_ n6_; (try clear hb); (try clear hb2); (try clear hk); (try clear hi)))
           go_ret
           exact ⟨by first | rfl | (simp [errW_none, errW_some] <;> rfl) | (simp [*, errW_none, errW_some] <;> rfl), by repeat (first | (with_reducible first | exact HB.out | apply below_alloc | apply pw_below_drewN | apply below_drew1 | refine below_set ?_ GE166.out | refine below_set ?_ GE172.out | refine below_set ?_ GE182.out) | exact HB.out)⟩
     ·rw [if_neg c33] at H
      have c33b0 : (t176 == t174) = false := beq_eq_false_iff_ne.mpr c33
      have c33b1 : (t176 != t174) = true := bne_iff_ne.mpr c33
      obtain rfl := Option.some.inj H
      have hnb77 := NB172_166.out
      have hnc77 := NB166_172.out
      have hcz78_0 : wc.cell? ⟨gb172, 0, none⟩ = some (.int .i64 t167) := (blk_cell BK172.out 0).trans rfl
      have hcz78_1 : wc.cell? ⟨gb172, 1, none⟩ = some (.slice Ao13 t168.length co13) := (blk_cell BK172.out 1).trans rfl
      have hfz78_0 := blk_frozen BK172.out 0
      have hfz78_1 := blk_frozen BK172.out 1
      go_wp2_with (first | ((with_reducible refine gate_callee (f := 26) rfl ?_); refine gL_ (some 32) Try.func26 #[.agg #[.int .i64 t167, .slice Ao13 t168.length co13], .int .i64 1] ?_ rfl rfl; (with_reducible refine (laws_markGraph.calls kj3 t167 (fun k_ => some k_ = (.slice Ao13 t168.length co13 : Value).ownBlock) (.slice Ao13 t168.length co13) t168 1 t174 t175 w _ ?side1 ?side2 A25.out).mono ?_); (case side1 => repeat (first | (with_reducible first | exact HB.out | apply below_alloc | apply pw_below_drewN | apply below_drew1 | refine below_set ?_ GE166.out | refine below_set ?_ GE172.out) | exact HB.out)); (case side2 => exact Kd.R_tight rfl HO_173001.out); rintro e w79 ⟨rfl, hy0, hb, hkp⟩; refine ⟨_, rfl, ?_⟩; have n0_ := Aside0.mk (Kd.R_mono (ok' := fun k_ => some k_ ≠ (.slice Ao13 t168.length co13 : Value).ownBlock) (Kd.R_keptB (HO_167001.out) hkp (fun k_ hk_ hs_ => (hk_) hs_)) (fun k_ hk_ => hk_.1)); have n1_ := Aside0.mk (Kd.R_reok rfl hy0 (fun k_ e_ => HO_173001.out.1 k_ e_)); have n2_ := Aside0.mk (blk_kept (by (with_reducible repeat (first | refine blk_drewN ?_ _ | refine blk_drew ?_ | refine blk_alloc ?_ _)); exact BK166.out) hkp (fun hs_ => (fun e_ => (Kd.R_ne HO_173001.out BK166.out (by decide)) e_) hs_)); have n3_ := Aside0.mk (blk_kept (by (with_reducible repeat (first | refine blk_drewN ?_ _ | refine blk_drew ?_ | refine blk_alloc ?_ _)); exact BK172.out) hkp (fun hs_ => (fun e_ => (Kd.R_ne HO_173001.out BK172.out (by decide)) e_) hs_)); have n4_ := Aside0.mk (hb); clear HO_167001; clear HO_173001; clear BK166; clear BK172; clear HB; have HO_167001 := n0_; have HO_173001 := n1_; have BK166 := n2_; have BK172 := n3_; have HB := n4_; clear n0_ n1_ n2_ n3_ n4_; (try clear hb); (try clear hkp); (try clear hy0); have hcz80_0 : w79.cell? ⟨gb172, 0, none⟩ = some (.int .i64 t167) := (blk_cell BK172.out 0).trans rfl; have hcz80_1 : w79.cell? ⟨gb172, 1, none⟩ = some (.slice Ao13 t168.length co13) := (blk_cell BK172.out 1).trans rfl; have hfz80_0 := blk_frozen BK172.out 0; have hfz80_1 := blk_frozen BK172.out 1) | ((with_reducible refine gate_callee (f := 55) rfl ?_); refine goesL_ (some 35) rfl rfl Try.func55 (by kernel_rfl) rfl #[.agg #[.int .i64 t167, .slice Ao13 t175.length co13], .int .i64 1] rfl (by (try simp only [List.map_toArray, List.map_cons, List.map_nil]); first | done | (rw [show t175.length = t168.length from (Kd.R_reads' HO_173001.out).1.symm] <;> rfl) | rfl | (simp only [List.length_drop, List.length_take]; rfl)) ?_; (with_reducible refine (laws_heldGraph.calls kj3 t167 _ _ t175 1 t176 _ ?side1 ?side2 A26.out).mono ?_); (case side1 => repeat (first | exact (Kd.R_reads' HO_173001.out).2.2 | (with_reducible refine Kd.C_alloc ?_ _) | (with_reducible refine Kd.C_drewN ?_ _) | (with_reducible refine Kd.C_drew ?_))); (case side2 => rw [show t175.length = t168.length from (Kd.R_reads' HO_173001.out).1.symm]; exact (Kd.R_reads' HO_173001.out).2.1); rintro e w81 ⟨rfl, hb⟩; refine ⟨_, rfl, ?_⟩; have n0_ := Aside0.mk (Kd.R_below (by (with_reducible repeat (first | apply Kd.R_alloc | apply Kd.R_drewN | apply Kd.R_drew)); exact HO_167001.out) hb); have n1_ := Aside0.mk (Kd.R_below (by (with_reducible repeat (first | apply Kd.R_alloc | apply Kd.R_drewN | apply Kd.R_drew)); exact HO_173001.out) hb); have n2_ := Aside0.mk (blk_below (g := gb166) (o := .cells #[.int .i64 t161, .slice Ao8 t162.length co8] 29 (0, 0)) (by (with_reducible repeat (first | refine blk_drewN ?_ _ | refine blk_drew ?_ | refine blk_alloc ?_ _)); exact BK166.out) hb); have n3_ := Aside0.mk (blk_below (g := gb172) (o := .cells #[.int .i64 t167, .slice Ao13 t168.length co13] 29 (0, 0)) (by (with_reducible repeat (first | refine blk_drewN ?_ _ | refine blk_drew ?_ | refine blk_alloc ?_ _)); exact BK172.out) hb); have n4_ := Aside0.mk (below_step (by repeat (first | (with_reducible first | exact HB.out | apply below_alloc | apply pw_below_drewN | apply below_drew1 | refine below_set ?_ GE166.out | refine below_set ?_ GE172.out) | exact HB.out)) hb); clear HO_167001; clear HO_173001; clear BK166; clear BK172; clear HB; have HO_167001 := n0_; have HO_173001 := n1_; have BK166 := n2_; have BK172 := n3_; have HB := n4_; clear n0_ n1_ n2_ n3_ n4_; (try clear hb); (try clear hb2); (try clear hk); (try clear hi)))
      go_ret
      exact ⟨by first | rfl | (simp [errW_none, errW_some] <;> rfl) | (simp [*, errW_none, errW_some] <;> rfl), by repeat (first | (with_reducible first | exact HB.out | apply below_alloc | apply pw_below_drewN | apply below_drew1 | refine below_set ?_ GE166.out | refine below_set ?_ GE172.out) | exact HB.out)⟩

/-- THE ONE PURE STATEMENT of laws_FnExactCycleOf: yours. -/
def laws_FnExactCycleOf.Pure : Prop := ∀ (a0 : Int), (Lit.int .i64 a0).wf = true → ∃ k, laws_FnExactCycleOf.f k a0 = some true
theorem laws_FnExactCycleOf.walk (P : laws_FnExactCycleOf.Pure) (a0 : Int) (w : World) (w0 : (Lit.int .i64 a0).wf = true) :
  Calls Try.prog 14 #[.int .i64 a0] w fun e w' => e = .returned (.bool true) ∧ Below w.heap.size w w' := by
 obtain ⟨k, h⟩ := P a0 w0
 refine (laws_FnExactCycleOf.calls k a0 true w h).mono ?_
 rintro e w' ⟨rfl, hd⟩
 exact ⟨rfl, hd⟩

end Go.Proofs.Ytiiaadgibkpaaaa.PFnExactCycleOf
