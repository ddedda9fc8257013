-- written by wip/tools of this repo out of the translation (a turned copy of the kit's print): checked by Lean alone
import Derived.Test.YtklolnaonampeaaDoorPFnExactAppendRecordx0
import Derived.Test.YtklolnaonampeaaDoorPFnExactAppendRecordx1
import Derived.Test.YtklolnaonampeaaDoorPFnExactAppendRecordx4
import Derived.Test.YtklolnaonampeaaDoorPFnExactAppendRecordx6
namespace Go.Proofs.YtklolnaonampeaaDoor.PFnExactAppendRecord
open Go.RowKit Go.Proofs.YtklolnaonampeaaDoorW.PrintWords Go.Proofs.YtklolnaonampeaaDoorW.PrintLast Go.Proofs.YtklolnaonampeaaDoorW.PrintMore
attribute [local go_sem] max2_int min2_int max_two min_two max_three min_three max_four min_four   -- for this text's walks alone
set_option linter.unusedVariables false
set_option linter.unusedSimpArgs false

/-! ### laws_FnExactAppendRecord: function 8 -/
def laws_FnExactAppendRecord.f (k : Nat) (a0_0 : ByteArray) (a0_1 : ByteArray) (a0_2 : Int) (a1_0 : ByteArray) (a1_1 : ByteArray) : Option (Bool) := (laws_szLog.f a0_0 a0_1 a0_2 1048576).bind fun t235 => (if t235 < 0 then (some true) else ((laws_szLogRecord.f a1_0 a1_1 t235).bind fun t236 => (if t236 < 0 then (some true) else ((laws_toLog.f a0_0 a0_1 a0_2).bind fun bt237 => ((laws_toLogRecord.f a1_0 a1_1).bind fun bt240 => ((spec_AppendRecord.f k bt237.1 bt237.2.1 bt237.2.2 bt240.1 bt240.2).bind fun bt242 => ((laws_toLog.f a0_0 a0_1 a0_2).bind fun bt247 => ((laws_toLogRecord.f a1_0 a1_1).bind fun bt250 => ((impl_AppendRecord.f k bt247.1 bt247.2.1 bt247.2.2 bt250.1 bt250.2).bind fun bt252 => ((laws_eqLog.f bt252.1 bt252.2.1 bt252.2.2.1 bt242.1 bt242.2.1 bt242.2.2.1).bind fun t257 => (if t257 = true then (if bt252.2.2.2 = bt242.2.2.2 then (some true) else (some false)) else (some false))))))))))))
def laws_FnExactAppendRecord.T8 : Bool × List (List Nat × List Nat) := (true, [([], []), ([0], [0]), ([], []), ([2, 1], [2]), ([1, 3, 3], [1, 3]), ([4], [4]), ([5], [5]), ([5], [5]), ([], []), ([8, 6, 4, 0, 1, 2, 3, 4, 5, 6, 8], [6, 8]), ([7, 9, 0, 1, 2, 3, 4, 5, 6, 7, 8, 9], [7])])
def laws_FnExactAppendRecord.B8 : List Nat := [0, 1, 0, 7, 15, 31, 63, 63, 0, 383, 1023]
theorem laws_FnExactAppendRecord.tab8 : rtab .any (opsOf Tryd.f8 8) = laws_FnExactAppendRecord.T8 := by kernel_rfl
theorem laws_FnExactAppendRecord.bits8 : waitsOk laws_FnExactAppendRecord.T8.2 laws_FnExactAppendRecord.B8 = true := by kernel_rfl
def laws_FnExactAppendRecord.T9 : Bool × List (List Nat × List Nat) := (true, [([], []), ([0], [0]), ([], []), ([2, 1], [2]), ([1, 3, 3], [1, 3]), ([4], [4]), ([5], [5]), ([5], [5]), ([], []), ([8, 6, 4, 0, 1, 2, 3, 4, 5, 6, 8], [6, 8]), ([7, 9, 0, 1, 2, 3, 4, 5, 6, 7, 8, 9], [7])])
def laws_FnExactAppendRecord.B9 : List Nat := [0, 1, 0, 7, 15, 31, 63, 63, 0, 383, 1023]
theorem laws_FnExactAppendRecord.tab9 : rtab .any (opsOf Tryd.f8 9) = laws_FnExactAppendRecord.T9 := by kernel_rfl
theorem laws_FnExactAppendRecord.bits9 : waitsOk laws_FnExactAppendRecord.T9.2 laws_FnExactAppendRecord.B9 = true := by kernel_rfl
set_option maxHeartbeats 8000000 in
set_option maxRecDepth 100000 in
theorem laws_FnExactAppendRecord.calls (k : Nat) (a0_0 : ByteArray) (a0_1 : ByteArray) (a0_2 : Int) (a1_0 : ByteArray) (a1_1 : ByteArray) (r : Bool) (w : World) (hE : EnvW w) (h : laws_FnExactAppendRecord.f k a0_0 a0_1 a0_2 a1_0 a1_1 = some r) :
  Calls Tryd.prog 8 #[.agg #[.string a0_0, .string a0_1, .int .i64 a0_2], .agg #[.string a1_0, .string a1_1]] w fun e w' => e = .returned (.bool r) ∧ Below w.heap.size w w' := by
 have hu36 := Tryd.underlying36
 have hu23 := Tryd.underlying23
 have hu31 := Tryd.underlying31
 have HENV := Aside0.mk hE
 clear hE
 have HB := Aside0.mk (Below.refl w.heap.size w)
 have H : ((laws_szLog.f a0_0 a0_1 a0_2 1048576).bind fun t235 => (if t235 < 0 then (some true) else ((laws_szLogRecord.f a1_0 a1_1 t235).bind fun t236 => (if t236 < 0 then (some true) else ((laws_toLog.f a0_0 a0_1 a0_2).bind fun bt237 => ((laws_toLogRecord.f a1_0 a1_1).bind fun bt240 => ((spec_AppendRecord.f k bt237.1 bt237.2.1 bt237.2.2 bt240.1 bt240.2).bind fun bt242 => ((laws_toLog.f a0_0 a0_1 a0_2).bind fun bt247 => ((laws_toLogRecord.f a1_0 a1_1).bind fun bt250 => ((impl_AppendRecord.f k bt247.1 bt247.2.1 bt247.2.2 bt250.1 bt250.2).bind fun bt252 => ((laws_eqLog.f bt252.1 bt252.2.1 bt252.2.2.1 bt242.1 bt242.2.1 bt242.2.2.1).bind fun t257 => (if t257 = true then (if bt252.2.2.2 = bt242.2.2.2 then (some true) else (some false)) else (some false))))))))))))) = some r := h
 clear h
 replace H := Option.bind_eq_some_iff.mp H
 obtain ⟨t235, A30, H⟩ := H
 replace H : (if t235 < 0 then (some true) else ((laws_szLogRecord.f a1_0 a1_1 t235).bind fun t236 => (if t236 < 0 then (some true) else ((laws_toLog.f a0_0 a0_1 a0_2).bind fun bt237 => ((laws_toLogRecord.f a1_0 a1_1).bind fun bt240 => ((spec_AppendRecord.f k bt237.1 bt237.2.1 bt237.2.2 bt240.1 bt240.2).bind fun bt242 => ((laws_toLog.f a0_0 a0_1 a0_2).bind fun bt247 => ((laws_toLogRecord.f a1_0 a1_1).bind fun bt250 => ((impl_AppendRecord.f k bt247.1 bt247.2.1 bt247.2.2 bt250.1 bt250.2).bind fun bt252 => ((laws_eqLog.f bt252.1 bt252.2.1 bt252.2.2.1 bt242.1 bt242.2.1 bt242.2.2.1).bind fun t257 => (if t257 = true then (if bt252.2.2.2 = bt242.2.2.2 then (some true) else (some false)) else (some false)))))))))))) = some r := H
 have A3 := Aside0.mk A30
 clear A30
 by_cases c4 : t235 < 0
 ·rw [if_pos c4] at H
  have c4b0 : decide (t235 < 0) = true := decide_eq_true c4
  clear c4
  obtain rfl := Option.some.inj H
  go_enter Tryd.func8, Tryd.ntmps8
  go_wp2_with (first | ((with_reducible refine gate_dst (N := 2) rfl ?_); refine box_event ?hg (N := 2) ?hd (cs := #[.string a0_0, .string a0_1, .int .i64 a0_2]) (t := 36) ?hr ?_; (case hd => rfl); (case hg => rfl); (case hr => first | (go_simp; done) | (go_simp; rfl)); intro gb233 hg w5 hbox hb; have n0_ := Aside0.mk (below_step bl_ hb); have n1_ := Aside0.mk (hbox); have n2_ := Aside0.mk ((by rw [hg]; exact (below_size bl_) : w.heap.size ≤ gb233)); have n3_ := Aside0.mk ((by rw [hg]; exact (below_size bl_) : w.heap.size ≤ gb233)); clear HB; have HB := n0_; have BK233 := n1_; have GW233 := n2_; have GE233 := n3_; clear n0_ n1_ n2_ n3_; clear hb hbox hg) | ((with_reducible refine gate_dst (N := 3) rfl ?_); refine box_event ?hg (N := 3) ?hd (cs := #[.string a1_0, .string a1_1]) (t := 23) ?hr ?_; (case hd => rfl); (case hg => rfl); (case hr => first | (go_simp; done) | (go_simp; rfl)); intro gb234 hg w6 hbox hb; have n0_ := Aside0.mk (blk_below (g := gb233) (o := .cells #[.string a0_0, .string a0_1, .int .i64 a0_2] 36 (0, 0)) (bk_ BK233) hb); have n1_ := Aside0.mk (below_step bg_ hb); have n2_ := Aside0.mk (hbox); have n3_ := Aside0.mk ((by rw [hg]; exact (below_size bg_) : w.heap.size ≤ gb234)); have n4_ := Aside0.mk ((by rw [hg]; exact (below_size bg_) : w.heap.size ≤ gb234)); have n5_ := Aside0.mk ((by rw [hg]; exact Nat.ne_of_lt (blk_lt (g := gb233) (o := .cells #[.string a0_0, .string a0_1, .int .i64 a0_2] 36 (0, 0)) (bk_ BK233)) : gb233 ≠ gb234)); have n6_ := Aside0.mk ((by rw [hg]; exact Nat.ne_of_gt (blk_lt (g := gb233) (o := .cells #[.string a0_0, .string a0_1, .int .i64 a0_2] 36 (0, 0)) (bk_ BK233)) : gb234 ≠ gb233)); clear BK233; clear HB; have BK233 := n0_; have HB := n1_; have BK234 := n2_; have GW234 := n3_; have GE234 := n4_; have NB233_234 := n5_; have NB234_233 := n6_; clear n0_ n1_ n2_ n3_ n4_ n5_ n6_; clear hb hbox hg; have hnb7 := NB233_234.out; have hnc7 := NB234_233.out; have hcz8_0 : w6.cell? ⟨gb233, 0, none⟩ = some (.string a0_0) := (blk_cell BK233.out 0).trans rfl; have hcz8_1 : w6.cell? ⟨gb233, 1, none⟩ = some (.string a0_1) := (blk_cell BK233.out 1).trans rfl; have hcz8_2 : w6.cell? ⟨gb233, 2, none⟩ = some (.int .i64 a0_2) := (blk_cell BK233.out 2).trans rfl; have hfz8_0 := blk_frozen BK233.out 0; have hfz8_1 := blk_frozen BK233.out 1; have hfz8_2 := blk_frozen BK233.out 2) | ((with_reducible refine gate_callee (f := 19) rfl ?_); refine gL_ (some 12) Tryd.func19 #[.agg #[.string a0_0, .string a0_1, .int .i64 a0_2], .int .i64 1048576] ?_ rfl rfl; (with_reducible refine (laws_szLog.calls a0_0 a0_1 a0_2 1048576 t235 _ A3.out).mono ?_); rintro e w9 ⟨rfl, hb⟩; refine ⟨_, rfl, ?_⟩; have n0_ := Aside0.mk (blk_below (g := gb233) (o := .cells #[.string a0_0, .string a0_1, .int .i64 a0_2] 36 (0, 0)) (bk_ BK233) hb); have n1_ := Aside0.mk (blk_below (g := gb234) (o := .cells #[.string a1_0, .string a1_1] 23 (0, 0)) (bk_ BK234) hb); have n2_ := Aside0.mk (below_step bg_ hb); clear BK233; clear BK234; clear HB; have BK233 := n0_; have BK234 := n1_; have HB := n2_; clear n0_ n1_ n2_; (try clear hb); (try clear hb2); (try clear hk); (try clear hi)))
  go_ret
  exact ⟨by first | rfl | (simp [errW_none, errW_some] <;> rfl) | (simp [*, errW_none, errW_some] <;> rfl), by repeat (first | (with_reducible first | exact HB.out | apply below_alloc | apply pw_below_drewN | apply below_drew1 | refine below_set ?_ GE233.out | refine below_set ?_ GE234.out) | exact HB.out)⟩
 ·rw [if_neg c4] at H
  have c4b0 : decide (t235 < 0) = false := decide_eq_false c4
  clear c4
  replace H := Option.bind_eq_some_iff.mp H
  obtain ⟨t236, A100, H⟩ := H
  replace H : (if t236 < 0 then (some true) else ((laws_toLog.f a0_0 a0_1 a0_2).bind fun bt237 => ((laws_toLogRecord.f a1_0 a1_1).bind fun bt240 => ((spec_AppendRecord.f k bt237.1 bt237.2.1 bt237.2.2 bt240.1 bt240.2).bind fun bt242 => ((laws_toLog.f a0_0 a0_1 a0_2).bind fun bt247 => ((laws_toLogRecord.f a1_0 a1_1).bind fun bt250 => ((impl_AppendRecord.f k bt247.1 bt247.2.1 bt247.2.2 bt250.1 bt250.2).bind fun bt252 => ((laws_eqLog.f bt252.1 bt252.2.1 bt252.2.2.1 bt242.1 bt242.2.1 bt242.2.2.1).bind fun t257 => (if t257 = true then (if bt252.2.2.2 = bt242.2.2.2 then (some true) else (some false)) else (some false)))))))))) = some r := H
  have A10 := Aside0.mk A100
  clear A100
  by_cases c11 : t236 < 0
  ·rw [if_pos c11] at H
   have c11b0 : decide (t236 < 0) = true := decide_eq_true c11
   clear c11
   obtain rfl := Option.some.inj H
   go_enter Tryd.func8, Tryd.ntmps8
   go_wp2_with (first | ((with_reducible refine gate_dst (N := 2) rfl ?_); refine box_event ?hg (N := 2) ?hd (cs := #[.string a0_0, .string a0_1, .int .i64 a0_2]) (t := 36) ?hr ?_; (case hd => rfl); (case hg => rfl); (case hr => first | (go_simp; done) | (go_simp; rfl)); intro gb233 hg w12 hbox hb; have n0_ := Aside0.mk (below_step bl_ hb); have n1_ := Aside0.mk (hbox); have n2_ := Aside0.mk ((by rw [hg]; exact (below_size bl_) : w.heap.size ≤ gb233)); have n3_ := Aside0.mk ((by rw [hg]; exact (below_size bl_) : w.heap.size ≤ gb233)); clear HB; have HB := n0_; have BK233 := n1_; have GW233 := n2_; have GE233 := n3_; clear n0_ n1_ n2_ n3_; clear hb hbox hg) | ((with_reducible refine gate_dst (N := 3) rfl ?_); refine box_event ?hg (N := 3) ?hd (cs := #[.string a1_0, .string a1_1]) (t := 23) ?hr ?_; (case hd => rfl); (case hg => rfl); (case hr => first | (go_simp; done) | (go_simp; rfl)); intro gb234 hg w13 hbox hb; have n0_ := Aside0.mk (blk_below (g := gb233) (o := .cells #[.string a0_0, .string a0_1, .int .i64 a0_2] 36 (0, 0)) (bk_ BK233) hb); have n1_ := Aside0.mk (below_step bg_ hb); have n2_ := Aside0.mk (hbox); have n3_ := Aside0.mk ((by rw [hg]; exact (below_size bg_) : w.heap.size ≤ gb234)); have n4_ := Aside0.mk ((by rw [hg]; exact (below_size bg_) : w.heap.size ≤ gb234)); have n5_ := Aside0.mk ((by rw [hg]; exact Nat.ne_of_lt (blk_lt (g := gb233) (o := .cells #[.string a0_0, .string a0_1, .int .i64 a0_2] 36 (0, 0)) (bk_ BK233)) : gb233 ≠ gb234)); have n6_ := Aside0.mk ((by rw [hg]; exact Nat.ne_of_gt (blk_lt (g := gb233) (o := .cells #[.string a0_0, .string a0_1, .int .i64 a0_2] 36 (0, 0)) (bk_ BK233)) : gb234 ≠ gb233)); clear BK233; clear HB; have BK233 := n0_; have HB := n1_; have BK234 := n2_; have GW234 := n3_; have GE234 := n4_; have NB233_234 := n5_; have NB234_233 := n6_; clear n0_ n1_ n2_ n3_ n4_ n5_ n6_; clear hb hbox hg; have hnb14 := NB233_234.out; have hnc14 := NB234_233.out; have hcz15_0 : w13.cell? ⟨gb233, 0, none⟩ = some (.string a0_0) := (blk_cell BK233.out 0).trans rfl; have hcz15_1 : w13.cell? ⟨gb233, 1, none⟩ = some (.string a0_1) := (blk_cell BK233.out 1).trans rfl; have hcz15_2 : w13.cell? ⟨gb233, 2, none⟩ = some (.int .i64 a0_2) := (blk_cell BK233.out 2).trans rfl; have hfz15_0 := blk_frozen BK233.out 0; have hfz15_1 := blk_frozen BK233.out 1; have hfz15_2 := blk_frozen BK233.out 2) | ((with_reducible refine gate_callee (f := 19) rfl ?_); refine gL_ (some 12) Tryd.func19 #[.agg #[.string a0_0, .string a0_1, .int .i64 a0_2], .int .i64 1048576] ?_ rfl rfl; (with_reducible refine (laws_szLog.calls a0_0 a0_1 a0_2 1048576 t235 _ A3.out).mono ?_); rintro e w16 ⟨rfl, hb⟩; refine ⟨_, rfl, ?_⟩; have n0_ := Aside0.mk (blk_below (g := gb233) (o := .cells #[.string a0_0, .string a0_1, .int .i64 a0_2] 36 (0, 0)) (bk_ BK233) hb); have n1_ := Aside0.mk (blk_below (g := gb234) (o := .cells #[.string a1_0, .string a1_1] 23 (0, 0)) (bk_ BK234) hb); have n2_ := Aside0.mk (below_step bg_ hb); clear BK233; clear BK234; clear HB; have BK233 := n0_; have BK234 := n1_; have HB := n2_; clear n0_ n1_ n2_; (try clear hb); (try clear hb2); (try clear hk); (try clear hi); have hcz17_0 : w16.cell? ⟨gb234, 0, none⟩ = some (.string a1_0) := (blk_cell BK234.out 0).trans rfl; have hcz17_1 : w16.cell? ⟨gb234, 1, none⟩ = some (.string a1_1) := (blk_cell BK234.out 1).trans rfl; have hfz17_0 := blk_frozen BK234.out 0; have hfz17_1 := blk_frozen BK234.out 1) | ((with_reducible refine gate_callee (f := 12) rfl ?_); refine gL_ (some 17) Tryd.func12 #[.agg #[.string a1_0, .string a1_1], .int .i64 t235] ?_ rfl rfl; (with_reducible refine (laws_szLogRecord.calls a1_0 a1_1 t235 t236 _ A10.out).mono ?_); rintro e w18 ⟨rfl, hb⟩; refine ⟨_, rfl, ?_⟩; have n0_ := Aside0.mk (blk_below (g := gb233) (o := .cells #[.string a0_0, .string a0_1, .int .i64 a0_2] 36 (0, 0)) (bk_ BK233) hb); have n1_ := Aside0.mk (blk_below (g := gb234) (o := .cells #[.string a1_0, .string a1_1] 23 (0, 0)) (bk_ BK234) hb); have n2_ := Aside0.mk (below_step bg_ hb); clear BK233; clear BK234; clear HB; have BK233 := n0_; have BK234 := n1_; have HB := n2_; clear n0_ n1_ n2_; (try clear hb); (try clear hb2); (try clear hk); (try clear hi)))
   go_ret
   exact ⟨by first | rfl | (simp [errW_none, errW_some] <;> rfl) | (simp [*, errW_none, errW_some] <;> rfl), by repeat (first | (with_reducible first | exact HB.out | apply below_alloc | apply pw_below_drewN | apply below_drew1 | refine below_set ?_ GE233.out | refine below_set ?_ GE234.out) | exact HB.out)⟩
  ·rw [if_neg c11] at H
   have c11b0 : decide (t236 < 0) = false := decide_eq_false c11
   clear c11
   replace H := Option.bind_eq_some_iff.mp H
   obtain ⟨⟨t237, t238, t239⟩, A190, H⟩ := H
   replace H : ((laws_toLogRecord.f a1_0 a1_1).bind fun bt240 => ((spec_AppendRecord.f k t237 t238 t239 bt240.1 bt240.2).bind fun bt242 => ((laws_toLog.f a0_0 a0_1 a0_2).bind fun bt247 => ((laws_toLogRecord.f a1_0 a1_1).bind fun bt250 => ((impl_AppendRecord.f k bt247.1 bt247.2.1 bt247.2.2 bt250.1 bt250.2).bind fun bt252 => ((laws_eqLog.f bt252.1 bt252.2.1 bt252.2.2.1 bt242.1 bt242.2.1 bt242.2.2.1).bind fun t257 => (if t257 = true then (if bt252.2.2.2 = bt242.2.2.2 then (some true) else (some false)) else (some false)))))))) = some r := H
   have A19 := Aside0.mk A190
   clear A190
   replace H := Option.bind_eq_some_iff.mp H
   obtain ⟨⟨t240, t241⟩, A200, H⟩ := H
   replace H : ((spec_AppendRecord.f k t237 t238 t239 t240 t241).bind fun bt242 => ((laws_toLog.f a0_0 a0_1 a0_2).bind fun bt247 => ((laws_toLogRecord.f a1_0 a1_1).bind fun bt250 => ((impl_AppendRecord.f k bt247.1 bt247.2.1 bt247.2.2 bt250.1 bt250.2).bind fun bt252 => ((laws_eqLog.f bt252.1 bt252.2.1 bt252.2.2.1 bt242.1 bt242.2.1 bt242.2.2.1).bind fun t257 => (if t257 = true then (if bt252.2.2.2 = bt242.2.2.2 then (some true) else (some false)) else (some false))))))) = some r := H
   have A20 := Aside0.mk A200
   clear A200
   replace H := Option.bind_eq_some_iff.mp H
   obtain ⟨⟨t242, t243, t244, t245⟩, A210, H⟩ := H
   replace H : ((laws_toLog.f a0_0 a0_1 a0_2).bind fun bt247 => ((laws_toLogRecord.f a1_0 a1_1).bind fun bt250 => ((impl_AppendRecord.f k bt247.1 bt247.2.1 bt247.2.2 bt250.1 bt250.2).bind fun bt252 => ((laws_eqLog.f bt252.1 bt252.2.1 bt252.2.2.1 t242 t243 t244).bind fun t257 => (if t257 = true then (if bt252.2.2.2 = t245 then (some true) else (some false)) else (some false)))))) = some r := H
   have A21 := Aside0.mk A210
   clear A210
   replace H := Option.bind_eq_some_iff.mp H
   obtain ⟨⟨t247, t248, t249⟩, A220, H⟩ := H
   replace H : ((laws_toLogRecord.f a1_0 a1_1).bind fun bt250 => ((impl_AppendRecord.f k t247 t248 t249 bt250.1 bt250.2).bind fun bt252 => ((laws_eqLog.f bt252.1 bt252.2.1 bt252.2.2.1 t242 t243 t244).bind fun t257 => (if t257 = true then (if bt252.2.2.2 = t245 then (some true) else (some false)) else (some false))))) = some r := H
   have A22 := Aside0.mk A220
   clear A220
   replace H := Option.bind_eq_some_iff.mp H
   obtain ⟨⟨t250, t251⟩, A230, H⟩ := H
   replace H : ((impl_AppendRecord.f k t247 t248 t249 t250 t251).bind fun bt252 => ((laws_eqLog.f bt252.1 bt252.2.1 bt252.2.2.1 t242 t243 t244).bind fun t257 => (if t257 = true then (if bt252.2.2.2 = t245 then (some true) else (some false)) else (some false)))) = some r := H
   have A23 := Aside0.mk A230
   clear A230
   replace H := Option.bind_eq_some_iff.mp H
   obtain ⟨⟨t252, t253, t254, t255⟩, A240, H⟩ := H
   replace H : ((laws_eqLog.f t252 t253 t254 t242 t243 t244).bind fun t257 => (if t257 = true then (if t255 = t245 then (some true) else (some false)) else (some false))) = some r := H
   have A24 := Aside0.mk A240
   clear A240
   replace H := Option.bind_eq_some_iff.mp H
   obtain ⟨t257, A250, H⟩ := H
   replace H : (if t257 = true then (if t255 = t245 then (some true) else (some false)) else (some false)) = some r := H
   have A25 := Aside0.mk A250
   clear A250
   by_cases c26 : t257 = true
   ·subst c26
    have H1 : (if t255 = t245 then (some true) else (some false)) = some r := by rw [if_pos rfl] at H; exact H
    clear H
    have H := H1
    clear H1
    by_cases c27 : t255 = t245
    ·rw [if_pos c27] at H
     have c27b0 : (t255 == t245) = true := beq_iff_eq.mpr c27
     have c27b1 : (t255 != t245) = false := bne_eq_false_iff_eq.mpr c27
     clear c27
     obtain rfl := Option.some.inj H
     go_enter Tryd.func8, Tryd.ntmps8
     try go_wp2_with (first | ((with_reducible refine gate_dst (N := 2) rfl ?_); refine box_event ?hg (N := 2) ?hd (cs := #[.string a0_0, .string a0_1, .int .i64 a0_2]) (t := 36) ?hr ?_; (case hd => rfl); (case hg => rfl); (case hr => first | (go_simp; done) | (go_simp; rfl)); intro gb233 hg w28 hbox hb; have n0_ := Aside0.mk (below_step bl_ hb); have n1_ := Aside0.mk (hbox); have n2_ := Aside0.mk ((by rw [hg]; exact (below_size bl_) : w.heap.size ≤ gb233)); have n3_ := Aside0.mk ((by rw [hg]; exact (below_size bl_) : w.heap.size ≤ gb233)); clear HB; have HB := n0_; have BK233 := n1_; have GW233 := n2_; have GE233 := n3_; clear n0_ n1_ n2_ n3_; clear hb hbox hg) | ((with_reducible refine gate_dst (N := 3) rfl ?_); refine box_event ?hg (N := 3) ?hd (cs := #[.string a1_0, .string a1_1]) (t := 23) ?hr ?_; (case hd => rfl); (case hg => rfl); (case hr => first | (go_simp; done) | (go_simp; rfl)); intro gb234 hg w29 hbox hb; have n0_ := Aside0.mk (blk_below (g := gb233) (o := .cells #[.string a0_0, .string a0_1, .int .i64 a0_2] 36 (0, 0)) (bk_ BK233) hb); have n1_ := Aside0.mk (below_step bg_ hb); have n2_ := Aside0.mk (hbox); have n3_ := Aside0.mk ((by rw [hg]; exact (below_size bg_) : w.heap.size ≤ gb234)); have n4_ := Aside0.mk ((by rw [hg]; exact (below_size bg_) : w.heap.size ≤ gb234)); have n5_ := Aside0.mk ((by rw [hg]; exact Nat.ne_of_lt (blk_lt (g := gb233) (o := .cells #[.string a0_0, .string a0_1, .int .i64 a0_2] 36 (0, 0)) (bk_ BK233)) : gb233 ≠ gb234)); have n6_ := Aside0.mk ((by rw [hg]; exact Nat.ne_of_gt (blk_lt (g := gb233) (o := .cells #[.string a0_0, .string a0_1, .int .i64 a0_2] 36 (0, 0)) (bk_ BK233)) : gb234 ≠ gb233)); clear BK233; clear HB; have BK233 := n0_; have HB := n1_; have BK234 := n2_; have GW234 := n3_; have GE234 := n4_; have NB233_234 := n5_; have NB234_233 := n6_; clear n0_ n1_ n2_ n3_ n4_ n5_ n6_; clear hb hbox hg; have hnb30 := NB233_234.out; have hnc30 := NB234_233.out; have hcz31_0 : w29.cell? ⟨gb233, 0, none⟩ = some (.string a0_0) := (blk_cell BK233.out 0).trans rfl; have hcz31_1 : w29.cell? ⟨gb233, 1, none⟩ = some (.string a0_1) := (blk_cell BK233.out 1).trans rfl; have hcz31_2 : w29.cell? ⟨gb233, 2, none⟩ = some (.int .i64 a0_2) := (blk_cell BK233.out 2).trans rfl; have hfz31_0 := blk_frozen BK233.out 0; have hfz31_1 := blk_frozen BK233.out 1; have hfz31_2 := blk_frozen BK233.out 2) | ((with_reducible refine gate_callee (f := 19) rfl ?_); refine gL_ (some 12) Tryd.func19 #[.agg #[.string a0_0, .string a0_1, .int .i64 a0_2], .int .i64 1048576] ?_ rfl rfl; (with_reducible refine (laws_szLog.calls a0_0 a0_1 a0_2 1048576 t235 _ A3.out).mono ?_); rintro e w32 ⟨rfl, hb⟩; refine ⟨_, rfl, ?_⟩; have n0_ := Aside0.mk (blk_below (g := gb233) (o := .cells #[.string a0_0, .string a0_1, .int .i64 a0_2] 36 (0, 0)) (bk_ BK233) hb); have n1_ := Aside0.mk (blk_below (g := gb234) (o := .cells #[.string a1_0, .string a1_1] 23 (0, 0)) (bk_ BK234) hb); have n2_ := Aside0.mk (below_step bg_ hb); clear BK233; clear BK234; clear HB; have BK233 := n0_; have BK234 := n1_; have HB := n2_; clear n0_ n1_ n2_; (try clear hb); (try clear hb2); (try clear hk); (try clear hi); have hcz33_0 : w32.cell? ⟨gb234, 0, none⟩ = some (.string a1_0) := (blk_cell BK234.out 0).trans rfl; have hcz33_1 : w32.cell? ⟨gb234, 1, none⟩ = some (.string a1_1) := (blk_cell BK234.out 1).trans rfl; have hfz33_0 := blk_frozen BK234.out 0; have hfz33_1 := blk_frozen BK234.out 1) | ((with_reducible refine gate_callee (f := 12) rfl ?_); refine gL_ (some 17) Tryd.func12 #[.agg #[.string a1_0, .string a1_1], .int .i64 t235] ?_ rfl rfl; (with_reducible refine (laws_szLogRecord.calls a1_0 a1_1 t235 t236 _ A10.out).mono ?_); rintro e w34 ⟨rfl, hb⟩; refine ⟨_, rfl, ?_⟩; have n0_ := Aside0.mk (blk_below (g := gb233) (o := .cells #[.string a0_0, .string a0_1, .int .i64 a0_2] 36 (0, 0)) (bk_ BK233) hb); have n1_ := Aside0.mk (blk_below (g := gb234) (o := .cells #[.string a1_0, .string a1_1] 23 (0, 0)) (bk_ BK234) hb); have n2_ := Aside0.mk (below_step bg_ hb); clear BK233; clear BK234; clear HB; have BK233 := n0_; have BK234 := n1_; have HB := n2_; clear n0_ n1_ n2_; (try clear hb); (try clear hb2); (try clear hk); (try clear hi)))
     have n0_ := Aside0.mk (blk_drew BK233.out)
     have n1_ := Aside0.mk (blk_drew BK234.out)
     have n2_ := Aside0.mk (below_drew1 HB.out)
     clear BK233
     clear BK234
     clear HB
     have BK233 := n0_
     have BK234 := n1_
     have HB := n2_
     clear n0_ n1_ n2_
     refine start_ (n := 11) (S := fun w' => w'.cell? ⟨gb233, 0, none⟩ = some (.string a0_0) ∧ w'.cell? ⟨gb233, 1, none⟩ = some (.string a0_1) ∧ w'.cell? ⟨gb233, 2, none⟩ = some (.int .i64 a0_2) ∧ w'.cell? ⟨gb234, 0, none⟩ = some (.string a1_0) ∧ w'.cell? ⟨gb234, 1, none⟩ = some (.string a1_1)) (ds := []) (bm 11 0) (by kernel_rfl) rfl rfl ⟨(blk_cell BK233.out 0).trans rfl, (blk_cell BK233.out 1).trans rfl, (blk_cell BK233.out 2).trans rfl, (blk_cell BK234.out 0).trans rfl, (blk_cell BK234.out 1).trans rfl⟩ (fun hHeld => ?_); refine with_tabW laws_FnExactAppendRecord.tab8 laws_FnExactAppendRecord.bits8 (fun HT_ HW_ => ?_)
     generalize w34.drew = w35 at BK233 BK234 HB hHeld ⊢
     refine take_ (i := 0) (N := some 21) (v := ?_) (a' := ?_) (bm 11 1) rfl rfl (take_ofW HT_.out HW_.out (by kernel_rfl)) (fun _ _ _ h => h) (Or.inl ⟨by rfl, ?_⟩) hHeld ?_ ?_
     rotate_left
     ·rintro w' ⟨s0, s1, s2, s3, s4⟩
      go_simp
      with_reducible rfl
     rotate_left
     ·simp only [Act.put, List.setIfInBounds_toArray, List.set_cons_zero, List.set_cons_succ, i64_w, i32_w]
      rfl
     refine take_ (i := 2) (N := some 23) (v := ?_) (a' := ?_) (bm 11 5) rfl rfl (take_ofW HT_.out HW_.out (by kernel_rfl)) (fun _ _ _ h => h) (Or.inl ⟨by rfl, ?_⟩) hHeld ?_ ?_
     rotate_left
     ·rintro w' ⟨s0, s1, s2, s3, s4⟩
      go_simp
      with_reducible rfl
     rotate_left
     ·simp only [Act.put, List.setIfInBounds_toArray, List.set_cons_zero, List.set_cons_succ, i64_w, i32_w]
      rfl
     refine join_ (σ := Nat) 2 (bm 11 511) (fun s_ => [(22, .agg #[.string t237, .string t238, .int .i64 t239]), (24, .agg #[.string t240, .string t241]), (25, .tuple #[.agg #[.string t242, .string t243, .int .i64 t244], .int .i64 t245]), (6, .pointer (some ⟨s_, 0, none⟩)), (20, .tuple #[.agg #[.string t242, .string t243, .int .i64 t244], .int .i64 t245]), (26, .agg #[.string t242, .string t243, .int .i64 t244]), (27, .int .i64 t245)]) (fun s_ w' => (w'.cell? ⟨gb233, 0, none⟩ = some (.string a0_0) ∧ w'.cell? ⟨gb233, 1, none⟩ = some (.string a0_1) ∧ w'.cell? ⟨gb233, 2, none⟩ = some (.int .i64 a0_2) ∧ w'.cell? ⟨gb234, 0, none⟩ = some (.string a1_0) ∧ w'.cell? ⟨gb234, 1, none⟩ = some (.string a1_1)) ∧ (w'.heap[gb233]? = some (.cells #[.string a0_0, .string a0_1, .int .i64 a0_2] 36 (0, 0))) ∧ (w'.heap[gb234]? = some (.cells #[.string a1_0, .string a1_1] 23 (0, 0))) ∧ (w'.heap[s_]? = some (.cells #[.string (⟨#[]⟩ : ByteArray), .string (⟨#[]⟩ : ByteArray), .int .i64 0] 31 (0, 0))) ∧ (w.heap.size ≤ s_) ∧ (w.heap.size ≤ s_) ∧ (gb233 ≠ s_) ∧ (s_ ≠ gb233) ∧ (gb234 ≠ s_) ∧ (s_ ≠ gb234) ∧ (Below w.heap.size w w')) ?_ ?_
     rotate_left
     ·intro hCont
      refine two_ (i := 1) (j := 8) (Ni := some 22) (Nj := some 6) (bm 11 7) (bm 11 261) rfl rfl rfl rfl (two_of HT_.out (by kernel_rfl)) (by decide) (by decide) (fun K hK => ?_) (fun K hK => ?_)
      ·skip
       refine goes_ Tryd.func21 (by kernel_rfl) rfl #[.agg #[.string a0_0, .string a0_1, .int .i64 a0_2]] (by rfl) rfl rfl (by (try simp only [List.map_toArray, List.map_cons, List.map_nil]); first | done | rfl | (simp only [List.length_drop, List.length_take]; rfl)) ?_
       with_reducible refine (laws_toLog.calls a0_0 a0_1 a0_2 t237 t238 t239 _ A19.out).mono ?_
       rintro e w36 ⟨rfl, hb⟩
       refine ⟨_, rfl, ?_⟩
       have n0_ := Aside0.mk (blk_below (g := gb233) (o := .cells #[.string a0_0, .string a0_1, .int .i64 a0_2] 36 (0, 0)) (bk_ BK233) hb)
       have n1_ := Aside0.mk (blk_below (g := gb234) (o := .cells #[.string a1_0, .string a1_1] 23 (0, 0)) (bk_ BK234) hb)
       have n2_ := Aside0.mk (below_step bg_ hb)
       clear BK233
       clear BK234
       clear HB
       have BK233 := n0_
       have BK234 := n1_
       have HB := n2_
       clear n0_ n1_ n2_
       (try clear hb)
       (try clear hb2)
       (try clear hk)
       (try clear hi)
       refine hK.out _ _ ⟨(blk_cell BK233.out 0).trans rfl, (blk_cell BK233.out 1).trans rfl, (blk_cell BK233.out 2).trans rfl, (blk_cell BK234.out 0).trans rfl, (blk_cell BK234.out 1).trans rfl⟩ (fun hHeld => ?_)
       clear hK K
       refine norm_ (a' := ?_) ?_ ?_
       rotate_left
       ·show Act.put _ (some 22) _ = _
        simp only [Act.put, List.setIfInBounds_toArray, List.set_cons_zero, List.set_cons_succ, i64_w, i32_w]
        rfl
       refine two_ (i := 3) (j := 8) (Ni := some 24) (Nj := some 6) (bm 11 15) (bm 11 263) rfl rfl rfl rfl (two_of HT_.out (by kernel_rfl)) (by decide) (by decide) (fun K hK => ?_) (fun K hK => ?_)
       ·skip
        refine goes_ Tryd.func14 (by kernel_rfl) rfl #[.agg #[.string a1_0, .string a1_1]] (by rfl) rfl rfl (by (try simp only [List.map_toArray, List.map_cons, List.map_nil]); first | done | rfl | (simp only [List.length_drop, List.length_take]; rfl)) ?_
        with_reducible refine (laws_toLogRecord.calls a1_0 a1_1 t240 t241 _ A20.out).mono ?_
        rintro e w37 ⟨rfl, hb⟩
        refine ⟨_, rfl, ?_⟩
        have n0_ := Aside0.mk (blk_below (g := gb233) (o := .cells #[.string a0_0, .string a0_1, .int .i64 a0_2] 36 (0, 0)) (bk_ BK233) hb)
        have n1_ := Aside0.mk (blk_below (g := gb234) (o := .cells #[.string a1_0, .string a1_1] 23 (0, 0)) (bk_ BK234) hb)
        have n2_ := Aside0.mk (below_step bg_ hb)
        clear BK233
        clear BK234
        clear HB
        have BK233 := n0_
        have BK234 := n1_
        have HB := n2_
        clear n0_ n1_ n2_
        (try clear hb)
        (try clear hb2)
        (try clear hk)
        (try clear hi)
        refine hK.out _ _ ⟨(blk_cell BK233.out 0).trans rfl, (blk_cell BK233.out 1).trans rfl, (blk_cell BK233.out 2).trans rfl, (blk_cell BK234.out 0).trans rfl, (blk_cell BK234.out 1).trans rfl⟩ (fun hHeld => ?_)
        clear hK K
        refine norm_ (a' := ?_) ?_ ?_
        rotate_left
        ·show Act.put _ (some 24) _ = _
         simp only [Act.put, List.setIfInBounds_toArray, List.set_cons_zero, List.set_cons_succ, i64_w, i32_w]
         rfl
        refine two_ (i := 4) (j := 8) (Ni := some 25) (Nj := some 6) (bm 11 31) (bm 11 271) rfl rfl rfl rfl (two_of HT_.out (by kernel_rfl)) (by decide) (by decide) (fun K hK => ?_) (fun K hK => ?_)
        ·skip
         refine goes_ Tryd.func27 (by kernel_rfl) rfl #[.agg #[.string t237, .string t238, .int .i64 t239], .agg #[.string t240, .string t241]] (by rfl) rfl rfl (by (try simp only [List.map_toArray, List.map_cons, List.map_nil]); first | done | rfl | (simp only [List.length_drop, List.length_take]; rfl)) ?_
         with_reducible refine (spec_AppendRecord.calls k t237 t238 t239 t240 t241 t242 t243 t244 t245 _ A21.out).mono ?_
         rintro e w38 ⟨rfl, hb⟩
         refine ⟨_, rfl, ?_⟩
         have n0_ := Aside0.mk (blk_below (g := gb233) (o := .cells #[.string a0_0, .string a0_1, .int .i64 a0_2] 36 (0, 0)) (bk_ BK233) hb)
         have n1_ := Aside0.mk (blk_below (g := gb234) (o := .cells #[.string a1_0, .string a1_1] 23 (0, 0)) (bk_ BK234) hb)
         have n2_ := Aside0.mk (below_step bg_ hb)
         clear BK233
         clear BK234
         clear HB
         have BK233 := n0_
         have BK234 := n1_
         have HB := n2_
         clear n0_ n1_ n2_
         (try clear hb)
         (try clear hb2)
         (try clear hk)
         (try clear hi)
         refine hK.out _ _ ⟨(blk_cell BK233.out 0).trans rfl, (blk_cell BK233.out 1).trans rfl, (blk_cell BK233.out 2).trans rfl, (blk_cell BK234.out 0).trans rfl, (blk_cell BK234.out 1).trans rfl⟩ (fun hHeld => ?_)
         clear hK K
         refine norm_ (a' := ?_) ?_ ?_
         rotate_left
         ·show Act.put _ (some 25) _ = _
          simp only [Act.put, List.setIfInBounds_toArray, List.set_cons_zero, List.set_cons_succ, i64_w, i32_w]
          rfl
         refine pa_ 5 (some 20) (bm 11 63) rfl rfl HT_.out ?_
         refine pa_ 6 (some 26) (bm 11 127) rfl rfl HT_.out ?_
         refine pa_ 7 (some 27) (bm 11 255) rfl rfl HT_.out ?_
         refine one_ (i := 8) (N := some 6) (bm 11 511) rfl rfl (one_of HT_.out (by kernel_rfl)) (by decide) (fun K hK => ?_)
         refine box_step ?hg (N := 6) ?hd (cs := #[.string (⟨#[]⟩ : ByteArray), .string (⟨#[]⟩ : ByteArray), .int .i64 0]) (t := 31) ?hr ?_; (case hd => rfl); (case hg => rfl); (case hr => first | (go_simp; done) | (go_simp; rfl))
         intro gb246 hg w39 hbox hb
         have n0_ := Aside0.mk (blk_below (g := gb233) (o := .cells #[.string a0_0, .string a0_1, .int .i64 a0_2] 36 (0, 0)) (bk_ BK233) hb)
         have n1_ := Aside0.mk (blk_below (g := gb234) (o := .cells #[.string a1_0, .string a1_1] 23 (0, 0)) (bk_ BK234) hb)
         have n2_ := Aside0.mk (below_step bg_ hb)
         have n3_ := Aside0.mk (hbox)
         have n4_ := Aside0.mk ((by rw [hg]; exact (below_size bg_) : w.heap.size ≤ gb246))
         have n5_ := Aside0.mk ((by rw [hg]; exact (below_size bg_) : w.heap.size ≤ gb246))
         have n6_ := Aside0.mk ((by rw [hg]; exact Nat.ne_of_lt (blk_lt (g := gb233) (o := .cells #[.string a0_0, .string a0_1, .int .i64 a0_2] 36 (0, 0)) (bk_ BK233)) : gb233 ≠ gb246))
         have n7_ := Aside0.mk ((by rw [hg]; exact Nat.ne_of_gt (blk_lt (g := gb233) (o := .cells #[.string a0_0, .string a0_1, .int .i64 a0_2] 36 (0, 0)) (bk_ BK233)) : gb246 ≠ gb233))
         have n8_ := Aside0.mk ((by rw [hg]; exact Nat.ne_of_lt (blk_lt (g := gb234) (o := .cells #[.string a1_0, .string a1_1] 23 (0, 0)) (bk_ BK234)) : gb234 ≠ gb246))
         have n9_ := Aside0.mk ((by rw [hg]; exact Nat.ne_of_gt (blk_lt (g := gb234) (o := .cells #[.string a1_0, .string a1_1] 23 (0, 0)) (bk_ BK234)) : gb246 ≠ gb234))
         clear BK233
         clear BK234
         clear HB
         have BK233 := n0_
         have BK234 := n1_
         have HB := n2_
         have BK246 := n3_
         have GW246 := n4_
         have GE246 := n5_
         have NB233_246 := n6_
         have NB246_233 := n7_
         have NB234_246 := n8_
         have NB246_234 := n9_
         clear n0_ n1_ n2_ n3_ n4_ n5_ n6_ n7_ n8_ n9_
         clear hb hbox hg
         refine hK.out _ _ ⟨(blk_cell BK233.out 0).trans rfl, (blk_cell BK233.out 1).trans rfl, (blk_cell BK233.out 2).trans rfl, (blk_cell BK234.out 0).trans rfl, (blk_cell BK234.out 1).trans rfl⟩ (fun hHeld => ?_)
         clear hK K
         refine norm_ (a' := ?_) ?_ ?_
         rotate_left
         ·show Act.put _ (some 6) _ = _
          simp only [Act.put, List.setIfInBounds_toArray, List.set_cons_zero, List.set_cons_succ, i64_w, i32_w]
          rfl
         exact norm_ (by simp only [putAll, Act.put, List.setIfInBounds_toArray, List.set_cons_zero, List.set_cons_succ]) (hCont (gb246) _ ⟨hHeld, (bk_ BK233), (bk_ BK234), (bk_ BK246), GW246.out, GE246.out, NB233_246.out, NB246_233.out, NB234_246.out, NB246_234.out, bg_⟩)
        ·skip
         refine box_step ?hg (N := 6) ?hd (cs := #[.string (⟨#[]⟩ : ByteArray), .string (⟨#[]⟩ : ByteArray), .int .i64 0]) (t := 31) ?hr ?_; (case hd => rfl); (case hg => rfl); (case hr => first | (go_simp; done) | (go_simp; rfl))
         intro gb246 hg w38 hbox hb
         have n0_ := Aside0.mk (blk_below (g := gb233) (o := .cells #[.string a0_0, .string a0_1, .int .i64 a0_2] 36 (0, 0)) (bk_ BK233) hb)
         have n1_ := Aside0.mk (blk_below (g := gb234) (o := .cells #[.string a1_0, .string a1_1] 23 (0, 0)) (bk_ BK234) hb)
         have n2_ := Aside0.mk (below_step bg_ hb)
         have n3_ := Aside0.mk (hbox)
         have n4_ := Aside0.mk ((by rw [hg]; exact (below_size bg_) : w.heap.size ≤ gb246))
         have n5_ := Aside0.mk ((by rw [hg]; exact (below_size bg_) : w.heap.size ≤ gb246))
         have n6_ := Aside0.mk ((by rw [hg]; exact Nat.ne_of_lt (blk_lt (g := gb233) (o := .cells #[.string a0_0, .string a0_1, .int .i64 a0_2] 36 (0, 0)) (bk_ BK233)) : gb233 ≠ gb246))
         have n7_ := Aside0.mk ((by rw [hg]; exact Nat.ne_of_gt (blk_lt (g := gb233) (o := .cells #[.string a0_0, .string a0_1, .int .i64 a0_2] 36 (0, 0)) (bk_ BK233)) : gb246 ≠ gb233))
         have n8_ := Aside0.mk ((by rw [hg]; exact Nat.ne_of_lt (blk_lt (g := gb234) (o := .cells #[.string a1_0, .string a1_1] 23 (0, 0)) (bk_ BK234)) : gb234 ≠ gb246))
         have n9_ := Aside0.mk ((by rw [hg]; exact Nat.ne_of_gt (blk_lt (g := gb234) (o := .cells #[.string a1_0, .string a1_1] 23 (0, 0)) (bk_ BK234)) : gb246 ≠ gb234))
         clear BK233
         clear BK234
         clear HB
         have BK233 := n0_
         have BK234 := n1_
         have HB := n2_
         have BK246 := n3_
         have GW246 := n4_
         have GE246 := n5_
         have NB233_246 := n6_
         have NB246_233 := n7_
         have NB234_246 := n8_
         have NB246_234 := n9_
         clear n0_ n1_ n2_ n3_ n4_ n5_ n6_ n7_ n8_ n9_
         clear hb hbox hg
         refine hK.out _ _ ⟨(blk_cell BK233.out 0).trans rfl, (blk_cell BK233.out 1).trans rfl, (blk_cell BK233.out 2).trans rfl, (blk_cell BK234.out 0).trans rfl, (blk_cell BK234.out 1).trans rfl⟩ (fun hHeld => ?_)
         clear hK K
         refine norm_ (a' := ?_) ?_ ?_
         rotate_left
         ·show Act.put _ (some 6) _ = _
          simp only [Act.put, List.setIfInBounds_toArray, List.set_cons_zero, List.set_cons_succ, i64_w, i32_w]
          rfl
         refine one_ (i := 4) (N := some 25) (bm 11 287) rfl rfl (one_of HT_.out (by kernel_rfl)) (by decide) (fun K hK => ?_)
         refine goes_ Tryd.func27 (by kernel_rfl) rfl #[.agg #[.string t237, .string t238, .int .i64 t239], .agg #[.string t240, .string t241]] (by rfl) rfl rfl (by (try simp only [List.map_toArray, List.map_cons, List.map_nil]); first | done | rfl | (simp only [List.length_drop, List.length_take]; rfl)) ?_
         with_reducible refine (spec_AppendRecord.calls k t237 t238 t239 t240 t241 t242 t243 t244 t245 _ A21.out).mono ?_
         rintro e w39 ⟨rfl, hb⟩
         refine ⟨_, rfl, ?_⟩
         have n0_ := Aside0.mk (blk_below (g := gb233) (o := .cells #[.string a0_0, .string a0_1, .int .i64 a0_2] 36 (0, 0)) (bk_ BK233) hb)
         have n1_ := Aside0.mk (blk_below (g := gb234) (o := .cells #[.string a1_0, .string a1_1] 23 (0, 0)) (bk_ BK234) hb)
         have n2_ := Aside0.mk (blk_below (g := gb246) (o := .cells #[.string (⟨#[]⟩ : ByteArray), .string (⟨#[]⟩ : ByteArray), .int .i64 0] 31 (0, 0)) (bk_ BK246) hb)
         have n3_ := Aside0.mk (below_step bg_ hb)
         clear BK233
         clear BK234
         clear BK246
         clear HB
         have BK233 := n0_
         have BK234 := n1_
         have BK246 := n2_
         have HB := n3_
         clear n0_ n1_ n2_ n3_
         (try clear hb)
         (try clear hb2)
         (try clear hk)
         (try clear hi)
         refine hK.out _ _ ⟨(blk_cell BK233.out 0).trans rfl, (blk_cell BK233.out 1).trans rfl, (blk_cell BK233.out 2).trans rfl, (blk_cell BK234.out 0).trans rfl, (blk_cell BK234.out 1).trans rfl⟩ (fun hHeld => ?_)
         clear hK K
         refine norm_ (a' := ?_) ?_ ?_
         rotate_left
         ·show Act.put _ (some 25) _ = _
          simp only [Act.put, List.setIfInBounds_toArray, List.set_cons_zero, List.set_cons_succ, i64_w, i32_w]
          rfl
         refine pa_ 5 (some 20) (bm 11 319) rfl rfl HT_.out ?_
         refine pa_ 6 (some 26) (bm 11 383) rfl rfl HT_.out ?_
         refine pa_ 7 (some 27) (bm 11 511) rfl rfl HT_.out ?_
         exact norm_ (by simp only [putAll, Act.put, List.setIfInBounds_toArray, List.set_cons_zero, List.set_cons_succ]) (hCont (gb246) _ ⟨hHeld, (bk_ BK233), (bk_ BK234), (bk_ BK246), GW246.out, GE246.out, NB233_246.out, NB246_233.out, NB234_246.out, NB246_234.out, bg_⟩)
       ·skip
        refine box_step ?hg (N := 6) ?hd (cs := #[.string (⟨#[]⟩ : ByteArray), .string (⟨#[]⟩ : ByteArray), .int .i64 0]) (t := 31) ?hr ?_; (case hd => rfl); (case hg => rfl); (case hr => first | (go_simp; done) | (go_simp; rfl))
        intro gb246 hg w37 hbox hb
        have n0_ := Aside0.mk (blk_below (g := gb233) (o := .cells #[.string a0_0, .string a0_1, .int .i64 a0_2] 36 (0, 0)) (bk_ BK233) hb)
        have n1_ := Aside0.mk (blk_below (g := gb234) (o := .cells #[.string a1_0, .string a1_1] 23 (0, 0)) (bk_ BK234) hb)
        have n2_ := Aside0.mk (below_step bg_ hb)
        have n3_ := Aside0.mk (hbox)
        have n4_ := Aside0.mk ((by rw [hg]; exact (below_size bg_) : w.heap.size ≤ gb246))
        have n5_ := Aside0.mk ((by rw [hg]; exact (below_size bg_) : w.heap.size ≤ gb246))
        have n6_ := Aside0.mk ((by rw [hg]; exact Nat.ne_of_lt (blk_lt (g := gb233) (o := .cells #[.string a0_0, .string a0_1, .int .i64 a0_2] 36 (0, 0)) (bk_ BK233)) : gb233 ≠ gb246))
        have n7_ := Aside0.mk ((by rw [hg]; exact Nat.ne_of_gt (blk_lt (g := gb233) (o := .cells #[.string a0_0, .string a0_1, .int .i64 a0_2] 36 (0, 0)) (bk_ BK233)) : gb246 ≠ gb233))
        have n8_ := Aside0.mk ((by rw [hg]; exact Nat.ne_of_lt (blk_lt (g := gb234) (o := .cells #[.string a1_0, .string a1_1] 23 (0, 0)) (bk_ BK234)) : gb234 ≠ gb246))
        have n9_ := Aside0.mk ((by rw [hg]; exact Nat.ne_of_gt (blk_lt (g := gb234) (o := .cells #[.string a1_0, .string a1_1] 23 (0, 0)) (bk_ BK234)) : gb246 ≠ gb234))
        clear BK233
        clear BK234
        clear HB
        have BK233 := n0_
        have BK234 := n1_
        have HB := n2_
        have BK246 := n3_
        have GW246 := n4_
        have GE246 := n5_
        have NB233_246 := n6_
        have NB246_233 := n7_
        have NB234_246 := n8_
        have NB246_234 := n9_
        clear n0_ n1_ n2_ n3_ n4_ n5_ n6_ n7_ n8_ n9_
        clear hb hbox hg
        refine hK.out _ _ ⟨(blk_cell BK233.out 0).trans rfl, (blk_cell BK233.out 1).trans rfl, (blk_cell BK233.out 2).trans rfl, (blk_cell BK234.out 0).trans rfl, (blk_cell BK234.out 1).trans rfl⟩ (fun hHeld => ?_)
        clear hK K
        refine norm_ (a' := ?_) ?_ ?_
        rotate_left
        ·show Act.put _ (some 6) _ = _
         simp only [Act.put, List.setIfInBounds_toArray, List.set_cons_zero, List.set_cons_succ, i64_w, i32_w]
         rfl
        refine one_ (i := 3) (N := some 24) (bm 11 271) rfl rfl (one_of HT_.out (by kernel_rfl)) (by decide) (fun K hK => ?_)
        refine goes_ Tryd.func14 (by kernel_rfl) rfl #[.agg #[.string a1_0, .string a1_1]] (by rfl) rfl rfl (by (try simp only [List.map_toArray, List.map_cons, List.map_nil]); first | done | rfl | (simp only [List.length_drop, List.length_take]; rfl)) ?_
        with_reducible refine (laws_toLogRecord.calls a1_0 a1_1 t240 t241 _ A20.out).mono ?_
        rintro e w38 ⟨rfl, hb⟩
        refine ⟨_, rfl, ?_⟩
        have n0_ := Aside0.mk (blk_below (g := gb233) (o := .cells #[.string a0_0, .string a0_1, .int .i64 a0_2] 36 (0, 0)) (bk_ BK233) hb)
        have n1_ := Aside0.mk (blk_below (g := gb234) (o := .cells #[.string a1_0, .string a1_1] 23 (0, 0)) (bk_ BK234) hb)
        have n2_ := Aside0.mk (blk_below (g := gb246) (o := .cells #[.string (⟨#[]⟩ : ByteArray), .string (⟨#[]⟩ : ByteArray), .int .i64 0] 31 (0, 0)) (bk_ BK246) hb)
        have n3_ := Aside0.mk (below_step bg_ hb)
        clear BK233
        clear BK234
        clear BK246
        clear HB
        have BK233 := n0_
        have BK234 := n1_
        have BK246 := n2_
        have HB := n3_
        clear n0_ n1_ n2_ n3_
        (try clear hb)
        (try clear hb2)
        (try clear hk)
        (try clear hi)
        refine hK.out _ _ ⟨(blk_cell BK233.out 0).trans rfl, (blk_cell BK233.out 1).trans rfl, (blk_cell BK233.out 2).trans rfl, (blk_cell BK234.out 0).trans rfl, (blk_cell BK234.out 1).trans rfl⟩ (fun hHeld => ?_)
        clear hK K
        refine norm_ (a' := ?_) ?_ ?_
        rotate_left
        ·show Act.put _ (some 24) _ = _
         simp only [Act.put, List.setIfInBounds_toArray, List.set_cons_zero, List.set_cons_succ, i64_w, i32_w]
         rfl
        refine one_ (i := 4) (N := some 25) (bm 11 287) rfl rfl (one_of HT_.out (by kernel_rfl)) (by decide) (fun K hK => ?_)
        refine goes_ Tryd.func27 (by kernel_rfl) rfl #[.agg #[.string t237, .string t238, .int .i64 t239], .agg #[.string t240, .string t241]] (by rfl) rfl rfl (by (try simp only [List.map_toArray, List.map_cons, List.map_nil]); first | done | rfl | (simp only [List.length_drop, List.length_take]; rfl)) ?_
        with_reducible refine (spec_AppendRecord.calls k t237 t238 t239 t240 t241 t242 t243 t244 t245 _ A21.out).mono ?_
        rintro e w39 ⟨rfl, hb⟩
        refine ⟨_, rfl, ?_⟩
        have n0_ := Aside0.mk (blk_below (g := gb233) (o := .cells #[.string a0_0, .string a0_1, .int .i64 a0_2] 36 (0, 0)) (bk_ BK233) hb)
        have n1_ := Aside0.mk (blk_below (g := gb234) (o := .cells #[.string a1_0, .string a1_1] 23 (0, 0)) (bk_ BK234) hb)
        have n2_ := Aside0.mk (blk_below (g := gb246) (o := .cells #[.string (⟨#[]⟩ : ByteArray), .string (⟨#[]⟩ : ByteArray), .int .i64 0] 31 (0, 0)) (bk_ BK246) hb)
        have n3_ := Aside0.mk (below_step bg_ hb)
        clear BK233
        clear BK234
        clear BK246
        clear HB
        have BK233 := n0_
        have BK234 := n1_
        have BK246 := n2_
        have HB := n3_
        clear n0_ n1_ n2_ n3_
        (try clear hb)
        (try clear hb2)
        (try clear hk)
        (try clear hi)
        refine hK.out _ _ ⟨(blk_cell BK233.out 0).trans rfl, (blk_cell BK233.out 1).trans rfl, (blk_cell BK233.out 2).trans rfl, (blk_cell BK234.out 0).trans rfl, (blk_cell BK234.out 1).trans rfl⟩ (fun hHeld => ?_)
        clear hK K
        refine norm_ (a' := ?_) ?_ ?_
        rotate_left
        ·show Act.put _ (some 25) _ = _
         simp only [Act.put, List.setIfInBounds_toArray, List.set_cons_zero, List.set_cons_succ, i64_w, i32_w]
         rfl
        refine pa_ 5 (some 20) (bm 11 319) rfl rfl HT_.out ?_
        refine pa_ 6 (some 26) (bm 11 383) rfl rfl HT_.out ?_
        refine pa_ 7 (some 27) (bm 11 511) rfl rfl HT_.out ?_
        exact norm_ (by simp only [putAll, Act.put, List.setIfInBounds_toArray, List.set_cons_zero, List.set_cons_succ]) (hCont (gb246) _ ⟨hHeld, (bk_ BK233), (bk_ BK234), (bk_ BK246), GW246.out, GE246.out, NB233_246.out, NB246_233.out, NB234_246.out, NB246_234.out, bg_⟩)
      ·skip
       refine box_step ?hg (N := 6) ?hd (cs := #[.string (⟨#[]⟩ : ByteArray), .string (⟨#[]⟩ : ByteArray), .int .i64 0]) (t := 31) ?hr ?_; (case hd => rfl); (case hg => rfl); (case hr => first | (go_simp; done) | (go_simp; rfl))
       intro gb246 hg w36 hbox hb
       have n0_ := Aside0.mk (blk_below (g := gb233) (o := .cells #[.string a0_0, .string a0_1, .int .i64 a0_2] 36 (0, 0)) (bk_ BK233) hb)
       have n1_ := Aside0.mk (blk_below (g := gb234) (o := .cells #[.string a1_0, .string a1_1] 23 (0, 0)) (bk_ BK234) hb)
       have n2_ := Aside0.mk (below_step bg_ hb)
       have n3_ := Aside0.mk (hbox)
       have n4_ := Aside0.mk ((by rw [hg]; exact (below_size bg_) : w.heap.size ≤ gb246))
       have n5_ := Aside0.mk ((by rw [hg]; exact (below_size bg_) : w.heap.size ≤ gb246))
       have n6_ := Aside0.mk ((by rw [hg]; exact Nat.ne_of_lt (blk_lt (g := gb233) (o := .cells #[.string a0_0, .string a0_1, .int .i64 a0_2] 36 (0, 0)) (bk_ BK233)) : gb233 ≠ gb246))
       have n7_ := Aside0.mk ((by rw [hg]; exact Nat.ne_of_gt (blk_lt (g := gb233) (o := .cells #[.string a0_0, .string a0_1, .int .i64 a0_2] 36 (0, 0)) (bk_ BK233)) : gb246 ≠ gb233))
       have n8_ := Aside0.mk ((by rw [hg]; exact Nat.ne_of_lt (blk_lt (g := gb234) (o := .cells #[.string a1_0, .string a1_1] 23 (0, 0)) (bk_ BK234)) : gb234 ≠ gb246))
       have n9_ := Aside0.mk ((by rw [hg]; exact Nat.ne_of_gt (blk_lt (g := gb234) (o := .cells #[.string a1_0, .string a1_1] 23 (0, 0)) (bk_ BK234)) : gb246 ≠ gb234))
       clear BK233
       clear BK234
       clear HB
       have BK233 := n0_
       have BK234 := n1_
       have HB := n2_
       have BK246 := n3_
       have GW246 := n4_
       have GE246 := n5_
       have NB233_246 := n6_
       have NB246_233 := n7_
       have NB234_246 := n8_
       have NB246_234 := n9_
       clear n0_ n1_ n2_ n3_ n4_ n5_ n6_ n7_ n8_ n9_
       clear hb hbox hg
       refine hK.out _ _ ⟨(blk_cell BK233.out 0).trans rfl, (blk_cell BK233.out 1).trans rfl, (blk_cell BK233.out 2).trans rfl, (blk_cell BK234.out 0).trans rfl, (blk_cell BK234.out 1).trans rfl⟩ (fun hHeld => ?_)
       clear hK K
       refine norm_ (a' := ?_) ?_ ?_
       rotate_left
       ·show Act.put _ (some 6) _ = _
        simp only [Act.put, List.setIfInBounds_toArray, List.set_cons_zero, List.set_cons_succ, i64_w, i32_w]
        rfl
       refine one_ (i := 1) (N := some 22) (bm 11 263) rfl rfl (one_of HT_.out (by kernel_rfl)) (by decide) (fun K hK => ?_)
       refine goes_ Tryd.func21 (by kernel_rfl) rfl #[.agg #[.string a0_0, .string a0_1, .int .i64 a0_2]] (by rfl) rfl rfl (by (try simp only [List.map_toArray, List.map_cons, List.map_nil]); first | done | rfl | (simp only [List.length_drop, List.length_take]; rfl)) ?_
       with_reducible refine (laws_toLog.calls a0_0 a0_1 a0_2 t237 t238 t239 _ A19.out).mono ?_
       rintro e w37 ⟨rfl, hb⟩
       refine ⟨_, rfl, ?_⟩
       have n0_ := Aside0.mk (blk_below (g := gb233) (o := .cells #[.string a0_0, .string a0_1, .int .i64 a0_2] 36 (0, 0)) (bk_ BK233) hb)
       have n1_ := Aside0.mk (blk_below (g := gb234) (o := .cells #[.string a1_0, .string a1_1] 23 (0, 0)) (bk_ BK234) hb)
       have n2_ := Aside0.mk (blk_below (g := gb246) (o := .cells #[.string (⟨#[]⟩ : ByteArray), .string (⟨#[]⟩ : ByteArray), .int .i64 0] 31 (0, 0)) (bk_ BK246) hb)
       have n3_ := Aside0.mk (below_step bg_ hb)
       clear BK233
       clear BK234
       clear BK246
       clear HB
       have BK233 := n0_
       have BK234 := n1_
       have BK246 := n2_
       have HB := n3_
       clear n0_ n1_ n2_ n3_
       (try clear hb)
       (try clear hb2)
       (try clear hk)
       (try clear hi)
       refine hK.out _ _ ⟨(blk_cell BK233.out 0).trans rfl, (blk_cell BK233.out 1).trans rfl, (blk_cell BK233.out 2).trans rfl, (blk_cell BK234.out 0).trans rfl, (blk_cell BK234.out 1).trans rfl⟩ (fun hHeld => ?_)
       clear hK K
       refine norm_ (a' := ?_) ?_ ?_
       rotate_left
       ·show Act.put _ (some 22) _ = _
        simp only [Act.put, List.setIfInBounds_toArray, List.set_cons_zero, List.set_cons_succ, i64_w, i32_w]
        rfl
       refine one_ (i := 3) (N := some 24) (bm 11 271) rfl rfl (one_of HT_.out (by kernel_rfl)) (by decide) (fun K hK => ?_)
       refine goes_ Tryd.func14 (by kernel_rfl) rfl #[.agg #[.string a1_0, .string a1_1]] (by rfl) rfl rfl (by (try simp only [List.map_toArray, List.map_cons, List.map_nil]); first | done | rfl | (simp only [List.length_drop, List.length_take]; rfl)) ?_
       with_reducible refine (laws_toLogRecord.calls a1_0 a1_1 t240 t241 _ A20.out).mono ?_
       rintro e w38 ⟨rfl, hb⟩
       refine ⟨_, rfl, ?_⟩
       have n0_ := Aside0.mk (blk_below (g := gb233) (o := .cells #[.string a0_0, .string a0_1, .int .i64 a0_2] 36 (0, 0)) (bk_ BK233) hb)
       have n1_ := Aside0.mk (blk_below (g := gb234) (o := .cells #[.string a1_0, .string a1_1] 23 (0, 0)) (bk_ BK234) hb)
       have n2_ := Aside0.mk (blk_below (g := gb246) (o := .cells #[.string (⟨#[]⟩ : ByteArray), .string (⟨#[]⟩ : ByteArray), .int .i64 0] 31 (0, 0)) (bk_ BK246) hb)
       have n3_ := Aside0.mk (below_step bg_ hb)
       clear BK233
       clear BK234
       clear BK246
       clear HB
       have BK233 := n0_
       have BK234 := n1_
       have BK246 := n2_
       have HB := n3_
       clear n0_ n1_ n2_ n3_
       (try clear hb)
       (try clear hb2)
       (try clear hk)
       (try clear hi)
       refine hK.out _ _ ⟨(blk_cell BK233.out 0).trans rfl, (blk_cell BK233.out 1).trans rfl, (blk_cell BK233.out 2).trans rfl, (blk_cell BK234.out 0).trans rfl, (blk_cell BK234.out 1).trans rfl⟩ (fun hHeld => ?_)
       clear hK K
       refine norm_ (a' := ?_) ?_ ?_
       rotate_left
       ·show Act.put _ (some 24) _ = _
        simp only [Act.put, List.setIfInBounds_toArray, List.set_cons_zero, List.set_cons_succ, i64_w, i32_w]
        rfl
       refine one_ (i := 4) (N := some 25) (bm 11 287) rfl rfl (one_of HT_.out (by kernel_rfl)) (by decide) (fun K hK => ?_)
       refine goes_ Tryd.func27 (by kernel_rfl) rfl #[.agg #[.string t237, .string t238, .int .i64 t239], .agg #[.string t240, .string t241]] (by rfl) rfl rfl (by (try simp only [List.map_toArray, List.map_cons, List.map_nil]); first | done | rfl | (simp only [List.length_drop, List.length_take]; rfl)) ?_
       with_reducible refine (spec_AppendRecord.calls k t237 t238 t239 t240 t241 t242 t243 t244 t245 _ A21.out).mono ?_
       rintro e w39 ⟨rfl, hb⟩
       refine ⟨_, rfl, ?_⟩
       have n0_ := Aside0.mk (blk_below (g := gb233) (o := .cells #[.string a0_0, .string a0_1, .int .i64 a0_2] 36 (0, 0)) (bk_ BK233) hb)
       have n1_ := Aside0.mk (blk_below (g := gb234) (o := .cells #[.string a1_0, .string a1_1] 23 (0, 0)) (bk_ BK234) hb)
       have n2_ := Aside0.mk (blk_below (g := gb246) (o := .cells #[.string (⟨#[]⟩ : ByteArray), .string (⟨#[]⟩ : ByteArray), .int .i64 0] 31 (0, 0)) (bk_ BK246) hb)
       have n3_ := Aside0.mk (below_step bg_ hb)
       clear BK233
       clear BK234
       clear BK246
       clear HB
       have BK233 := n0_
       have BK234 := n1_
       have BK246 := n2_
       have HB := n3_
       clear n0_ n1_ n2_ n3_
       (try clear hb)
       (try clear hb2)
       (try clear hk)
       (try clear hi)
       refine hK.out _ _ ⟨(blk_cell BK233.out 0).trans rfl, (blk_cell BK233.out 1).trans rfl, (blk_cell BK233.out 2).trans rfl, (blk_cell BK234.out 0).trans rfl, (blk_cell BK234.out 1).trans rfl⟩ (fun hHeld => ?_)
       clear hK K
       refine norm_ (a' := ?_) ?_ ?_
       rotate_left
       ·show Act.put _ (some 25) _ = _
        simp only [Act.put, List.setIfInBounds_toArray, List.set_cons_zero, List.set_cons_succ, i64_w, i32_w]
        rfl
       refine pa_ 5 (some 20) (bm 11 319) rfl rfl HT_.out ?_
       refine pa_ 6 (some 26) (bm 11 383) rfl rfl HT_.out ?_
       refine pa_ 7 (some 27) (bm 11 511) rfl rfl HT_.out ?_
       exact norm_ (by simp only [putAll, Act.put, List.setIfInBounds_toArray, List.set_cons_zero, List.set_cons_succ]) (hCont (gb246) _ ⟨hHeld, (bk_ BK233), (bk_ BK234), (bk_ BK246), GW246.out, GE246.out, NB233_246.out, NB246_233.out, NB234_246.out, NB246_234.out, bg_⟩)
     rintro gb246 w40 ⟨hS_, h0_, h1_, h2_, h3_, h4_, h5_, h6_, h7_, h8_, h9_⟩
     have n0_ : Aside0 (w40.heap[gb233]? = some (.cells #[.string a0_0, .string a0_1, .int .i64 a0_2] 36 (0, 0))) := ⟨h0_⟩
     have n1_ : Aside0 (w40.heap[gb234]? = some (.cells #[.string a1_0, .string a1_1] 23 (0, 0))) := ⟨h1_⟩
     have n2_ : Aside0 (w40.heap[gb246]? = some (.cells #[.string (⟨#[]⟩ : ByteArray), .string (⟨#[]⟩ : ByteArray), .int .i64 0] 31 (0, 0))) := ⟨h2_⟩
     have n3_ : Aside0 (w.heap.size ≤ gb246) := ⟨h3_⟩
     have n4_ : Aside0 (w.heap.size ≤ gb246) := ⟨h4_⟩
     have n5_ : Aside0 (gb233 ≠ gb246) := ⟨h5_⟩
     have n6_ : Aside0 (gb246 ≠ gb233) := ⟨h6_⟩
     have n7_ : Aside0 (gb234 ≠ gb246) := ⟨h7_⟩
     have n8_ : Aside0 (gb246 ≠ gb234) := ⟨h8_⟩
     have n9_ : Aside0 (Below w.heap.size w w40) := ⟨h9_⟩
     clear BK233
     clear BK234
     clear HB
     clear h0_ h1_ h2_ h3_ h4_ h5_ h6_ h7_ h8_ h9_
     have BK233 := n0_
     have BK234 := n1_
     have BK246 := n2_
     have GW246 := n3_
     have GE246 := n4_
     have NB233_246 := n5_
     have NB246_233 := n6_
     have NB234_246 := n7_
     have NB246_234 := n8_
     have HB := n9_
     clear n0_ n1_ n2_ n3_ n4_ n5_ n6_ n7_ n8_ n9_
     have hHeld : w40.cell? ⟨gb233, 0, none⟩ = some (.string a0_0) ∧ w40.cell? ⟨gb233, 1, none⟩ = some (.string a0_1) ∧ w40.cell? ⟨gb233, 2, none⟩ = some (.int .i64 a0_2) ∧ w40.cell? ⟨gb234, 0, none⟩ = some (.string a1_0) ∧ w40.cell? ⟨gb234, 1, none⟩ = some (.string a1_1) := hS_
     refine norm_ (a' := ?_) ?_ ?_
     rotate_left
     ·simp only [putAll, Act.put, List.setIfInBounds_toArray, List.set_cons_zero, List.set_cons_succ]
      rfl
     refine one_ (i := 9) (N := none) (bm 11 1023) rfl rfl (one_of HT_.out (by kernel_rfl)) (by decide) (fun K hK => ?_)
     have hs41 : w40.cell? ⟨gb246, 0, none⟩ = some (.string (⟨#[]⟩ : ByteArray)) := (blk_cell BK246.out 0).trans rfl
     have hfs41 := blk_frozen BK246.out 0
     have hns41_0 := NB233_246.out
     have hns41_1 := NB234_246.out
     have hms41_0 := NB246_233.out
     have hms41_1 := NB246_234.out
     have hs42 : w40.cell? ⟨gb246, 1, none⟩ = some (.string (⟨#[]⟩ : ByteArray)) := (blk_cell BK246.out 1).trans rfl
     have hfs42 := blk_frozen BK246.out 1
     have hns42_0 := NB233_246.out
     have hns42_1 := NB234_246.out
     have hms42_0 := NB246_233.out
     have hms42_1 := NB246_234.out
     have hs43 : w40.cell? ⟨gb246, 2, none⟩ = some (.int .i64 0) := (blk_cell BK246.out 2).trans rfl
     have hfs43 := blk_frozen BK246.out 2
     have hns43_0 := NB233_246.out
     have hns43_1 := NB234_246.out
     have hms43_0 := NB246_233.out
     have hms43_1 := NB246_234.out
     refine skip_ (w1 := ?_) (by rfl) rfl ?_ ?_
     rotate_left
     ·go_simp
      rfl
     refine hK.out _ _ ⟨((cell_far (p := ⟨gb246, _, none⟩) NB233_246.out _).trans (((cell_far (p := ⟨gb246, _, none⟩) NB233_246.out _).trans (((cell_far (p := ⟨gb246, _, none⟩) NB233_246.out _).trans (hHeld.1)))))), ((cell_far (p := ⟨gb246, _, none⟩) NB233_246.out _).trans (((cell_far (p := ⟨gb246, _, none⟩) NB233_246.out _).trans (((cell_far (p := ⟨gb246, _, none⟩) NB233_246.out _).trans (hHeld.2.1)))))), ((cell_far (p := ⟨gb246, _, none⟩) NB233_246.out _).trans (((cell_far (p := ⟨gb246, _, none⟩) NB233_246.out _).trans (((cell_far (p := ⟨gb246, _, none⟩) NB233_246.out _).trans (hHeld.2.2.1)))))), ((cell_far (p := ⟨gb246, _, none⟩) NB234_246.out _).trans (((cell_far (p := ⟨gb246, _, none⟩) NB234_246.out _).trans (((cell_far (p := ⟨gb246, _, none⟩) NB234_246.out _).trans (hHeld.2.2.2.1)))))), ((cell_far (p := ⟨gb246, _, none⟩) NB234_246.out _).trans (((cell_far (p := ⟨gb246, _, none⟩) NB234_246.out _).trans (((cell_far (p := ⟨gb246, _, none⟩) NB234_246.out _).trans (hHeld.2.2.2.2))))))⟩ (fun hHeld => ?_)
     clear hK K
     refine pa_ 10 (some 7) (bm 11 2047) rfl rfl HT_.out ?_
     refine done_ (done_of HT_.out (by kernel_rfl)) ?_
     try go_wp2
     have n0_ : Aside0 ((((w40.setCell ⟨gb246, 0, none⟩ (.string t242)).setCell ⟨gb246, 1, none⟩ (.string t243)).setCell ⟨gb246, 2, none⟩ (.int .i64 t244)).heap[gb233]? = some (.cells #[.string a0_0, .string a0_1, .int .i64 a0_2] 36 (0, 0))) := ⟨by (with_reducible repeat (first | refine blk_drewN ?_ _ | refine blk_drew ?_ | refine blk_alloc ?_ _)); refine blk_far ?_ NB233_246.out _; (with_reducible repeat (first | refine blk_drewN ?_ _ | refine blk_drew ?_ | refine blk_alloc ?_ _)); refine blk_far ?_ NB233_246.out _; (with_reducible repeat (first | refine blk_drewN ?_ _ | refine blk_drew ?_ | refine blk_alloc ?_ _)); refine blk_far ?_ NB233_246.out _; (with_reducible repeat (first | refine blk_drewN ?_ _ | refine blk_drew ?_ | refine blk_alloc ?_ _)); exact BK233.out⟩
     have n1_ : Aside0 ((((w40.setCell ⟨gb246, 0, none⟩ (.string t242)).setCell ⟨gb246, 1, none⟩ (.string t243)).setCell ⟨gb246, 2, none⟩ (.int .i64 t244)).heap[gb234]? = some (.cells #[.string a1_0, .string a1_1] 23 (0, 0))) := ⟨by (with_reducible repeat (first | refine blk_drewN ?_ _ | refine blk_drew ?_ | refine blk_alloc ?_ _)); refine blk_far ?_ NB234_246.out _; (with_reducible repeat (first | refine blk_drewN ?_ _ | refine blk_drew ?_ | refine blk_alloc ?_ _)); refine blk_far ?_ NB234_246.out _; (with_reducible repeat (first | refine blk_drewN ?_ _ | refine blk_drew ?_ | refine blk_alloc ?_ _)); refine blk_far ?_ NB234_246.out _; (with_reducible repeat (first | refine blk_drewN ?_ _ | refine blk_drew ?_ | refine blk_alloc ?_ _)); exact BK234.out⟩
     have n2_ : Aside0 ((((w40.setCell ⟨gb246, 0, none⟩ (.string t242)).setCell ⟨gb246, 1, none⟩ (.string t243)).setCell ⟨gb246, 2, none⟩ (.int .i64 t244)).heap[gb246]? = some (.cells #[.string t242, .string t243, .int .i64 t244] 31 (0, 0))) := ⟨by (with_reducible repeat (first | refine blk_drewN ?_ _ | refine blk_drew ?_ | refine blk_alloc ?_ _)); refine blk_put (cs := #[.string t242, .string t243, .int .i64 0]) ?_ 2 _ rfl; (with_reducible repeat (first | refine blk_drewN ?_ _ | refine blk_drew ?_ | refine blk_alloc ?_ _)); refine blk_put (cs := #[.string t242, .string (⟨#[]⟩ : ByteArray), .int .i64 0]) ?_ 1 _ rfl; (with_reducible repeat (first | refine blk_drewN ?_ _ | refine blk_drew ?_ | refine blk_alloc ?_ _)); refine blk_put (cs := #[.string (⟨#[]⟩ : ByteArray), .string (⟨#[]⟩ : ByteArray), .int .i64 0]) ?_ 0 _ rfl; (with_reducible repeat (first | refine blk_drewN ?_ _ | refine blk_drew ?_ | refine blk_alloc ?_ _)); exact BK246.out⟩
     have n3_ : Aside0 (Below w.heap.size w (((w40.setCell ⟨gb246, 0, none⟩ (.string t242)).setCell ⟨gb246, 1, none⟩ (.string t243)).setCell ⟨gb246, 2, none⟩ (.int .i64 t244))) := ⟨by repeat (first | (with_reducible first | exact HB.out | apply below_alloc | apply pw_below_drewN | apply below_drew1 | refine below_set ?_ GE233.out | refine below_set ?_ GE234.out | refine below_set ?_ GE246.out) | exact HB.out)⟩
     (try clear BK233)
     (try clear BK234)
     (try clear BK246)
     (try clear HB)
     generalize (((w40.setCell ⟨gb246, 0, none⟩ (.string t242)).setCell ⟨gb246, 1, none⟩ (.string t243)).setCell ⟨gb246, 2, none⟩ (.int .i64 t244)) = w44 at n0_ n1_ n2_ n3_ ⊢
     have BK233 := n0_
     have BK234 := n1_
     have BK246 := n2_
     have HB := n3_
     clear n0_ n1_ n2_ n3_
     have n0_ := Aside0.mk (blk_drew BK233.out)
     have n1_ := Aside0.mk (blk_drew BK234.out)
     have n2_ := Aside0.mk (blk_drew BK246.out)
     have n3_ := Aside0.mk (below_drew1 HB.out)
     clear BK233
     clear BK234
     clear BK246
     clear HB
     have BK233 := n0_
     have BK234 := n1_
     have BK246 := n2_
     have HB := n3_
     clear n0_ n1_ n2_ n3_
     refine start_ (n := 11) (S := fun w' => w'.cell? ⟨gb233, 0, none⟩ = some (.string a0_0) ∧ w'.cell? ⟨gb233, 1, none⟩ = some (.string a0_1) ∧ w'.cell? ⟨gb233, 2, none⟩ = some (.int .i64 a0_2) ∧ w'.cell? ⟨gb234, 0, none⟩ = some (.string a1_0) ∧ w'.cell? ⟨gb234, 1, none⟩ = some (.string a1_1)) (ds := []) (bm 11 0) (by kernel_rfl) rfl rfl ⟨(blk_cell BK233.out 0).trans rfl, (blk_cell BK233.out 1).trans rfl, (blk_cell BK233.out 2).trans rfl, (blk_cell BK234.out 0).trans rfl, (blk_cell BK234.out 1).trans rfl⟩ (fun hHeld => ?_); refine with_tabW laws_FnExactAppendRecord.tab9 laws_FnExactAppendRecord.bits9 (fun HT_ HW_ => ?_)
     generalize w44.drew = w45 at BK233 BK234 BK246 HB hHeld ⊢
     refine take_ (i := 0) (N := some 29) (v := ?_) (a' := ?_) (bm 11 1) rfl rfl (take_ofW HT_.out HW_.out (by kernel_rfl)) (fun _ _ _ h => h) (Or.inl ⟨by rfl, ?_⟩) hHeld ?_ ?_
     rotate_left
     ·rintro w' ⟨s0, s1, s2, s3, s4⟩
      go_simp
      with_reducible rfl
     rotate_left
     ·simp only [Act.put, List.setIfInBounds_toArray, List.set_cons_zero, List.set_cons_succ, i64_w, i32_w]
      rfl
     refine take_ (i := 2) (N := some 31) (v := ?_) (a' := ?_) (bm 11 5) rfl rfl (take_ofW HT_.out HW_.out (by kernel_rfl)) (fun _ _ _ h => h) (Or.inl ⟨by rfl, ?_⟩) hHeld ?_ ?_
     rotate_left
     ·rintro w' ⟨s0, s1, s2, s3, s4⟩
      go_simp
      with_reducible rfl
     rotate_left
     ·simp only [Act.put, List.setIfInBounds_toArray, List.set_cons_zero, List.set_cons_succ, i64_w, i32_w]
      rfl
     refine join_ (σ := Nat) 2 (bm 11 511) (fun s_ => [(30, .agg #[.string t247, .string t248, .int .i64 t249]), (32, .agg #[.string t250, .string t251]), (33, .tuple #[.agg #[.string t252, .string t253, .int .i64 t254], .int .i64 t255]), (8, .pointer (some ⟨s_, 0, none⟩)), (28, .tuple #[.agg #[.string t252, .string t253, .int .i64 t254], .int .i64 t255]), (34, .agg #[.string t252, .string t253, .int .i64 t254]), (35, .int .i64 t255)]) (fun s_ w' => (w'.cell? ⟨gb233, 0, none⟩ = some (.string a0_0) ∧ w'.cell? ⟨gb233, 1, none⟩ = some (.string a0_1) ∧ w'.cell? ⟨gb233, 2, none⟩ = some (.int .i64 a0_2) ∧ w'.cell? ⟨gb234, 0, none⟩ = some (.string a1_0) ∧ w'.cell? ⟨gb234, 1, none⟩ = some (.string a1_1)) ∧ (w'.heap[gb233]? = some (.cells #[.string a0_0, .string a0_1, .int .i64 a0_2] 36 (0, 0))) ∧ (w'.heap[gb234]? = some (.cells #[.string a1_0, .string a1_1] 23 (0, 0))) ∧ (w'.heap[gb246]? = some (.cells #[.string t242, .string t243, .int .i64 t244] 31 (0, 0))) ∧ (w'.heap[s_]? = some (.cells #[.string (⟨#[]⟩ : ByteArray), .string (⟨#[]⟩ : ByteArray), .int .i64 0] 31 (0, 0))) ∧ (w.heap.size ≤ s_) ∧ (w.heap.size ≤ s_) ∧ (gb233 ≠ s_) ∧ (s_ ≠ gb233) ∧ (gb234 ≠ s_) ∧ (s_ ≠ gb234) ∧ (gb246 ≠ s_) ∧ (s_ ≠ gb246) ∧ (Below w.heap.size w w')) ?_ ?_
     rotate_left
     ·intro hCont
      refine two_ (i := 1) (j := 8) (Ni := some 30) (Nj := some 8) (bm 11 7) (bm 11 261) rfl rfl rfl rfl (two_of HT_.out (by kernel_rfl)) (by decide) (by decide) (fun K hK => ?_) (fun K hK => ?_)
      ·skip
       refine goes_ Tryd.func21 (by kernel_rfl) rfl #[.agg #[.string a0_0, .string a0_1, .int .i64 a0_2]] (by rfl) rfl rfl (by (try simp only [List.map_toArray, List.map_cons, List.map_nil]); first | done | rfl | (simp only [List.length_drop, List.length_take]; rfl)) ?_
       with_reducible refine (laws_toLog.calls a0_0 a0_1 a0_2 t247 t248 t249 _ A22.out).mono ?_
       rintro e w46 ⟨rfl, hb⟩
       refine ⟨_, rfl, ?_⟩
       have n0_ := Aside0.mk (blk_below (g := gb233) (o := .cells #[.string a0_0, .string a0_1, .int .i64 a0_2] 36 (0, 0)) (bk_ BK233) hb)
       have n1_ := Aside0.mk (blk_below (g := gb234) (o := .cells #[.string a1_0, .string a1_1] 23 (0, 0)) (bk_ BK234) hb)
       have n2_ := Aside0.mk (blk_below (g := gb246) (o := .cells #[.string t242, .string t243, .int .i64 t244] 31 (0, 0)) (bk_ BK246) hb)
       have n3_ := Aside0.mk (below_step bg_ hb)
       clear BK233
       clear BK234
       clear BK246
       clear HB
       have BK233 := n0_
       have BK234 := n1_
       have BK246 := n2_
       have HB := n3_
       clear n0_ n1_ n2_ n3_
       (try clear hb)
       (try clear hb2)
       (try clear hk)
       (try clear hi)
       refine hK.out _ _ ⟨(blk_cell BK233.out 0).trans rfl, (blk_cell BK233.out 1).trans rfl, (blk_cell BK233.out 2).trans rfl, (blk_cell BK234.out 0).trans rfl, (blk_cell BK234.out 1).trans rfl⟩ (fun hHeld => ?_)
       clear hK K
       refine norm_ (a' := ?_) ?_ ?_
       rotate_left
       ·show Act.put _ (some 30) _ = _
        simp only [Act.put, List.setIfInBounds_toArray, List.set_cons_zero, List.set_cons_succ, i64_w, i32_w]
        rfl
       refine two_ (i := 3) (j := 8) (Ni := some 32) (Nj := some 8) (bm 11 15) (bm 11 263) rfl rfl rfl rfl (two_of HT_.out (by kernel_rfl)) (by decide) (by decide) (fun K hK => ?_) (fun K hK => ?_)
       ·skip
        refine goes_ Tryd.func14 (by kernel_rfl) rfl #[.agg #[.string a1_0, .string a1_1]] (by rfl) rfl rfl (by (try simp only [List.map_toArray, List.map_cons, List.map_nil]); first | done | rfl | (simp only [List.length_drop, List.length_take]; rfl)) ?_
        with_reducible refine (laws_toLogRecord.calls a1_0 a1_1 t250 t251 _ A23.out).mono ?_
        rintro e w47 ⟨rfl, hb⟩
        refine ⟨_, rfl, ?_⟩
        have n0_ := Aside0.mk (blk_below (g := gb233) (o := .cells #[.string a0_0, .string a0_1, .int .i64 a0_2] 36 (0, 0)) (bk_ BK233) hb)
        have n1_ := Aside0.mk (blk_below (g := gb234) (o := .cells #[.string a1_0, .string a1_1] 23 (0, 0)) (bk_ BK234) hb)
        have n2_ := Aside0.mk (blk_below (g := gb246) (o := .cells #[.string t242, .string t243, .int .i64 t244] 31 (0, 0)) (bk_ BK246) hb)
        have n3_ := Aside0.mk (below_step bg_ hb)
        clear BK233
        clear BK234
        clear BK246
        clear HB
        have BK233 := n0_
        have BK234 := n1_
        have BK246 := n2_
        have HB := n3_
        clear n0_ n1_ n2_ n3_
        (try clear hb)
        (try clear hb2)
        (try clear hk)
        (try clear hi)
        refine hK.out _ _ ⟨(blk_cell BK233.out 0).trans rfl, (blk_cell BK233.out 1).trans rfl, (blk_cell BK233.out 2).trans rfl, (blk_cell BK234.out 0).trans rfl, (blk_cell BK234.out 1).trans rfl⟩ (fun hHeld => ?_)
        clear hK K
        refine norm_ (a' := ?_) ?_ ?_
        rotate_left
        ·show Act.put _ (some 32) _ = _
         simp only [Act.put, List.setIfInBounds_toArray, List.set_cons_zero, List.set_cons_succ, i64_w, i32_w]
         rfl
        refine two_ (i := 4) (j := 8) (Ni := some 33) (Nj := some 8) (bm 11 31) (bm 11 271) rfl rfl rfl rfl (two_of HT_.out (by kernel_rfl)) (by decide) (by decide) (fun K hK => ?_) (fun K hK => ?_)
        ·skip
         refine goes_ Tryd.func28 (by kernel_rfl) rfl #[.agg #[.string t247, .string t248, .int .i64 t249], .agg #[.string t250, .string t251]] (by rfl) rfl rfl (by (try simp only [List.map_toArray, List.map_cons, List.map_nil]); first | done | rfl | (simp only [List.length_drop, List.length_take]; rfl)) ?_
         with_reducible refine (impl_AppendRecord.calls k t247 t248 t249 t250 t251 t252 t253 t254 t255 _ ?side1 A24.out).mono ?_
         (case side1 => exact EnvW.below HENV.out bg_)
         rintro e w48 ⟨rfl, hb⟩
         refine ⟨_, rfl, ?_⟩
         have n0_ := Aside0.mk (blk_below (g := gb233) (o := .cells #[.string a0_0, .string a0_1, .int .i64 a0_2] 36 (0, 0)) (bk_ BK233) hb)
         have n1_ := Aside0.mk (blk_below (g := gb234) (o := .cells #[.string a1_0, .string a1_1] 23 (0, 0)) (bk_ BK234) hb)
         have n2_ := Aside0.mk (blk_below (g := gb246) (o := .cells #[.string t242, .string t243, .int .i64 t244] 31 (0, 0)) (bk_ BK246) hb)
         have n3_ := Aside0.mk (below_step bg_ hb)
         clear BK233
         clear BK234
         clear BK246
         clear HB
         have BK233 := n0_
         have BK234 := n1_
         have BK246 := n2_
         have HB := n3_
         clear n0_ n1_ n2_ n3_
         (try clear hb)
         (try clear hb2)
         (try clear hk)
         (try clear hi)
         refine hK.out _ _ ⟨(blk_cell BK233.out 0).trans rfl, (blk_cell BK233.out 1).trans rfl, (blk_cell BK233.out 2).trans rfl, (blk_cell BK234.out 0).trans rfl, (blk_cell BK234.out 1).trans rfl⟩ (fun hHeld => ?_)
         clear hK K
         refine norm_ (a' := ?_) ?_ ?_
         rotate_left
         ·show Act.put _ (some 33) _ = _
          simp only [Act.put, List.setIfInBounds_toArray, List.set_cons_zero, List.set_cons_succ, i64_w, i32_w]
          rfl
         refine pa_ 5 (some 28) (bm 11 63) rfl rfl HT_.out ?_
         refine pa_ 6 (some 34) (bm 11 127) rfl rfl HT_.out ?_
         refine pa_ 7 (some 35) (bm 11 255) rfl rfl HT_.out ?_
         refine one_ (i := 8) (N := some 8) (bm 11 511) rfl rfl (one_of HT_.out (by kernel_rfl)) (by decide) (fun K hK => ?_)
         refine box_step ?hg (N := 8) ?hd (cs := #[.string (⟨#[]⟩ : ByteArray), .string (⟨#[]⟩ : ByteArray), .int .i64 0]) (t := 31) ?hr ?_; (case hd => rfl); (case hg => rfl); (case hr => first | (go_simp; done) | (go_simp; rfl))
         intro gb256 hg w49 hbox hb
         have n0_ := Aside0.mk (blk_below (g := gb233) (o := .cells #[.string a0_0, .string a0_1, .int .i64 a0_2] 36 (0, 0)) (bk_ BK233) hb)
         have n1_ := Aside0.mk (blk_below (g := gb234) (o := .cells #[.string a1_0, .string a1_1] 23 (0, 0)) (bk_ BK234) hb)
         have n2_ := Aside0.mk (blk_below (g := gb246) (o := .cells #[.string t242, .string t243, .int .i64 t244] 31 (0, 0)) (bk_ BK246) hb)
         have n3_ := Aside0.mk (below_step bg_ hb)
         have n4_ := Aside0.mk (hbox)
         have n5_ := Aside0.mk ((by rw [hg]; exact (below_size bg_) : w.heap.size ≤ gb256))
         have n6_ := Aside0.mk ((by rw [hg]; exact (below_size bg_) : w.heap.size ≤ gb256))
         have n7_ := Aside0.mk ((by rw [hg]; exact Nat.ne_of_lt (blk_lt (g := gb233) (o := .cells #[.string a0_0, .string a0_1, .int .i64 a0_2] 36 (0, 0)) (bk_ BK233)) : gb233 ≠ gb256))
         have n8_ := Aside0.mk ((by rw [hg]; exact Nat.ne_of_gt (blk_lt (g := gb233) (o := .cells #[.string a0_0, .string a0_1, .int .i64 a0_2] 36 (0, 0)) (bk_ BK233)) : gb256 ≠ gb233))
         have n9_ := Aside0.mk ((by rw [hg]; exact Nat.ne_of_lt (blk_lt (g := gb234) (o := .cells #[.string a1_0, .string a1_1] 23 (0, 0)) (bk_ BK234)) : gb234 ≠ gb256))
         have n10_ := Aside0.mk ((by rw [hg]; exact Nat.ne_of_gt (blk_lt (g := gb234) (o := .cells #[.string a1_0, .string a1_1] 23 (0, 0)) (bk_ BK234)) : gb256 ≠ gb234))
         have n11_ := Aside0.mk ((by rw [hg]; exact Nat.ne_of_lt (blk_lt (g := gb246) (o := .cells #[.string t242, .string t243, .int .i64 t244] 31 (0, 0)) (bk_ BK246)) : gb246 ≠ gb256))
         have n12_ := Aside0.mk ((by rw [hg]; exact Nat.ne_of_gt (blk_lt (g := gb246) (o := .cells #[.string t242, .string t243, .int .i64 t244] 31 (0, 0)) (bk_ BK246)) : gb256 ≠ gb246))
         clear BK233
         clear BK234
         clear BK246
         clear HB
         have BK233 := n0_
         have BK234 := n1_
         have BK246 := n2_
         have HB := n3_
         have BK256 := n4_
         have GW256 := n5_
         have GE256 := n6_
         have NB233_256 := n7_
         have NB256_233 := n8_
         have NB234_256 := n9_
         have NB256_234 := n10_
         have NB246_256 := n11_
         have NB256_246 := n12_
         clear n0_ n1_ n2_ n3_ n4_ n5_ n6_ n7_ n8_ n9_ n10_ n11_ n12_
         clear hb hbox hg
         refine hK.out _ _ ⟨(blk_cell BK233.out 0).trans rfl, (blk_cell BK233.out 1).trans rfl, (blk_cell BK233.out 2).trans rfl, (blk_cell BK234.out 0).trans rfl, (blk_cell BK234.out 1).trans rfl⟩ (fun hHeld => ?_)
         clear hK K
         refine norm_ (a' := ?_) ?_ ?_
         rotate_left
         ·show Act.put _ (some 8) _ = _
          simp only [Act.put, List.setIfInBounds_toArray, List.set_cons_zero, List.set_cons_succ, i64_w, i32_w]
          rfl
         exact norm_ (by simp only [putAll, Act.put, List.setIfInBounds_toArray, List.set_cons_zero, List.set_cons_succ]) (hCont (gb256) _ ⟨hHeld, (bk_ BK233), (bk_ BK234), (bk_ BK246), (bk_ BK256), GW256.out, GE256.out, NB233_256.out, NB256_233.out, NB234_256.out, NB256_234.out, NB246_256.out, NB256_246.out, bg_⟩)
        ·skip
         refine box_step ?hg (N := 8) ?hd (cs := #[.string (⟨#[]⟩ : ByteArray), .string (⟨#[]⟩ : ByteArray), .int .i64 0]) (t := 31) ?hr ?_; (case hd => rfl); (case hg => rfl); (case hr => first | (go_simp; done) | (go_simp; rfl))
         intro gb256 hg w48 hbox hb
         have n0_ := Aside0.mk (blk_below (g := gb233) (o := .cells #[.string a0_0, .string a0_1, .int .i64 a0_2] 36 (0, 0)) (bk_ BK233) hb)
         have n1_ := Aside0.mk (blk_below (g := gb234) (o := .cells #[.string a1_0, .string a1_1] 23 (0, 0)) (bk_ BK234) hb)
         have n2_ := Aside0.mk (blk_below (g := gb246) (o := .cells #[.string t242, .string t243, .int .i64 t244] 31 (0, 0)) (bk_ BK246) hb)
         have n3_ := Aside0.mk (below_step bg_ hb)
         have n4_ := Aside0.mk (hbox)
         have n5_ := Aside0.mk ((by rw [hg]; exact (below_size bg_) : w.heap.size ≤ gb256))
         have n6_ := Aside0.mk ((by rw [hg]; exact (below_size bg_) : w.heap.size ≤ gb256))
         have n7_ := Aside0.mk ((by rw [hg]; exact Nat.ne_of_lt (blk_lt (g := gb233) (o := .cells #[.string a0_0, .string a0_1, .int .i64 a0_2] 36 (0, 0)) (bk_ BK233)) : gb233 ≠ gb256))
         have n8_ := Aside0.mk ((by rw [hg]; exact Nat.ne_of_gt (blk_lt (g := gb233) (o := .cells #[.string a0_0, .string a0_1, .int .i64 a0_2] 36 (0, 0)) (bk_ BK233)) : gb256 ≠ gb233))
         have n9_ := Aside0.mk ((by rw [hg]; exact Nat.ne_of_lt (blk_lt (g := gb234) (o := .cells #[.string a1_0, .string a1_1] 23 (0, 0)) (bk_ BK234)) : gb234 ≠ gb256))
         have n10_ := Aside0.mk ((by rw [hg]; exact Nat.ne_of_gt (blk_lt (g := gb234) (o := .cells #[.string a1_0, .string a1_1] 23 (0, 0)) (bk_ BK234)) : gb256 ≠ gb234))
         have n11_ := Aside0.mk ((by rw [hg]; exact Nat.ne_of_lt (blk_lt (g := gb246) (o := .cells #[.string t242, .string t243, .int .i64 t244] 31 (0, 0)) (bk_ BK246)) : gb246 ≠ gb256))
         have n12_ := Aside0.mk ((by rw [hg]; exact Nat.ne_of_gt (blk_lt (g := gb246) (o := .cells #[.string t242, .string t243, .int .i64 t244] 31 (0, 0)) (bk_ BK246)) : gb256 ≠ gb246))
         clear BK233
         clear BK234
         clear BK246
         clear HB
         have BK233 := n0_
         have BK234 := n1_
         have BK246 := n2_
         have HB := n3_
         have BK256 := n4_
         have GW256 := n5_
         have GE256 := n6_
         have NB233_256 := n7_
         have NB256_233 := n8_
         have NB234_256 := n9_
         have NB256_234 := n10_
         have NB246_256 := n11_
         have NB256_246 := n12_
         clear n0_ n1_ n2_ n3_ n4_ n5_ n6_ n7_ n8_ n9_ n10_ n11_ n12_
         clear hb hbox hg
         refine hK.out _ _ ⟨(blk_cell BK233.out 0).trans rfl, (blk_cell BK233.out 1).trans rfl, (blk_cell BK233.out 2).trans rfl, (blk_cell BK234.out 0).trans rfl, (blk_cell BK234.out 1).trans rfl⟩ (fun hHeld => ?_)
         clear hK K
         refine norm_ (a' := ?_) ?_ ?_
         rotate_left
         ·show Act.put _ (some 8) _ = _
          simp only [Act.put, List.setIfInBounds_toArray, List.set_cons_zero, List.set_cons_succ, i64_w, i32_w]
          rfl
         refine one_ (i := 4) (N := some 33) (bm 11 287) rfl rfl (one_of HT_.out (by kernel_rfl)) (by decide) (fun K hK => ?_)
         refine goes_ Tryd.func28 (by kernel_rfl) rfl #[.agg #[.string t247, .string t248, .int .i64 t249], .agg #[.string t250, .string t251]] (by rfl) rfl rfl (by (try simp only [List.map_toArray, List.map_cons, List.map_nil]); first | done | rfl | (simp only [List.length_drop, List.length_take]; rfl)) ?_
         with_reducible refine (impl_AppendRecord.calls k t247 t248 t249 t250 t251 t252 t253 t254 t255 _ ?side1 A24.out).mono ?_
         (case side1 => exact EnvW.below HENV.out bg_)
         rintro e w49 ⟨rfl, hb⟩
         refine ⟨_, rfl, ?_⟩
         have n0_ := Aside0.mk (blk_below (g := gb233) (o := .cells #[.string a0_0, .string a0_1, .int .i64 a0_2] 36 (0, 0)) (bk_ BK233) hb)
         have n1_ := Aside0.mk (blk_below (g := gb234) (o := .cells #[.string a1_0, .string a1_1] 23 (0, 0)) (bk_ BK234) hb)
         have n2_ := Aside0.mk (blk_below (g := gb246) (o := .cells #[.string t242, .string t243, .int .i64 t244] 31 (0, 0)) (bk_ BK246) hb)
         have n3_ := Aside0.mk (blk_below (g := gb256) (o := .cells #[.string (⟨#[]⟩ : ByteArray), .string (⟨#[]⟩ : ByteArray), .int .i64 0] 31 (0, 0)) (bk_ BK256) hb)
         have n4_ := Aside0.mk (below_step bg_ hb)
         clear BK233
         clear BK234
         clear BK246
         clear BK256
         clear HB
         have BK233 := n0_
         have BK234 := n1_
         have BK246 := n2_
         have BK256 := n3_
         have HB := n4_
         clear n0_ n1_ n2_ n3_ n4_
         (try clear hb)
         (try clear hb2)
         (try clear hk)
         (try clear hi)
         refine hK.out _ _ ⟨(blk_cell BK233.out 0).trans rfl, (blk_cell BK233.out 1).trans rfl, (blk_cell BK233.out 2).trans rfl, (blk_cell BK234.out 0).trans rfl, (blk_cell BK234.out 1).trans rfl⟩ (fun hHeld => ?_)
         clear hK K
         refine norm_ (a' := ?_) ?_ ?_
         rotate_left
         ·show Act.put _ (some 33) _ = _
          simp only [Act.put, List.setIfInBounds_toArray, List.set_cons_zero, List.set_cons_succ, i64_w, i32_w]
          rfl
         refine pa_ 5 (some 28) (bm 11 319) rfl rfl HT_.out ?_
         refine pa_ 6 (some 34) (bm 11 383) rfl rfl HT_.out ?_
         refine pa_ 7 (some 35) (bm 11 511) rfl rfl HT_.out ?_
         exact norm_ (by simp only [putAll, Act.put, List.setIfInBounds_toArray, List.set_cons_zero, List.set_cons_succ]) (hCont (gb256) _ ⟨hHeld, (bk_ BK233), (bk_ BK234), (bk_ BK246), (bk_ BK256), GW256.out, GE256.out, NB233_256.out, NB256_233.out, NB234_256.out, NB256_234.out, NB246_256.out, NB256_246.out, bg_⟩)
       ·skip
        refine box_step ?hg (N := 8) ?hd (cs := #[.string (⟨#[]⟩ : ByteArray), .string (⟨#[]⟩ : ByteArray), .int .i64 0]) (t := 31) ?hr ?_; (case hd => rfl); (case hg => rfl); (case hr => first | (go_simp; done) | (go_simp; rfl))
        intro gb256 hg w47 hbox hb
        have n0_ := Aside0.mk (blk_below (g := gb233) (o := .cells #[.string a0_0, .string a0_1, .int .i64 a0_2] 36 (0, 0)) (bk_ BK233) hb)
        have n1_ := Aside0.mk (blk_below (g := gb234) (o := .cells #[.string a1_0, .string a1_1] 23 (0, 0)) (bk_ BK234) hb)
        have n2_ := Aside0.mk (blk_below (g := gb246) (o := .cells #[.string t242, .string t243, .int .i64 t244] 31 (0, 0)) (bk_ BK246) hb)
        have n3_ := Aside0.mk (below_step bg_ hb)
        have n4_ := Aside0.mk (hbox)
        have n5_ := Aside0.mk ((by rw [hg]; exact (below_size bg_) : w.heap.size ≤ gb256))
        have n6_ := Aside0.mk ((by rw [hg]; exact (below_size bg_) : w.heap.size ≤ gb256))
        have n7_ := Aside0.mk ((by rw [hg]; exact Nat.ne_of_lt (blk_lt (g := gb233) (o := .cells #[.string a0_0, .string a0_1, .int .i64 a0_2] 36 (0, 0)) (bk_ BK233)) : gb233 ≠ gb256))
        have n8_ := Aside0.mk ((by rw [hg]; exact Nat.ne_of_gt (blk_lt (g := gb233) (o := .cells #[.string a0_0, .string a0_1, .int .i64 a0_2] 36 (0, 0)) (bk_ BK233)) : gb256 ≠ gb233))
        have n9_ := Aside0.mk ((by rw [hg]; exact Nat.ne_of_lt (blk_lt (g := gb234) (o := .cells #[.string a1_0, .string a1_1] 23 (0, 0)) (bk_ BK234)) : gb234 ≠ gb256))
        have n10_ := Aside0.mk ((by rw [hg]; exact Nat.ne_of_gt (blk_lt (g := gb234) (o := .cells #[.string a1_0, .string a1_1] 23 (0, 0)) (bk_ BK234)) : gb256 ≠ gb234))
        have n11_ := Aside0.mk ((by rw [hg]; exact Nat.ne_of_lt (blk_lt (g := gb246) (o := .cells #[.string t242, .string t243, .int .i64 t244] 31 (0, 0)) (bk_ BK246)) : gb246 ≠ gb256))
        have n12_ := Aside0.mk ((by rw [hg]; exact Nat.ne_of_gt (blk_lt (g := gb246) (o := .cells #[.string t242, .string t243, .int .i64 t244] 31 (0, 0)) (bk_ BK246)) : gb256 ≠ gb246))
        clear BK233
        clear BK234
        clear BK246
        clear HB
        have BK233 := n0_
        have BK234 := n1_
        have BK246 := n2_
        have HB := n3_
        have BK256 := n4_
        have GW256 := n5_
        have GE256 := n6_
        have NB233_256 := n7_
        have NB256_233 := n8_
        have NB234_256 := n9_
        have NB256_234 := n10_
        have NB246_256 := n11_
        have NB256_246 := n12_
        clear n0_ n1_ n2_ n3_ n4_ n5_ n6_ n7_ n8_ n9_ n10_ n11_ n12_
        clear hb hbox hg
        refine hK.out _ _ ⟨(blk_cell BK233.out 0).trans rfl, (blk_cell BK233.out 1).trans rfl, (blk_cell BK233.out 2).trans rfl, (blk_cell BK234.out 0).trans rfl, (blk_cell BK234.out 1).trans rfl⟩ (fun hHeld => ?_)
        clear hK K
        refine norm_ (a' := ?_) ?_ ?_
        rotate_left
        ·show Act.put _ (some 8) _ = _
         simp only [Act.put, List.setIfInBounds_toArray, List.set_cons_zero, List.set_cons_succ, i64_w, i32_w]
         rfl
        refine one_ (i := 3) (N := some 32) (bm 11 271) rfl rfl (one_of HT_.out (by kernel_rfl)) (by decide) (fun K hK => ?_)
        refine goes_ Tryd.func14 (by kernel_rfl) rfl #[.agg #[.string a1_0, .string a1_1]] (by rfl) rfl rfl (by (try simp only [List.map_toArray, List.map_cons, List.map_nil]); first | done | rfl | (simp only [List.length_drop, List.length_take]; rfl)) ?_
        with_reducible refine (laws_toLogRecord.calls a1_0 a1_1 t250 t251 _ A23.out).mono ?_
        rintro e w48 ⟨rfl, hb⟩
        refine ⟨_, rfl, ?_⟩
        have n0_ := Aside0.mk (blk_below (g := gb233) (o := .cells #[.string a0_0, .string a0_1, .int .i64 a0_2] 36 (0, 0)) (bk_ BK233) hb)
        have n1_ := Aside0.mk (blk_below (g := gb234) (o := .cells #[.string a1_0, .string a1_1] 23 (0, 0)) (bk_ BK234) hb)
        have n2_ := Aside0.mk (blk_below (g := gb246) (o := .cells #[.string t242, .string t243, .int .i64 t244] 31 (0, 0)) (bk_ BK246) hb)
        have n3_ := Aside0.mk (blk_below (g := gb256) (o := .cells #[.string (⟨#[]⟩ : ByteArray), .string (⟨#[]⟩ : ByteArray), .int .i64 0] 31 (0, 0)) (bk_ BK256) hb)
        have n4_ := Aside0.mk (below_step bg_ hb)
        clear BK233
        clear BK234
        clear BK246
        clear BK256
        clear HB
        have BK233 := n0_
        have BK234 := n1_
        have BK246 := n2_
        have BK256 := n3_
        have HB := n4_
        clear n0_ n1_ n2_ n3_ n4_
        (try clear hb)
        (try clear hb2)
        (try clear hk)
        (try clear hi)
        refine hK.out _ _ ⟨(blk_cell BK233.out 0).trans rfl, (blk_cell BK233.out 1).trans rfl, (blk_cell BK233.out 2).trans rfl, (blk_cell BK234.out 0).trans rfl, (blk_cell BK234.out 1).trans rfl⟩ (fun hHeld => ?_)
        clear hK K
        refine norm_ (a' := ?_) ?_ ?_
        rotate_left
        ·show Act.put _ (some 32) _ = _
         simp only [Act.put, List.setIfInBounds_toArray, List.set_cons_zero, List.set_cons_succ, i64_w, i32_w]
         rfl
        refine one_ (i := 4) (N := some 33) (bm 11 287) rfl rfl (one_of HT_.out (by kernel_rfl)) (by decide) (fun K hK => ?_)
        refine goes_ Tryd.func28 (by kernel_rfl) rfl #[.agg #[.string t247, .string t248, .int .i64 t249], .agg #[.string t250, .string t251]] (by rfl) rfl rfl (by (try simp only [List.map_toArray, List.map_cons, List.map_nil]); first | done | rfl | (simp only [List.length_drop, List.length_take]; rfl)) ?_
        with_reducible refine (impl_AppendRecord.calls k t247 t248 t249 t250 t251 t252 t253 t254 t255 _ ?side1 A24.out).mono ?_
        (case side1 => exact EnvW.below HENV.out bg_)
        rintro e w49 ⟨rfl, hb⟩
        refine ⟨_, rfl, ?_⟩
        have n0_ := Aside0.mk (blk_below (g := gb233) (o := .cells #[.string a0_0, .string a0_1, .int .i64 a0_2] 36 (0, 0)) (bk_ BK233) hb)
        have n1_ := Aside0.mk (blk_below (g := gb234) (o := .cells #[.string a1_0, .string a1_1] 23 (0, 0)) (bk_ BK234) hb)
        have n2_ := Aside0.mk (blk_below (g := gb246) (o := .cells #[.string t242, .string t243, .int .i64 t244] 31 (0, 0)) (bk_ BK246) hb)
        have n3_ := Aside0.mk (blk_below (g := gb256) (o := .cells #[.string (⟨#[]⟩ : ByteArray), .string (⟨#[]⟩ : ByteArray), .int .i64 0] 31 (0, 0)) (bk_ BK256) hb)
        have n4_ := Aside0.mk (below_step bg_ hb)
        clear BK233
        clear BK234
        clear BK246
        clear BK256
        clear HB
        have BK233 := n0_
        have BK234 := n1_
        have BK246 := n2_
        have BK256 := n3_
        have HB := n4_
        clear n0_ n1_ n2_ n3_ n4_
        (try clear hb)
        (try clear hb2)
        (try clear hk)
        (try clear hi)
        refine hK.out _ _ ⟨(blk_cell BK233.out 0).trans rfl, (blk_cell BK233.out 1).trans rfl, (blk_cell BK233.out 2).trans rfl, (blk_cell BK234.out 0).trans rfl, (blk_cell BK234.out 1).trans rfl⟩ (fun hHeld => ?_)
        clear hK K
        refine norm_ (a' := ?_) ?_ ?_
        rotate_left
        ·show Act.put _ (some 33) _ = _
         simp only [Act.put, List.setIfInBounds_toArray, List.set_cons_zero, List.set_cons_succ, i64_w, i32_w]
         rfl
        refine pa_ 5 (some 28) (bm 11 319) rfl rfl HT_.out ?_
        refine pa_ 6 (some 34) (bm 11 383) rfl rfl HT_.out ?_
        refine pa_ 7 (some 35) (bm 11 511) rfl rfl HT_.out ?_
        exact norm_ (by simp only [putAll, Act.put, List.setIfInBounds_toArray, List.set_cons_zero, List.set_cons_succ]) (hCont (gb256) _ ⟨hHeld, (bk_ BK233), (bk_ BK234), (bk_ BK246), (bk_ BK256), GW256.out, GE256.out, NB233_256.out, NB256_233.out, NB234_256.out, NB256_234.out, NB246_256.out, NB256_246.out, bg_⟩)
      ·skip
       refine box_step ?hg (N := 8) ?hd (cs := #[.string (⟨#[]⟩ : ByteArray), .string (⟨#[]⟩ : ByteArray), .int .i64 0]) (t := 31) ?hr ?_; (case hd => rfl); (case hg => rfl); (case hr => first | (go_simp; done) | (go_simp; rfl))
       intro gb256 hg w46 hbox hb
       have n0_ := Aside0.mk (blk_below (g := gb233) (o := .cells #[.string a0_0, .string a0_1, .int .i64 a0_2] 36 (0, 0)) (bk_ BK233) hb)
       have n1_ := Aside0.mk (blk_below (g := gb234) (o := .cells #[.string a1_0, .string a1_1] 23 (0, 0)) (bk_ BK234) hb)
       have n2_ := Aside0.mk (blk_below (g := gb246) (o := .cells #[.string t242, .string t243, .int .i64 t244] 31 (0, 0)) (bk_ BK246) hb)
       have n3_ := Aside0.mk (below_step bg_ hb)
       have n4_ := Aside0.mk (hbox)
       have n5_ := Aside0.mk ((by rw [hg]; exact (below_size bg_) : w.heap.size ≤ gb256))
       have n6_ := Aside0.mk ((by rw [hg]; exact (below_size bg_) : w.heap.size ≤ gb256))
       have n7_ := Aside0.mk ((by rw [hg]; exact Nat.ne_of_lt (blk_lt (g := gb233) (o := .cells #[.string a0_0, .string a0_1, .int .i64 a0_2] 36 (0, 0)) (bk_ BK233)) : gb233 ≠ gb256))
       have n8_ := Aside0.mk ((by rw [hg]; exact Nat.ne_of_gt (blk_lt (g := gb233) (o := .cells #[.string a0_0, .string a0_1, .int .i64 a0_2] 36 (0, 0)) (bk_ BK233)) : gb256 ≠ gb233))
       have n9_ := Aside0.mk ((by rw [hg]; exact Nat.ne_of_lt (blk_lt (g := gb234) (o := .cells #[.string a1_0, .string a1_1] 23 (0, 0)) (bk_ BK234)) : gb234 ≠ gb256))
       have n10_ := Aside0.mk ((by rw [hg]; exact Nat.ne_of_gt (blk_lt (g := gb234) (o := .cells #[.string a1_0, .string a1_1] 23 (0, 0)) (bk_ BK234)) : gb256 ≠ gb234))
       have n11_ := Aside0.mk ((by rw [hg]; exact Nat.ne_of_lt (blk_lt (g := gb246) (o := .cells #[.string t242, .string t243, .int .i64 t244] 31 (0, 0)) (bk_ BK246)) : gb246 ≠ gb256))
       have n12_ := Aside0.mk ((by rw [hg]; exact Nat.ne_of_gt (blk_lt (g := gb246) (o := .cells #[.string t242, .string t243, .int .i64 t244] 31 (0, 0)) (bk_ BK246)) : gb256 ≠ gb246))
       clear BK233
       clear BK234
       clear BK246
       clear HB
       have BK233 := n0_
       have BK234 := n1_
       have BK246 := n2_
       have HB := n3_
       have BK256 := n4_
       have GW256 := n5_
       have GE256 := n6_
       have NB233_256 := n7_
       have NB256_233 := n8_
       have NB234_256 := n9_
       have NB256_234 := n10_
       have NB246_256 := n11_
       have NB256_246 := n12_
       clear n0_ n1_ n2_ n3_ n4_ n5_ n6_ n7_ n8_ n9_ n10_ n11_ n12_
       clear hb hbox hg
       refine hK.out _ _ ⟨(blk_cell BK233.out 0).trans rfl, (blk_cell BK233.out 1).trans rfl, (blk_cell BK233.out 2).trans rfl, (blk_cell BK234.out 0).trans rfl, (blk_cell BK234.out 1).trans rfl⟩ (fun hHeld => ?_)
       clear hK K
       refine norm_ (a' := ?_) ?_ ?_
       rotate_left
       ·show Act.put _ (some 8) _ = _
        simp only [Act.put, List.setIfInBounds_toArray, List.set_cons_zero, List.set_cons_succ, i64_w, i32_w]
        rfl
       refine one_ (i := 1) (N := some 30) (bm 11 263) rfl rfl (one_of HT_.out (by kernel_rfl)) (by decide) (fun K hK => ?_)
       refine goes_ Tryd.func21 (by kernel_rfl) rfl #[.agg #[.string a0_0, .string a0_1, .int .i64 a0_2]] (by rfl) rfl rfl (by (try simp only [List.map_toArray, List.map_cons, List.map_nil]); first | done | rfl | (simp only [List.length_drop, List.length_take]; rfl)) ?_
       with_reducible refine (laws_toLog.calls a0_0 a0_1 a0_2 t247 t248 t249 _ A22.out).mono ?_
       rintro e w47 ⟨rfl, hb⟩
       refine ⟨_, rfl, ?_⟩
       have n0_ := Aside0.mk (blk_below (g := gb233) (o := .cells #[.string a0_0, .string a0_1, .int .i64 a0_2] 36 (0, 0)) (bk_ BK233) hb)
       have n1_ := Aside0.mk (blk_below (g := gb234) (o := .cells #[.string a1_0, .string a1_1] 23 (0, 0)) (bk_ BK234) hb)
       have n2_ := Aside0.mk (blk_below (g := gb246) (o := .cells #[.string t242, .string t243, .int .i64 t244] 31 (0, 0)) (bk_ BK246) hb)
       have n3_ := Aside0.mk (blk_below (g := gb256) (o := .cells #[.string (⟨#[]⟩ : ByteArray), .string (⟨#[]⟩ : ByteArray), .int .i64 0] 31 (0, 0)) (bk_ BK256) hb)
       have n4_ := Aside0.mk (below_step bg_ hb)
       clear BK233
       clear BK234
       clear BK246
       clear BK256
       clear HB
       have BK233 := n0_
       have BK234 := n1_
       have BK246 := n2_
       have BK256 := n3_
       have HB := n4_
       clear n0_ n1_ n2_ n3_ n4_
       (try clear hb)
       (try clear hb2)
       (try clear hk)
       (try clear hi)
       refine hK.out _ _ ⟨(blk_cell BK233.out 0).trans rfl, (blk_cell BK233.out 1).trans rfl, (blk_cell BK233.out 2).trans rfl, (blk_cell BK234.out 0).trans rfl, (blk_cell BK234.out 1).trans rfl⟩ (fun hHeld => ?_)
       clear hK K
       refine norm_ (a' := ?_) ?_ ?_
       rotate_left
       ·show Act.put _ (some 30) _ = _
        simp only [Act.put, List.setIfInBounds_toArray, List.set_cons_zero, List.set_cons_succ, i64_w, i32_w]
        rfl
       refine one_ (i := 3) (N := some 32) (bm 11 271) rfl rfl (one_of HT_.out (by kernel_rfl)) (by decide) (fun K hK => ?_)
       refine goes_ Tryd.func14 (by kernel_rfl) rfl #[.agg #[.string a1_0, .string a1_1]] (by rfl) rfl rfl (by (try simp only [List.map_toArray, List.map_cons, List.map_nil]); first | done | rfl | (simp only [List.length_drop, List.length_take]; rfl)) ?_
       with_reducible refine (laws_toLogRecord.calls a1_0 a1_1 t250 t251 _ A23.out).mono ?_
       rintro e w48 ⟨rfl, hb⟩
       refine ⟨_, rfl, ?_⟩
       have n0_ := Aside0.mk (blk_below (g := gb233) (o := .cells #[.string a0_0, .string a0_1, .int .i64 a0_2] 36 (0, 0)) (bk_ BK233) hb)
       have n1_ := Aside0.mk (blk_below (g := gb234) (o := .cells #[.string a1_0, .string a1_1] 23 (0, 0)) (bk_ BK234) hb)
       have n2_ := Aside0.mk (blk_below (g := gb246) (o := .cells #[.string t242, .string t243, .int .i64 t244] 31 (0, 0)) (bk_ BK246) hb)
       have n3_ := Aside0.mk (blk_below (g := gb256) (o := .cells #[.string (⟨#[]⟩ : ByteArray), .string (⟨#[]⟩ : ByteArray), .int .i64 0] 31 (0, 0)) (bk_ BK256) hb)
       have n4_ := Aside0.mk (below_step bg_ hb)
       clear BK233
       clear BK234
       clear BK246
       clear BK256
       clear HB
       have BK233 := n0_
       have BK234 := n1_
       have BK246 := n2_
       have BK256 := n3_
       have HB := n4_
       clear n0_ n1_ n2_ n3_ n4_
       (try clear hb)
       (try clear hb2)
       (try clear hk)
       (try clear hi)
       refine hK.out _ _ ⟨(blk_cell BK233.out 0).trans rfl, (blk_cell BK233.out 1).trans rfl, (blk_cell BK233.out 2).trans rfl, (blk_cell BK234.out 0).trans rfl, (blk_cell BK234.out 1).trans rfl⟩ (fun hHeld => ?_)
       clear hK K
       refine norm_ (a' := ?_) ?_ ?_
       rotate_left
       ·show Act.put _ (some 32) _ = _
        simp only [Act.put, List.setIfInBounds_toArray, List.set_cons_zero, List.set_cons_succ, i64_w, i32_w]
        rfl
       refine one_ (i := 4) (N := some 33) (bm 11 287) rfl rfl (one_of HT_.out (by kernel_rfl)) (by decide) (fun K hK => ?_)
       refine goes_ Tryd.func28 (by kernel_rfl) rfl #[.agg #[.string t247, .string t248, .int .i64 t249], .agg #[.string t250, .string t251]] (by rfl) rfl rfl (by (try simp only [List.map_toArray, List.map_cons, List.map_nil]); first | done | rfl | (simp only [List.length_drop, List.length_take]; rfl)) ?_
       with_reducible refine (impl_AppendRecord.calls k t247 t248 t249 t250 t251 t252 t253 t254 t255 _ ?side1 A24.out).mono ?_
       (case side1 => exact EnvW.below HENV.out bg_)
       rintro e w49 ⟨rfl, hb⟩
       refine ⟨_, rfl, ?_⟩
       have n0_ := Aside0.mk (blk_below (g := gb233) (o := .cells #[.string a0_0, .string a0_1, .int .i64 a0_2] 36 (0, 0)) (bk_ BK233) hb)
       have n1_ := Aside0.mk (blk_below (g := gb234) (o := .cells #[.string a1_0, .string a1_1] 23 (0, 0)) (bk_ BK234) hb)
       have n2_ := Aside0.mk (blk_below (g := gb246) (o := .cells #[.string t242, .string t243, .int .i64 t244] 31 (0, 0)) (bk_ BK246) hb)
       have n3_ := Aside0.mk (blk_below (g := gb256) (o := .cells #[.string (⟨#[]⟩ : ByteArray), .string (⟨#[]⟩ : ByteArray), .int .i64 0] 31 (0, 0)) (bk_ BK256) hb)
       have n4_ := Aside0.mk (below_step bg_ hb)
       clear BK233
       clear BK234
       clear BK246
       clear BK256
       clear HB
       have BK233 := n0_
       have BK234 := n1_
       have BK246 := n2_
       have BK256 := n3_
       have HB := n4_
       clear n0_ n1_ n2_ n3_ n4_
       (try clear hb)
       (try clear hb2)
       (try clear hk)
       (try clear hi)
       refine hK.out _ _ ⟨(blk_cell BK233.out 0).trans rfl, (blk_cell BK233.out 1).trans rfl, (blk_cell BK233.out 2).trans rfl, (blk_cell BK234.out 0).trans rfl, (blk_cell BK234.out 1).trans rfl⟩ (fun hHeld => ?_)
       clear hK K
       refine norm_ (a' := ?_) ?_ ?_
       rotate_left
       ·show Act.put _ (some 33) _ = _
        simp only [Act.put, List.setIfInBounds_toArray, List.set_cons_zero, List.set_cons_succ, i64_w, i32_w]
        rfl
       refine pa_ 5 (some 28) (bm 11 319) rfl rfl HT_.out ?_
       refine pa_ 6 (some 34) (bm 11 383) rfl rfl HT_.out ?_
       refine pa_ 7 (some 35) (bm 11 511) rfl rfl HT_.out ?_
       exact norm_ (by simp only [putAll, Act.put, List.setIfInBounds_toArray, List.set_cons_zero, List.set_cons_succ]) (hCont (gb256) _ ⟨hHeld, (bk_ BK233), (bk_ BK234), (bk_ BK246), (bk_ BK256), GW256.out, GE256.out, NB233_256.out, NB256_233.out, NB234_256.out, NB256_234.out, NB246_256.out, NB256_246.out, bg_⟩)
     rintro gb256 w50 ⟨hS_, h0_, h1_, h2_, h3_, h4_, h5_, h6_, h7_, h8_, h9_, h10_, h11_, h12_⟩
     have n0_ : Aside0 (w50.heap[gb233]? = some (.cells #[.string a0_0, .string a0_1, .int .i64 a0_2] 36 (0, 0))) := ⟨h0_⟩
     have n1_ : Aside0 (w50.heap[gb234]? = some (.cells #[.string a1_0, .string a1_1] 23 (0, 0))) := ⟨h1_⟩
     have n2_ : Aside0 (w50.heap[gb246]? = some (.cells #[.string t242, .string t243, .int .i64 t244] 31 (0, 0))) := ⟨h2_⟩
     have n3_ : Aside0 (w50.heap[gb256]? = some (.cells #[.string (⟨#[]⟩ : ByteArray), .string (⟨#[]⟩ : ByteArray), .int .i64 0] 31 (0, 0))) := ⟨h3_⟩
     have n4_ : Aside0 (w.heap.size ≤ gb256) := ⟨h4_⟩
     have n5_ : Aside0 (w.heap.size ≤ gb256) := ⟨h5_⟩
     have n6_ : Aside0 (gb233 ≠ gb256) := ⟨h6_⟩
     have n7_ : Aside0 (gb256 ≠ gb233) := ⟨h7_⟩
     have n8_ : Aside0 (gb234 ≠ gb256) := ⟨h8_⟩
     have n9_ : Aside0 (gb256 ≠ gb234) := ⟨h9_⟩
     have n10_ : Aside0 (gb246 ≠ gb256) := ⟨h10_⟩
     have n11_ : Aside0 (gb256 ≠ gb246) := ⟨h11_⟩
     have n12_ : Aside0 (Below w.heap.size w w50) := ⟨h12_⟩
     clear BK233
     clear BK234
     clear BK246
     clear HB
     clear h0_ h1_ h2_ h3_ h4_ h5_ h6_ h7_ h8_ h9_ h10_ h11_ h12_
     have BK233 := n0_
     have BK234 := n1_
     have BK246 := n2_
     have BK256 := n3_
     have GW256 := n4_
     have GE256 := n5_
     have NB233_256 := n6_
     have NB256_233 := n7_
     have NB234_256 := n8_
     have NB256_234 := n9_
     have NB246_256 := n10_
     have NB256_246 := n11_
     have HB := n12_
     clear n0_ n1_ n2_ n3_ n4_ n5_ n6_ n7_ n8_ n9_ n10_ n11_ n12_
     have hHeld : w50.cell? ⟨gb233, 0, none⟩ = some (.string a0_0) ∧ w50.cell? ⟨gb233, 1, none⟩ = some (.string a0_1) ∧ w50.cell? ⟨gb233, 2, none⟩ = some (.int .i64 a0_2) ∧ w50.cell? ⟨gb234, 0, none⟩ = some (.string a1_0) ∧ w50.cell? ⟨gb234, 1, none⟩ = some (.string a1_1) := hS_
     refine norm_ (a' := ?_) ?_ ?_
     rotate_left
     ·simp only [putAll, Act.put, List.setIfInBounds_toArray, List.set_cons_zero, List.set_cons_succ]
      rfl
     refine one_ (i := 9) (N := none) (bm 11 1023) rfl rfl (one_of HT_.out (by kernel_rfl)) (by decide) (fun K hK => ?_)
     have hs51 : w50.cell? ⟨gb256, 0, none⟩ = some (.string (⟨#[]⟩ : ByteArray)) := (blk_cell BK256.out 0).trans rfl
     have hfs51 := blk_frozen BK256.out 0
     have hns51_0 := NB233_256.out
     have hns51_1 := NB234_256.out
     have hns51_2 := NB246_256.out
     have hms51_0 := NB256_233.out
     have hms51_1 := NB256_234.out
     have hms51_2 := NB256_246.out
     have hs52 : w50.cell? ⟨gb256, 1, none⟩ = some (.string (⟨#[]⟩ : ByteArray)) := (blk_cell BK256.out 1).trans rfl
     have hfs52 := blk_frozen BK256.out 1
     have hns52_0 := NB233_256.out
     have hns52_1 := NB234_256.out
     have hns52_2 := NB246_256.out
     have hms52_0 := NB256_233.out
     have hms52_1 := NB256_234.out
     have hms52_2 := NB256_246.out
     have hs53 : w50.cell? ⟨gb256, 2, none⟩ = some (.int .i64 0) := (blk_cell BK256.out 2).trans rfl
     have hfs53 := blk_frozen BK256.out 2
     have hns53_0 := NB233_256.out
     have hns53_1 := NB234_256.out
     have hns53_2 := NB246_256.out
     have hms53_0 := NB256_233.out
     have hms53_1 := NB256_234.out
     have hms53_2 := NB256_246.out
     refine skip_ (w1 := ?_) (by rfl) rfl ?_ ?_
     rotate_left
     ·go_simp
      rfl
     refine hK.out _ _ ⟨((cell_far (p := ⟨gb256, _, none⟩) NB233_256.out _).trans (((cell_far (p := ⟨gb256, _, none⟩) NB233_256.out _).trans (((cell_far (p := ⟨gb256, _, none⟩) NB233_256.out _).trans (hHeld.1)))))), ((cell_far (p := ⟨gb256, _, none⟩) NB233_256.out _).trans (((cell_far (p := ⟨gb256, _, none⟩) NB233_256.out _).trans (((cell_far (p := ⟨gb256, _, none⟩) NB233_256.out _).trans (hHeld.2.1)))))), ((cell_far (p := ⟨gb256, _, none⟩) NB233_256.out _).trans (((cell_far (p := ⟨gb256, _, none⟩) NB233_256.out _).trans (((cell_far (p := ⟨gb256, _, none⟩) NB233_256.out _).trans (hHeld.2.2.1)))))), ((cell_far (p := ⟨gb256, _, none⟩) NB234_256.out _).trans (((cell_far (p := ⟨gb256, _, none⟩) NB234_256.out _).trans (((cell_far (p := ⟨gb256, _, none⟩) NB234_256.out _).trans (hHeld.2.2.2.1)))))), ((cell_far (p := ⟨gb256, _, none⟩) NB234_256.out _).trans (((cell_far (p := ⟨gb256, _, none⟩) NB234_256.out _).trans (((cell_far (p := ⟨gb256, _, none⟩) NB234_256.out _).trans (hHeld.2.2.2.2))))))⟩ (fun hHeld => ?_)
     clear hK K
     refine pa_ 10 (some 9) (bm 11 2047) rfl rfl HT_.out ?_
     refine done_ (done_of HT_.out (by kernel_rfl)) ?_
     have hnb54 := NB256_233.out
     have hnc54 := NB233_256.out
     have hnb55 := NB256_234.out
     have hnc55 := NB234_256.out
     have hnb56 := NB256_246.out
     have hnc56 := NB246_256.out
     have hcz57_0 : w50.cell? ⟨gb256, 0, none⟩ = some (.string (⟨#[]⟩ : ByteArray)) := (blk_cell BK256.out 0).trans rfl
     have hcz57_1 : w50.cell? ⟨gb256, 1, none⟩ = some (.string (⟨#[]⟩ : ByteArray)) := (blk_cell BK256.out 1).trans rfl
     have hcz57_2 : w50.cell? ⟨gb256, 2, none⟩ = some (.int .i64 0) := (blk_cell BK256.out 2).trans rfl
     have hfz57_0 := blk_frozen BK256.out 0
     have hfz57_1 := blk_frozen BK256.out 1
     have hfz57_2 := blk_frozen BK256.out 2
     have hnb58 := NB246_233.out
     have hnc58 := NB233_246.out
     have hnb59 := NB246_234.out
     have hnc59 := NB234_246.out
     have hcz60_0 : w50.cell? ⟨gb246, 0, none⟩ = some (.string t242) := (blk_cell BK246.out 0).trans rfl
     have hcz60_1 : w50.cell? ⟨gb246, 1, none⟩ = some (.string t243) := (blk_cell BK246.out 1).trans rfl
     have hcz60_2 : w50.cell? ⟨gb246, 2, none⟩ = some (.int .i64 t244) := (blk_cell BK246.out 2).trans rfl
     have hfz60_0 := blk_frozen BK246.out 0
     have hfz60_1 := blk_frozen BK246.out 1
     have hfz60_2 := blk_frozen BK246.out 2
     try go_wp2_with (first | ((with_reducible refine gate_callee (f := 18) rfl ?_); refine gL_ (some 38) Tryd.func18 #[.agg #[.string t252, .string t253, .int .i64 t254], .agg #[.string t242, .string t243, .int .i64 t244]] ?_ rfl rfl; (with_reducible refine (laws_eqLog.calls t252 t253 t254 t242 t243 t244 true _ A25.out).mono ?_); rintro e w61 ⟨rfl, hb⟩; refine ⟨_, rfl, ?_⟩; have n0_ := Aside0.mk (blk_below (g := gb233) (o := .cells #[.string a0_0, .string a0_1, .int .i64 a0_2] 36 (0, 0)) (by (with_reducible repeat (first | refine blk_drewN ?_ _ | refine blk_drew ?_ | refine blk_alloc ?_ _)); refine blk_far ?_ NB233_256.out _; (with_reducible repeat (first | refine blk_drewN ?_ _ | refine blk_drew ?_ | refine blk_alloc ?_ _)); refine blk_far ?_ NB233_256.out _; (with_reducible repeat (first | refine blk_drewN ?_ _ | refine blk_drew ?_ | refine blk_alloc ?_ _)); refine blk_far ?_ NB233_256.out _; (with_reducible repeat (first | refine blk_drewN ?_ _ | refine blk_drew ?_ | refine blk_alloc ?_ _)); exact BK233.out) hb); have n1_ := Aside0.mk (blk_below (g := gb234) (o := .cells #[.string a1_0, .string a1_1] 23 (0, 0)) (by (with_reducible repeat (first | refine blk_drewN ?_ _ | refine blk_drew ?_ | refine blk_alloc ?_ _)); refine blk_far ?_ NB234_256.out _; (with_reducible repeat (first | refine blk_drewN ?_ _ | refine blk_drew ?_ | refine blk_alloc ?_ _)); refine blk_far ?_ NB234_256.out _; (with_reducible repeat (first | refine blk_drewN ?_ _ | refine blk_drew ?_ | refine blk_alloc ?_ _)); refine blk_far ?_ NB234_256.out _; (with_reducible repeat (first | refine blk_drewN ?_ _ | refine blk_drew ?_ | refine blk_alloc ?_ _)); exact BK234.out) hb); have n2_ := Aside0.mk (blk_below (g := gb246) (o := .cells #[.string t242, .string t243, .int .i64 t244] 31 (0, 0)) (by (with_reducible repeat (first | refine blk_drewN ?_ _ | refine blk_drew ?_ | refine blk_alloc ?_ _)); refine blk_far ?_ NB246_256.out _; (with_reducible repeat (first | refine blk_drewN ?_ _ | refine blk_drew ?_ | refine blk_alloc ?_ _)); refine blk_far ?_ NB246_256.out _; (with_reducible repeat (first | refine blk_drewN ?_ _ | refine blk_drew ?_ | refine blk_alloc ?_ _)); refine blk_far ?_ NB246_256.out _; (with_reducible repeat (first | refine blk_drewN ?_ _ | refine blk_drew ?_ | refine blk_alloc ?_ _)); exact BK246.out) hb); have n3_ := Aside0.mk (blk_below (g := gb256) (o := .cells #[.string t252, .string t253, .int .i64 t254] 31 (0, 0)) (by (with_reducible repeat (first | refine blk_drewN ?_ _ | refine blk_drew ?_ | refine blk_alloc ?_ _)); refine blk_put (cs := #[.string t252, .string t253, .int .i64 0]) ?_ 2 _ rfl; (with_reducible repeat (first | refine blk_drewN ?_ _ | refine blk_drew ?_ | refine blk_alloc ?_ _)); refine blk_put (cs := #[.string t252, .string (⟨#[]⟩ : ByteArray), .int .i64 0]) ?_ 1 _ rfl; (with_reducible repeat (first | refine blk_drewN ?_ _ | refine blk_drew ?_ | refine blk_alloc ?_ _)); refine blk_put (cs := #[.string (⟨#[]⟩ : ByteArray), .string (⟨#[]⟩ : ByteArray), .int .i64 0]) ?_ 0 _ rfl; (with_reducible repeat (first | refine blk_drewN ?_ _ | refine blk_drew ?_ | refine blk_alloc ?_ _)); exact BK256.out) hb); have n4_ := Aside0.mk (below_step bg_ hb); clear BK233; clear BK234; clear BK246; clear BK256; clear HB; have BK233 := n0_; have BK234 := n1_; have BK246 := n2_; have BK256 := n3_; have HB := n4_; clear n0_ n1_ n2_ n3_ n4_; (try clear hb); (try clear hb2); (try clear hk); (try clear hi)))
     go_ret
     exact ⟨by first | rfl | (simp [errW_none, errW_some] <;> rfl) | (simp [*, errW_none, errW_some] <;> rfl), by repeat (first | (with_reducible first | exact HB.out | apply below_alloc | apply pw_below_drewN | apply below_drew1 | refine below_set ?_ GE233.out | refine below_set ?_ GE234.out | refine below_set ?_ GE246.out | refine below_set ?_ GE256.out) | exact HB.out)⟩
    ·rw [if_neg c27] at H
     have c27b0 : (t255 == t245) = false := beq_eq_false_iff_ne.mpr c27
     have c27b1 : (t255 != t245) = true := bne_iff_ne.mpr c27
     obtain rfl := Option.some.inj H
     go_enter Tryd.func8, Tryd.ntmps8
     try go_wp2_with (first | ((with_reducible refine gate_dst (N := 2) rfl ?_); refine box_event ?hg (N := 2) ?hd (cs := #[.string a0_0, .string a0_1, .int .i64 a0_2]) (t := 36) ?hr ?_; (case hd => rfl); (case hg => rfl); (case hr => first | (go_simp; done) | (go_simp; rfl)); intro gb233 hg w62 hbox hb; have n0_ := Aside0.mk (below_step bl_ hb); have n1_ := Aside0.mk (hbox); have n2_ := Aside0.mk ((by rw [hg]; exact (below_size bl_) : w.heap.size ≤ gb233)); have n3_ := Aside0.mk ((by rw [hg]; exact (below_size bl_) : w.heap.size ≤ gb233)); clear HB; have HB := n0_; have BK233 := n1_; have GW233 := n2_; have GE233 := n3_; clear n0_ n1_ n2_ n3_; clear hb hbox hg) | ((with_reducible refine gate_dst (N := 3) rfl ?_); refine box_event ?hg (N := 3) ?hd (cs := #[.string a1_0, .string a1_1]) (t := 23) ?hr ?_; (case hd => rfl); (case hg => rfl); (case hr => first | (go_simp; done) | (go_simp; rfl)); intro gb234 hg w63 hbox hb; have n0_ := Aside0.mk (blk_below (g := gb233) (o := .cells #[.string a0_0, .string a0_1, .int .i64 a0_2] 36 (0, 0)) (bk_ BK233) hb); have n1_ := Aside0.mk (below_step bg_ hb); have n2_ := Aside0.mk (hbox); have n3_ := Aside0.mk ((by rw [hg]; exact (below_size bg_) : w.heap.size ≤ gb234)); have n4_ := Aside0.mk ((by rw [hg]; exact (below_size bg_) : w.heap.size ≤ gb234)); have n5_ := Aside0.mk ((by rw [hg]; exact Nat.ne_of_lt (blk_lt (g := gb233) (o := .cells #[.string a0_0, .string a0_1, .int .i64 a0_2] 36 (0, 0)) (bk_ BK233)) : gb233 ≠ gb234)); have n6_ := Aside0.mk ((by rw [hg]; exact Nat.ne_of_gt (blk_lt (g := gb233) (o := .cells #[.string a0_0, .string a0_1, .int .i64 a0_2] 36 (0, 0)) (bk_ BK233)) : gb234 ≠ gb233)); clear BK233; clear HB; have BK233 := n0_; have HB := n1_; have BK234 := n2_; have GW234 := n3_; have GE234 := n4_; have NB233_234 := n5_; have NB234_233 := n6_; clear n0_ n1_ n2_ n3_ n4_ n5_ n6_; clear hb hbox hg; have hnb64 := NB233_234.out; have hnc64 := NB234_233.out; have hcz65_0 : w63.cell? ⟨gb233, 0, none⟩ = some (.string a0_0) := (blk_cell BK233.out 0).trans rfl; have hcz65_1 : w63.cell? ⟨gb233, 1, none⟩ = some (.string a0_1) := (blk_cell BK233.out 1).trans rfl; have hcz65_2 : w63.cell? ⟨gb233, 2, none⟩ = some (.int .i64 a0_2) := (blk_cell BK233.out 2).trans rfl; have hfz65_0 := blk_frozen BK233.out 0; have hfz65_1 := blk_frozen BK233.out 1; have hfz65_2 := blk_frozen BK233.out 2) | ((with_reducible refine gate_callee (f := 19) rfl ?_); refine gL_ (some 12) Tryd.func19 #[.agg #[.string a0_0, .string a0_1, .int .i64 a0_2], .int .i64 1048576] ?_ rfl rfl; (with_reducible refine (laws_szLog.calls a0_0 a0_1 a0_2 1048576 t235 _ A3.out).mono ?_); rintro e w66 ⟨rfl, hb⟩; refine ⟨_, rfl, ?_⟩; have n0_ := Aside0.mk (blk_below (g := gb233) (o := .cells #[.string a0_0, .string a0_1, .int .i64 a0_2] 36 (0, 0)) (bk_ BK233) hb); have n1_ := Aside0.mk (blk_below (g := gb234) (o := .cells #[.string a1_0, .string a1_1] 23 (0, 0)) (bk_ BK234) hb); have n2_ := Aside0.mk (below_step bg_ hb); clear BK233; clear BK234; clear HB; have BK233 := n0_; have BK234 := n1_; have HB := n2_; clear n0_ n1_ n2_; (try clear hb); (try clear hb2); (try clear hk); (try clear hi); have hcz67_0 : w66.cell? ⟨gb234, 0, none⟩ = some (.string a1_0) := (blk_cell BK234.out 0).trans rfl; have hcz67_1 : w66.cell? ⟨gb234, 1, none⟩ = some (.string a1_1) := (blk_cell BK234.out 1).trans rfl; have hfz67_0 := blk_frozen BK234.out 0; have hfz67_1 := blk_frozen BK234.out 1) | ((with_reducible refine gate_callee (f := 12) rfl ?_); refine gL_ (some 17) Tryd.func12 #[.agg #[.string a1_0, .string a1_1], .int .i64 t235] ?_ rfl rfl; (with_reducible refine (laws_szLogRecord.calls a1_0 a1_1 t235 t236 _ A10.out).mono ?_); rintro e w68 ⟨rfl, hb⟩; refine ⟨_, rfl, ?_⟩; have n0_ := Aside0.mk (blk_below (g := gb233) (o := .cells #[.string a0_0, .string a0_1, .int .i64 a0_2] 36 (0, 0)) (bk_ BK233) hb); have n1_ := Aside0.mk (blk_below (g := gb234) (o := .cells #[.string a1_0, .string a1_1] 23 (0, 0)) (bk_ BK234) hb); have n2_ := Aside0.mk (below_step bg_ hb); clear BK233; clear BK234; clear HB; have BK233 := n0_; have BK234 := n1_; have HB := n2_; clear n0_ n1_ n2_; (try clear hb); (try clear hb2); (try clear hk); (try clear hi)))
     have n0_ := Aside0.mk (blk_drew BK233.out)
     have n1_ := Aside0.mk (blk_drew BK234.out)
     have n2_ := Aside0.mk (below_drew1 HB.out)
     clear BK233
     clear BK234
     clear HB
     have BK233 := n0_
     have BK234 := n1_
     have HB := n2_
     clear n0_ n1_ n2_
     refine start_ (n := 11) (S := fun w' => w'.cell? ⟨gb233, 0, none⟩ = some (.string a0_0) ∧ w'.cell? ⟨gb233, 1, none⟩ = some (.string a0_1) ∧ w'.cell? ⟨gb233, 2, none⟩ = some (.int .i64 a0_2) ∧ w'.cell? ⟨gb234, 0, none⟩ = some (.string a1_0) ∧ w'.cell? ⟨gb234, 1, none⟩ = some (.string a1_1)) (ds := []) (bm 11 0) (by kernel_rfl) rfl rfl ⟨(blk_cell BK233.out 0).trans rfl, (blk_cell BK233.out 1).trans rfl, (blk_cell BK233.out 2).trans rfl, (blk_cell BK234.out 0).trans rfl, (blk_cell BK234.out 1).trans rfl⟩ (fun hHeld => ?_); refine with_tabW laws_FnExactAppendRecord.tab8 laws_FnExactAppendRecord.bits8 (fun HT_ HW_ => ?_)
     generalize w68.drew = w69 at BK233 BK234 HB hHeld ⊢
     refine take_ (i := 0) (N := some 21) (v := ?_) (a' := ?_) (bm 11 1) rfl rfl (take_ofW HT_.out HW_.out (by kernel_rfl)) (fun _ _ _ h => h) (Or.inl ⟨by rfl, ?_⟩) hHeld ?_ ?_
     rotate_left
     ·rintro w' ⟨s0, s1, s2, s3, s4⟩
      go_simp
      with_reducible rfl
     rotate_left
     ·simp only [Act.put, List.setIfInBounds_toArray, List.set_cons_zero, List.set_cons_succ, i64_w, i32_w]
      rfl
     refine take_ (i := 2) (N := some 23) (v := ?_) (a' := ?_) (bm 11 5) rfl rfl (take_ofW HT_.out HW_.out (by kernel_rfl)) (fun _ _ _ h => h) (Or.inl ⟨by rfl, ?_⟩) hHeld ?_ ?_
     rotate_left
     ·rintro w' ⟨s0, s1, s2, s3, s4⟩
      go_simp
      with_reducible rfl
     rotate_left
     ·simp only [Act.put, List.setIfInBounds_toArray, List.set_cons_zero, List.set_cons_succ, i64_w, i32_w]
      rfl
     refine join_ (σ := Nat) 2 (bm 11 511) (fun s_ => [(22, .agg #[.string t237, .string t238, .int .i64 t239]), (24, .agg #[.string t240, .string t241]), (25, .tuple #[.agg #[.string t242, .string t243, .int .i64 t244], .int .i64 t245]), (6, .pointer (some ⟨s_, 0, none⟩)), (20, .tuple #[.agg #[.string t242, .string t243, .int .i64 t244], .int .i64 t245]), (26, .agg #[.string t242, .string t243, .int .i64 t244]), (27, .int .i64 t245)]) (fun s_ w' => (w'.cell? ⟨gb233, 0, none⟩ = some (.string a0_0) ∧ w'.cell? ⟨gb233, 1, none⟩ = some (.string a0_1) ∧ w'.cell? ⟨gb233, 2, none⟩ = some (.int .i64 a0_2) ∧ w'.cell? ⟨gb234, 0, none⟩ = some (.string a1_0) ∧ w'.cell? ⟨gb234, 1, none⟩ = some (.string a1_1)) ∧ (w'.heap[gb233]? = some (.cells #[.string a0_0, .string a0_1, .int .i64 a0_2] 36 (0, 0))) ∧ (w'.heap[gb234]? = some (.cells #[.string a1_0, .string a1_1] 23 (0, 0))) ∧ (w'.heap[s_]? = some (.cells #[.string (⟨#[]⟩ : ByteArray), .string (⟨#[]⟩ : ByteArray), .int .i64 0] 31 (0, 0))) ∧ (w.heap.size ≤ s_) ∧ (w.heap.size ≤ s_) ∧ (gb233 ≠ s_) ∧ (s_ ≠ gb233) ∧ (gb234 ≠ s_) ∧ (s_ ≠ gb234) ∧ (Below w.heap.size w w')) ?_ ?_
     rotate_left
     ·intro hCont
      refine two_ (i := 1) (j := 8) (Ni := some 22) (Nj := some 6) (bm 11 7) (bm 11 261) rfl rfl rfl rfl (two_of HT_.out (by kernel_rfl)) (by decide) (by decide) (fun K hK => ?_) (fun K hK => ?_)
      ·skip
       refine goes_ Tryd.func21 (by kernel_rfl) rfl #[.agg #[.string a0_0, .string a0_1, .int .i64 a0_2]] (by rfl) rfl rfl (by (try simp only [List.map_toArray, List.map_cons, List.map_nil]); first | done | rfl | (simp only [List.length_drop, List.length_take]; rfl)) ?_
       with_reducible refine (laws_toLog.calls a0_0 a0_1 a0_2 t237 t238 t239 _ A19.out).mono ?_
       rintro e w70 ⟨rfl, hb⟩
       refine ⟨_, rfl, ?_⟩
       have n0_ := Aside0.mk (blk_below (g := gb233) (o := .cells #[.string a0_0, .string a0_1, .int .i64 a0_2] 36 (0, 0)) (bk_ BK233) hb)
       have n1_ := Aside0.mk (blk_below (g := gb234) (o := .cells #[.string a1_0, .string a1_1] 23 (0, 0)) (bk_ BK234) hb)
       have n2_ := Aside0.mk (below_step bg_ hb)
       clear BK233
       clear BK234
       clear HB
       have BK233 := n0_
       have BK234 := n1_
       have HB := n2_
       clear n0_ n1_ n2_
       (try clear hb)
       (try clear hb2)
       (try clear hk)
       (try clear hi)
       refine hK.out _ _ ⟨(blk_cell BK233.out 0).trans rfl, (blk_cell BK233.out 1).trans rfl, (blk_cell BK233.out 2).trans rfl, (blk_cell BK234.out 0).trans rfl, (blk_cell BK234.out 1).trans rfl⟩ (fun hHeld => ?_)
       clear hK K
       refine norm_ (a' := ?_) ?_ ?_
       rotate_left
       ·show Act.put _ (some 22) _ = _
        simp only [Act.put, List.setIfInBounds_toArray, List.set_cons_zero, List.set_cons_succ, i64_w, i32_w]
        rfl
       refine two_ (i := 3) (j := 8) (Ni := some 24) (Nj := some 6) (bm 11 15) (bm 11 263) rfl rfl rfl rfl (two_of HT_.out (by kernel_rfl)) (by decide) (by decide) (fun K hK => ?_) (fun K hK => ?_)
       ·skip
        refine goes_ Tryd.func14 (by kernel_rfl) rfl #[.agg #[.string a1_0, .string a1_1]] (by rfl) rfl rfl (by (try simp only [List.map_toArray, List.map_cons, List.map_nil]); first | done | rfl | (simp only [List.length_drop, List.length_take]; rfl)) ?_
        with_reducible refine (laws_toLogRecord.calls a1_0 a1_1 t240 t241 _ A20.out).mono ?_
        rintro e w71 ⟨rfl, hb⟩
        refine ⟨_, rfl, ?_⟩
        have n0_ := Aside0.mk (blk_below (g := gb233) (o := .cells #[.string a0_0, .string a0_1, .int .i64 a0_2] 36 (0, 0)) (bk_ BK233) hb)
        have n1_ := Aside0.mk (blk_below (g := gb234) (o := .cells #[.string a1_0, .string a1_1] 23 (0, 0)) (bk_ BK234) hb)
        have n2_ := Aside0.mk (below_step bg_ hb)
        clear BK233
        clear BK234
        clear HB
        have BK233 := n0_
        have BK234 := n1_
        have HB := n2_
        clear n0_ n1_ n2_
        (try clear hb)
        (try clear hb2)
        (try clear hk)
        (try clear hi)
        refine hK.out _ _ ⟨(blk_cell BK233.out 0).trans rfl, (blk_cell BK233.out 1).trans rfl, (blk_cell BK233.out 2).trans rfl, (blk_cell BK234.out 0).trans rfl, (blk_cell BK234.out 1).trans rfl⟩ (fun hHeld => ?_)
        clear hK K
        refine norm_ (a' := ?_) ?_ ?_
        rotate_left
        ·show Act.put _ (some 24) _ = _
         simp only [Act.put, List.setIfInBounds_toArray, List.set_cons_zero, List.set_cons_succ, i64_w, i32_w]
         rfl
        refine two_ (i := 4) (j := 8) (Ni := some 25) (Nj := some 6) (bm 11 31) (bm 11 271) rfl rfl rfl rfl (two_of HT_.out (by kernel_rfl)) (by decide) (by decide) (fun K hK => ?_) (fun K hK => ?_)
        ·skip
         refine goes_ Tryd.func27 (by kernel_rfl) rfl #[.agg #[.string t237, .string t238, .int .i64 t239], .agg #[.string t240, .string t241]] (by rfl) rfl rfl (by (try simp only [List.map_toArray, List.map_cons, List.map_nil]); first | done | rfl | (simp only [List.length_drop, List.length_take]; rfl)) ?_
         with_reducible refine (spec_AppendRecord.calls k t237 t238 t239 t240 t241 t242 t243 t244 t245 _ A21.out).mono ?_
         rintro e w72 ⟨rfl, hb⟩
         refine ⟨_, rfl, ?_⟩
         have n0_ := Aside0.mk (blk_below (g := gb233) (o := .cells #[.string a0_0, .string a0_1, .int .i64 a0_2] 36 (0, 0)) (bk_ BK233) hb)
         have n1_ := Aside0.mk (blk_below (g := gb234) (o := .cells #[.string a1_0, .string a1_1] 23 (0, 0)) (bk_ BK234) hb)
         have n2_ := Aside0.mk (below_step bg_ hb)
         clear BK233
         clear BK234
         clear HB
         have BK233 := n0_
         have BK234 := n1_
         have HB := n2_
         clear n0_ n1_ n2_
         (try clear hb)
         (try clear hb2)
         (try clear hk)
         (try clear hi)
         refine hK.out _ _ ⟨(blk_cell BK233.out 0).trans rfl, (blk_cell BK233.out 1).trans rfl, (blk_cell BK233.out 2).trans rfl, (blk_cell BK234.out 0).trans rfl, (blk_cell BK234.out 1).trans rfl⟩ (fun hHeld => ?_)
         clear hK K
         refine norm_ (a' := ?_) ?_ ?_
         rotate_left
         ·show Act.put _ (some 25) _ = _
          simp only [Act.put, List.setIfInBounds_toArray, List.set_cons_zero, List.set_cons_succ, i64_w, i32_w]
          rfl
         refine pa_ 5 (some 20) (bm 11 63) rfl rfl HT_.out ?_
         refine pa_ 6 (some 26) (bm 11 127) rfl rfl HT_.out ?_
         refine pa_ 7 (some 27) (bm 11 255) rfl rfl HT_.out ?_
         refine one_ (i := 8) (N := some 6) (bm 11 511) rfl rfl (one_of HT_.out (by kernel_rfl)) (by decide) (fun K hK => ?_)
         refine box_step ?hg (N := 6) ?hd (cs := #[.string (⟨#[]⟩ : ByteArray), .string (⟨#[]⟩ : ByteArray), .int .i64 0]) (t := 31) ?hr ?_; (case hd => rfl); (case hg => rfl); (case hr => first | (go_simp; done) | (go_simp; rfl))
         intro gb246 hg w73 hbox hb
         have n0_ := Aside0.mk (blk_below (g := gb233) (o := .cells #[.string a0_0, .string a0_1, .int .i64 a0_2] 36 (0, 0)) (bk_ BK233) hb)
         have n1_ := Aside0.mk (blk_below (g := gb234) (o := .cells #[.string a1_0, .string a1_1] 23 (0, 0)) (bk_ BK234) hb)
         have n2_ := Aside0.mk (below_step bg_ hb)
         have n3_ := Aside0.mk (hbox)
         have n4_ := Aside0.mk ((by rw [hg]; exact (below_size bg_) : w.heap.size ≤ gb246))
         have n5_ := Aside0.mk ((by rw [hg]; exact (below_size bg_) : w.heap.size ≤ gb246))
         have n6_ := Aside0.mk ((by rw [hg]; exact Nat.ne_of_lt (blk_lt (g := gb233) (o := .cells #[.string a0_0, .string a0_1, .int .i64 a0_2] 36 (0, 0)) (bk_ BK233)) : gb233 ≠ gb246))
         have n7_ := Aside0.mk ((by rw [hg]; exact Nat.ne_of_gt (blk_lt (g := gb233) (o := .cells #[.string a0_0, .string a0_1, .int .i64 a0_2] 36 (0, 0)) (bk_ BK233)) : gb246 ≠ gb233))
         have n8_ := Aside0.mk ((by rw [hg]; exact Nat.ne_of_lt (blk_lt (g := gb234) (o := .cells #[.string a1_0, .string a1_1] 23 (0, 0)) (bk_ BK234)) : gb234 ≠ gb246))
         have n9_ := Aside0.mk ((by rw [hg]; exact Nat.ne_of_gt (blk_lt (g := gb234) (o := .cells #[.string a1_0, .string a1_1] 23 (0, 0)) (bk_ BK234)) : gb246 ≠ gb234))
         clear BK233
         clear BK234
         clear HB
         have BK233 := n0_
         have BK234 := n1_
         have HB := n2_
         have BK246 := n3_
         have GW246 := n4_
         have GE246 := n5_
         have NB233_246 := n6_
         have NB246_233 := n7_
         have NB234_246 := n8_
         have NB246_234 := n9_
         clear n0_ n1_ n2_ n3_ n4_ n5_ n6_ n7_ n8_ n9_
         clear hb hbox hg
         refine hK.out _ _ ⟨(blk_cell BK233.out 0).trans rfl, (blk_cell BK233.out 1).trans rfl, (blk_cell BK233.out 2).trans rfl, (blk_cell BK234.out 0).trans rfl, (blk_cell BK234.out 1).trans rfl⟩ (fun hHeld => ?_)
         clear hK K
         refine norm_ (a' := ?_) ?_ ?_
         rotate_left
         ·show Act.put _ (some 6) _ = _
          simp only [Act.put, List.setIfInBounds_toArray, List.set_cons_zero, List.set_cons_succ, i64_w, i32_w]
          rfl
         exact norm_ (by simp only [putAll, Act.put, List.setIfInBounds_toArray, List.set_cons_zero, List.set_cons_succ]) (hCont (gb246) _ ⟨hHeld, (bk_ BK233), (bk_ BK234), (bk_ BK246), GW246.out, GE246.out, NB233_246.out, NB246_233.out, NB234_246.out, NB246_234.out, bg_⟩)
        ·skip
         refine box_step ?hg (N := 6) ?hd (cs := #[.string (⟨#[]⟩ : ByteArray), .string (⟨#[]⟩ : ByteArray), .int .i64 0]) (t := 31) ?hr ?_; (case hd => rfl); (case hg => rfl); (case hr => first | (go_simp; done) | (go_simp; rfl))
         intro gb246 hg w72 hbox hb
         have n0_ := Aside0.mk (blk_below (g := gb233) (o := .cells #[.string a0_0, .string a0_1, .int .i64 a0_2] 36 (0, 0)) (bk_ BK233) hb)
         have n1_ := Aside0.mk (blk_below (g := gb234) (o := .cells #[.string a1_0, .string a1_1] 23 (0, 0)) (bk_ BK234) hb)
         have n2_ := Aside0.mk (below_step bg_ hb)
         have n3_ := Aside0.mk (hbox)
         have n4_ := Aside0.mk ((by rw [hg]; exact (below_size bg_) : w.heap.size ≤ gb246))
         have n5_ := Aside0.mk ((by rw [hg]; exact (below_size bg_) : w.heap.size ≤ gb246))
         have n6_ := Aside0.mk ((by rw [hg]; exact Nat.ne_of_lt (blk_lt (g := gb233) (o := .cells #[.string a0_0, .string a0_1, .int .i64 a0_2] 36 (0, 0)) (bk_ BK233)) : gb233 ≠ gb246))
         have n7_ := Aside0.mk ((by rw [hg]; exact Nat.ne_of_gt (blk_lt (g := gb233) (o := .cells #[.string a0_0, .string a0_1, .int .i64 a0_2] 36 (0, 0)) (bk_ BK233)) : gb246 ≠ gb233))
         have n8_ := Aside0.mk ((by rw [hg]; exact Nat.ne_of_lt (blk_lt (g := gb234) (o := .cells #[.string a1_0, .string a1_1] 23 (0, 0)) (bk_ BK234)) : gb234 ≠ gb246))
         have n9_ := Aside0.mk ((by rw [hg]; exact Nat.ne_of_gt (blk_lt (g := gb234) (o := .cells #[.string a1_0, .string a1_1] 23 (0, 0)) (bk_ BK234)) : gb246 ≠ gb234))
         clear BK233
         clear BK234
         clear HB
         have BK233 := n0_
         have BK234 := n1_
         have HB := n2_
         have BK246 := n3_
         have GW246 := n4_
         have GE246 := n5_
         have NB233_246 := n6_
         have NB246_233 := n7_
         have NB234_246 := n8_
         have NB246_234 := n9_
         clear n0_ n1_ n2_ n3_ n4_ n5_ n6_ n7_ n8_ n9_
         clear hb hbox hg
         refine hK.out _ _ ⟨(blk_cell BK233.out 0).trans rfl, (blk_cell BK233.out 1).trans rfl, (blk_cell BK233.out 2).trans rfl, (blk_cell BK234.out 0).trans rfl, (blk_cell BK234.out 1).trans rfl⟩ (fun hHeld => ?_)
         clear hK K
         refine norm_ (a' := ?_) ?_ ?_
         rotate_left
         ·show Act.put _ (some 6) _ = _
          simp only [Act.put, List.setIfInBounds_toArray, List.set_cons_zero, List.set_cons_succ, i64_w, i32_w]
          rfl
         refine one_ (i := 4) (N := some 25) (bm 11 287) rfl rfl (one_of HT_.out (by kernel_rfl)) (by decide) (fun K hK => ?_)
         refine goes_ Tryd.func27 (by kernel_rfl) rfl #[.agg #[.string t237, .string t238, .int .i64 t239], .agg #[.string t240, .string t241]] (by rfl) rfl rfl (by (try simp only [List.map_toArray, List.map_cons, List.map_nil]); first | done | rfl | (simp only [List.length_drop, List.length_take]; rfl)) ?_
         with_reducible refine (spec_AppendRecord.calls k t237 t238 t239 t240 t241 t242 t243 t244 t245 _ A21.out).mono ?_
         rintro e w73 ⟨rfl, hb⟩
         refine ⟨_, rfl, ?_⟩
         have n0_ := Aside0.mk (blk_below (g := gb233) (o := .cells #[.string a0_0, .string a0_1, .int .i64 a0_2] 36 (0, 0)) (bk_ BK233) hb)
         have n1_ := Aside0.mk (blk_below (g := gb234) (o := .cells #[.string a1_0, .string a1_1] 23 (0, 0)) (bk_ BK234) hb)
         have n2_ := Aside0.mk (blk_below (g := gb246) (o := .cells #[.string (⟨#[]⟩ : ByteArray), .string (⟨#[]⟩ : ByteArray), .int .i64 0] 31 (0, 0)) (bk_ BK246) hb)
         have n3_ := Aside0.mk (below_step bg_ hb)
         clear BK233
         clear BK234
         clear BK246
         clear HB
         have BK233 := n0_
         have BK234 := n1_
         have BK246 := n2_
         have HB := n3_
         clear n0_ n1_ n2_ n3_
         (try clear hb)
         (try clear hb2)
         (try clear hk)
         (try clear hi)
         refine hK.out _ _ ⟨(blk_cell BK233.out 0).trans rfl, (blk_cell BK233.out 1).trans rfl, (blk_cell BK233.out 2).trans rfl, (blk_cell BK234.out 0).trans rfl, (blk_cell BK234.out 1).trans rfl⟩ (fun hHeld => ?_)
         clear hK K
         refine norm_ (a' := ?_) ?_ ?_
         rotate_left
         ·show Act.put _ (some 25) _ = _
          simp only [Act.put, List.setIfInBounds_toArray, List.set_cons_zero, List.set_cons_succ, i64_w, i32_w]
          rfl
         refine pa_ 5 (some 20) (bm 11 319) rfl rfl HT_.out ?_
         refine pa_ 6 (some 26) (bm 11 383) rfl rfl HT_.out ?_
         refine pa_ 7 (some 27) (bm 11 511) rfl rfl HT_.out ?_
         exact norm_ (by simp only [putAll, Act.put, List.setIfInBounds_toArray, List.set_cons_zero, List.set_cons_succ]) (hCont (gb246) _ ⟨hHeld, (bk_ BK233), (bk_ BK234), (bk_ BK246), GW246.out, GE246.out, NB233_246.out, NB246_233.out, NB234_246.out, NB246_234.out, bg_⟩)
       ·skip
        refine box_step ?hg (N := 6) ?hd (cs := #[.string (⟨#[]⟩ : ByteArray), .string (⟨#[]⟩ : ByteArray), .int .i64 0]) (t := 31) ?hr ?_; (case hd => rfl); (case hg => rfl); (case hr => first | (go_simp; done) | (go_simp; rfl))
        intro gb246 hg w71 hbox hb
        have n0_ := Aside0.mk (blk_below (g := gb233) (o := .cells #[.string a0_0, .string a0_1, .int .i64 a0_2] 36 (0, 0)) (bk_ BK233) hb)
        have n1_ := Aside0.mk (blk_below (g := gb234) (o := .cells #[.string a1_0, .string a1_1] 23 (0, 0)) (bk_ BK234) hb)
        have n2_ := Aside0.mk (below_step bg_ hb)
        have n3_ := Aside0.mk (hbox)
        have n4_ := Aside0.mk ((by rw [hg]; exact (below_size bg_) : w.heap.size ≤ gb246))
        have n5_ := Aside0.mk ((by rw [hg]; exact (below_size bg_) : w.heap.size ≤ gb246))
        have n6_ := Aside0.mk ((by rw [hg]; exact Nat.ne_of_lt (blk_lt (g := gb233) (o := .cells #[.string a0_0, .string a0_1, .int .i64 a0_2] 36 (0, 0)) (bk_ BK233)) : gb233 ≠ gb246))
        have n7_ := Aside0.mk ((by rw [hg]; exact Nat.ne_of_gt (blk_lt (g := gb233) (o := .cells #[.string a0_0, .string a0_1, .int .i64 a0_2] 36 (0, 0)) (bk_ BK233)) : gb246 ≠ gb233))
        have n8_ := Aside0.mk ((by rw [hg]; exact Nat.ne_of_lt (blk_lt (g := gb234) (o := .cells #[.string a1_0, .string a1_1] 23 (0, 0)) (bk_ BK234)) : gb234 ≠ gb246))
        have n9_ := Aside0.mk ((by rw [hg]; exact Nat.ne_of_gt (blk_lt (g := gb234) (o := .cells #[.string a1_0, .string a1_1] 23 (0, 0)) (bk_ BK234)) : gb246 ≠ gb234))
        clear BK233
        clear BK234
        clear HB
        have BK233 := n0_
        have BK234 := n1_
        have HB := n2_
        have BK246 := n3_
        have GW246 := n4_
        have GE246 := n5_
        have NB233_246 := n6_
        have NB246_233 := n7_
        have NB234_246 := n8_
        have NB246_234 := n9_
        clear n0_ n1_ n2_ n3_ n4_ n5_ n6_ n7_ n8_ n9_
        clear hb hbox hg
        refine hK.out _ _ ⟨(blk_cell BK233.out 0).trans rfl, (blk_cell BK233.out 1).trans rfl, (blk_cell BK233.out 2).trans rfl, (blk_cell BK234.out 0).trans rfl, (blk_cell BK234.out 1).trans rfl⟩ (fun hHeld => ?_)
        clear hK K
        refine norm_ (a' := ?_) ?_ ?_
        rotate_left
        ·show Act.put _ (some 6) _ = _
         simp only [Act.put, List.setIfInBounds_toArray, List.set_cons_zero, List.set_cons_succ, i64_w, i32_w]
         rfl
        refine one_ (i := 3) (N := some 24) (bm 11 271) rfl rfl (one_of HT_.out (by kernel_rfl)) (by decide) (fun K hK => ?_)
        refine goes_ Tryd.func14 (by kernel_rfl) rfl #[.agg #[.string a1_0, .string a1_1]] (by rfl) rfl rfl (by (try simp only [List.map_toArray, List.map_cons, List.map_nil]); first | done | rfl | (simp only [List.length_drop, List.length_take]; rfl)) ?_
        with_reducible refine (laws_toLogRecord.calls a1_0 a1_1 t240 t241 _ A20.out).mono ?_
        rintro e w72 ⟨rfl, hb⟩
        refine ⟨_, rfl, ?_⟩
        have n0_ := Aside0.mk (blk_below (g := gb233) (o := .cells #[.string a0_0, .string a0_1, .int .i64 a0_2] 36 (0, 0)) (bk_ BK233) hb)
        have n1_ := Aside0.mk (blk_below (g := gb234) (o := .cells #[.string a1_0, .string a1_1] 23 (0, 0)) (bk_ BK234) hb)
        have n2_ := Aside0.mk (blk_below (g := gb246) (o := .cells #[.string (⟨#[]⟩ : ByteArray), .string (⟨#[]⟩ : ByteArray), .int .i64 0] 31 (0, 0)) (bk_ BK246) hb)
        have n3_ := Aside0.mk (below_step bg_ hb)
        clear BK233
        clear BK234
        clear BK246
        clear HB
        have BK233 := n0_
        have BK234 := n1_
        have BK246 := n2_
        have HB := n3_
        clear n0_ n1_ n2_ n3_
        (try clear hb)
        (try clear hb2)
        (try clear hk)
        (try clear hi)
        refine hK.out _ _ ⟨(blk_cell BK233.out 0).trans rfl, (blk_cell BK233.out 1).trans rfl, (blk_cell BK233.out 2).trans rfl, (blk_cell BK234.out 0).trans rfl, (blk_cell BK234.out 1).trans rfl⟩ (fun hHeld => ?_)
        clear hK K
        refine norm_ (a' := ?_) ?_ ?_
        rotate_left
        ·show Act.put _ (some 24) _ = _
         simp only [Act.put, List.setIfInBounds_toArray, List.set_cons_zero, List.set_cons_succ, i64_w, i32_w]
         rfl
        refine one_ (i := 4) (N := some 25) (bm 11 287) rfl rfl (one_of HT_.out (by kernel_rfl)) (by decide) (fun K hK => ?_)
        refine goes_ Tryd.func27 (by kernel_rfl) rfl #[.agg #[.string t237, .string t238, .int .i64 t239], .agg #[.string t240, .string t241]] (by rfl) rfl rfl (by (try simp only [List.map_toArray, List.map_cons, List.map_nil]); first | done | rfl | (simp only [List.length_drop, List.length_take]; rfl)) ?_
        with_reducible refine (spec_AppendRecord.calls k t237 t238 t239 t240 t241 t242 t243 t244 t245 _ A21.out).mono ?_
        rintro e w73 ⟨rfl, hb⟩
        refine ⟨_, rfl, ?_⟩
        have n0_ := Aside0.mk (blk_below (g := gb233) (o := .cells #[.string a0_0, .string a0_1, .int .i64 a0_2] 36 (0, 0)) (bk_ BK233) hb)
        have n1_ := Aside0.mk (blk_below (g := gb234) (o := .cells #[.string a1_0, .string a1_1] 23 (0, 0)) (bk_ BK234) hb)
        have n2_ := Aside0.mk (blk_below (g := gb246) (o := .cells #[.string (⟨#[]⟩ : ByteArray), .string (⟨#[]⟩ : ByteArray), .int .i64 0] 31 (0, 0)) (bk_ BK246) hb)
        have n3_ := Aside0.mk (below_step bg_ hb)
        clear BK233
        clear BK234
        clear BK246
        clear HB
        have BK233 := n0_
        have BK234 := n1_
        have BK246 := n2_
        have HB := n3_
        clear n0_ n1_ n2_ n3_
        (try clear hb)
        (try clear hb2)
        (try clear hk)
        (try clear hi)
        refine hK.out _ _ ⟨(blk_cell BK233.out 0).trans rfl, (blk_cell BK233.out 1).trans rfl, (blk_cell BK233.out 2).trans rfl, (blk_cell BK234.out 0).trans rfl, (blk_cell BK234.out 1).trans rfl⟩ (fun hHeld => ?_)
        clear hK K
        refine norm_ (a' := ?_) ?_ ?_
        rotate_left
        ·show Act.put _ (some 25) _ = _
         simp only [Act.put, List.setIfInBounds_toArray, List.set_cons_zero, List.set_cons_succ, i64_w, i32_w]
         rfl
        refine pa_ 5 (some 20) (bm 11 319) rfl rfl HT_.out ?_
        refine pa_ 6 (some 26) (bm 11 383) rfl rfl HT_.out ?_
        refine pa_ 7 (some 27) (bm 11 511) rfl rfl HT_.out ?_
        exact norm_ (by simp only [putAll, Act.put, List.setIfInBounds_toArray, List.set_cons_zero, List.set_cons_succ]) (hCont (gb246) _ ⟨hHeld, (bk_ BK233), (bk_ BK234), (bk_ BK246), GW246.out, GE246.out, NB233_246.out, NB246_233.out, NB234_246.out, NB246_234.out, bg_⟩)
      ·skip
       refine box_step ?hg (N := 6) ?hd (cs := #[.string (⟨#[]⟩ : ByteArray), .string (⟨#[]⟩ : ByteArray), .int .i64 0]) (t := 31) ?hr ?_; (case hd => rfl); (case hg => rfl); (case hr => first | (go_simp; done) | (go_simp; rfl))
       intro gb246 hg w70 hbox hb
       have n0_ := Aside0.mk (blk_below (g := gb233) (o := .cells #[.string a0_0, .string a0_1, .int .i64 a0_2] 36 (0, 0)) (bk_ BK233) hb)
       have n1_ := Aside0.mk (blk_below (g := gb234) (o := .cells #[.string a1_0, .string a1_1] 23 (0, 0)) (bk_ BK234) hb)
       have n2_ := Aside0.mk (below_step bg_ hb)
       have n3_ := Aside0.mk (hbox)
       have n4_ := Aside0.mk ((by rw [hg]; exact (below_size bg_) : w.heap.size ≤ gb246))
       have n5_ := Aside0.mk ((by rw [hg]; exact (below_size bg_) : w.heap.size ≤ gb246))
       have n6_ := Aside0.mk ((by rw [hg]; exact Nat.ne_of_lt (blk_lt (g := gb233) (o := .cells #[.string a0_0, .string a0_1, .int .i64 a0_2] 36 (0, 0)) (bk_ BK233)) : gb233 ≠ gb246))
       have n7_ := Aside0.mk ((by rw [hg]; exact Nat.ne_of_gt (blk_lt (g := gb233) (o := .cells #[.string a0_0, .string a0_1, .int .i64 a0_2] 36 (0, 0)) (bk_ BK233)) : gb246 ≠ gb233))
       have n8_ := Aside0.mk ((by rw [hg]; exact Nat.ne_of_lt (blk_lt (g := gb234) (o := .cells #[.string a1_0, .string a1_1] 23 (0, 0)) (bk_ BK234)) : gb234 ≠ gb246))
       have n9_ := Aside0.mk ((by rw [hg]; exact Nat.ne_of_gt (blk_lt (g := gb234) (o := .cells #[.string a1_0, .string a1_1] 23 (0, 0)) (bk_ BK234)) : gb246 ≠ gb234))
       clear BK233
       clear BK234
       clear HB
       have BK233 := n0_
       have BK234 := n1_
       have HB := n2_
       have BK246 := n3_
       have GW246 := n4_
       have GE246 := n5_
       have NB233_246 := n6_
       have NB246_233 := n7_
       have NB234_246 := n8_
       have NB246_234 := n9_
       clear n0_ n1_ n2_ n3_ n4_ n5_ n6_ n7_ n8_ n9_
       clear hb hbox hg
       refine hK.out _ _ ⟨(blk_cell BK233.out 0).trans rfl, (blk_cell BK233.out 1).trans rfl, (blk_cell BK233.out 2).trans rfl, (blk_cell BK234.out 0).trans rfl, (blk_cell BK234.out 1).trans rfl⟩ (fun hHeld => ?_)
       clear hK K
       refine norm_ (a' := ?_) ?_ ?_
       rotate_left
       ·show Act.put _ (some 6) _ = _
        simp only [Act.put, List.setIfInBounds_toArray, List.set_cons_zero, List.set_cons_succ, i64_w, i32_w]
        rfl
       refine one_ (i := 1) (N := some 22) (bm 11 263) rfl rfl (one_of HT_.out (by kernel_rfl)) (by decide) (fun K hK => ?_)
       refine goes_ Tryd.func21 (by kernel_rfl) rfl #[.agg #[.string a0_0, .string a0_1, .int .i64 a0_2]] (by rfl) rfl rfl (by (try simp only [List.map_toArray, List.map_cons, List.map_nil]); first | done | rfl | (simp only [List.length_drop, List.length_take]; rfl)) ?_
       with_reducible refine (laws_toLog.calls a0_0 a0_1 a0_2 t237 t238 t239 _ A19.out).mono ?_
       rintro e w71 ⟨rfl, hb⟩
       refine ⟨_, rfl, ?_⟩
       have n0_ := Aside0.mk (blk_below (g := gb233) (o := .cells #[.string a0_0, .string a0_1, .int .i64 a0_2] 36 (0, 0)) (bk_ BK233) hb)
       have n1_ := Aside0.mk (blk_below (g := gb234) (o := .cells #[.string a1_0, .string a1_1] 23 (0, 0)) (bk_ BK234) hb)
       have n2_ := Aside0.mk (blk_below (g := gb246) (o := .cells #[.string (⟨#[]⟩ : ByteArray), .string (⟨#[]⟩ : ByteArray), .int .i64 0] 31 (0, 0)) (bk_ BK246) hb)
       have n3_ := Aside0.mk (below_step bg_ hb)
       clear BK233
       clear BK234
       clear BK246
       clear HB
       have BK233 := n0_
       have BK234 := n1_
       have BK246 := n2_
       have HB := n3_
       clear n0_ n1_ n2_ n3_
       (try clear hb)
       (try clear hb2)
       (try clear hk)
       (try clear hi)
       refine hK.out _ _ ⟨(blk_cell BK233.out 0).trans rfl, (blk_cell BK233.out 1).trans rfl, (blk_cell BK233.out 2).trans rfl, (blk_cell BK234.out 0).trans rfl, (blk_cell BK234.out 1).trans rfl⟩ (fun hHeld => ?_)
       clear hK K
       refine norm_ (a' := ?_) ?_ ?_
       rotate_left
       ·show Act.put _ (some 22) _ = _
        simp only [Act.put, List.setIfInBounds_toArray, List.set_cons_zero, List.set_cons_succ, i64_w, i32_w]
        rfl
       refine one_ (i := 3) (N := some 24) (bm 11 271) rfl rfl (one_of HT_.out (by kernel_rfl)) (by decide) (fun K hK => ?_)
       refine goes_ Tryd.func14 (by kernel_rfl) rfl #[.agg #[.string a1_0, .string a1_1]] (by rfl) rfl rfl (by (try simp only [List.map_toArray, List.map_cons, List.map_nil]); first | done | rfl | (simp only [List.length_drop, List.length_take]; rfl)) ?_
       with_reducible refine (laws_toLogRecord.calls a1_0 a1_1 t240 t241 _ A20.out).mono ?_
       rintro e w72 ⟨rfl, hb⟩
       refine ⟨_, rfl, ?_⟩
       have n0_ := Aside0.mk (blk_below (g := gb233) (o := .cells #[.string a0_0, .string a0_1, .int .i64 a0_2] 36 (0, 0)) (bk_ BK233) hb)
       have n1_ := Aside0.mk (blk_below (g := gb234) (o := .cells #[.string a1_0, .string a1_1] 23 (0, 0)) (bk_ BK234) hb)
       have n2_ := Aside0.mk (blk_below (g := gb246) (o := .cells #[.string (⟨#[]⟩ : ByteArray), .string (⟨#[]⟩ : ByteArray), .int .i64 0] 31 (0, 0)) (bk_ BK246) hb)
       have n3_ := Aside0.mk (below_step bg_ hb)
       clear BK233
       clear BK234
       clear BK246
       clear HB
       have BK233 := n0_
       have BK234 := n1_
       have BK246 := n2_
       have HB := n3_
       clear n0_ n1_ n2_ n3_
       (try clear hb)
       (try clear hb2)
       (try clear hk)
       (try clear hi)
       refine hK.out _ _ ⟨(blk_cell BK233.out 0).trans rfl, (blk_cell BK233.out 1).trans rfl, (blk_cell BK233.out 2).trans rfl, (blk_cell BK234.out 0).trans rfl, (blk_cell BK234.out 1).trans rfl⟩ (fun hHeld => ?_)
       clear hK K
       refine norm_ (a' := ?_) ?_ ?_
       rotate_left
       ·show Act.put _ (some 24) _ = _
        simp only [Act.put, List.setIfInBounds_toArray, List.set_cons_zero, List.set_cons_succ, i64_w, i32_w]
        rfl
       refine one_ (i := 4) (N := some 25) (bm 11 287) rfl rfl (one_of HT_.out (by kernel_rfl)) (by decide) (fun K hK => ?_)
       refine goes_ Tryd.func27 (by kernel_rfl) rfl #[.agg #[.string t237, .string t238, .int .i64 t239], .agg #[.string t240, .string t241]] (by rfl) rfl rfl (by (try simp only [List.map_toArray, List.map_cons, List.map_nil]); first | done | rfl | (simp only [List.length_drop, List.length_take]; rfl)) ?_
       with_reducible refine (spec_AppendRecord.calls k t237 t238 t239 t240 t241 t242 t243 t244 t245 _ A21.out).mono ?_
       rintro e w73 ⟨rfl, hb⟩
       refine ⟨_, rfl, ?_⟩
       have n0_ := Aside0.mk (blk_below (g := gb233) (o := .cells #[.string a0_0, .string a0_1, .int .i64 a0_2] 36 (0, 0)) (bk_ BK233) hb)
       have n1_ := Aside0.mk (blk_below (g := gb234) (o := .cells #[.string a1_0, .string a1_1] 23 (0, 0)) (bk_ BK234) hb)
       have n2_ := Aside0.mk (blk_below (g := gb246) (o := .cells #[.string (⟨#[]⟩ : ByteArray), .string (⟨#[]⟩ : ByteArray), .int .i64 0] 31 (0, 0)) (bk_ BK246) hb)
       have n3_ := Aside0.mk (below_step bg_ hb)
       clear BK233
       clear BK234
       clear BK246
       clear HB
       have BK233 := n0_
       have BK234 := n1_
       have BK246 := n2_
       have HB := n3_
       clear n0_ n1_ n2_ n3_
       (try clear hb)
       (try clear hb2)
       (try clear hk)
       (try clear hi)
       refine hK.out _ _ ⟨(blk_cell BK233.out 0).trans rfl, (blk_cell BK233.out 1).trans rfl, (blk_cell BK233.out 2).trans rfl, (blk_cell BK234.out 0).trans rfl, (blk_cell BK234.out 1).trans rfl⟩ (fun hHeld => ?_)
       clear hK K
       refine norm_ (a' := ?_) ?_ ?_
       rotate_left
       ·show Act.put _ (some 25) _ = _
        simp only [Act.put, List.setIfInBounds_toArray, List.set_cons_zero, List.set_cons_succ, i64_w, i32_w]
        rfl
       refine pa_ 5 (some 20) (bm 11 319) rfl rfl HT_.out ?_
       refine pa_ 6 (some 26) (bm 11 383) rfl rfl HT_.out ?_
       refine pa_ 7 (some 27) (bm 11 511) rfl rfl HT_.out ?_
       exact norm_ (by simp only [putAll, Act.put, List.setIfInBounds_toArray, List.set_cons_zero, List.set_cons_succ]) (hCont (gb246) _ ⟨hHeld, (bk_ BK233), (bk_ BK234), (bk_ BK246), GW246.out, GE246.out, NB233_246.out, NB246_233.out, NB234_246.out, NB246_234.out, bg_⟩)
     rintro gb246 w74 ⟨hS_, h0_, h1_, h2_, h3_, h4_, h5_, h6_, h7_, h8_, h9_⟩
     have n0_ : Aside0 (w74.heap[gb233]? = some (.cells #[.string a0_0, .string a0_1, .int .i64 a0_2] 36 (0, 0))) := ⟨h0_⟩
     have n1_ : Aside0 (w74.heap[gb234]? = some (.cells #[.string a1_0, .string a1_1] 23 (0, 0))) := ⟨h1_⟩
     have n2_ : Aside0 (w74.heap[gb246]? = some (.cells #[.string (⟨#[]⟩ : ByteArray), .string (⟨#[]⟩ : ByteArray), .int .i64 0] 31 (0, 0))) := ⟨h2_⟩
     have n3_ : Aside0 (w.heap.size ≤ gb246) := ⟨h3_⟩
     have n4_ : Aside0 (w.heap.size ≤ gb246) := ⟨h4_⟩
     have n5_ : Aside0 (gb233 ≠ gb246) := ⟨h5_⟩
     have n6_ : Aside0 (gb246 ≠ gb233) := ⟨h6_⟩
     have n7_ : Aside0 (gb234 ≠ gb246) := ⟨h7_⟩
     have n8_ : Aside0 (gb246 ≠ gb234) := ⟨h8_⟩
     have n9_ : Aside0 (Below w.heap.size w w74) := ⟨h9_⟩
     clear BK233
     clear BK234
     clear HB
     clear h0_ h1_ h2_ h3_ h4_ h5_ h6_ h7_ h8_ h9_
     have BK233 := n0_
     have BK234 := n1_
     have BK246 := n2_
     have GW246 := n3_
     have GE246 := n4_
     have NB233_246 := n5_
     have NB246_233 := n6_
     have NB234_246 := n7_
     have NB246_234 := n8_
     have HB := n9_
     clear n0_ n1_ n2_ n3_ n4_ n5_ n6_ n7_ n8_ n9_
     have hHeld : w74.cell? ⟨gb233, 0, none⟩ = some (.string a0_0) ∧ w74.cell? ⟨gb233, 1, none⟩ = some (.string a0_1) ∧ w74.cell? ⟨gb233, 2, none⟩ = some (.int .i64 a0_2) ∧ w74.cell? ⟨gb234, 0, none⟩ = some (.string a1_0) ∧ w74.cell? ⟨gb234, 1, none⟩ = some (.string a1_1) := hS_
     refine norm_ (a' := ?_) ?_ ?_
     rotate_left
     ·simp only [putAll, Act.put, List.setIfInBounds_toArray, List.set_cons_zero, List.set_cons_succ]
      rfl
     refine one_ (i := 9) (N := none) (bm 11 1023) rfl rfl (one_of HT_.out (by kernel_rfl)) (by decide) (fun K hK => ?_)
     have hs75 : w74.cell? ⟨gb246, 0, none⟩ = some (.string (⟨#[]⟩ : ByteArray)) := (blk_cell BK246.out 0).trans rfl
     have hfs75 := blk_frozen BK246.out 0
     have hns75_0 := NB233_246.out
     have hns75_1 := NB234_246.out
     have hms75_0 := NB246_233.out
     have hms75_1 := NB246_234.out
     have hs76 : w74.cell? ⟨gb246, 1, none⟩ = some (.string (⟨#[]⟩ : ByteArray)) := (blk_cell BK246.out 1).trans rfl
     have hfs76 := blk_frozen BK246.out 1
     have hns76_0 := NB233_246.out
     have hns76_1 := NB234_246.out
     have hms76_0 := NB246_233.out
     have hms76_1 := NB246_234.out
     have hs77 : w74.cell? ⟨gb246, 2, none⟩ = some (.int .i64 0) := (blk_cell BK246.out 2).trans rfl
     have hfs77 := blk_frozen BK246.out 2
     have hns77_0 := NB233_246.out
     have hns77_1 := NB234_246.out
     have hms77_0 := NB246_233.out
     have hms77_1 := NB246_234.out
     refine skip_ (w1 := ?_) (by rfl) rfl ?_ ?_
     rotate_left
     ·go_simp
      rfl
     refine hK.out _ _ ⟨((cell_far (p := ⟨gb246, _, none⟩) NB233_246.out _).trans (((cell_far (p := ⟨gb246, _, none⟩) NB233_246.out _).trans (((cell_far (p := ⟨gb246, _, none⟩) NB233_246.out _).trans (hHeld.1)))))), ((cell_far (p := ⟨gb246, _, none⟩) NB233_246.out _).trans (((cell_far (p := ⟨gb246, _, none⟩) NB233_246.out _).trans (((cell_far (p := ⟨gb246, _, none⟩) NB233_246.out _).trans (hHeld.2.1)))))), ((cell_far (p := ⟨gb246, _, none⟩) NB233_246.out _).trans (((cell_far (p := ⟨gb246, _, none⟩) NB233_246.out _).trans (((cell_far (p := ⟨gb246, _, none⟩) NB233_246.out _).trans (hHeld.2.2.1)))))), ((cell_far (p := ⟨gb246, _, none⟩) NB234_246.out _).trans (((cell_far (p := ⟨gb246, _, none⟩) NB234_246.out _).trans (((cell_far (p := ⟨gb246, _, none⟩) NB234_246.out _).trans (hHeld.2.2.2.1)))))), ((cell_far (p := ⟨gb246, _, none⟩) NB234_246.out _).trans (((cell_far (p := ⟨gb246, _, none⟩) NB234_246.out _).trans (((cell_far (p := ⟨gb246, _, none⟩) NB234_246.out _).trans (hHeld.2.2.2.2))))))⟩ (fun hHeld => ?_)
     clear hK K
     refine pa_ 10 (some 7) (bm 11 2047) rfl rfl HT_.out ?_
     refine done_ (done_of HT_.out (by kernel_rfl)) ?_
     try go_wp2
     have n0_ : Aside0 ((((w74.setCell ⟨gb246, 0, none⟩ (.string t242)).setCell ⟨gb246, 1, none⟩ (.string t243)).setCell ⟨gb246, 2, none⟩ (.int .i64 t244)).heap[gb233]? = some (.cells #[.string a0_0, .string a0_1, .int .i64 a0_2] 36 (0, 0))) := ⟨by (with_reducible repeat (first | refine blk_drewN ?_ _ | refine blk_drew ?_ | refine blk_alloc ?_ _)); refine blk_far ?_ NB233_246.out _; (with_reducible repeat (first | refine blk_drewN ?_ _ | refine blk_drew ?_ | refine blk_alloc ?_ _)); refine blk_far ?_ NB233_246.out _; (with_reducible repeat (first | refine blk_drewN ?_ _ | refine blk_drew ?_ | refine blk_alloc ?_ _)); refine blk_far ?_ NB233_246.out _; (with_reducible repeat (first | refine blk_drewN ?_ _ | refine blk_drew ?_ | refine blk_alloc ?_ _)); exact BK233.out⟩
     have n1_ : Aside0 ((((w74.setCell ⟨gb246, 0, none⟩ (.string t242)).setCell ⟨gb246, 1, none⟩ (.string t243)).setCell ⟨gb246, 2, none⟩ (.int .i64 t244)).heap[gb234]? = some (.cells #[.string a1_0, .string a1_1] 23 (0, 0))) := ⟨by (with_reducible repeat (first | refine blk_drewN ?_ _ | refine blk_drew ?_ | refine blk_alloc ?_ _)); refine blk_far ?_ NB234_246.out _; (with_reducible repeat (first | refine blk_drewN ?_ _ | refine blk_drew ?_ | refine blk_alloc ?_ _)); refine blk_far ?_ NB234_246.out _; (with_reducible repeat (first | refine blk_drewN ?_ _ | refine blk_drew ?_ | refine blk_alloc ?_ _)); refine blk_far ?_ NB234_246.out _; (with_reducible repeat (first | refine blk_drewN ?_ _ | refine blk_drew ?_ | refine blk_alloc ?_ _)); exact BK234.out⟩
     have n2_ : Aside0 ((((w74.setCell ⟨gb246, 0, none⟩ (.string t242)).setCell ⟨gb246, 1, none⟩ (.string t243)).setCell ⟨gb246, 2, none⟩ (.int .i64 t244)).heap[gb246]? = some (.cells #[.string t242, .string t243, .int .i64 t244] 31 (0, 0))) := ⟨by (with_reducible repeat (first | refine blk_drewN ?_ _ | refine blk_drew ?_ | refine blk_alloc ?_ _)); refine blk_put (cs := #[.string t242, .string t243, .int .i64 0]) ?_ 2 _ rfl; (with_reducible repeat (first | refine blk_drewN ?_ _ | refine blk_drew ?_ | refine blk_alloc ?_ _)); refine blk_put (cs := #[.string t242, .string (⟨#[]⟩ : ByteArray), .int .i64 0]) ?_ 1 _ rfl; (with_reducible repeat (first | refine blk_drewN ?_ _ | refine blk_drew ?_ | refine blk_alloc ?_ _)); refine blk_put (cs := #[.string (⟨#[]⟩ : ByteArray), .string (⟨#[]⟩ : ByteArray), .int .i64 0]) ?_ 0 _ rfl; (with_reducible repeat (first | refine blk_drewN ?_ _ | refine blk_drew ?_ | refine blk_alloc ?_ _)); exact BK246.out⟩
     have n3_ : Aside0 (Below w.heap.size w (((w74.setCell ⟨gb246, 0, none⟩ (.string t242)).setCell ⟨gb246, 1, none⟩ (.string t243)).setCell ⟨gb246, 2, none⟩ (.int .i64 t244))) := ⟨by repeat (first | (with_reducible first | exact HB.out | apply below_alloc | apply pw_below_drewN | apply below_drew1 | refine below_set ?_ GE233.out | refine below_set ?_ GE234.out | refine below_set ?_ GE246.out) | exact HB.out)⟩
     (try clear BK233)
     (try clear BK234)
     (try clear BK246)
     (try clear HB)
     generalize (((w74.setCell ⟨gb246, 0, none⟩ (.string t242)).setCell ⟨gb246, 1, none⟩ (.string t243)).setCell ⟨gb246, 2, none⟩ (.int .i64 t244)) = w78 at n0_ n1_ n2_ n3_ ⊢
     have BK233 := n0_
     have BK234 := n1_
     have BK246 := n2_
     have HB := n3_
     clear n0_ n1_ n2_ n3_
     have n0_ := Aside0.mk (blk_drew BK233.out)
     have n1_ := Aside0.mk (blk_drew BK234.out)
     have n2_ := Aside0.mk (blk_drew BK246.out)
     have n3_ := Aside0.mk (below_drew1 HB.out)
     clear BK233
     clear BK234
     clear BK246
     clear HB
     have BK233 := n0_
     have BK234 := n1_
     have BK246 := n2_
     have HB := n3_
     clear n0_ n1_ n2_ n3_
     refine start_ (n := 11) (S := fun w' => w'.cell? ⟨gb233, 0, none⟩ = some (.string a0_0) ∧ w'.cell? ⟨gb233, 1, none⟩ = some (.string a0_1) ∧ w'.cell? ⟨gb233, 2, none⟩ = some (.int .i64 a0_2) ∧ w'.cell? ⟨gb234, 0, none⟩ = some (.string a1_0) ∧ w'.cell? ⟨gb234, 1, none⟩ = some (.string a1_1)) (ds := []) (bm 11 0) (by kernel_rfl) rfl rfl ⟨(blk_cell BK233.out 0).trans rfl, (blk_cell BK233.out 1).trans rfl, (blk_cell BK233.out 2).trans rfl, (blk_cell BK234.out 0).trans rfl, (blk_cell BK234.out 1).trans rfl⟩ (fun hHeld => ?_); refine with_tabW laws_FnExactAppendRecord.tab9 laws_FnExactAppendRecord.bits9 (fun HT_ HW_ => ?_)
     generalize w78.drew = w79 at BK233 BK234 BK246 HB hHeld ⊢
     refine take_ (i := 0) (N := some 29) (v := ?_) (a' := ?_) (bm 11 1) rfl rfl (take_ofW HT_.out HW_.out (by kernel_rfl)) (fun _ _ _ h => h) (Or.inl ⟨by rfl, ?_⟩) hHeld ?_ ?_
     rotate_left
     ·rintro w' ⟨s0, s1, s2, s3, s4⟩
      go_simp
      with_reducible rfl
     rotate_left
     ·simp only [Act.put, List.setIfInBounds_toArray, List.set_cons_zero, List.set_cons_succ, i64_w, i32_w]
      rfl
     refine take_ (i := 2) (N := some 31) (v := ?_) (a' := ?_) (bm 11 5) rfl rfl (take_ofW HT_.out HW_.out (by kernel_rfl)) (fun _ _ _ h => h) (Or.inl ⟨by rfl, ?_⟩) hHeld ?_ ?_
     rotate_left
     ·rintro w' ⟨s0, s1, s2, s3, s4⟩
      go_simp
      with_reducible rfl
     rotate_left
     ·simp only [Act.put, List.setIfInBounds_toArray, List.set_cons_zero, List.set_cons_succ, i64_w, i32_w]
      rfl
     refine join_ (σ := Nat) 2 (bm 11 511) (fun s_ => [(30, .agg #[.string t247, .string t248, .int .i64 t249]), (32, .agg #[.string t250, .string t251]), (33, .tuple #[.agg #[.string t252, .string t253, .int .i64 t254], .int .i64 t255]), (8, .pointer (some ⟨s_, 0, none⟩)), (28, .tuple #[.agg #[.string t252, .string t253, .int .i64 t254], .int .i64 t255]), (34, .agg #[.string t252, .string t253, .int .i64 t254]), (35, .int .i64 t255)]) (fun s_ w' => (w'.cell? ⟨gb233, 0, none⟩ = some (.string a0_0) ∧ w'.cell? ⟨gb233, 1, none⟩ = some (.string a0_1) ∧ w'.cell? ⟨gb233, 2, none⟩ = some (.int .i64 a0_2) ∧ w'.cell? ⟨gb234, 0, none⟩ = some (.string a1_0) ∧ w'.cell? ⟨gb234, 1, none⟩ = some (.string a1_1)) ∧ (w'.heap[gb233]? = some (.cells #[.string a0_0, .string a0_1, .int .i64 a0_2] 36 (0, 0))) ∧ (w'.heap[gb234]? = some (.cells #[.string a1_0, .string a1_1] 23 (0, 0))) ∧ (w'.heap[gb246]? = some (.cells #[.string t242, .string t243, .int .i64 t244] 31 (0, 0))) ∧ (w'.heap[s_]? = some (.cells #[.string (⟨#[]⟩ : ByteArray), .string (⟨#[]⟩ : ByteArray), .int .i64 0] 31 (0, 0))) ∧ (w.heap.size ≤ s_) ∧ (w.heap.size ≤ s_) ∧ (gb233 ≠ s_) ∧ (s_ ≠ gb233) ∧ (gb234 ≠ s_) ∧ (s_ ≠ gb234) ∧ (gb246 ≠ s_) ∧ (s_ ≠ gb246) ∧ (Below w.heap.size w w')) ?_ ?_
     rotate_left
     ·intro hCont
      refine two_ (i := 1) (j := 8) (Ni := some 30) (Nj := some 8) (bm 11 7) (bm 11 261) rfl rfl rfl rfl (two_of HT_.out (by kernel_rfl)) (by decide) (by decide) (fun K hK => ?_) (fun K hK => ?_)
      ·skip
       refine goes_ Tryd.func21 (by kernel_rfl) rfl #[.agg #[.string a0_0, .string a0_1, .int .i64 a0_2]] (by rfl) rfl rfl (by (try simp only [List.map_toArray, List.map_cons, List.map_nil]); first | done | rfl | (simp only [List.length_drop, List.length_take]; rfl)) ?_
       with_reducible refine (laws_toLog.calls a0_0 a0_1 a0_2 t247 t248 t249 _ A22.out).mono ?_
       rintro e w80 ⟨rfl, hb⟩
       refine ⟨_, rfl, ?_⟩
       have n0_ := Aside0.mk (blk_below (g := gb233) (o := .cells #[.string a0_0, .string a0_1, .int .i64 a0_2] 36 (0, 0)) (bk_ BK233) hb)
       have n1_ := Aside0.mk (blk_below (g := gb234) (o := .cells #[.string a1_0, .string a1_1] 23 (0, 0)) (bk_ BK234) hb)
       have n2_ := Aside0.mk (blk_below (g := gb246) (o := .cells #[.string t242, .string t243, .int .i64 t244] 31 (0, 0)) (bk_ BK246) hb)
       have n3_ := Aside0.mk (below_step bg_ hb)
       clear BK233
       clear BK234
       clear BK246
       clear HB
       have BK233 := n0_
       have BK234 := n1_
       have BK246 := n2_
       have HB := n3_
       clear n0_ n1_ n2_ n3_
       (try clear hb)
       (try clear hb2)
       (try clear hk)
       (try clear hi)
       refine hK.out _ _ ⟨(blk_cell BK233.out 0).trans rfl, (blk_cell BK233.out 1).trans rfl, (blk_cell BK233.out 2).trans rfl, (blk_cell BK234.out 0).trans rfl, (blk_cell BK234.out 1).trans rfl⟩ (fun hHeld => ?_)
       clear hK K
       refine norm_ (a' := ?_) ?_ ?_
       rotate_left
       ·show Act.put _ (some 30) _ = _
        simp only [Act.put, List.setIfInBounds_toArray, List.set_cons_zero, List.set_cons_succ, i64_w, i32_w]
        rfl
       refine two_ (i := 3) (j := 8) (Ni := some 32) (Nj := some 8) (bm 11 15) (bm 11 263) rfl rfl rfl rfl (two_of HT_.out (by kernel_rfl)) (by decide) (by decide) (fun K hK => ?_) (fun K hK => ?_)
       ·skip
        refine goes_ Tryd.func14 (by kernel_rfl) rfl #[.agg #[.string a1_0, .string a1_1]] (by rfl) rfl rfl (by (try simp only [List.map_toArray, List.map_cons, List.map_nil]); first | done | rfl | (simp only [List.length_drop, List.length_take]; rfl)) ?_
        with_reducible refine (laws_toLogRecord.calls a1_0 a1_1 t250 t251 _ A23.out).mono ?_
        rintro e w81 ⟨rfl, hb⟩
        refine ⟨_, rfl, ?_⟩
        have n0_ := Aside0.mk (blk_below (g := gb233) (o := .cells #[.string a0_0, .string a0_1, .int .i64 a0_2] 36 (0, 0)) (bk_ BK233) hb)
        have n1_ := Aside0.mk (blk_below (g := gb234) (o := .cells #[.string a1_0, .string a1_1] 23 (0, 0)) (bk_ BK234) hb)
        have n2_ := Aside0.mk (blk_below (g := gb246) (o := .cells #[.string t242, .string t243, .int .i64 t244] 31 (0, 0)) (bk_ BK246) hb)
        have n3_ := Aside0.mk (below_step bg_ hb)
        clear BK233
        clear BK234
        clear BK246
        clear HB
        have BK233 := n0_
        have BK234 := n1_
        have BK246 := n2_
        have HB := n3_
        clear n0_ n1_ n2_ n3_
        (try clear hb)
        (try clear hb2)
        (try clear hk)
        (try clear hi)
        refine hK.out _ _ ⟨(blk_cell BK233.out 0).trans rfl, (blk_cell BK233.out 1).trans rfl, (blk_cell BK233.out 2).trans rfl, (blk_cell BK234.out 0).trans rfl, (blk_cell BK234.out 1).trans rfl⟩ (fun hHeld => ?_)
        clear hK K
        refine norm_ (a' := ?_) ?_ ?_
        rotate_left
        ·show Act.put _ (some 32) _ = _
         simp only [Act.put, List.setIfInBounds_toArray, List.set_cons_zero, List.set_cons_succ, i64_w, i32_w]
         rfl
        refine two_ (i := 4) (j := 8) (Ni := some 33) (Nj := some 8) (bm 11 31) (bm 11 271) rfl rfl rfl rfl (two_of HT_.out (by kernel_rfl)) (by decide) (by decide) (fun K hK => ?_) (fun K hK => ?_)
        ·skip
         refine goes_ Tryd.func28 (by kernel_rfl) rfl #[.agg #[.string t247, .string t248, .int .i64 t249], .agg #[.string t250, .string t251]] (by rfl) rfl rfl (by (try simp only [List.map_toArray, List.map_cons, List.map_nil]); first | done | rfl | (simp only [List.length_drop, List.length_take]; rfl)) ?_
         with_reducible refine (impl_AppendRecord.calls k t247 t248 t249 t250 t251 t252 t253 t254 t255 _ ?side1 A24.out).mono ?_
         (case side1 => exact EnvW.below HENV.out bg_)
         rintro e w82 ⟨rfl, hb⟩
         refine ⟨_, rfl, ?_⟩
         have n0_ := Aside0.mk (blk_below (g := gb233) (o := .cells #[.string a0_0, .string a0_1, .int .i64 a0_2] 36 (0, 0)) (bk_ BK233) hb)
         have n1_ := Aside0.mk (blk_below (g := gb234) (o := .cells #[.string a1_0, .string a1_1] 23 (0, 0)) (bk_ BK234) hb)
         have n2_ := Aside0.mk (blk_below (g := gb246) (o := .cells #[.string t242, .string t243, .int .i64 t244] 31 (0, 0)) (bk_ BK246) hb)
         have n3_ := Aside0.mk (below_step bg_ hb)
         clear BK233
         clear BK234
         clear BK246
         clear HB
         have BK233 := n0_
         have BK234 := n1_
         have BK246 := n2_
         have HB := n3_
         clear n0_ n1_ n2_ n3_
         (try clear hb)
         (try clear hb2)
         (try clear hk)
         (try clear hi)
         refine hK.out _ _ ⟨(blk_cell BK233.out 0).trans rfl, (blk_cell BK233.out 1).trans rfl, (blk_cell BK233.out 2).trans rfl, (blk_cell BK234.out 0).trans rfl, (blk_cell BK234.out 1).trans rfl⟩ (fun hHeld => ?_)
         clear hK K
         refine norm_ (a' := ?_) ?_ ?_
         rotate_left
         ·show Act.put _ (some 33) _ = _
          simp only [Act.put, List.setIfInBounds_toArray, List.set_cons_zero, List.set_cons_succ, i64_w, i32_w]
          rfl
         refine pa_ 5 (some 28) (bm 11 63) rfl rfl HT_.out ?_
         refine pa_ 6 (some 34) (bm 11 127) rfl rfl HT_.out ?_
         refine pa_ 7 (some 35) (bm 11 255) rfl rfl HT_.out ?_
         refine one_ (i := 8) (N := some 8) (bm 11 511) rfl rfl (one_of HT_.out (by kernel_rfl)) (by decide) (fun K hK => ?_)
         refine box_step ?hg (N := 8) ?hd (cs := #[.string (⟨#[]⟩ : ByteArray), .string (⟨#[]⟩ : ByteArray), .int .i64 0]) (t := 31) ?hr ?_; (case hd => rfl); (case hg => rfl); (case hr => first | (go_simp; done) | (go_simp; rfl))
         intro gb256 hg w83 hbox hb
         have n0_ := Aside0.mk (blk_below (g := gb233) (o := .cells #[.string a0_0, .string a0_1, .int .i64 a0_2] 36 (0, 0)) (bk_ BK233) hb)
         have n1_ := Aside0.mk (blk_below (g := gb234) (o := .cells #[.string a1_0, .string a1_1] 23 (0, 0)) (bk_ BK234) hb)
         have n2_ := Aside0.mk (blk_below (g := gb246) (o := .cells #[.string t242, .string t243, .int .i64 t244] 31 (0, 0)) (bk_ BK246) hb)
         have n3_ := Aside0.mk (below_step bg_ hb)
         have n4_ := Aside0.mk (hbox)
         have n5_ := Aside0.mk ((by rw [hg]; exact (below_size bg_) : w.heap.size ≤ gb256))
         have n6_ := Aside0.mk ((by rw [hg]; exact (below_size bg_) : w.heap.size ≤ gb256))
         have n7_ := Aside0.mk ((by rw [hg]; exact Nat.ne_of_lt (blk_lt (g := gb233) (o := .cells #[.string a0_0, .string a0_1, .int .i64 a0_2] 36 (0, 0)) (bk_ BK233)) : gb233 ≠ gb256))
         have n8_ := Aside0.mk ((by rw [hg]; exact Nat.ne_of_gt (blk_lt (g := gb233) (o := .cells #[.string a0_0, .string a0_1, .int .i64 a0_2] 36 (0, 0)) (bk_ BK233)) : gb256 ≠ gb233))
         have n9_ := Aside0.mk ((by rw [hg]; exact Nat.ne_of_lt (blk_lt (g := gb234) (o := .cells #[.string a1_0, .string a1_1] 23 (0, 0)) (bk_ BK234)) : gb234 ≠ gb256))
         have n10_ := Aside0.mk ((by rw [hg]; exact Nat.ne_of_gt (blk_lt (g := gb234) (o := .cells #[.string a1_0, .string a1_1] 23 (0, 0)) (bk_ BK234)) : gb256 ≠ gb234))
         have n11_ := Aside0.mk ((by rw [hg]; exact Nat.ne_of_lt (blk_lt (g := gb246) (o := .cells #[.string t242, .string t243, .int .i64 t244] 31 (0, 0)) (bk_ BK246)) : gb246 ≠ gb256))
         have n12_ := Aside0.mk ((by rw [hg]; exact Nat.ne_of_gt (blk_lt (g := gb246) (o := .cells #[.string t242, .string t243, .int .i64 t244] 31 (0, 0)) (bk_ BK246)) : gb256 ≠ gb246))
         clear BK233
         clear BK234
         clear BK246
         clear HB
         have BK233 := n0_
         have BK234 := n1_
         have BK246 := n2_
         have HB := n3_
         have BK256 := n4_
         have GW256 := n5_
         have GE256 := n6_
         have NB233_256 := n7_
         have NB256_233 := n8_
         have NB234_256 := n9_
         have NB256_234 := n10_
         have NB246_256 := n11_
         have NB256_246 := n12_
         clear n0_ n1_ n2_ n3_ n4_ n5_ n6_ n7_ n8_ n9_ n10_ n11_ n12_
         clear hb hbox hg
         refine hK.out _ _ ⟨(blk_cell BK233.out 0).trans rfl, (blk_cell BK233.out 1).trans rfl, (blk_cell BK233.out 2).trans rfl, (blk_cell BK234.out 0).trans rfl, (blk_cell BK234.out 1).trans rfl⟩ (fun hHeld => ?_)
         clear hK K
         refine norm_ (a' := ?_) ?_ ?_
         rotate_left
         ·show Act.put _ (some 8) _ = _
          simp only [Act.put, List.setIfInBounds_toArray, List.set_cons_zero, List.set_cons_succ, i64_w, i32_w]
          rfl
         exact norm_ (by simp only [putAll, Act.put, List.setIfInBounds_toArray, List.set_cons_zero, List.set_cons_succ]) (hCont (gb256) _ ⟨hHeld, (bk_ BK233), (bk_ BK234), (bk_ BK246), (bk_ BK256), GW256.out, GE256.out, NB233_256.out, NB256_233.out, NB234_256.out, NB256_234.out, NB246_256.out, NB256_246.out, bg_⟩)
        ·skip
         refine box_step ?hg (N := 8) ?hd (cs := #[.string (⟨#[]⟩ : ByteArray), .string (⟨#[]⟩ : ByteArray), .int .i64 0]) (t := 31) ?hr ?_; (case hd => rfl); (case hg => rfl); (case hr => first | (go_simp; done) | (go_simp; rfl))
         intro gb256 hg w82 hbox hb
         have n0_ := Aside0.mk (blk_below (g := gb233) (o := .cells #[.string a0_0, .string a0_1, .int .i64 a0_2] 36 (0, 0)) (bk_ BK233) hb)
         have n1_ := Aside0.mk (blk_below (g := gb234) (o := .cells #[.string a1_0, .string a1_1] 23 (0, 0)) (bk_ BK234) hb)
         have n2_ := Aside0.mk (blk_below (g := gb246) (o := .cells #[.string t242, .string t243, .int .i64 t244] 31 (0, 0)) (bk_ BK246) hb)
         have n3_ := Aside0.mk (below_step bg_ hb)
         have n4_ := Aside0.mk (hbox)
         have n5_ := Aside0.mk ((by rw [hg]; exact (below_size bg_) : w.heap.size ≤ gb256))
         have n6_ := Aside0.mk ((by rw [hg]; exact (below_size bg_) : w.heap.size ≤ gb256))
         have n7_ := Aside0.mk ((by rw [hg]; exact Nat.ne_of_lt (blk_lt (g := gb233) (o := .cells #[.string a0_0, .string a0_1, .int .i64 a0_2] 36 (0, 0)) (bk_ BK233)) : gb233 ≠ gb256))
         have n8_ := Aside0.mk ((by rw [hg]; exact Nat.ne_of_gt (blk_lt (g := gb233) (o := .cells #[.string a0_0, .string a0_1, .int .i64 a0_2] 36 (0, 0)) (bk_ BK233)) : gb256 ≠ gb233))
         have n9_ := Aside0.mk ((by rw [hg]; exact Nat.ne_of_lt (blk_lt (g := gb234) (o := .cells #[.string a1_0, .string a1_1] 23 (0, 0)) (bk_ BK234)) : gb234 ≠ gb256))
         have n10_ := Aside0.mk ((by rw [hg]; exact Nat.ne_of_gt (blk_lt (g := gb234) (o := .cells #[.string a1_0, .string a1_1] 23 (0, 0)) (bk_ BK234)) : gb256 ≠ gb234))
         have n11_ := Aside0.mk ((by rw [hg]; exact Nat.ne_of_lt (blk_lt (g := gb246) (o := .cells #[.string t242, .string t243, .int .i64 t244] 31 (0, 0)) (bk_ BK246)) : gb246 ≠ gb256))
         have n12_ := Aside0.mk ((by rw [hg]; exact Nat.ne_of_gt (blk_lt (g := gb246) (o := .cells #[.string t242, .string t243, .int .i64 t244] 31 (0, 0)) (bk_ BK246)) : gb256 ≠ gb246))
         clear BK233
         clear BK234
         clear BK246
         clear HB
         have BK233 := n0_
         have BK234 := n1_
         have BK246 := n2_
         have HB := n3_
         have BK256 := n4_
         have GW256 := n5_
         have GE256 := n6_
         have NB233_256 := n7_
         have NB256_233 := n8_
         have NB234_256 := n9_
         have NB256_234 := n10_
         have NB246_256 := n11_
         have NB256_246 := n12_
         clear n0_ n1_ n2_ n3_ n4_ n5_ n6_ n7_ n8_ n9_ n10_ n11_ n12_
         clear hb hbox hg
         refine hK.out _ _ ⟨(blk_cell BK233.out 0).trans rfl, (blk_cell BK233.out 1).trans rfl, (blk_cell BK233.out 2).trans rfl, (blk_cell BK234.out 0).trans rfl, (blk_cell BK234.out 1).trans rfl⟩ (fun hHeld => ?_)
         clear hK K
         refine norm_ (a' := ?_) ?_ ?_
         rotate_left
         ·show Act.put _ (some 8) _ = _
          simp only [Act.put, List.setIfInBounds_toArray, List.set_cons_zero, List.set_cons_succ, i64_w, i32_w]
          rfl
         refine one_ (i := 4) (N := some 33) (bm 11 287) rfl rfl (one_of HT_.out (by kernel_rfl)) (by decide) (fun K hK => ?_)
         refine goes_ Tryd.func28 (by kernel_rfl) rfl #[.agg #[.string t247, .string t248, .int .i64 t249], .agg #[.string t250, .string t251]] (by rfl) rfl rfl (by (try simp only [List.map_toArray, List.map_cons, List.map_nil]); first | done | rfl | (simp only [List.length_drop, List.length_take]; rfl)) ?_
         with_reducible refine (impl_AppendRecord.calls k t247 t248 t249 t250 t251 t252 t253 t254 t255 _ ?side1 A24.out).mono ?_
         (case side1 => exact EnvW.below HENV.out bg_)
         rintro e w83 ⟨rfl, hb⟩
         refine ⟨_, rfl, ?_⟩
         have n0_ := Aside0.mk (blk_below (g := gb233) (o := .cells #[.string a0_0, .string a0_1, .int .i64 a0_2] 36 (0, 0)) (bk_ BK233) hb)
         have n1_ := Aside0.mk (blk_below (g := gb234) (o := .cells #[.string a1_0, .string a1_1] 23 (0, 0)) (bk_ BK234) hb)
         have n2_ := Aside0.mk (blk_below (g := gb246) (o := .cells #[.string t242, .string t243, .int .i64 t244] 31 (0, 0)) (bk_ BK246) hb)
         have n3_ := Aside0.mk (blk_below (g := gb256) (o := .cells #[.string (⟨#[]⟩ : ByteArray), .string (⟨#[]⟩ : ByteArray), .int .i64 0] 31 (0, 0)) (bk_ BK256) hb)
         have n4_ := Aside0.mk (below_step bg_ hb)
         clear BK233
         clear BK234
         clear BK246
         clear BK256
         clear HB
         have BK233 := n0_
         have BK234 := n1_
         have BK246 := n2_
         have BK256 := n3_
         have HB := n4_
         clear n0_ n1_ n2_ n3_ n4_
         (try clear hb)
         (try clear hb2)
         (try clear hk)
         (try clear hi)
         refine hK.out _ _ ⟨(blk_cell BK233.out 0).trans rfl, (blk_cell BK233.out 1).trans rfl, (blk_cell BK233.out 2).trans rfl, (blk_cell BK234.out 0).trans rfl, (blk_cell BK234.out 1).trans rfl⟩ (fun hHeld => ?_)
         clear hK K
         refine norm_ (a' := ?_) ?_ ?_
         rotate_left
         ·show Act.put _ (some 33) _ = _
          simp only [Act.put, List.setIfInBounds_toArray, List.set_cons_zero, List.set_cons_succ, i64_w, i32_w]
          rfl
         refine pa_ 5 (some 28) (bm 11 319) rfl rfl HT_.out ?_
         refine pa_ 6 (some 34) (bm 11 383) rfl rfl HT_.out ?_
         refine pa_ 7 (some 35) (bm 11 511) rfl rfl HT_.out ?_
         exact norm_ (by simp only [putAll, Act.put, List.setIfInBounds_toArray, List.set_cons_zero, List.set_cons_succ]) (hCont (gb256) _ ⟨hHeld, (bk_ BK233), (bk_ BK234), (bk_ BK246), (bk_ BK256), GW256.out, GE256.out, NB233_256.out, NB256_233.out, NB234_256.out, NB256_234.out, NB246_256.out, NB256_246.out, bg_⟩)
       ·skip
        refine box_step ?hg (N := 8) ?hd (cs := #[.string (⟨#[]⟩ : ByteArray), .string (⟨#[]⟩ : ByteArray), .int .i64 0]) (t := 31) ?hr ?_; (case hd => rfl); (case hg => rfl); (case hr => first | (go_simp; done) | (go_simp; rfl))
        intro gb256 hg w81 hbox hb
        have n0_ := Aside0.mk (blk_below (g := gb233) (o := .cells #[.string a0_0, .string a0_1, .int .i64 a0_2] 36 (0, 0)) (bk_ BK233) hb)
        have n1_ := Aside0.mk (blk_below (g := gb234) (o := .cells #[.string a1_0, .string a1_1] 23 (0, 0)) (bk_ BK234) hb)
        have n2_ := Aside0.mk (blk_below (g := gb246) (o := .cells #[.string t242, .string t243, .int .i64 t244] 31 (0, 0)) (bk_ BK246) hb)
        have n3_ := Aside0.mk (below_step bg_ hb)
        have n4_ := Aside0.mk (hbox)
        have n5_ := Aside0.mk ((by rw [hg]; exact (below_size bg_) : w.heap.size ≤ gb256))
        have n6_ := Aside0.mk ((by rw [hg]; exact (below_size bg_) : w.heap.size ≤ gb256))
        have n7_ := Aside0.mk ((by rw [hg]; exact Nat.ne_of_lt (blk_lt (g := gb233) (o := .cells #[.string a0_0, .string a0_1, .int .i64 a0_2] 36 (0, 0)) (bk_ BK233)) : gb233 ≠ gb256))
        have n8_ := Aside0.mk ((by rw [hg]; exact Nat.ne_of_gt (blk_lt (g := gb233) (o := .cells #[.string a0_0, .string a0_1, .int .i64 a0_2] 36 (0, 0)) (bk_ BK233)) : gb256 ≠ gb233))
        have n9_ := Aside0.mk ((by rw [hg]; exact Nat.ne_of_lt (blk_lt (g := gb234) (o := .cells #[.string a1_0, .string a1_1] 23 (0, 0)) (bk_ BK234)) : gb234 ≠ gb256))
        have n10_ := Aside0.mk ((by rw [hg]; exact Nat.ne_of_gt (blk_lt (g := gb234) (o := .cells #[.string a1_0, .string a1_1] 23 (0, 0)) (bk_ BK234)) : gb256 ≠ gb234))
        have n11_ := Aside0.mk ((by rw [hg]; exact Nat.ne_of_lt (blk_lt (g := gb246) (o := .cells #[.string t242, .string t243, .int .i64 t244] 31 (0, 0)) (bk_ BK246)) : gb246 ≠ gb256))
        have n12_ := Aside0.mk ((by rw [hg]; exact Nat.ne_of_gt (blk_lt (g := gb246) (o := .cells #[.string t242, .string t243, .int .i64 t244] 31 (0, 0)) (bk_ BK246)) : gb256 ≠ gb246))
        clear BK233
        clear BK234
        clear BK246
        clear HB
        have BK233 := n0_
        have BK234 := n1_
        have BK246 := n2_
        have HB := n3_
        have BK256 := n4_
        have GW256 := n5_
        have GE256 := n6_
        have NB233_256 := n7_
        have NB256_233 := n8_
        have NB234_256 := n9_
        have NB256_234 := n10_
        have NB246_256 := n11_
        have NB256_246 := n12_
        clear n0_ n1_ n2_ n3_ n4_ n5_ n6_ n7_ n8_ n9_ n10_ n11_ n12_
        clear hb hbox hg
        refine hK.out _ _ ⟨(blk_cell BK233.out 0).trans rfl, (blk_cell BK233.out 1).trans rfl, (blk_cell BK233.out 2).trans rfl, (blk_cell BK234.out 0).trans rfl, (blk_cell BK234.out 1).trans rfl⟩ (fun hHeld => ?_)
        clear hK K
        refine norm_ (a' := ?_) ?_ ?_
        rotate_left
        ·show Act.put _ (some 8) _ = _
         simp only [Act.put, List.setIfInBounds_toArray, List.set_cons_zero, List.set_cons_succ, i64_w, i32_w]
         rfl
        refine one_ (i := 3) (N := some 32) (bm 11 271) rfl rfl (one_of HT_.out (by kernel_rfl)) (by decide) (fun K hK => ?_)
        refine goes_ Tryd.func14 (by kernel_rfl) rfl #[.agg #[.string a1_0, .string a1_1]] (by rfl) rfl rfl (by (try simp only [List.map_toArray, List.map_cons, List.map_nil]); first | done | rfl | (simp only [List.length_drop, List.length_take]; rfl)) ?_
        with_reducible refine (laws_toLogRecord.calls a1_0 a1_1 t250 t251 _ A23.out).mono ?_
        rintro e w82 ⟨rfl, hb⟩
        refine ⟨_, rfl, ?_⟩
        have n0_ := Aside0.mk (blk_below (g := gb233) (o := .cells #[.string a0_0, .string a0_1, .int .i64 a0_2] 36 (0, 0)) (bk_ BK233) hb)
        have n1_ := Aside0.mk (blk_below (g := gb234) (o := .cells #[.string a1_0, .string a1_1] 23 (0, 0)) (bk_ BK234) hb)
        have n2_ := Aside0.mk (blk_below (g := gb246) (o := .cells #[.string t242, .string t243, .int .i64 t244] 31 (0, 0)) (bk_ BK246) hb)
        have n3_ := Aside0.mk (blk_below (g := gb256) (o := .cells #[.string (⟨#[]⟩ : ByteArray), .string (⟨#[]⟩ : ByteArray), .int .i64 0] 31 (0, 0)) (bk_ BK256) hb)
        have n4_ := Aside0.mk (below_step bg_ hb)
        clear BK233
        clear BK234
        clear BK246
        clear BK256
        clear HB
        have BK233 := n0_
        have BK234 := n1_
        have BK246 := n2_
        have BK256 := n3_
        have HB := n4_
        clear n0_ n1_ n2_ n3_ n4_
        (try clear hb)
        (try clear hb2)
        (try clear hk)
        (try clear hi)
        refine hK.out _ _ ⟨(blk_cell BK233.out 0).trans rfl, (blk_cell BK233.out 1).trans rfl, (blk_cell BK233.out 2).trans rfl, (blk_cell BK234.out 0).trans rfl, (blk_cell BK234.out 1).trans rfl⟩ (fun hHeld => ?_)
        clear hK K
        refine norm_ (a' := ?_) ?_ ?_
        rotate_left
        ·show Act.put _ (some 32) _ = _
         simp only [Act.put, List.setIfInBounds_toArray, List.set_cons_zero, List.set_cons_succ, i64_w, i32_w]
         rfl
        refine one_ (i := 4) (N := some 33) (bm 11 287) rfl rfl (one_of HT_.out (by kernel_rfl)) (by decide) (fun K hK => ?_)
        refine goes_ Tryd.func28 (by kernel_rfl) rfl #[.agg #[.string t247, .string t248, .int .i64 t249], .agg #[.string t250, .string t251]] (by rfl) rfl rfl (by (try simp only [List.map_toArray, List.map_cons, List.map_nil]); first | done | rfl | (simp only [List.length_drop, List.length_take]; rfl)) ?_
        with_reducible refine (impl_AppendRecord.calls k t247 t248 t249 t250 t251 t252 t253 t254 t255 _ ?side1 A24.out).mono ?_
        (case side1 => exact EnvW.below HENV.out bg_)
        rintro e w83 ⟨rfl, hb⟩
        refine ⟨_, rfl, ?_⟩
        have n0_ := Aside0.mk (blk_below (g := gb233) (o := .cells #[.string a0_0, .string a0_1, .int .i64 a0_2] 36 (0, 0)) (bk_ BK233) hb)
        have n1_ := Aside0.mk (blk_below (g := gb234) (o := .cells #[.string a1_0, .string a1_1] 23 (0, 0)) (bk_ BK234) hb)
        have n2_ := Aside0.mk (blk_below (g := gb246) (o := .cells #[.string t242, .string t243, .int .i64 t244] 31 (0, 0)) (bk_ BK246) hb)
        have n3_ := Aside0.mk (blk_below (g := gb256) (o := .cells #[.string (⟨#[]⟩ : ByteArray), .string (⟨#[]⟩ : ByteArray), .int .i64 0] 31 (0, 0)) (bk_ BK256) hb)
        have n4_ := Aside0.mk (below_step bg_ hb)
        clear BK233
        clear BK234
        clear BK246
        clear BK256
        clear HB
        have BK233 := n0_
        have BK234 := n1_
        have BK246 := n2_
        have BK256 := n3_
        have HB := n4_
        clear n0_ n1_ n2_ n3_ n4_
        (try clear hb)
        (try clear hb2)
        (try clear hk)
        (try clear hi)
        refine hK.out _ _ ⟨(blk_cell BK233.out 0).trans rfl, (blk_cell BK233.out 1).trans rfl, (blk_cell BK233.out 2).trans rfl, (blk_cell BK234.out 0).trans rfl, (blk_cell BK234.out 1).trans rfl⟩ (fun hHeld => ?_)
        clear hK K
        refine norm_ (a' := ?_) ?_ ?_
        rotate_left
        ·show Act.put _ (some 33) _ = _
         simp only [Act.put, List.setIfInBounds_toArray, List.set_cons_zero, List.set_cons_succ, i64_w, i32_w]
         rfl
        refine pa_ 5 (some 28) (bm 11 319) rfl rfl HT_.out ?_
        refine pa_ 6 (some 34) (bm 11 383) rfl rfl HT_.out ?_
        refine pa_ 7 (some 35) (bm 11 511) rfl rfl HT_.out ?_
        exact norm_ (by simp only [putAll, Act.put, List.setIfInBounds_toArray, List.set_cons_zero, List.set_cons_succ]) (hCont (gb256) _ ⟨hHeld, (bk_ BK233), (bk_ BK234), (bk_ BK246), (bk_ BK256), GW256.out, GE256.out, NB233_256.out, NB256_233.out, NB234_256.out, NB256_234.out, NB246_256.out, NB256_246.out, bg_⟩)
      ·skip
       refine box_step ?hg (N := 8) ?hd (cs := #[.string (⟨#[]⟩ : ByteArray), .string (⟨#[]⟩ : ByteArray), .int .i64 0]) (t := 31) ?hr ?_; (case hd => rfl); (case hg => rfl); (case hr => first | (go_simp; done) | (go_simp; rfl))
       intro gb256 hg w80 hbox hb
       have n0_ := Aside0.mk (blk_below (g := gb233) (o := .cells #[.string a0_0, .string a0_1, .int .i64 a0_2] 36 (0, 0)) (bk_ BK233) hb)
       have n1_ := Aside0.mk (blk_below (g := gb234) (o := .cells #[.string a1_0, .string a1_1] 23 (0, 0)) (bk_ BK234) hb)
       have n2_ := Aside0.mk (blk_below (g := gb246) (o := .cells #[.string t242, .string t243, .int .i64 t244] 31 (0, 0)) (bk_ BK246) hb)
       have n3_ := Aside0.mk (below_step bg_ hb)
       have n4_ := Aside0.mk (hbox)
       have n5_ := Aside0.mk ((by rw [hg]; exact (below_size bg_) : w.heap.size ≤ gb256))
       have n6_ := Aside0.mk ((by rw [hg]; exact (below_size bg_) : w.heap.size ≤ gb256))
       have n7_ := Aside0.mk ((by rw [hg]; exact Nat.ne_of_lt (blk_lt (g := gb233) (o := .cells #[.string a0_0, .string a0_1, .int .i64 a0_2] 36 (0, 0)) (bk_ BK233)) : gb233 ≠ gb256))
       have n8_ := Aside0.mk ((by rw [hg]; exact Nat.ne_of_gt (blk_lt (g := gb233) (o := .cells #[.string a0_0, .string a0_1, .int .i64 a0_2] 36 (0, 0)) (bk_ BK233)) : gb256 ≠ gb233))
       have n9_ := Aside0.mk ((by rw [hg]; exact Nat.ne_of_lt (blk_lt (g := gb234) (o := .cells #[.string a1_0, .string a1_1] 23 (0, 0)) (bk_ BK234)) : gb234 ≠ gb256))
       have n10_ := Aside0.mk ((by rw [hg]; exact Nat.ne_of_gt (blk_lt (g := gb234) (o := .cells #[.string a1_0, .string a1_1] 23 (0, 0)) (bk_ BK234)) : gb256 ≠ gb234))
       have n11_ := Aside0.mk ((by rw [hg]; exact Nat.ne_of_lt (blk_lt (g := gb246) (o := .cells #[.string t242, .string t243, .int .i64 t244] 31 (0, 0)) (bk_ BK246)) : gb246 ≠ gb256))
       have n12_ := Aside0.mk ((by rw [hg]; exact Nat.ne_of_gt (blk_lt (g := gb246) (o := .cells #[.string t242, .string t243, .int .i64 t244] 31 (0, 0)) (bk_ BK246)) : gb256 ≠ gb246))
       clear BK233
       clear BK234
       clear BK246
       clear HB
       have BK233 := n0_
       have BK234 := n1_
       have BK246 := n2_
       have HB := n3_
       have BK256 := n4_
       have GW256 := n5_
       have GE256 := n6_
       have NB233_256 := n7_
       have NB256_233 := n8_
       have NB234_256 := n9_
       have NB256_234 := n10_
       have NB246_256 := n11_
       have NB256_246 := n12_
       clear n0_ n1_ n2_ n3_ n4_ n5_ n6_ n7_ n8_ n9_ n10_ n11_ n12_
       clear hb hbox hg
       refine hK.out _ _ ⟨(blk_cell BK233.out 0).trans rfl, (blk_cell BK233.out 1).trans rfl, (blk_cell BK233.out 2).trans rfl, (blk_cell BK234.out 0).trans rfl, (blk_cell BK234.out 1).trans rfl⟩ (fun hHeld => ?_)
       clear hK K
       refine norm_ (a' := ?_) ?_ ?_
       rotate_left
       ·show Act.put _ (some 8) _ = _
        simp only [Act.put, List.setIfInBounds_toArray, List.set_cons_zero, List.set_cons_succ, i64_w, i32_w]
        rfl
       refine one_ (i := 1) (N := some 30) (bm 11 263) rfl rfl (one_of HT_.out (by kernel_rfl)) (by decide) (fun K hK => ?_)
       refine goes_ Tryd.func21 (by kernel_rfl) rfl #[.agg #[.string a0_0, .string a0_1, .int .i64 a0_2]] (by rfl) rfl rfl (by (try simp only [List.map_toArray, List.map_cons, List.map_nil]); first | done | rfl | (simp only [List.length_drop, List.length_take]; rfl)) ?_
       with_reducible refine (laws_toLog.calls a0_0 a0_1 a0_2 t247 t248 t249 _ A22.out).mono ?_
       rintro e w81 ⟨rfl, hb⟩
       refine ⟨_, rfl, ?_⟩
       have n0_ := Aside0.mk (blk_below (g := gb233) (o := .cells #[.string a0_0, .string a0_1, .int .i64 a0_2] 36 (0, 0)) (bk_ BK233) hb)
       have n1_ := Aside0.mk (blk_below (g := gb234) (o := .cells #[.string a1_0, .string a1_1] 23 (0, 0)) (bk_ BK234) hb)
       have n2_ := Aside0.mk (blk_below (g := gb246) (o := .cells #[.string t242, .string t243, .int .i64 t244] 31 (0, 0)) (bk_ BK246) hb)
       have n3_ := Aside0.mk (blk_below (g := gb256) (o := .cells #[.string (⟨#[]⟩ : ByteArray), .string (⟨#[]⟩ : ByteArray), .int .i64 0] 31 (0, 0)) (bk_ BK256) hb)
       have n4_ := Aside0.mk (below_step bg_ hb)
       clear BK233
       clear BK234
       clear BK246
       clear BK256
       clear HB
       have BK233 := n0_
       have BK234 := n1_
       have BK246 := n2_
       have BK256 := n3_
       have HB := n4_
       clear n0_ n1_ n2_ n3_ n4_
       (try clear hb)
       (try clear hb2)
       (try clear hk)
       (try clear hi)
       refine hK.out _ _ ⟨(blk_cell BK233.out 0).trans rfl, (blk_cell BK233.out 1).trans rfl, (blk_cell BK233.out 2).trans rfl, (blk_cell BK234.out 0).trans rfl, (blk_cell BK234.out 1).trans rfl⟩ (fun hHeld => ?_)
       clear hK K
       refine norm_ (a' := ?_) ?_ ?_
       rotate_left
       ·show Act.put _ (some 30) _ = _
        simp only [Act.put, List.setIfInBounds_toArray, List.set_cons_zero, List.set_cons_succ, i64_w, i32_w]
        rfl
       refine one_ (i := 3) (N := some 32) (bm 11 271) rfl rfl (one_of HT_.out (by kernel_rfl)) (by decide) (fun K hK => ?_)
       refine goes_ Tryd.func14 (by kernel_rfl) rfl #[.agg #[.string a1_0, .string a1_1]] (by rfl) rfl rfl (by (try simp only [List.map_toArray, List.map_cons, List.map_nil]); first | done | rfl | (simp only [List.length_drop, List.length_take]; rfl)) ?_
       with_reducible refine (laws_toLogRecord.calls a1_0 a1_1 t250 t251 _ A23.out).mono ?_
       rintro e w82 ⟨rfl, hb⟩
       refine ⟨_, rfl, ?_⟩
       have n0_ := Aside0.mk (blk_below (g := gb233) (o := .cells #[.string a0_0, .string a0_1, .int .i64 a0_2] 36 (0, 0)) (bk_ BK233) hb)
       have n1_ := Aside0.mk (blk_below (g := gb234) (o := .cells #[.string a1_0, .string a1_1] 23 (0, 0)) (bk_ BK234) hb)
       have n2_ := Aside0.mk (blk_below (g := gb246) (o := .cells #[.string t242, .string t243, .int .i64 t244] 31 (0, 0)) (bk_ BK246) hb)
       have n3_ := Aside0.mk (blk_below (g := gb256) (o := .cells #[.string (⟨#[]⟩ : ByteArray), .string (⟨#[]⟩ : ByteArray), .int .i64 0] 31 (0, 0)) (bk_ BK256) hb)
       have n4_ := Aside0.mk (below_step bg_ hb)
       clear BK233
       clear BK234
       clear BK246
       clear BK256
       clear HB
       have BK233 := n0_
       have BK234 := n1_
       have BK246 := n2_
       have BK256 := n3_
       have HB := n4_
       clear n0_ n1_ n2_ n3_ n4_
       (try clear hb)
       (try clear hb2)
       (try clear hk)
       (try clear hi)
       refine hK.out _ _ ⟨(blk_cell BK233.out 0).trans rfl, (blk_cell BK233.out 1).trans rfl, (blk_cell BK233.out 2).trans rfl, (blk_cell BK234.out 0).trans rfl, (blk_cell BK234.out 1).trans rfl⟩ (fun hHeld => ?_)
       clear hK K
       refine norm_ (a' := ?_) ?_ ?_
       rotate_left
       ·show Act.put _ (some 32) _ = _
        simp only [Act.put, List.setIfInBounds_toArray, List.set_cons_zero, List.set_cons_succ, i64_w, i32_w]
        rfl
       refine one_ (i := 4) (N := some 33) (bm 11 287) rfl rfl (one_of HT_.out (by kernel_rfl)) (by decide) (fun K hK => ?_)
       refine goes_ Tryd.func28 (by kernel_rfl) rfl #[.agg #[.string t247, .string t248, .int .i64 t249], .agg #[.string t250, .string t251]] (by rfl) rfl rfl (by (try simp only [List.map_toArray, List.map_cons, List.map_nil]); first | done | rfl | (simp only [List.length_drop, List.length_take]; rfl)) ?_
       with_reducible refine (impl_AppendRecord.calls k t247 t248 t249 t250 t251 t252 t253 t254 t255 _ ?side1 A24.out).mono ?_
       (case side1 => exact EnvW.below HENV.out bg_)
       rintro e w83 ⟨rfl, hb⟩
       refine ⟨_, rfl, ?_⟩
       have n0_ := Aside0.mk (blk_below (g := gb233) (o := .cells #[.string a0_0, .string a0_1, .int .i64 a0_2] 36 (0, 0)) (bk_ BK233) hb)
       have n1_ := Aside0.mk (blk_below (g := gb234) (o := .cells #[.string a1_0, .string a1_1] 23 (0, 0)) (bk_ BK234) hb)
       have n2_ := Aside0.mk (blk_below (g := gb246) (o := .cells #[.string t242, .string t243, .int .i64 t244] 31 (0, 0)) (bk_ BK246) hb)
       have n3_ := Aside0.mk (blk_below (g := gb256) (o := .cells #[.string (⟨#[]⟩ : ByteArray), .string (⟨#[]⟩ : ByteArray), .int .i64 0] 31 (0, 0)) (bk_ BK256) hb)
       have n4_ := Aside0.mk (below_step bg_ hb)
       clear BK233
       clear BK234
       clear BK246
       clear BK256
       clear HB
       have BK233 := n0_
       have BK234 := n1_
       have BK246 := n2_
       have BK256 := n3_
       have HB := n4_
       clear n0_ n1_ n2_ n3_ n4_
       (try clear hb)
       (try clear hb2)
       (try clear hk)
       (try clear hi)
       refine hK.out _ _ ⟨(blk_cell BK233.out 0).trans rfl, (blk_cell BK233.out 1).trans rfl, (blk_cell BK233.out 2).trans rfl, (blk_cell BK234.out 0).trans rfl, (blk_cell BK234.out 1).trans rfl⟩ (fun hHeld => ?_)
       clear hK K
       refine norm_ (a' := ?_) ?_ ?_
       rotate_left
       ·show Act.put _ (some 33) _ = _
        simp only [Act.put, List.setIfInBounds_toArray, List.set_cons_zero, List.set_cons_succ, i64_w, i32_w]
        rfl
       refine pa_ 5 (some 28) (bm 11 319) rfl rfl HT_.out ?_
       refine pa_ 6 (some 34) (bm 11 383) rfl rfl HT_.out ?_
       refine pa_ 7 (some 35) (bm 11 511) rfl rfl HT_.out ?_
       exact norm_ (by simp only [putAll, Act.put, List.setIfInBounds_toArray, List.set_cons_zero, List.set_cons_succ]) (hCont (gb256) _ ⟨hHeld, (bk_ BK233), (bk_ BK234), (bk_ BK246), (bk_ BK256), GW256.out, GE256.out, NB233_256.out, NB256_233.out, NB234_256.out, NB256_234.out, NB246_256.out, NB256_246.out, bg_⟩)
     rintro gb256 w84 ⟨hS_, h0_, h1_, h2_, h3_, h4_, h5_, h6_, h7_, h8_, h9_, h10_, h11_, h12_⟩
     have n0_ : Aside0 (w84.heap[gb233]? = some (.cells #[.string a0_0, .string a0_1, .int .i64 a0_2] 36 (0, 0))) := ⟨h0_⟩
     have n1_ : Aside0 (w84.heap[gb234]? = some (.cells #[.string a1_0, .string a1_1] 23 (0, 0))) := ⟨h1_⟩
     have n2_ : Aside0 (w84.heap[gb246]? = some (.cells #[.string t242, .string t243, .int .i64 t244] 31 (0, 0))) := ⟨h2_⟩
     have n3_ : Aside0 (w84.heap[gb256]? = some (.cells #[.string (⟨#[]⟩ : ByteArray), .string (⟨#[]⟩ : ByteArray), .int .i64 0] 31 (0, 0))) := ⟨h3_⟩
     have n4_ : Aside0 (w.heap.size ≤ gb256) := ⟨h4_⟩
     have n5_ : Aside0 (w.heap.size ≤ gb256) := ⟨h5_⟩
     have n6_ : Aside0 (gb233 ≠ gb256) := ⟨h6_⟩
     have n7_ : Aside0 (gb256 ≠ gb233) := ⟨h7_⟩
     have n8_ : Aside0 (gb234 ≠ gb256) := ⟨h8_⟩
     have n9_ : Aside0 (gb256 ≠ gb234) := ⟨h9_⟩
     have n10_ : Aside0 (gb246 ≠ gb256) := ⟨h10_⟩
     have n11_ : Aside0 (gb256 ≠ gb246) := ⟨h11_⟩
     have n12_ : Aside0 (Below w.heap.size w w84) := ⟨h12_⟩
     clear BK233
     clear BK234
     clear BK246
     clear HB
     clear h0_ h1_ h2_ h3_ h4_ h5_ h6_ h7_ h8_ h9_ h10_ h11_ h12_
     have BK233 := n0_
     have BK234 := n1_
     have BK246 := n2_
     have BK256 := n3_
     have GW256 := n4_
     have GE256 := n5_
     have NB233_256 := n6_
     have NB256_233 := n7_
     have NB234_256 := n8_
     have NB256_234 := n9_
     have NB246_256 := n10_
     have NB256_246 := n11_
     have HB := n12_
     clear n0_ n1_ n2_ n3_ n4_ n5_ n6_ n7_ n8_ n9_ n10_ n11_ n12_
     have hHeld : w84.cell? ⟨gb233, 0, none⟩ = some (.string a0_0) ∧ w84.cell? ⟨gb233, 1, none⟩ = some (.string a0_1) ∧ w84.cell? ⟨gb233, 2, none⟩ = some (.int .i64 a0_2) ∧ w84.cell? ⟨gb234, 0, none⟩ = some (.string a1_0) ∧ w84.cell? ⟨gb234, 1, none⟩ = some (.string a1_1) := hS_
     refine norm_ (a' := ?_) ?_ ?_
     rotate_left
     ·simp only [putAll, Act.put, List.setIfInBounds_toArray, List.set_cons_zero, List.set_cons_succ]
      rfl
     refine one_ (i := 9) (N := none) (bm 11 1023) rfl rfl (one_of HT_.out (by kernel_rfl)) (by decide) (fun K hK => ?_)
     have hs85 : w84.cell? ⟨gb256, 0, none⟩ = some (.string (⟨#[]⟩ : ByteArray)) := (blk_cell BK256.out 0).trans rfl
     have hfs85 := blk_frozen BK256.out 0
     have hns85_0 := NB233_256.out
     have hns85_1 := NB234_256.out
     have hns85_2 := NB246_256.out
     have hms85_0 := NB256_233.out
     have hms85_1 := NB256_234.out
     have hms85_2 := NB256_246.out
     have hs86 : w84.cell? ⟨gb256, 1, none⟩ = some (.string (⟨#[]⟩ : ByteArray)) := (blk_cell BK256.out 1).trans rfl
     have hfs86 := blk_frozen BK256.out 1
     have hns86_0 := NB233_256.out
     have hns86_1 := NB234_256.out
     have hns86_2 := NB246_256.out
     have hms86_0 := NB256_233.out
     have hms86_1 := NB256_234.out
     have hms86_2 := NB256_246.out
     have hs87 : w84.cell? ⟨gb256, 2, none⟩ = some (.int .i64 0) := (blk_cell BK256.out 2).trans rfl
     have hfs87 := blk_frozen BK256.out 2
     have hns87_0 := NB233_256.out
     have hns87_1 := NB234_256.out
     have hns87_2 := NB246_256.out
     have hms87_0 := NB256_233.out
     have hms87_1 := NB256_234.out
     have hms87_2 := NB256_246.out
     refine skip_ (w1 := ?_) (by rfl) rfl ?_ ?_
     rotate_left
     ·go_simp
      rfl
     refine hK.out _ _ ⟨((cell_far (p := ⟨gb256, _, none⟩) NB233_256.out _).trans (((cell_far (p := ⟨gb256, _, none⟩) NB233_256.out _).trans (((cell_far (p := ⟨gb256, _, none⟩) NB233_256.out _).trans (hHeld.1)))))), ((cell_far (p := ⟨gb256, _, none⟩) NB233_256.out _).trans (((cell_far (p := ⟨gb256, _, none⟩) NB233_256.out _).trans (((cell_far (p := ⟨gb256, _, none⟩) NB233_256.out _).trans (hHeld.2.1)))))), ((cell_far (p := ⟨gb256, _, none⟩) NB233_256.out _).trans (((cell_far (p := ⟨gb256, _, none⟩) NB233_256.out _).trans (((cell_far (p := ⟨gb256, _, none⟩) NB233_256.out _).trans (hHeld.2.2.1)))))), ((cell_far (p := ⟨gb256, _, none⟩) NB234_256.out _).trans (((cell_far (p := ⟨gb256, _, none⟩) NB234_256.out _).trans (((cell_far (p := ⟨gb256, _, none⟩) NB234_256.out _).trans (hHeld.2.2.2.1)))))), ((cell_far (p := ⟨gb256, _, none⟩) NB234_256.out _).trans (((cell_far (p := ⟨gb256, _, none⟩) NB234_256.out _).trans (((cell_far (p := ⟨gb256, _, none⟩) NB234_256.out _).trans (hHeld.2.2.2.2))))))⟩ (fun hHeld => ?_)
     clear hK K
     refine pa_ 10 (some 9) (bm 11 2047) rfl rfl HT_.out ?_
     refine done_ (done_of HT_.out (by kernel_rfl)) ?_
     have hnb88 := NB256_233.out
     have hnc88 := NB233_256.out
     have hnb89 := NB256_234.out
     have hnc89 := NB234_256.out
     have hnb90 := NB256_246.out
     have hnc90 := NB246_256.out
     have hcz91_0 : w84.cell? ⟨gb256, 0, none⟩ = some (.string (⟨#[]⟩ : ByteArray)) := (blk_cell BK256.out 0).trans rfl
     have hcz91_1 : w84.cell? ⟨gb256, 1, none⟩ = some (.string (⟨#[]⟩ : ByteArray)) := (blk_cell BK256.out 1).trans rfl
     have hcz91_2 : w84.cell? ⟨gb256, 2, none⟩ = some (.int .i64 0) := (blk_cell BK256.out 2).trans rfl
     have hfz91_0 := blk_frozen BK256.out 0
     have hfz91_1 := blk_frozen BK256.out 1
     have hfz91_2 := blk_frozen BK256.out 2
     have hnb92 := NB246_233.out
     have hnc92 := NB233_246.out
     have hnb93 := NB246_234.out
     have hnc93 := NB234_246.out
     have hcz94_0 : w84.cell? ⟨gb246, 0, none⟩ = some (.string t242) := (blk_cell BK246.out 0).trans rfl
     have hcz94_1 : w84.cell? ⟨gb246, 1, none⟩ = some (.string t243) := (blk_cell BK246.out 1).trans rfl
     have hcz94_2 : w84.cell? ⟨gb246, 2, none⟩ = some (.int .i64 t244) := (blk_cell BK246.out 2).trans rfl
     have hfz94_0 := blk_frozen BK246.out 0
     have hfz94_1 := blk_frozen BK246.out 1
     have hfz94_2 := blk_frozen BK246.out 2
     try go_wp2_with (first | ((with_reducible refine gate_callee (f := 18) rfl ?_); refine gL_ (some 38) Tryd.func18 #[.agg #[.string t252, .string t253, .int .i64 t254], .agg #[.string t242, .string t243, .int .i64 t244]] ?_ rfl rfl; (with_reducible refine (laws_eqLog.calls t252 t253 t254 t242 t243 t244 true _ A25.out).mono ?_); rintro e w95 ⟨rfl, hb⟩; refine ⟨_, rfl, ?_⟩; have n0_ := Aside0.mk (blk_below (g := gb233) (o := .cells #[.string a0_0, .string a0_1, .int .i64 a0_2] 36 (0, 0)) (by (with_reducible repeat (first | refine blk_drewN ?_ _ | refine blk_drew ?_ | refine blk_alloc ?_ _)); refine blk_far ?_ NB233_256.out _; (with_reducible repeat (first | refine blk_drewN ?_ _ | refine blk_drew ?_ | refine blk_alloc ?_ _)); refine blk_far ?_ NB233_256.out _; (with_reducible repeat (first | refine blk_drewN ?_ _ | refine blk_drew ?_ | refine blk_alloc ?_ _)); refine blk_far ?_ NB233_256.out _; (with_reducible repeat (first | refine blk_drewN ?_ _ | refine blk_drew ?_ | refine blk_alloc ?_ _)); exact BK233.out) hb); have n1_ := Aside0.mk (blk_below (g := gb234) (o := .cells #[.string a1_0, .string a1_1] 23 (0, 0)) (by (with_reducible repeat (first | refine blk_drewN ?_ _ | refine blk_drew ?_ | refine blk_alloc ?_ _)); refine blk_far ?_ NB234_256.out _; (with_reducible repeat (first | refine blk_drewN ?_ _ | refine blk_drew ?_ | refine blk_alloc ?_ _)); refine blk_far ?_ NB234_256.out _; (with_reducible repeat (first | refine blk_drewN ?_ _ | refine blk_drew ?_ | refine blk_alloc ?_ _)); refine blk_far ?_ NB234_256.out _; (with_reducible repeat (first | refine blk_drewN ?_ _ | refine blk_drew ?_ | refine blk_alloc ?_ _)); exact BK234.out) hb); have n2_ := Aside0.mk (blk_below (g := gb246) (o := .cells #[.string t242, .string t243, .int .i64 t244] 31 (0, 0)) (by (with_reducible repeat (first | refine blk_drewN ?_ _ | refine blk_drew ?_ | refine blk_alloc ?_ _)); refine blk_far ?_ NB246_256.out _; (with_reducible repeat (first | refine blk_drewN ?_ _ | refine blk_drew ?_ | refine blk_alloc ?_ _)); refine blk_far ?_ NB246_256.out _; (with_reducible repeat (first | refine blk_drewN ?_ _ | refine blk_drew ?_ | refine blk_alloc ?_ _)); refine blk_far ?_ NB246_256.out _; (with_reducible repeat (first | refine blk_drewN ?_ _ | refine blk_drew ?_ | refine blk_alloc ?_ _)); exact BK246.out) hb); have n3_ := Aside0.mk (blk_below (g := gb256) (o := .cells #[.string t252, .string t253, .int .i64 t254] 31 (0, 0)) (by (with_reducible repeat (first | refine blk_drewN ?_ _ | refine blk_drew ?_ | refine blk_alloc ?_ _)); refine blk_put (cs := #[.string t252, .string t253, .int .i64 0]) ?_ 2 _ rfl; (with_reducible repeat (first | refine blk_drewN ?_ _ | refine blk_drew ?_ | refine blk_alloc ?_ _)); refine blk_put (cs := #[.string t252, .string (⟨#[]⟩ : ByteArray), .int .i64 0]) ?_ 1 _ rfl; (with_reducible repeat (first | refine blk_drewN ?_ _ | refine blk_drew ?_ | refine blk_alloc ?_ _)); refine blk_put (cs := #[.string (⟨#[]⟩ : ByteArray), .string (⟨#[]⟩ : ByteArray), .int .i64 0]) ?_ 0 _ rfl; (with_reducible repeat (first | refine blk_drewN ?_ _ | refine blk_drew ?_ | refine blk_alloc ?_ _)); exact BK256.out) hb); have n4_ := Aside0.mk (below_step bg_ hb); clear BK233; clear BK234; clear BK246; clear BK256; clear HB; have BK233 := n0_; have BK234 := n1_; have BK246 := n2_; have BK256 := n3_; have HB := n4_; clear n0_ n1_ n2_ n3_ n4_; (try clear hb); (try clear hb2); (try clear hk); (try clear hi)))
     go_ret
     exact ⟨by first | rfl | (simp [errW_none, errW_some] <;> rfl) | (simp [*, errW_none, errW_some] <;> rfl), by repeat (first | (with_reducible first | exact HB.out | apply below_alloc | apply pw_below_drewN | apply below_drew1 | refine below_set ?_ GE233.out | refine below_set ?_ GE234.out | refine below_set ?_ GE246.out | refine below_set ?_ GE256.out) | exact HB.out)⟩
   ·replace c26 := Bool.eq_false_iff.mpr c26
    subst c26
    have H1 : (some false) = some r := by rw [if_neg (show ¬ (false = true) by decide)] at H; exact H
    clear H
    have H := H1
    clear H1
    obtain rfl := Option.some.inj H
    go_enter Tryd.func8, Tryd.ntmps8
    try go_wp2_with (first | ((with_reducible refine gate_dst (N := 2) rfl ?_); refine box_event ?hg (N := 2) ?hd (cs := #[.string a0_0, .string a0_1, .int .i64 a0_2]) (t := 36) ?hr ?_; (case hd => rfl); (case hg => rfl); (case hr => first | (go_simp; done) | (go_simp; rfl)); intro gb233 hg w96 hbox hb; have n0_ := Aside0.mk (below_step bl_ hb); have n1_ := Aside0.mk (hbox); have n2_ := Aside0.mk ((by rw [hg]; exact (below_size bl_) : w.heap.size ≤ gb233)); have n3_ := Aside0.mk ((by rw [hg]; exact (below_size bl_) : w.heap.size ≤ gb233)); clear HB; have HB := n0_; have BK233 := n1_; have GW233 := n2_; have GE233 := n3_; clear n0_ n1_ n2_ n3_; clear hb hbox hg) | ((with_reducible refine gate_dst (N := 3) rfl ?_); refine box_event ?hg (N := 3) ?hd (cs := #[.string a1_0, .string a1_1]) (t := 23) ?hr ?_; (case hd => rfl); (case hg => rfl); (case hr => first | (go_simp; done) | (go_simp; rfl)); intro gb234 hg w97 hbox hb; have n0_ := Aside0.mk (blk_below (g := gb233) (o := .cells #[.string a0_0, .string a0_1, .int .i64 a0_2] 36 (0, 0)) (bk_ BK233) hb); have n1_ := Aside0.mk (below_step bg_ hb); have n2_ := Aside0.mk (hbox); have n3_ := Aside0.mk ((by rw [hg]; exact (below_size bg_) : w.heap.size ≤ gb234)); have n4_ := Aside0.mk ((by rw [hg]; exact (below_size bg_) : w.heap.size ≤ gb234)); have n5_ := Aside0.mk ((by rw [hg]; exact Nat.ne_of_lt (blk_lt (g := gb233) (o := .cells #[.string a0_0, .string a0_1, .int .i64 a0_2] 36 (0, 0)) (bk_ BK233)) : gb233 ≠ gb234)); have n6_ := Aside0.mk ((by rw [hg]; exact Nat.ne_of_gt (blk_lt (g := gb233) (o := .cells #[.string a0_0, .string a0_1, .int .i64 a0_2] 36 (0, 0)) (bk_ BK233)) : gb234 ≠ gb233)); clear BK233; clear HB; have BK233 := n0_; have HB := n1_; have BK234 := n2_; have GW234 := n3_; have GE234 := n4_; have NB233_234 := n5_; have NB234_233 := n6_; clear n0_ n1_ n2_ n3_ n4_ n5_ n6_; clear hb hbox hg; have hnb98 := NB233_234.out; have hnc98 := NB234_233.out; have hcz99_0 : w97.cell? ⟨gb233, 0, none⟩ = some (.string a0_0) := (blk_cell BK233.out 0).trans rfl; have hcz99_1 : w97.cell? ⟨gb233, 1, none⟩ = some (.string a0_1) := (blk_cell BK233.out 1).trans rfl; have hcz99_2 : w97.cell? ⟨gb233, 2, none⟩ = some (.int .i64 a0_2) := (blk_cell BK233.out 2).trans rfl; have hfz99_0 := blk_frozen BK233.out 0; have hfz99_1 := blk_frozen BK233.out 1; have hfz99_2 := blk_frozen BK233.out 2) | ((with_reducible refine gate_callee (f := 19) rfl ?_); refine gL_ (some 12) Tryd.func19 #[.agg #[.string a0_0, .string a0_1, .int .i64 a0_2], .int .i64 1048576] ?_ rfl rfl; (with_reducible refine (laws_szLog.calls a0_0 a0_1 a0_2 1048576 t235 _ A3.out).mono ?_); rintro e w100 ⟨rfl, hb⟩; refine ⟨_, rfl, ?_⟩; have n0_ := Aside0.mk (blk_below (g := gb233) (o := .cells #[.string a0_0, .string a0_1, .int .i64 a0_2] 36 (0, 0)) (bk_ BK233) hb); have n1_ := Aside0.mk (blk_below (g := gb234) (o := .cells #[.string a1_0, .string a1_1] 23 (0, 0)) (bk_ BK234) hb); have n2_ := Aside0.mk (below_step bg_ hb); clear BK233; clear BK234; clear HB; have BK233 := n0_; have BK234 := n1_; have HB := n2_; clear n0_ n1_ n2_; (try clear hb); (try clear hb2); (try clear hk); (try clear hi); have hcz101_0 : w100.cell? ⟨gb234, 0, none⟩ = some (.string a1_0) := (blk_cell BK234.out 0).trans rfl; have hcz101_1 : w100.cell? ⟨gb234, 1, none⟩ = some (.string a1_1) := (blk_cell BK234.out 1).trans rfl; have hfz101_0 := blk_frozen BK234.out 0; have hfz101_1 := blk_frozen BK234.out 1) | ((with_reducible refine gate_callee (f := 12) rfl ?_); refine gL_ (some 17) Tryd.func12 #[.agg #[.string a1_0, .string a1_1], .int .i64 t235] ?_ rfl rfl; (with_reducible refine (laws_szLogRecord.calls a1_0 a1_1 t235 t236 _ A10.out).mono ?_); rintro e w102 ⟨rfl, hb⟩; refine ⟨_, rfl, ?_⟩; have n0_ := Aside0.mk (blk_below (g := gb233) (o := .cells #[.string a0_0, .string a0_1, .int .i64 a0_2] 36 (0, 0)) (bk_ BK233) hb); have n1_ := Aside0.mk (blk_below (g := gb234) (o := .cells #[.string a1_0, .string a1_1] 23 (0, 0)) (bk_ BK234) hb); have n2_ := Aside0.mk (below_step bg_ hb); clear BK233; clear BK234; clear HB; have BK233 := n0_; have BK234 := n1_; have HB := n2_; clear n0_ n1_ n2_; (try clear hb); (try clear hb2); (try clear hk); (try clear hi)))
    have n0_ := Aside0.mk (blk_drew BK233.out)
    have n1_ := Aside0.mk (blk_drew BK234.out)
    have n2_ := Aside0.mk (below_drew1 HB.out)
    clear BK233
    clear BK234
    clear HB
    have BK233 := n0_
    have BK234 := n1_
    have HB := n2_
    clear n0_ n1_ n2_
    refine start_ (n := 11) (S := fun w' => w'.cell? ⟨gb233, 0, none⟩ = some (.string a0_0) ∧ w'.cell? ⟨gb233, 1, none⟩ = some (.string a0_1) ∧ w'.cell? ⟨gb233, 2, none⟩ = some (.int .i64 a0_2) ∧ w'.cell? ⟨gb234, 0, none⟩ = some (.string a1_0) ∧ w'.cell? ⟨gb234, 1, none⟩ = some (.string a1_1)) (ds := []) (bm 11 0) (by kernel_rfl) rfl rfl ⟨(blk_cell BK233.out 0).trans rfl, (blk_cell BK233.out 1).trans rfl, (blk_cell BK233.out 2).trans rfl, (blk_cell BK234.out 0).trans rfl, (blk_cell BK234.out 1).trans rfl⟩ (fun hHeld => ?_); refine with_tabW laws_FnExactAppendRecord.tab8 laws_FnExactAppendRecord.bits8 (fun HT_ HW_ => ?_)
    generalize w102.drew = w103 at BK233 BK234 HB hHeld ⊢
    refine take_ (i := 0) (N := some 21) (v := ?_) (a' := ?_) (bm 11 1) rfl rfl (take_ofW HT_.out HW_.out (by kernel_rfl)) (fun _ _ _ h => h) (Or.inl ⟨by rfl, ?_⟩) hHeld ?_ ?_
    rotate_left
    ·rintro w' ⟨s0, s1, s2, s3, s4⟩
     go_simp
     with_reducible rfl
    rotate_left
    ·simp only [Act.put, List.setIfInBounds_toArray, List.set_cons_zero, List.set_cons_succ, i64_w, i32_w]
     rfl
    refine take_ (i := 2) (N := some 23) (v := ?_) (a' := ?_) (bm 11 5) rfl rfl (take_ofW HT_.out HW_.out (by kernel_rfl)) (fun _ _ _ h => h) (Or.inl ⟨by rfl, ?_⟩) hHeld ?_ ?_
    rotate_left
    ·rintro w' ⟨s0, s1, s2, s3, s4⟩
     go_simp
     with_reducible rfl
    rotate_left
    ·simp only [Act.put, List.setIfInBounds_toArray, List.set_cons_zero, List.set_cons_succ, i64_w, i32_w]
     rfl
    refine join_ (σ := Nat) 2 (bm 11 511) (fun s_ => [(22, .agg #[.string t237, .string t238, .int .i64 t239]), (24, .agg #[.string t240, .string t241]), (25, .tuple #[.agg #[.string t242, .string t243, .int .i64 t244], .int .i64 t245]), (6, .pointer (some ⟨s_, 0, none⟩)), (20, .tuple #[.agg #[.string t242, .string t243, .int .i64 t244], .int .i64 t245]), (26, .agg #[.string t242, .string t243, .int .i64 t244]), (27, .int .i64 t245)]) (fun s_ w' => (w'.cell? ⟨gb233, 0, none⟩ = some (.string a0_0) ∧ w'.cell? ⟨gb233, 1, none⟩ = some (.string a0_1) ∧ w'.cell? ⟨gb233, 2, none⟩ = some (.int .i64 a0_2) ∧ w'.cell? ⟨gb234, 0, none⟩ = some (.string a1_0) ∧ w'.cell? ⟨gb234, 1, none⟩ = some (.string a1_1)) ∧ (w'.heap[gb233]? = some (.cells #[.string a0_0, .string a0_1, .int .i64 a0_2] 36 (0, 0))) ∧ (w'.heap[gb234]? = some (.cells #[.string a1_0, .string a1_1] 23 (0, 0))) ∧ (w'.heap[s_]? = some (.cells #[.string (⟨#[]⟩ : ByteArray), .string (⟨#[]⟩ : ByteArray), .int .i64 0] 31 (0, 0))) ∧ (w.heap.size ≤ s_) ∧ (w.heap.size ≤ s_) ∧ (gb233 ≠ s_) ∧ (s_ ≠ gb233) ∧ (gb234 ≠ s_) ∧ (s_ ≠ gb234) ∧ (Below w.heap.size w w')) ?_ ?_
    rotate_left
    ·intro hCont
     refine two_ (i := 1) (j := 8) (Ni := some 22) (Nj := some 6) (bm 11 7) (bm 11 261) rfl rfl rfl rfl (two_of HT_.out (by kernel_rfl)) (by decide) (by decide) (fun K hK => ?_) (fun K hK => ?_)
     ·skip
      refine goes_ Tryd.func21 (by kernel_rfl) rfl #[.agg #[.string a0_0, .string a0_1, .int .i64 a0_2]] (by rfl) rfl rfl (by (try simp only [List.map_toArray, List.map_cons, List.map_nil]); first | done | rfl | (simp only [List.length_drop, List.length_take]; rfl)) ?_
      with_reducible refine (laws_toLog.calls a0_0 a0_1 a0_2 t237 t238 t239 _ A19.out).mono ?_
      rintro e w104 ⟨rfl, hb⟩
      refine ⟨_, rfl, ?_⟩
      have n0_ := Aside0.mk (blk_below (g := gb233) (o := .cells #[.string a0_0, .string a0_1, .int .i64 a0_2] 36 (0, 0)) (bk_ BK233) hb)
      have n1_ := Aside0.mk (blk_below (g := gb234) (o := .cells #[.string a1_0, .string a1_1] 23 (0, 0)) (bk_ BK234) hb)
      have n2_ := Aside0.mk (below_step bg_ hb)
      clear BK233
      clear BK234
      clear HB
      have BK233 := n0_
      have BK234 := n1_
      have HB := n2_
      clear n0_ n1_ n2_
      (try clear hb)
      (try clear hb2)
      (try clear hk)
      (try clear hi)
      refine hK.out _ _ ⟨(blk_cell BK233.out 0).trans rfl, (blk_cell BK233.out 1).trans rfl, (blk_cell BK233.out 2).trans rfl, (blk_cell BK234.out 0).trans rfl, (blk_cell BK234.out 1).trans rfl⟩ (fun hHeld => ?_)
      clear hK K
      refine norm_ (a' := ?_) ?_ ?_
      rotate_left
      ·show Act.put _ (some 22) _ = _
       simp only [Act.put, List.setIfInBounds_toArray, List.set_cons_zero, List.set_cons_succ, i64_w, i32_w]
       rfl
      refine two_ (i := 3) (j := 8) (Ni := some 24) (Nj := some 6) (bm 11 15) (bm 11 263) rfl rfl rfl rfl (two_of HT_.out (by kernel_rfl)) (by decide) (by decide) (fun K hK => ?_) (fun K hK => ?_)
      ·skip
       refine goes_ Tryd.func14 (by kernel_rfl) rfl #[.agg #[.string a1_0, .string a1_1]] (by rfl) rfl rfl (by (try simp only [List.map_toArray, List.map_cons, List.map_nil]); first | done | rfl | (simp only [List.length_drop, List.length_take]; rfl)) ?_
       with_reducible refine (laws_toLogRecord.calls a1_0 a1_1 t240 t241 _ A20.out).mono ?_
       rintro e w105 ⟨rfl, hb⟩
       refine ⟨_, rfl, ?_⟩
       have n0_ := Aside0.mk (blk_below (g := gb233) (o := .cells #[.string a0_0, .string a0_1, .int .i64 a0_2] 36 (0, 0)) (bk_ BK233) hb)
       have n1_ := Aside0.mk (blk_below (g := gb234) (o := .cells #[.string a1_0, .string a1_1] 23 (0, 0)) (bk_ BK234) hb)
       have n2_ := Aside0.mk (below_step bg_ hb)
       clear BK233
       clear BK234
       clear HB
       have BK233 := n0_
       have BK234 := n1_
       have HB := n2_
       clear n0_ n1_ n2_
       (try clear hb)
       (try clear hb2)
       (try clear hk)
       (try clear hi)
       refine hK.out _ _ ⟨(blk_cell BK233.out 0).trans rfl, (blk_cell BK233.out 1).trans rfl, (blk_cell BK233.out 2).trans rfl, (blk_cell BK234.out 0).trans rfl, (blk_cell BK234.out 1).trans rfl⟩ (fun hHeld => ?_)
       clear hK K
       refine norm_ (a' := ?_) ?_ ?_
       rotate_left
       ·show Act.put _ (some 24) _ = _
        simp only [Act.put, List.setIfInBounds_toArray, List.set_cons_zero, List.set_cons_succ, i64_w, i32_w]
        rfl
       refine two_ (i := 4) (j := 8) (Ni := some 25) (Nj := some 6) (bm 11 31) (bm 11 271) rfl rfl rfl rfl (two_of HT_.out (by kernel_rfl)) (by decide) (by decide) (fun K hK => ?_) (fun K hK => ?_)
       ·skip
        refine goes_ Tryd.func27 (by kernel_rfl) rfl #[.agg #[.string t237, .string t238, .int .i64 t239], .agg #[.string t240, .string t241]] (by rfl) rfl rfl (by (try simp only [List.map_toArray, List.map_cons, List.map_nil]); first | done | rfl | (simp only [List.length_drop, List.length_take]; rfl)) ?_
        with_reducible refine (spec_AppendRecord.calls k t237 t238 t239 t240 t241 t242 t243 t244 t245 _ A21.out).mono ?_
        rintro e w106 ⟨rfl, hb⟩
        refine ⟨_, rfl, ?_⟩
        have n0_ := Aside0.mk (blk_below (g := gb233) (o := .cells #[.string a0_0, .string a0_1, .int .i64 a0_2] 36 (0, 0)) (bk_ BK233) hb)
        have n1_ := Aside0.mk (blk_below (g := gb234) (o := .cells #[.string a1_0, .string a1_1] 23 (0, 0)) (bk_ BK234) hb)
        have n2_ := Aside0.mk (below_step bg_ hb)
        clear BK233
        clear BK234
        clear HB
        have BK233 := n0_
        have BK234 := n1_
        have HB := n2_
        clear n0_ n1_ n2_
        (try clear hb)
        (try clear hb2)
        (try clear hk)
        (try clear hi)
        refine hK.out _ _ ⟨(blk_cell BK233.out 0).trans rfl, (blk_cell BK233.out 1).trans rfl, (blk_cell BK233.out 2).trans rfl, (blk_cell BK234.out 0).trans rfl, (blk_cell BK234.out 1).trans rfl⟩ (fun hHeld => ?_)
        clear hK K
        refine norm_ (a' := ?_) ?_ ?_
        rotate_left
        ·show Act.put _ (some 25) _ = _
         simp only [Act.put, List.setIfInBounds_toArray, List.set_cons_zero, List.set_cons_succ, i64_w, i32_w]
         rfl
        refine pa_ 5 (some 20) (bm 11 63) rfl rfl HT_.out ?_
        refine pa_ 6 (some 26) (bm 11 127) rfl rfl HT_.out ?_
        refine pa_ 7 (some 27) (bm 11 255) rfl rfl HT_.out ?_
        refine one_ (i := 8) (N := some 6) (bm 11 511) rfl rfl (one_of HT_.out (by kernel_rfl)) (by decide) (fun K hK => ?_)
        refine box_step ?hg (N := 6) ?hd (cs := #[.string (⟨#[]⟩ : ByteArray), .string (⟨#[]⟩ : ByteArray), .int .i64 0]) (t := 31) ?hr ?_; (case hd => rfl); (case hg => rfl); (case hr => first | (go_simp; done) | (go_simp; rfl))
        intro gb246 hg w107 hbox hb
        have n0_ := Aside0.mk (blk_below (g := gb233) (o := .cells #[.string a0_0, .string a0_1, .int .i64 a0_2] 36 (0, 0)) (bk_ BK233) hb)
        have n1_ := Aside0.mk (blk_below (g := gb234) (o := .cells #[.string a1_0, .string a1_1] 23 (0, 0)) (bk_ BK234) hb)
        have n2_ := Aside0.mk (below_step bg_ hb)
        have n3_ := Aside0.mk (hbox)
        have n4_ := Aside0.mk ((by rw [hg]; exact (below_size bg_) : w.heap.size ≤ gb246))
        have n5_ := Aside0.mk ((by rw [hg]; exact (below_size bg_) : w.heap.size ≤ gb246))
        have n6_ := Aside0.mk ((by rw [hg]; exact Nat.ne_of_lt (blk_lt (g := gb233) (o := .cells #[.string a0_0, .string a0_1, .int .i64 a0_2] 36 (0, 0)) (bk_ BK233)) : gb233 ≠ gb246))
        have n7_ := Aside0.mk ((by rw [hg]; exact Nat.ne_of_gt (blk_lt (g := gb233) (o := .cells #[.string a0_0, .string a0_1, .int .i64 a0_2] 36 (0, 0)) (bk_ BK233)) : gb246 ≠ gb233))
        have n8_ := Aside0.mk ((by rw [hg]; exact Nat.ne_of_lt (blk_lt (g := gb234) (o := .cells #[.string a1_0, .string a1_1] 23 (0, 0)) (bk_ BK234)) : gb234 ≠ gb246))
        have n9_ := Aside0.mk ((by rw [hg]; exact Nat.ne_of_gt (blk_lt (g := gb234) (o := .cells #[.string a1_0, .string a1_1] 23 (0, 0)) (bk_ BK234)) : gb246 ≠ gb234))
        clear BK233
        clear BK234
        clear HB
        have BK233 := n0_
        have BK234 := n1_
        have HB := n2_
        have BK246 := n3_
        have GW246 := n4_
        have GE246 := n5_
        have NB233_246 := n6_
        have NB246_233 := n7_
        have NB234_246 := n8_
        have NB246_234 := n9_
        clear n0_ n1_ n2_ n3_ n4_ n5_ n6_ n7_ n8_ n9_
        clear hb hbox hg
        refine hK.out _ _ ⟨(blk_cell BK233.out 0).trans rfl, (blk_cell BK233.out 1).trans rfl, (blk_cell BK233.out 2).trans rfl, (blk_cell BK234.out 0).trans rfl, (blk_cell BK234.out 1).trans rfl⟩ (fun hHeld => ?_)
        clear hK K
        refine norm_ (a' := ?_) ?_ ?_
        rotate_left
        ·show Act.put _ (some 6) _ = _
         simp only [Act.put, List.setIfInBounds_toArray, List.set_cons_zero, List.set_cons_succ, i64_w, i32_w]
         rfl
        exact norm_ (by simp only [putAll, Act.put, List.setIfInBounds_toArray, List.set_cons_zero, List.set_cons_succ]) (hCont (gb246) _ ⟨hHeld, (bk_ BK233), (bk_ BK234), (bk_ BK246), GW246.out, GE246.out, NB233_246.out, NB246_233.out, NB234_246.out, NB246_234.out, bg_⟩)
       ·skip
        refine box_step ?hg (N := 6) ?hd (cs := #[.string (⟨#[]⟩ : ByteArray), .string (⟨#[]⟩ : ByteArray), .int .i64 0]) (t := 31) ?hr ?_; (case hd => rfl); (case hg => rfl); (case hr => first | (go_simp; done) | (go_simp; rfl))
        intro gb246 hg w106 hbox hb
        have n0_ := Aside0.mk (blk_below (g := gb233) (o := .cells #[.string a0_0, .string a0_1, .int .i64 a0_2] 36 (0, 0)) (bk_ BK233) hb)
        have n1_ := Aside0.mk (blk_below (g := gb234) (o := .cells #[.string a1_0, .string a1_1] 23 (0, 0)) (bk_ BK234) hb)
        have n2_ := Aside0.mk (below_step bg_ hb)
        have n3_ := Aside0.mk (hbox)
        have n4_ := Aside0.mk ((by rw [hg]; exact (below_size bg_) : w.heap.size ≤ gb246))
        have n5_ := Aside0.mk ((by rw [hg]; exact (below_size bg_) : w.heap.size ≤ gb246))
        have n6_ := Aside0.mk ((by rw [hg]; exact Nat.ne_of_lt (blk_lt (g := gb233) (o := .cells #[.string a0_0, .string a0_1, .int .i64 a0_2] 36 (0, 0)) (bk_ BK233)) : gb233 ≠ gb246))
        have n7_ := Aside0.mk ((by rw [hg]; exact Nat.ne_of_gt (blk_lt (g := gb233) (o := .cells #[.string a0_0, .string a0_1, .int .i64 a0_2] 36 (0, 0)) (bk_ BK233)) : gb246 ≠ gb233))
        have n8_ := Aside0.mk ((by rw [hg]; exact Nat.ne_of_lt (blk_lt (g := gb234) (o := .cells #[.string a1_0, .string a1_1] 23 (0, 0)) (bk_ BK234)) : gb234 ≠ gb246))
        have n9_ := Aside0.mk ((by rw [hg]; exact Nat.ne_of_gt (blk_lt (g := gb234) (o := .cells #[.string a1_0, .string a1_1] 23 (0, 0)) (bk_ BK234)) : gb246 ≠ gb234))
        clear BK233
        clear BK234
        clear HB
        have BK233 := n0_
        have BK234 := n1_
        have HB := n2_
        have BK246 := n3_
        have GW246 := n4_
        have GE246 := n5_
        have NB233_246 := n6_
        have NB246_233 := n7_
        have NB234_246 := n8_
        have NB246_234 := n9_
        clear n0_ n1_ n2_ n3_ n4_ n5_ n6_ n7_ n8_ n9_
        clear hb hbox hg
        refine hK.out _ _ ⟨(blk_cell BK233.out 0).trans rfl, (blk_cell BK233.out 1).trans rfl, (blk_cell BK233.out 2).trans rfl, (blk_cell BK234.out 0).trans rfl, (blk_cell BK234.out 1).trans rfl⟩ (fun hHeld => ?_)
        clear hK K
        refine norm_ (a' := ?_) ?_ ?_
        rotate_left
        ·show Act.put _ (some 6) _ = _
         simp only [Act.put, List.setIfInBounds_toArray, List.set_cons_zero, List.set_cons_succ, i64_w, i32_w]
         rfl
        refine one_ (i := 4) (N := some 25) (bm 11 287) rfl rfl (one_of HT_.out (by kernel_rfl)) (by decide) (fun K hK => ?_)
        refine goes_ Tryd.func27 (by kernel_rfl) rfl #[.agg #[.string t237, .string t238, .int .i64 t239], .agg #[.string t240, .string t241]] (by rfl) rfl rfl (by (try simp only [List.map_toArray, List.map_cons, List.map_nil]); first | done | rfl | (simp only [List.length_drop, List.length_take]; rfl)) ?_
        with_reducible refine (spec_AppendRecord.calls k t237 t238 t239 t240 t241 t242 t243 t244 t245 _ A21.out).mono ?_
        rintro e w107 ⟨rfl, hb⟩
        refine ⟨_, rfl, ?_⟩
        have n0_ := Aside0.mk (blk_below (g := gb233) (o := .cells #[.string a0_0, .string a0_1, .int .i64 a0_2] 36 (0, 0)) (bk_ BK233) hb)
        have n1_ := Aside0.mk (blk_below (g := gb234) (o := .cells #[.string a1_0, .string a1_1] 23 (0, 0)) (bk_ BK234) hb)
        have n2_ := Aside0.mk (blk_below (g := gb246) (o := .cells #[.string (⟨#[]⟩ : ByteArray), .string (⟨#[]⟩ : ByteArray), .int .i64 0] 31 (0, 0)) (bk_ BK246) hb)
        have n3_ := Aside0.mk (below_step bg_ hb)
        clear BK233
        clear BK234
        clear BK246
        clear HB
        have BK233 := n0_
        have BK234 := n1_
        have BK246 := n2_
        have HB := n3_
        clear n0_ n1_ n2_ n3_
        (try clear hb)
        (try clear hb2)
        (try clear hk)
        (try clear hi)
        refine hK.out _ _ ⟨(blk_cell BK233.out 0).trans rfl, (blk_cell BK233.out 1).trans rfl, (blk_cell BK233.out 2).trans rfl, (blk_cell BK234.out 0).trans rfl, (blk_cell BK234.out 1).trans rfl⟩ (fun hHeld => ?_)
        clear hK K
        refine norm_ (a' := ?_) ?_ ?_
        rotate_left
        ·show Act.put _ (some 25) _ = _
         simp only [Act.put, List.setIfInBounds_toArray, List.set_cons_zero, List.set_cons_succ, i64_w, i32_w]
         rfl
        refine pa_ 5 (some 20) (bm 11 319) rfl rfl HT_.out ?_
        refine pa_ 6 (some 26) (bm 11 383) rfl rfl HT_.out ?_
        refine pa_ 7 (some 27) (bm 11 511) rfl rfl HT_.out ?_
        exact norm_ (by simp only [putAll, Act.put, List.setIfInBounds_toArray, List.set_cons_zero, List.set_cons_succ]) (hCont (gb246) _ ⟨hHeld, (bk_ BK233), (bk_ BK234), (bk_ BK246), GW246.out, GE246.out, NB233_246.out, NB246_233.out, NB234_246.out, NB246_234.out, bg_⟩)
      ·skip
       refine box_step ?hg (N := 6) ?hd (cs := #[.string (⟨#[]⟩ : ByteArray), .string (⟨#[]⟩ : ByteArray), .int .i64 0]) (t := 31) ?hr ?_; (case hd => rfl); (case hg => rfl); (case hr => first | (go_simp; done) | (go_simp; rfl))
       intro gb246 hg w105 hbox hb
       have n0_ := Aside0.mk (blk_below (g := gb233) (o := .cells #[.string a0_0, .string a0_1, .int .i64 a0_2] 36 (0, 0)) (bk_ BK233) hb)
       have n1_ := Aside0.mk (blk_below (g := gb234) (o := .cells #[.string a1_0, .string a1_1] 23 (0, 0)) (bk_ BK234) hb)
       have n2_ := Aside0.mk (below_step bg_ hb)
       have n3_ := Aside0.mk (hbox)
       have n4_ := Aside0.mk ((by rw [hg]; exact (below_size bg_) : w.heap.size ≤ gb246))
       have n5_ := Aside0.mk ((by rw [hg]; exact (below_size bg_) : w.heap.size ≤ gb246))
       have n6_ := Aside0.mk ((by rw [hg]; exact Nat.ne_of_lt (blk_lt (g := gb233) (o := .cells #[.string a0_0, .string a0_1, .int .i64 a0_2] 36 (0, 0)) (bk_ BK233)) : gb233 ≠ gb246))
       have n7_ := Aside0.mk ((by rw [hg]; exact Nat.ne_of_gt (blk_lt (g := gb233) (o := .cells #[.string a0_0, .string a0_1, .int .i64 a0_2] 36 (0, 0)) (bk_ BK233)) : gb246 ≠ gb233))
       have n8_ := Aside0.mk ((by rw [hg]; exact Nat.ne_of_lt (blk_lt (g := gb234) (o := .cells #[.string a1_0, .string a1_1] 23 (0, 0)) (bk_ BK234)) : gb234 ≠ gb246))
       have n9_ := Aside0.mk ((by rw [hg]; exact Nat.ne_of_gt (blk_lt (g := gb234) (o := .cells #[.string a1_0, .string a1_1] 23 (0, 0)) (bk_ BK234)) : gb246 ≠ gb234))
       clear BK233
       clear BK234
       clear HB
       have BK233 := n0_
       have BK234 := n1_
       have HB := n2_
       have BK246 := n3_
       have GW246 := n4_
       have GE246 := n5_
       have NB233_246 := n6_
       have NB246_233 := n7_
       have NB234_246 := n8_
       have NB246_234 := n9_
       clear n0_ n1_ n2_ n3_ n4_ n5_ n6_ n7_ n8_ n9_
       clear hb hbox hg
       refine hK.out _ _ ⟨(blk_cell BK233.out 0).trans rfl, (blk_cell BK233.out 1).trans rfl, (blk_cell BK233.out 2).trans rfl, (blk_cell BK234.out 0).trans rfl, (blk_cell BK234.out 1).trans rfl⟩ (fun hHeld => ?_)
       clear hK K
       refine norm_ (a' := ?_) ?_ ?_
       rotate_left
       ·show Act.put _ (some 6) _ = _
        simp only [Act.put, List.setIfInBounds_toArray, List.set_cons_zero, List.set_cons_succ, i64_w, i32_w]
        rfl
       refine one_ (i := 3) (N := some 24) (bm 11 271) rfl rfl (one_of HT_.out (by kernel_rfl)) (by decide) (fun K hK => ?_)
       refine goes_ Tryd.func14 (by kernel_rfl) rfl #[.agg #[.string a1_0, .string a1_1]] (by rfl) rfl rfl (by (try simp only [List.map_toArray, List.map_cons, List.map_nil]); first | done | rfl | (simp only [List.length_drop, List.length_take]; rfl)) ?_
       with_reducible refine (laws_toLogRecord.calls a1_0 a1_1 t240 t241 _ A20.out).mono ?_
       rintro e w106 ⟨rfl, hb⟩
       refine ⟨_, rfl, ?_⟩
       have n0_ := Aside0.mk (blk_below (g := gb233) (o := .cells #[.string a0_0, .string a0_1, .int .i64 a0_2] 36 (0, 0)) (bk_ BK233) hb)
       have n1_ := Aside0.mk (blk_below (g := gb234) (o := .cells #[.string a1_0, .string a1_1] 23 (0, 0)) (bk_ BK234) hb)
       have n2_ := Aside0.mk (blk_below (g := gb246) (o := .cells #[.string (⟨#[]⟩ : ByteArray), .string (⟨#[]⟩ : ByteArray), .int .i64 0] 31 (0, 0)) (bk_ BK246) hb)
       have n3_ := Aside0.mk (below_step bg_ hb)
       clear BK233
       clear BK234
       clear BK246
       clear HB
       have BK233 := n0_
       have BK234 := n1_
       have BK246 := n2_
       have HB := n3_
       clear n0_ n1_ n2_ n3_
       (try clear hb)
       (try clear hb2)
       (try clear hk)
       (try clear hi)
       refine hK.out _ _ ⟨(blk_cell BK233.out 0).trans rfl, (blk_cell BK233.out 1).trans rfl, (blk_cell BK233.out 2).trans rfl, (blk_cell BK234.out 0).trans rfl, (blk_cell BK234.out 1).trans rfl⟩ (fun hHeld => ?_)
       clear hK K
       refine norm_ (a' := ?_) ?_ ?_
       rotate_left
       ·show Act.put _ (some 24) _ = _
        simp only [Act.put, List.setIfInBounds_toArray, List.set_cons_zero, List.set_cons_succ, i64_w, i32_w]
        rfl
       refine one_ (i := 4) (N := some 25) (bm 11 287) rfl rfl (one_of HT_.out (by kernel_rfl)) (by decide) (fun K hK => ?_)
       refine goes_ Tryd.func27 (by kernel_rfl) rfl #[.agg #[.string t237, .string t238, .int .i64 t239], .agg #[.string t240, .string t241]] (by rfl) rfl rfl (by (try simp only [List.map_toArray, List.map_cons, List.map_nil]); first | done | rfl | (simp only [List.length_drop, List.length_take]; rfl)) ?_
       with_reducible refine (spec_AppendRecord.calls k t237 t238 t239 t240 t241 t242 t243 t244 t245 _ A21.out).mono ?_
       rintro e w107 ⟨rfl, hb⟩
       refine ⟨_, rfl, ?_⟩
       have n0_ := Aside0.mk (blk_below (g := gb233) (o := .cells #[.string a0_0, .string a0_1, .int .i64 a0_2] 36 (0, 0)) (bk_ BK233) hb)
       have n1_ := Aside0.mk (blk_below (g := gb234) (o := .cells #[.string a1_0, .string a1_1] 23 (0, 0)) (bk_ BK234) hb)
       have n2_ := Aside0.mk (blk_below (g := gb246) (o := .cells #[.string (⟨#[]⟩ : ByteArray), .string (⟨#[]⟩ : ByteArray), .int .i64 0] 31 (0, 0)) (bk_ BK246) hb)
       have n3_ := Aside0.mk (below_step bg_ hb)
       clear BK233
       clear BK234
       clear BK246
       clear HB
       have BK233 := n0_
       have BK234 := n1_
       have BK246 := n2_
       have HB := n3_
       clear n0_ n1_ n2_ n3_
       (try clear hb)
       (try clear hb2)
       (try clear hk)
       (try clear hi)
       refine hK.out _ _ ⟨(blk_cell BK233.out 0).trans rfl, (blk_cell BK233.out 1).trans rfl, (blk_cell BK233.out 2).trans rfl, (blk_cell BK234.out 0).trans rfl, (blk_cell BK234.out 1).trans rfl⟩ (fun hHeld => ?_)
       clear hK K
       refine norm_ (a' := ?_) ?_ ?_
       rotate_left
       ·show Act.put _ (some 25) _ = _
        simp only [Act.put, List.setIfInBounds_toArray, List.set_cons_zero, List.set_cons_succ, i64_w, i32_w]
        rfl
       refine pa_ 5 (some 20) (bm 11 319) rfl rfl HT_.out ?_
       refine pa_ 6 (some 26) (bm 11 383) rfl rfl HT_.out ?_
       refine pa_ 7 (some 27) (bm 11 511) rfl rfl HT_.out ?_
       exact norm_ (by simp only [putAll, Act.put, List.setIfInBounds_toArray, List.set_cons_zero, List.set_cons_succ]) (hCont (gb246) _ ⟨hHeld, (bk_ BK233), (bk_ BK234), (bk_ BK246), GW246.out, GE246.out, NB233_246.out, NB246_233.out, NB234_246.out, NB246_234.out, bg_⟩)
     ·skip
      refine box_step ?hg (N := 6) ?hd (cs := #[.string (⟨#[]⟩ : ByteArray), .string (⟨#[]⟩ : ByteArray), .int .i64 0]) (t := 31) ?hr ?_; (case hd => rfl); (case hg => rfl); (case hr => first | (go_simp; done) | (go_simp; rfl))
      intro gb246 hg w104 hbox hb
      have n0_ := Aside0.mk (blk_below (g := gb233) (o := .cells #[.string a0_0, .string a0_1, .int .i64 a0_2] 36 (0, 0)) (bk_ BK233) hb)
      have n1_ := Aside0.mk (blk_below (g := gb234) (o := .cells #[.string a1_0, .string a1_1] 23 (0, 0)) (bk_ BK234) hb)
      have n2_ := Aside0.mk (below_step bg_ hb)
      have n3_ := Aside0.mk (hbox)
      have n4_ := Aside0.mk ((by rw [hg]; exact (below_size bg_) : w.heap.size ≤ gb246))
      have n5_ := Aside0.mk ((by rw [hg]; exact (below_size bg_) : w.heap.size ≤ gb246))
      have n6_ := Aside0.mk ((by rw [hg]; exact Nat.ne_of_lt (blk_lt (g := gb233) (o := .cells #[.string a0_0, .string a0_1, .int .i64 a0_2] 36 (0, 0)) (bk_ BK233)) : gb233 ≠ gb246))
      have n7_ := Aside0.mk ((by rw [hg]; exact Nat.ne_of_gt (blk_lt (g := gb233) (o := .cells #[.string a0_0, .string a0_1, .int .i64 a0_2] 36 (0, 0)) (bk_ BK233)) : gb246 ≠ gb233))
      have n8_ := Aside0.mk ((by rw [hg]; exact Nat.ne_of_lt (blk_lt (g := gb234) (o := .cells #[.string a1_0, .string a1_1] 23 (0, 0)) (bk_ BK234)) : gb234 ≠ gb246))
      have n9_ := Aside0.mk ((by rw [hg]; exact Nat.ne_of_gt (blk_lt (g := gb234) (o := .cells #[.string a1_0, .string a1_1] 23 (0, 0)) (bk_ BK234)) : gb246 ≠ gb234))
      clear BK233
      clear BK234
      clear HB
      have BK233 := n0_
      have BK234 := n1_
      have HB := n2_
      have BK246 := n3_
      have GW246 := n4_
      have GE246 := n5_
      have NB233_246 := n6_
      have NB246_233 := n7_
      have NB234_246 := n8_
      have NB246_234 := n9_
      clear n0_ n1_ n2_ n3_ n4_ n5_ n6_ n7_ n8_ n9_
      clear hb hbox hg
      refine hK.out _ _ ⟨(blk_cell BK233.out 0).trans rfl, (blk_cell BK233.out 1).trans rfl, (blk_cell BK233.out 2).trans rfl, (blk_cell BK234.out 0).trans rfl, (blk_cell BK234.out 1).trans rfl⟩ (fun hHeld => ?_)
      clear hK K
      refine norm_ (a' := ?_) ?_ ?_
      rotate_left
      ·show Act.put _ (some 6) _ = _
       simp only [Act.put, List.setIfInBounds_toArray, List.set_cons_zero, List.set_cons_succ, i64_w, i32_w]
       rfl
      refine one_ (i := 1) (N := some 22) (bm 11 263) rfl rfl (one_of HT_.out (by kernel_rfl)) (by decide) (fun K hK => ?_)
      refine goes_ Tryd.func21 (by kernel_rfl) rfl #[.agg #[.string a0_0, .string a0_1, .int .i64 a0_2]] (by rfl) rfl rfl (by (try simp only [List.map_toArray, List.map_cons, List.map_nil]); first | done | rfl | (simp only [List.length_drop, List.length_take]; rfl)) ?_
      with_reducible refine (laws_toLog.calls a0_0 a0_1 a0_2 t237 t238 t239 _ A19.out).mono ?_
      rintro e w105 ⟨rfl, hb⟩
      refine ⟨_, rfl, ?_⟩
      have n0_ := Aside0.mk (blk_below (g := gb233) (o := .cells #[.string a0_0, .string a0_1, .int .i64 a0_2] 36 (0, 0)) (bk_ BK233) hb)
      have n1_ := Aside0.mk (blk_below (g := gb234) (o := .cells #[.string a1_0, .string a1_1] 23 (0, 0)) (bk_ BK234) hb)
      have n2_ := Aside0.mk (blk_below (g := gb246) (o := .cells #[.string (⟨#[]⟩ : ByteArray), .string (⟨#[]⟩ : ByteArray), .int .i64 0] 31 (0, 0)) (bk_ BK246) hb)
      have n3_ := Aside0.mk (below_step bg_ hb)
      clear BK233
      clear BK234
      clear BK246
      clear HB
      have BK233 := n0_
      have BK234 := n1_
      have BK246 := n2_
      have HB := n3_
      clear n0_ n1_ n2_ n3_
      (try clear hb)
      (try clear hb2)
      (try clear hk)
      (try clear hi)
      refine hK.out _ _ ⟨(blk_cell BK233.out 0).trans rfl, (blk_cell BK233.out 1).trans rfl, (blk_cell BK233.out 2).trans rfl, (blk_cell BK234.out 0).trans rfl, (blk_cell BK234.out 1).trans rfl⟩ (fun hHeld => ?_)
      clear hK K
      refine norm_ (a' := ?_) ?_ ?_
      rotate_left
      ·show Act.put _ (some 22) _ = _
       simp only [Act.put, List.setIfInBounds_toArray, List.set_cons_zero, List.set_cons_succ, i64_w, i32_w]
       rfl
      refine one_ (i := 3) (N := some 24) (bm 11 271) rfl rfl (one_of HT_.out (by kernel_rfl)) (by decide) (fun K hK => ?_)
      refine goes_ Tryd.func14 (by kernel_rfl) rfl #[.agg #[.string a1_0, .string a1_1]] (by rfl) rfl rfl (by (try simp only [List.map_toArray, List.map_cons, List.map_nil]); first | done | rfl | (simp only [List.length_drop, List.length_take]; rfl)) ?_
      with_reducible refine (laws_toLogRecord.calls a1_0 a1_1 t240 t241 _ A20.out).mono ?_
      rintro e w106 ⟨rfl, hb⟩
      refine ⟨_, rfl, ?_⟩
      have n0_ := Aside0.mk (blk_below (g := gb233) (o := .cells #[.string a0_0, .string a0_1, .int .i64 a0_2] 36 (0, 0)) (bk_ BK233) hb)
      have n1_ := Aside0.mk (blk_below (g := gb234) (o := .cells #[.string a1_0, .string a1_1] 23 (0, 0)) (bk_ BK234) hb)
      have n2_ := Aside0.mk (blk_below (g := gb246) (o := .cells #[.string (⟨#[]⟩ : ByteArray), .string (⟨#[]⟩ : ByteArray), .int .i64 0] 31 (0, 0)) (bk_ BK246) hb)
      have n3_ := Aside0.mk (below_step bg_ hb)
      clear BK233
      clear BK234
      clear BK246
      clear HB
      have BK233 := n0_
      have BK234 := n1_
      have BK246 := n2_
      have HB := n3_
      clear n0_ n1_ n2_ n3_
      (try clear hb)
      (try clear hb2)
      (try clear hk)
      (try clear hi)
      refine hK.out _ _ ⟨(blk_cell BK233.out 0).trans rfl, (blk_cell BK233.out 1).trans rfl, (blk_cell BK233.out 2).trans rfl, (blk_cell BK234.out 0).trans rfl, (blk_cell BK234.out 1).trans rfl⟩ (fun hHeld => ?_)
      clear hK K
      refine norm_ (a' := ?_) ?_ ?_
      rotate_left
      ·show Act.put _ (some 24) _ = _
       simp only [Act.put, List.setIfInBounds_toArray, List.set_cons_zero, List.set_cons_succ, i64_w, i32_w]
       rfl
      refine one_ (i := 4) (N := some 25) (bm 11 287) rfl rfl (one_of HT_.out (by kernel_rfl)) (by decide) (fun K hK => ?_)
      refine goes_ Tryd.func27 (by kernel_rfl) rfl #[.agg #[.string t237, .string t238, .int .i64 t239], .agg #[.string t240, .string t241]] (by rfl) rfl rfl (by (try simp only [List.map_toArray, List.map_cons, List.map_nil]); first | done | rfl | (simp only [List.length_drop, List.length_take]; rfl)) ?_
      with_reducible refine (spec_AppendRecord.calls k t237 t238 t239 t240 t241 t242 t243 t244 t245 _ A21.out).mono ?_
      rintro e w107 ⟨rfl, hb⟩
      refine ⟨_, rfl, ?_⟩
      have n0_ := Aside0.mk (blk_below (g := gb233) (o := .cells #[.string a0_0, .string a0_1, .int .i64 a0_2] 36 (0, 0)) (bk_ BK233) hb)
      have n1_ := Aside0.mk (blk_below (g := gb234) (o := .cells #[.string a1_0, .string a1_1] 23 (0, 0)) (bk_ BK234) hb)
      have n2_ := Aside0.mk (blk_below (g := gb246) (o := .cells #[.string (⟨#[]⟩ : ByteArray), .string (⟨#[]⟩ : ByteArray), .int .i64 0] 31 (0, 0)) (bk_ BK246) hb)
      have n3_ := Aside0.mk (below_step bg_ hb)
      clear BK233
      clear BK234
      clear BK246
      clear HB
      have BK233 := n0_
      have BK234 := n1_
      have BK246 := n2_
      have HB := n3_
      clear n0_ n1_ n2_ n3_
      (try clear hb)
      (try clear hb2)
      (try clear hk)
      (try clear hi)
      refine hK.out _ _ ⟨(blk_cell BK233.out 0).trans rfl, (blk_cell BK233.out 1).trans rfl, (blk_cell BK233.out 2).trans rfl, (blk_cell BK234.out 0).trans rfl, (blk_cell BK234.out 1).trans rfl⟩ (fun hHeld => ?_)
      clear hK K
      refine norm_ (a' := ?_) ?_ ?_
      rotate_left
      ·show Act.put _ (some 25) _ = _
       simp only [Act.put, List.setIfInBounds_toArray, List.set_cons_zero, List.set_cons_succ, i64_w, i32_w]
       rfl
      refine pa_ 5 (some 20) (bm 11 319) rfl rfl HT_.out ?_
      refine pa_ 6 (some 26) (bm 11 383) rfl rfl HT_.out ?_
      refine pa_ 7 (some 27) (bm 11 511) rfl rfl HT_.out ?_
      exact norm_ (by simp only [putAll, Act.put, List.setIfInBounds_toArray, List.set_cons_zero, List.set_cons_succ]) (hCont (gb246) _ ⟨hHeld, (bk_ BK233), (bk_ BK234), (bk_ BK246), GW246.out, GE246.out, NB233_246.out, NB246_233.out, NB234_246.out, NB246_234.out, bg_⟩)
    rintro gb246 w108 ⟨hS_, h0_, h1_, h2_, h3_, h4_, h5_, h6_, h7_, h8_, h9_⟩
    have n0_ : Aside0 (w108.heap[gb233]? = some (.cells #[.string a0_0, .string a0_1, .int .i64 a0_2] 36 (0, 0))) := ⟨h0_⟩
    have n1_ : Aside0 (w108.heap[gb234]? = some (.cells #[.string a1_0, .string a1_1] 23 (0, 0))) := ⟨h1_⟩
    have n2_ : Aside0 (w108.heap[gb246]? = some (.cells #[.string (⟨#[]⟩ : ByteArray), .string (⟨#[]⟩ : ByteArray), .int .i64 0] 31 (0, 0))) := ⟨h2_⟩
    have n3_ : Aside0 (w.heap.size ≤ gb246) := ⟨h3_⟩
    have n4_ : Aside0 (w.heap.size ≤ gb246) := ⟨h4_⟩
    have n5_ : Aside0 (gb233 ≠ gb246) := ⟨h5_⟩
    have n6_ : Aside0 (gb246 ≠ gb233) := ⟨h6_⟩
    have n7_ : Aside0 (gb234 ≠ gb246) := ⟨h7_⟩
    have n8_ : Aside0 (gb246 ≠ gb234) := ⟨h8_⟩
    have n9_ : Aside0 (Below w.heap.size w w108) := ⟨h9_⟩
    clear BK233
    clear BK234
    clear HB
    clear h0_ h1_ h2_ h3_ h4_ h5_ h6_ h7_ h8_ h9_
    have BK233 := n0_
    have BK234 := n1_
    have BK246 := n2_
    have GW246 := n3_
    have GE246 := n4_
    have NB233_246 := n5_
    have NB246_233 := n6_
    have NB234_246 := n7_
    have NB246_234 := n8_
    have HB := n9_
    clear n0_ n1_ n2_ n3_ n4_ n5_ n6_ n7_ n8_ n9_
    have hHeld : w108.cell? ⟨gb233, 0, none⟩ = some (.string a0_0) ∧ w108.cell? ⟨gb233, 1, none⟩ = some (.string a0_1) ∧ w108.cell? ⟨gb233, 2, none⟩ = some (.int .i64 a0_2) ∧ w108.cell? ⟨gb234, 0, none⟩ = some (.string a1_0) ∧ w108.cell? ⟨gb234, 1, none⟩ = some (.string a1_1) := hS_
    refine norm_ (a' := ?_) ?_ ?_
    rotate_left
    ·simp only [putAll, Act.put, List.setIfInBounds_toArray, List.set_cons_zero, List.set_cons_succ]
     rfl
    refine one_ (i := 9) (N := none) (bm 11 1023) rfl rfl (one_of HT_.out (by kernel_rfl)) (by decide) (fun K hK => ?_)
    have hs109 : w108.cell? ⟨gb246, 0, none⟩ = some (.string (⟨#[]⟩ : ByteArray)) := (blk_cell BK246.out 0).trans rfl
    have hfs109 := blk_frozen BK246.out 0
    have hns109_0 := NB233_246.out
    have hns109_1 := NB234_246.out
    have hms109_0 := NB246_233.out
    have hms109_1 := NB246_234.out
    have hs110 : w108.cell? ⟨gb246, 1, none⟩ = some (.string (⟨#[]⟩ : ByteArray)) := (blk_cell BK246.out 1).trans rfl
    have hfs110 := blk_frozen BK246.out 1
    have hns110_0 := NB233_246.out
    have hns110_1 := NB234_246.out
    have hms110_0 := NB246_233.out
    have hms110_1 := NB246_234.out
    have hs111 : w108.cell? ⟨gb246, 2, none⟩ = some (.int .i64 0) := (blk_cell BK246.out 2).trans rfl
    have hfs111 := blk_frozen BK246.out 2
    have hns111_0 := NB233_246.out
    have hns111_1 := NB234_246.out
    have hms111_0 := NB246_233.out
    have hms111_1 := NB246_234.out
    refine skip_ (w1 := ?_) (by rfl) rfl ?_ ?_
    rotate_left
    ·go_simp
     rfl
    refine hK.out _ _ ⟨((cell_far (p := ⟨gb246, _, none⟩) NB233_246.out _).trans (((cell_far (p := ⟨gb246, _, none⟩) NB233_246.out _).trans (((cell_far (p := ⟨gb246, _, none⟩) NB233_246.out _).trans (hHeld.1)))))), ((cell_far (p := ⟨gb246, _, none⟩) NB233_246.out _).trans (((cell_far (p := ⟨gb246, _, none⟩) NB233_246.out _).trans (((cell_far (p := ⟨gb246, _, none⟩) NB233_246.out _).trans (hHeld.2.1)))))), ((cell_far (p := ⟨gb246, _, none⟩) NB233_246.out _).trans (((cell_far (p := ⟨gb246, _, none⟩) NB233_246.out _).trans (((cell_far (p := ⟨gb246, _, none⟩) NB233_246.out _).trans (hHeld.2.2.1)))))), ((cell_far (p := ⟨gb246, _, none⟩) NB234_246.out _).trans (((cell_far (p := ⟨gb246, _, none⟩) NB234_246.out _).trans (((cell_far (p := ⟨gb246, _, none⟩) NB234_246.out _).trans (hHeld.2.2.2.1)))))), ((cell_far (p := ⟨gb246, _, none⟩) NB234_246.out _).trans (((cell_far (p := ⟨gb246, _, none⟩) NB234_246.out _).trans (((cell_far (p := ⟨gb246, _, none⟩) NB234_246.out _).trans (hHeld.2.2.2.2))))))⟩ (fun hHeld => ?_)
    clear hK K
    refine pa_ 10 (some 7) (bm 11 2047) rfl rfl HT_.out ?_
    refine done_ (done_of HT_.out (by kernel_rfl)) ?_
    try go_wp2
    have n0_ : Aside0 ((((w108.setCell ⟨gb246, 0, none⟩ (.string t242)).setCell ⟨gb246, 1, none⟩ (.string t243)).setCell ⟨gb246, 2, none⟩ (.int .i64 t244)).heap[gb233]? = some (.cells #[.string a0_0, .string a0_1, .int .i64 a0_2] 36 (0, 0))) := ⟨by (with_reducible repeat (first | refine blk_drewN ?_ _ | refine blk_drew ?_ | refine blk_alloc ?_ _)); refine blk_far ?_ NB233_246.out _; (with_reducible repeat (first | refine blk_drewN ?_ _ | refine blk_drew ?_ | refine blk_alloc ?_ _)); refine blk_far ?_ NB233_246.out _; (with_reducible repeat (first | refine blk_drewN ?_ _ | refine blk_drew ?_ | refine blk_alloc ?_ _)); refine blk_far ?_ NB233_246.out _; (with_reducible repeat (first | refine blk_drewN ?_ _ | refine blk_drew ?_ | refine blk_alloc ?_ _)); exact BK233.out⟩
    have n1_ : Aside0 ((((w108.setCell ⟨gb246, 0, none⟩ (.string t242)).setCell ⟨gb246, 1, none⟩ (.string t243)).setCell ⟨gb246, 2, none⟩ (.int .i64 t244)).heap[gb234]? = some (.cells #[.string a1_0, .string a1_1] 23 (0, 0))) := ⟨by (with_reducible repeat (first | refine blk_drewN ?_ _ | refine blk_drew ?_ | refine blk_alloc ?_ _)); refine blk_far ?_ NB234_246.out _; (with_reducible repeat (first | refine blk_drewN ?_ _ | refine blk_drew ?_ | refine blk_alloc ?_ _)); refine blk_far ?_ NB234_246.out _; (with_reducible repeat (first | refine blk_drewN ?_ _ | refine blk_drew ?_ | refine blk_alloc ?_ _)); refine blk_far ?_ NB234_246.out _; (with_reducible repeat (first | refine blk_drewN ?_ _ | refine blk_drew ?_ | refine blk_alloc ?_ _)); exact BK234.out⟩
    have n2_ : Aside0 ((((w108.setCell ⟨gb246, 0, none⟩ (.string t242)).setCell ⟨gb246, 1, none⟩ (.string t243)).setCell ⟨gb246, 2, none⟩ (.int .i64 t244)).heap[gb246]? = some (.cells #[.string t242, .string t243, .int .i64 t244] 31 (0, 0))) := ⟨by (with_reducible repeat (first | refine blk_drewN ?_ _ | refine blk_drew ?_ | refine blk_alloc ?_ _)); refine blk_put (cs := #[.string t242, .string t243, .int .i64 0]) ?_ 2 _ rfl; (with_reducible repeat (first | refine blk_drewN ?_ _ | refine blk_drew ?_ | refine blk_alloc ?_ _)); refine blk_put (cs := #[.string t242, .string (⟨#[]⟩ : ByteArray), .int .i64 0]) ?_ 1 _ rfl; (with_reducible repeat (first | refine blk_drewN ?_ _ | refine blk_drew ?_ | refine blk_alloc ?_ _)); refine blk_put (cs := #[.string (⟨#[]⟩ : ByteArray), .string (⟨#[]⟩ : ByteArray), .int .i64 0]) ?_ 0 _ rfl; (with_reducible repeat (first | refine blk_drewN ?_ _ | refine blk_drew ?_ | refine blk_alloc ?_ _)); exact BK246.out⟩
    have n3_ : Aside0 (Below w.heap.size w (((w108.setCell ⟨gb246, 0, none⟩ (.string t242)).setCell ⟨gb246, 1, none⟩ (.string t243)).setCell ⟨gb246, 2, none⟩ (.int .i64 t244))) := ⟨by repeat (first | (with_reducible first | exact HB.out | apply below_alloc | apply pw_below_drewN | apply below_drew1 | refine below_set ?_ GE233.out | refine below_set ?_ GE234.out | refine below_set ?_ GE246.out) | exact HB.out)⟩
    (try clear BK233)
    (try clear BK234)
    (try clear BK246)
    (try clear HB)
    generalize (((w108.setCell ⟨gb246, 0, none⟩ (.string t242)).setCell ⟨gb246, 1, none⟩ (.string t243)).setCell ⟨gb246, 2, none⟩ (.int .i64 t244)) = w112 at n0_ n1_ n2_ n3_ ⊢
    have BK233 := n0_
    have BK234 := n1_
    have BK246 := n2_
    have HB := n3_
    clear n0_ n1_ n2_ n3_
    have n0_ := Aside0.mk (blk_drew BK233.out)
    have n1_ := Aside0.mk (blk_drew BK234.out)
    have n2_ := Aside0.mk (blk_drew BK246.out)
    have n3_ := Aside0.mk (below_drew1 HB.out)
    clear BK233
    clear BK234
    clear BK246
    clear HB
    have BK233 := n0_
    have BK234 := n1_
    have BK246 := n2_
    have HB := n3_
    clear n0_ n1_ n2_ n3_
    refine start_ (n := 11) (S := fun w' => w'.cell? ⟨gb233, 0, none⟩ = some (.string a0_0) ∧ w'.cell? ⟨gb233, 1, none⟩ = some (.string a0_1) ∧ w'.cell? ⟨gb233, 2, none⟩ = some (.int .i64 a0_2) ∧ w'.cell? ⟨gb234, 0, none⟩ = some (.string a1_0) ∧ w'.cell? ⟨gb234, 1, none⟩ = some (.string a1_1)) (ds := []) (bm 11 0) (by kernel_rfl) rfl rfl ⟨(blk_cell BK233.out 0).trans rfl, (blk_cell BK233.out 1).trans rfl, (blk_cell BK233.out 2).trans rfl, (blk_cell BK234.out 0).trans rfl, (blk_cell BK234.out 1).trans rfl⟩ (fun hHeld => ?_); refine with_tabW laws_FnExactAppendRecord.tab9 laws_FnExactAppendRecord.bits9 (fun HT_ HW_ => ?_)
    generalize w112.drew = w113 at BK233 BK234 BK246 HB hHeld ⊢
    refine take_ (i := 0) (N := some 29) (v := ?_) (a' := ?_) (bm 11 1) rfl rfl (take_ofW HT_.out HW_.out (by kernel_rfl)) (fun _ _ _ h => h) (Or.inl ⟨by rfl, ?_⟩) hHeld ?_ ?_
    rotate_left
    ·rintro w' ⟨s0, s1, s2, s3, s4⟩
     go_simp
     with_reducible rfl
    rotate_left
    ·simp only [Act.put, List.setIfInBounds_toArray, List.set_cons_zero, List.set_cons_succ, i64_w, i32_w]
     rfl
    refine take_ (i := 2) (N := some 31) (v := ?_) (a' := ?_) (bm 11 5) rfl rfl (take_ofW HT_.out HW_.out (by kernel_rfl)) (fun _ _ _ h => h) (Or.inl ⟨by rfl, ?_⟩) hHeld ?_ ?_
    rotate_left
    ·rintro w' ⟨s0, s1, s2, s3, s4⟩
     go_simp
     with_reducible rfl
    rotate_left
    ·simp only [Act.put, List.setIfInBounds_toArray, List.set_cons_zero, List.set_cons_succ, i64_w, i32_w]
     rfl
    refine join_ (σ := Nat) 2 (bm 11 511) (fun s_ => [(30, .agg #[.string t247, .string t248, .int .i64 t249]), (32, .agg #[.string t250, .string t251]), (33, .tuple #[.agg #[.string t252, .string t253, .int .i64 t254], .int .i64 t255]), (8, .pointer (some ⟨s_, 0, none⟩)), (28, .tuple #[.agg #[.string t252, .string t253, .int .i64 t254], .int .i64 t255]), (34, .agg #[.string t252, .string t253, .int .i64 t254]), (35, .int .i64 t255)]) (fun s_ w' => (w'.cell? ⟨gb233, 0, none⟩ = some (.string a0_0) ∧ w'.cell? ⟨gb233, 1, none⟩ = some (.string a0_1) ∧ w'.cell? ⟨gb233, 2, none⟩ = some (.int .i64 a0_2) ∧ w'.cell? ⟨gb234, 0, none⟩ = some (.string a1_0) ∧ w'.cell? ⟨gb234, 1, none⟩ = some (.string a1_1)) ∧ (w'.heap[gb233]? = some (.cells #[.string a0_0, .string a0_1, .int .i64 a0_2] 36 (0, 0))) ∧ (w'.heap[gb234]? = some (.cells #[.string a1_0, .string a1_1] 23 (0, 0))) ∧ (w'.heap[gb246]? = some (.cells #[.string t242, .string t243, .int .i64 t244] 31 (0, 0))) ∧ (w'.heap[s_]? = some (.cells #[.string (⟨#[]⟩ : ByteArray), .string (⟨#[]⟩ : ByteArray), .int .i64 0] 31 (0, 0))) ∧ (w.heap.size ≤ s_) ∧ (w.heap.size ≤ s_) ∧ (gb233 ≠ s_) ∧ (s_ ≠ gb233) ∧ (gb234 ≠ s_) ∧ (s_ ≠ gb234) ∧ (gb246 ≠ s_) ∧ (s_ ≠ gb246) ∧ (Below w.heap.size w w')) ?_ ?_
    rotate_left
    ·intro hCont
     refine two_ (i := 1) (j := 8) (Ni := some 30) (Nj := some 8) (bm 11 7) (bm 11 261) rfl rfl rfl rfl (two_of HT_.out (by kernel_rfl)) (by decide) (by decide) (fun K hK => ?_) (fun K hK => ?_)
     ·skip
      refine goes_ Tryd.func21 (by kernel_rfl) rfl #[.agg #[.string a0_0, .string a0_1, .int .i64 a0_2]] (by rfl) rfl rfl (by (try simp only [List.map_toArray, List.map_cons, List.map_nil]); first | done | rfl | (simp only [List.length_drop, List.length_take]; rfl)) ?_
      with_reducible refine (laws_toLog.calls a0_0 a0_1 a0_2 t247 t248 t249 _ A22.out).mono ?_
      rintro e w114 ⟨rfl, hb⟩
      refine ⟨_, rfl, ?_⟩
      have n0_ := Aside0.mk (blk_below (g := gb233) (o := .cells #[.string a0_0, .string a0_1, .int .i64 a0_2] 36 (0, 0)) (bk_ BK233) hb)
      have n1_ := Aside0.mk (blk_below (g := gb234) (o := .cells #[.string a1_0, .string a1_1] 23 (0, 0)) (bk_ BK234) hb)
      have n2_ := Aside0.mk (blk_below (g := gb246) (o := .cells #[.string t242, .string t243, .int .i64 t244] 31 (0, 0)) (bk_ BK246) hb)
      have n3_ := Aside0.mk (below_step bg_ hb)
      clear BK233
      clear BK234
      clear BK246
      clear HB
      have BK233 := n0_
      have BK234 := n1_
      have BK246 := n2_
      have HB := n3_
      clear n0_ n1_ n2_ n3_
      (try clear hb)
      (try clear hb2)
      (try clear hk)
      (try clear hi)
      refine hK.out _ _ ⟨(blk_cell BK233.out 0).trans rfl, (blk_cell BK233.out 1).trans rfl, (blk_cell BK233.out 2).trans rfl, (blk_cell BK234.out 0).trans rfl, (blk_cell BK234.out 1).trans rfl⟩ (fun hHeld => ?_)
      clear hK K
      refine norm_ (a' := ?_) ?_ ?_
      rotate_left
      ·show Act.put _ (some 30) _ = _
       simp only [Act.put, List.setIfInBounds_toArray, List.set_cons_zero, List.set_cons_succ, i64_w, i32_w]
       rfl
      refine two_ (i := 3) (j := 8) (Ni := some 32) (Nj := some 8) (bm 11 15) (bm 11 263) rfl rfl rfl rfl (two_of HT_.out (by kernel_rfl)) (by decide) (by decide) (fun K hK => ?_) (fun K hK => ?_)
      ·skip
       refine goes_ Tryd.func14 (by kernel_rfl) rfl #[.agg #[.string a1_0, .string a1_1]] (by rfl) rfl rfl (by (try simp only [List.map_toArray, List.map_cons, List.map_nil]); first | done | rfl | (simp only [List.length_drop, List.length_take]; rfl)) ?_
       with_reducible refine (laws_toLogRecord.calls a1_0 a1_1 t250 t251 _ A23.out).mono ?_
       rintro e w115 ⟨rfl, hb⟩
       refine ⟨_, rfl, ?_⟩
       have n0_ := Aside0.mk (blk_below (g := gb233) (o := .cells #[.string a0_0, .string a0_1, .int .i64 a0_2] 36 (0, 0)) (bk_ BK233) hb)
       have n1_ := Aside0.mk (blk_below (g := gb234) (o := .cells #[.string a1_0, .string a1_1] 23 (0, 0)) (bk_ BK234) hb)
       have n2_ := Aside0.mk (blk_below (g := gb246) (o := .cells #[.string t242, .string t243, .int .i64 t244] 31 (0, 0)) (bk_ BK246) hb)
       have n3_ := Aside0.mk (below_step bg_ hb)
       clear BK233
       clear BK234
       clear BK246
       clear HB
       have BK233 := n0_
       have BK234 := n1_
       have BK246 := n2_
       have HB := n3_
       clear n0_ n1_ n2_ n3_
       (try clear hb)
       (try clear hb2)
       (try clear hk)
       (try clear hi)
       refine hK.out _ _ ⟨(blk_cell BK233.out 0).trans rfl, (blk_cell BK233.out 1).trans rfl, (blk_cell BK233.out 2).trans rfl, (blk_cell BK234.out 0).trans rfl, (blk_cell BK234.out 1).trans rfl⟩ (fun hHeld => ?_)
       clear hK K
       refine norm_ (a' := ?_) ?_ ?_
       rotate_left
       ·show Act.put _ (some 32) _ = _
        simp only [Act.put, List.setIfInBounds_toArray, List.set_cons_zero, List.set_cons_succ, i64_w, i32_w]
        rfl
       refine two_ (i := 4) (j := 8) (Ni := some 33) (Nj := some 8) (bm 11 31) (bm 11 271) rfl rfl rfl rfl (two_of HT_.out (by kernel_rfl)) (by decide) (by decide) (fun K hK => ?_) (fun K hK => ?_)
       ·skip
        refine goes_ Tryd.func28 (by kernel_rfl) rfl #[.agg #[.string t247, .string t248, .int .i64 t249], .agg #[.string t250, .string t251]] (by rfl) rfl rfl (by (try simp only [List.map_toArray, List.map_cons, List.map_nil]); first | done | rfl | (simp only [List.length_drop, List.length_take]; rfl)) ?_
        with_reducible refine (impl_AppendRecord.calls k t247 t248 t249 t250 t251 t252 t253 t254 t255 _ ?side1 A24.out).mono ?_
        (case side1 => exact EnvW.below HENV.out bg_)
        rintro e w116 ⟨rfl, hb⟩
        refine ⟨_, rfl, ?_⟩
        have n0_ := Aside0.mk (blk_below (g := gb233) (o := .cells #[.string a0_0, .string a0_1, .int .i64 a0_2] 36 (0, 0)) (bk_ BK233) hb)
        have n1_ := Aside0.mk (blk_below (g := gb234) (o := .cells #[.string a1_0, .string a1_1] 23 (0, 0)) (bk_ BK234) hb)
        have n2_ := Aside0.mk (blk_below (g := gb246) (o := .cells #[.string t242, .string t243, .int .i64 t244] 31 (0, 0)) (bk_ BK246) hb)
        have n3_ := Aside0.mk (below_step bg_ hb)
        clear BK233
        clear BK234
        clear BK246
        clear HB
        have BK233 := n0_
        have BK234 := n1_
        have BK246 := n2_
        have HB := n3_
        clear n0_ n1_ n2_ n3_
        (try clear hb)
        (try clear hb2)
        (try clear hk)
        (try clear hi)
        refine hK.out _ _ ⟨(blk_cell BK233.out 0).trans rfl, (blk_cell BK233.out 1).trans rfl, (blk_cell BK233.out 2).trans rfl, (blk_cell BK234.out 0).trans rfl, (blk_cell BK234.out 1).trans rfl⟩ (fun hHeld => ?_)
        clear hK K
        refine norm_ (a' := ?_) ?_ ?_
        rotate_left
        ·show Act.put _ (some 33) _ = _
         simp only [Act.put, List.setIfInBounds_toArray, List.set_cons_zero, List.set_cons_succ, i64_w, i32_w]
         rfl
        refine pa_ 5 (some 28) (bm 11 63) rfl rfl HT_.out ?_
        refine pa_ 6 (some 34) (bm 11 127) rfl rfl HT_.out ?_
        refine pa_ 7 (some 35) (bm 11 255) rfl rfl HT_.out ?_
        refine one_ (i := 8) (N := some 8) (bm 11 511) rfl rfl (one_of HT_.out (by kernel_rfl)) (by decide) (fun K hK => ?_)
        refine box_step ?hg (N := 8) ?hd (cs := #[.string (⟨#[]⟩ : ByteArray), .string (⟨#[]⟩ : ByteArray), .int .i64 0]) (t := 31) ?hr ?_; (case hd => rfl); (case hg => rfl); (case hr => first | (go_simp; done) | (go_simp; rfl))
        intro gb256 hg w117 hbox hb
        have n0_ := Aside0.mk (blk_below (g := gb233) (o := .cells #[.string a0_0, .string a0_1, .int .i64 a0_2] 36 (0, 0)) (bk_ BK233) hb)
        have n1_ := Aside0.mk (blk_below (g := gb234) (o := .cells #[.string a1_0, .string a1_1] 23 (0, 0)) (bk_ BK234) hb)
        have n2_ := Aside0.mk (blk_below (g := gb246) (o := .cells #[.string t242, .string t243, .int .i64 t244] 31 (0, 0)) (bk_ BK246) hb)
        have n3_ := Aside0.mk (below_step bg_ hb)
        have n4_ := Aside0.mk (hbox)
        have n5_ := Aside0.mk ((by rw [hg]; exact (below_size bg_) : w.heap.size ≤ gb256))
        have n6_ := Aside0.mk ((by rw [hg]; exact (below_size bg_) : w.heap.size ≤ gb256))
        have n7_ := Aside0.mk ((by rw [hg]; exact Nat.ne_of_lt (blk_lt (g := gb233) (o := .cells #[.string a0_0, .string a0_1, .int .i64 a0_2] 36 (0, 0)) (bk_ BK233)) : gb233 ≠ gb256))
        have n8_ := Aside0.mk ((by rw [hg]; exact Nat.ne_of_gt (blk_lt (g := gb233) (o := .cells #[.string a0_0, .string a0_1, .int .i64 a0_2] 36 (0, 0)) (bk_ BK233)) : gb256 ≠ gb233))
        have n9_ := Aside0.mk ((by rw [hg]; exact Nat.ne_of_lt (blk_lt (g := gb234) (o := .cells #[.string a1_0, .string a1_1] 23 (0, 0)) (bk_ BK234)) : gb234 ≠ gb256))
        have n10_ := Aside0.mk ((by rw [hg]; exact Nat.ne_of_gt (blk_lt (g := gb234) (o := .cells #[.string a1_0, .string a1_1] 23 (0, 0)) (bk_ BK234)) : gb256 ≠ gb234))
        have n11_ := Aside0.mk ((by rw [hg]; exact Nat.ne_of_lt (blk_lt (g := gb246) (o := .cells #[.string t242, .string t243, .int .i64 t244] 31 (0, 0)) (bk_ BK246)) : gb246 ≠ gb256))
        have n12_ := Aside0.mk ((by rw [hg]; exact Nat.ne_of_gt (blk_lt (g := gb246) (o := .cells #[.string t242, .string t243, .int .i64 t244] 31 (0, 0)) (bk_ BK246)) : gb256 ≠ gb246))
        clear BK233
        clear BK234
        clear BK246
        clear HB
        have BK233 := n0_
        have BK234 := n1_
        have BK246 := n2_
        have HB := n3_
        have BK256 := n4_
        have GW256 := n5_
        have GE256 := n6_
        have NB233_256 := n7_
        have NB256_233 := n8_
        have NB234_256 := n9_
        have NB256_234 := n10_
        have NB246_256 := n11_
        have NB256_246 := n12_
        clear n0_ n1_ n2_ n3_ n4_ n5_ n6_ n7_ n8_ n9_ n10_ n11_ n12_
        clear hb hbox hg
        refine hK.out _ _ ⟨(blk_cell BK233.out 0).trans rfl, (blk_cell BK233.out 1).trans rfl, (blk_cell BK233.out 2).trans rfl, (blk_cell BK234.out 0).trans rfl, (blk_cell BK234.out 1).trans rfl⟩ (fun hHeld => ?_)
        clear hK K
        refine norm_ (a' := ?_) ?_ ?_
        rotate_left
        ·show Act.put _ (some 8) _ = _
         simp only [Act.put, List.setIfInBounds_toArray, List.set_cons_zero, List.set_cons_succ, i64_w, i32_w]
         rfl
        exact norm_ (by simp only [putAll, Act.put, List.setIfInBounds_toArray, List.set_cons_zero, List.set_cons_succ]) (hCont (gb256) _ ⟨hHeld, (bk_ BK233), (bk_ BK234), (bk_ BK246), (bk_ BK256), GW256.out, GE256.out, NB233_256.out, NB256_233.out, NB234_256.out, NB256_234.out, NB246_256.out, NB256_246.out, bg_⟩)
       ·skip
        refine box_step ?hg (N := 8) ?hd (cs := #[.string (⟨#[]⟩ : ByteArray), .string (⟨#[]⟩ : ByteArray), .int .i64 0]) (t := 31) ?hr ?_; (case hd => rfl); (case hg => rfl); (case hr => first | (go_simp; done) | (go_simp; rfl))
        intro gb256 hg w116 hbox hb
        have n0_ := Aside0.mk (blk_below (g := gb233) (o := .cells #[.string a0_0, .string a0_1, .int .i64 a0_2] 36 (0, 0)) (bk_ BK233) hb)
        have n1_ := Aside0.mk (blk_below (g := gb234) (o := .cells #[.string a1_0, .string a1_1] 23 (0, 0)) (bk_ BK234) hb)
        have n2_ := Aside0.mk (blk_below (g := gb246) (o := .cells #[.string t242, .string t243, .int .i64 t244] 31 (0, 0)) (bk_ BK246) hb)
        have n3_ := Aside0.mk (below_step bg_ hb)
        have n4_ := Aside0.mk (hbox)
        have n5_ := Aside0.mk ((by rw [hg]; exact (below_size bg_) : w.heap.size ≤ gb256))
        have n6_ := Aside0.mk ((by rw [hg]; exact (below_size bg_) : w.heap.size ≤ gb256))
        have n7_ := Aside0.mk ((by rw [hg]; exact Nat.ne_of_lt (blk_lt (g := gb233) (o := .cells #[.string a0_0, .string a0_1, .int .i64 a0_2] 36 (0, 0)) (bk_ BK233)) : gb233 ≠ gb256))
        have n8_ := Aside0.mk ((by rw [hg]; exact Nat.ne_of_gt (blk_lt (g := gb233) (o := .cells #[.string a0_0, .string a0_1, .int .i64 a0_2] 36 (0, 0)) (bk_ BK233)) : gb256 ≠ gb233))
        have n9_ := Aside0.mk ((by rw [hg]; exact Nat.ne_of_lt (blk_lt (g := gb234) (o := .cells #[.string a1_0, .string a1_1] 23 (0, 0)) (bk_ BK234)) : gb234 ≠ gb256))
        have n10_ := Aside0.mk ((by rw [hg]; exact Nat.ne_of_gt (blk_lt (g := gb234) (o := .cells #[.string a1_0, .string a1_1] 23 (0, 0)) (bk_ BK234)) : gb256 ≠ gb234))
        have n11_ := Aside0.mk ((by rw [hg]; exact Nat.ne_of_lt (blk_lt (g := gb246) (o := .cells #[.string t242, .string t243, .int .i64 t244] 31 (0, 0)) (bk_ BK246)) : gb246 ≠ gb256))
        have n12_ := Aside0.mk ((by rw [hg]; exact Nat.ne_of_gt (blk_lt (g := gb246) (o := .cells #[.string t242, .string t243, .int .i64 t244] 31 (0, 0)) (bk_ BK246)) : gb256 ≠ gb246))
        clear BK233
        clear BK234
        clear BK246
        clear HB
        have BK233 := n0_
        have BK234 := n1_
        have BK246 := n2_
        have HB := n3_
        have BK256 := n4_
        have GW256 := n5_
        have GE256 := n6_
        have NB233_256 := n7_
        have NB256_233 := n8_
        have NB234_256 := n9_
        have NB256_234 := n10_
        have NB246_256 := n11_
        have NB256_246 := n12_
        clear n0_ n1_ n2_ n3_ n4_ n5_ n6_ n7_ n8_ n9_ n10_ n11_ n12_
        clear hb hbox hg
        refine hK.out _ _ ⟨(blk_cell BK233.out 0).trans rfl, (blk_cell BK233.out 1).trans rfl, (blk_cell BK233.out 2).trans rfl, (blk_cell BK234.out 0).trans rfl, (blk_cell BK234.out 1).trans rfl⟩ (fun hHeld => ?_)
        clear hK K
        refine norm_ (a' := ?_) ?_ ?_
        rotate_left
        ·show Act.put _ (some 8) _ = _
         simp only [Act.put, List.setIfInBounds_toArray, List.set_cons_zero, List.set_cons_succ, i64_w, i32_w]
         rfl
        refine one_ (i := 4) (N := some 33) (bm 11 287) rfl rfl (one_of HT_.out (by kernel_rfl)) (by decide) (fun K hK => ?_)
        refine goes_ Tryd.func28 (by kernel_rfl) rfl #[.agg #[.string t247, .string t248, .int .i64 t249], .agg #[.string t250, .string t251]] (by rfl) rfl rfl (by (try simp only [List.map_toArray, List.map_cons, List.map_nil]); first | done | rfl | (simp only [List.length_drop, List.length_take]; rfl)) ?_
        with_reducible refine (impl_AppendRecord.calls k t247 t248 t249 t250 t251 t252 t253 t254 t255 _ ?side1 A24.out).mono ?_
        (case side1 => exact EnvW.below HENV.out bg_)
        rintro e w117 ⟨rfl, hb⟩
        refine ⟨_, rfl, ?_⟩
        have n0_ := Aside0.mk (blk_below (g := gb233) (o := .cells #[.string a0_0, .string a0_1, .int .i64 a0_2] 36 (0, 0)) (bk_ BK233) hb)
        have n1_ := Aside0.mk (blk_below (g := gb234) (o := .cells #[.string a1_0, .string a1_1] 23 (0, 0)) (bk_ BK234) hb)
        have n2_ := Aside0.mk (blk_below (g := gb246) (o := .cells #[.string t242, .string t243, .int .i64 t244] 31 (0, 0)) (bk_ BK246) hb)
        have n3_ := Aside0.mk (blk_below (g := gb256) (o := .cells #[.string (⟨#[]⟩ : ByteArray), .string (⟨#[]⟩ : ByteArray), .int .i64 0] 31 (0, 0)) (bk_ BK256) hb)
        have n4_ := Aside0.mk (below_step bg_ hb)
        clear BK233
        clear BK234
        clear BK246
        clear BK256
        clear HB
        have BK233 := n0_
        have BK234 := n1_
        have BK246 := n2_
        have BK256 := n3_
        have HB := n4_
        clear n0_ n1_ n2_ n3_ n4_
        (try clear hb)
        (try clear hb2)
        (try clear hk)
        (try clear hi)
        refine hK.out _ _ ⟨(blk_cell BK233.out 0).trans rfl, (blk_cell BK233.out 1).trans rfl, (blk_cell BK233.out 2).trans rfl, (blk_cell BK234.out 0).trans rfl, (blk_cell BK234.out 1).trans rfl⟩ (fun hHeld => ?_)
        clear hK K
        refine norm_ (a' := ?_) ?_ ?_
        rotate_left
        ·show Act.put _ (some 33) _ = _
         simp only [Act.put, List.setIfInBounds_toArray, List.set_cons_zero, List.set_cons_succ, i64_w, i32_w]
         rfl
        refine pa_ 5 (some 28) (bm 11 319) rfl rfl HT_.out ?_
        refine pa_ 6 (some 34) (bm 11 383) rfl rfl HT_.out ?_
        refine pa_ 7 (some 35) (bm 11 511) rfl rfl HT_.out ?_
        exact norm_ (by simp only [putAll, Act.put, List.setIfInBounds_toArray, List.set_cons_zero, List.set_cons_succ]) (hCont (gb256) _ ⟨hHeld, (bk_ BK233), (bk_ BK234), (bk_ BK246), (bk_ BK256), GW256.out, GE256.out, NB233_256.out, NB256_233.out, NB234_256.out, NB256_234.out, NB246_256.out, NB256_246.out, bg_⟩)
      ·skip
       refine box_step ?hg (N := 8) ?hd (cs := #[.string (⟨#[]⟩ : ByteArray), .string (⟨#[]⟩ : ByteArray), .int .i64 0]) (t := 31) ?hr ?_; (case hd => rfl); (case hg => rfl); (case hr => first | (go_simp; done) | (go_simp; rfl))
       intro gb256 hg w115 hbox hb
       have n0_ := Aside0.mk (blk_below (g := gb233) (o := .cells #[.string a0_0, .string a0_1, .int .i64 a0_2] 36 (0, 0)) (bk_ BK233) hb)
       have n1_ := Aside0.mk (blk_below (g := gb234) (o := .cells #[.string a1_0, .string a1_1] 23 (0, 0)) (bk_ BK234) hb)
       have n2_ := Aside0.mk (blk_below (g := gb246) (o := .cells #[.string t242, .string t243, .int .i64 t244] 31 (0, 0)) (bk_ BK246) hb)
       have n3_ := Aside0.mk (below_step bg_ hb)
       have n4_ := Aside0.mk (hbox)
       have n5_ := Aside0.mk ((by rw [hg]; exact (below_size bg_) : w.heap.size ≤ gb256))
       have n6_ := Aside0.mk ((by rw [hg]; exact (below_size bg_) : w.heap.size ≤ gb256))
       have n7_ := Aside0.mk ((by rw [hg]; exact Nat.ne_of_lt (blk_lt (g := gb233) (o := .cells #[.string a0_0, .string a0_1, .int .i64 a0_2] 36 (0, 0)) (bk_ BK233)) : gb233 ≠ gb256))
       have n8_ := Aside0.mk ((by rw [hg]; exact Nat.ne_of_gt (blk_lt (g := gb233) (o := .cells #[.string a0_0, .string a0_1, .int .i64 a0_2] 36 (0, 0)) (bk_ BK233)) : gb256 ≠ gb233))
       have n9_ := Aside0.mk ((by rw [hg]; exact Nat.ne_of_lt (blk_lt (g := gb234) (o := .cells #[.string a1_0, .string a1_1] 23 (0, 0)) (bk_ BK234)) : gb234 ≠ gb256))
       have n10_ := Aside0.mk ((by rw [hg]; exact Nat.ne_of_gt (blk_lt (g := gb234) (o := .cells #[.string a1_0, .string a1_1] 23 (0, 0)) (bk_ BK234)) : gb256 ≠ gb234))
       have n11_ := Aside0.mk ((by rw [hg]; exact Nat.ne_of_lt (blk_lt (g := gb246) (o := .cells #[.string t242, .string t243, .int .i64 t244] 31 (0, 0)) (bk_ BK246)) : gb246 ≠ gb256))
       have n12_ := Aside0.mk ((by rw [hg]; exact Nat.ne_of_gt (blk_lt (g := gb246) (o := .cells #[.string t242, .string t243, .int .i64 t244] 31 (0, 0)) (bk_ BK246)) : gb256 ≠ gb246))
       clear BK233
       clear BK234
       clear BK246
       clear HB
       have BK233 := n0_
       have BK234 := n1_
       have BK246 := n2_
       have HB := n3_
       have BK256 := n4_
       have GW256 := n5_
       have GE256 := n6_
       have NB233_256 := n7_
       have NB256_233 := n8_
       have NB234_256 := n9_
       have NB256_234 := n10_
       have NB246_256 := n11_
       have NB256_246 := n12_
       clear n0_ n1_ n2_ n3_ n4_ n5_ n6_ n7_ n8_ n9_ n10_ n11_ n12_
       clear hb hbox hg
       refine hK.out _ _ ⟨(blk_cell BK233.out 0).trans rfl, (blk_cell BK233.out 1).trans rfl, (blk_cell BK233.out 2).trans rfl, (blk_cell BK234.out 0).trans rfl, (blk_cell BK234.out 1).trans rfl⟩ (fun hHeld => ?_)
       clear hK K
       refine norm_ (a' := ?_) ?_ ?_
       rotate_left
       ·show Act.put _ (some 8) _ = _
        simp only [Act.put, List.setIfInBounds_toArray, List.set_cons_zero, List.set_cons_succ, i64_w, i32_w]
        rfl
       refine one_ (i := 3) (N := some 32) (bm 11 271) rfl rfl (one_of HT_.out (by kernel_rfl)) (by decide) (fun K hK => ?_)
       refine goes_ Tryd.func14 (by kernel_rfl) rfl #[.agg #[.string a1_0, .string a1_1]] (by rfl) rfl rfl (by (try simp only [List.map_toArray, List.map_cons, List.map_nil]); first | done | rfl | (simp only [List.length_drop, List.length_take]; rfl)) ?_
       with_reducible refine (laws_toLogRecord.calls a1_0 a1_1 t250 t251 _ A23.out).mono ?_
       rintro e w116 ⟨rfl, hb⟩
       refine ⟨_, rfl, ?_⟩
       have n0_ := Aside0.mk (blk_below (g := gb233) (o := .cells #[.string a0_0, .string a0_1, .int .i64 a0_2] 36 (0, 0)) (bk_ BK233) hb)
       have n1_ := Aside0.mk (blk_below (g := gb234) (o := .cells #[.string a1_0, .string a1_1] 23 (0, 0)) (bk_ BK234) hb)
       have n2_ := Aside0.mk (blk_below (g := gb246) (o := .cells #[.string t242, .string t243, .int .i64 t244] 31 (0, 0)) (bk_ BK246) hb)
       have n3_ := Aside0.mk (blk_below (g := gb256) (o := .cells #[.string (⟨#[]⟩ : ByteArray), .string (⟨#[]⟩ : ByteArray), .int .i64 0] 31 (0, 0)) (bk_ BK256) hb)
       have n4_ := Aside0.mk (below_step bg_ hb)
       clear BK233
       clear BK234
       clear BK246
       clear BK256
       clear HB
       have BK233 := n0_
       have BK234 := n1_
       have BK246 := n2_
       have BK256 := n3_
       have HB := n4_
       clear n0_ n1_ n2_ n3_ n4_
       (try clear hb)
       (try clear hb2)
       (try clear hk)
       (try clear hi)
       refine hK.out _ _ ⟨(blk_cell BK233.out 0).trans rfl, (blk_cell BK233.out 1).trans rfl, (blk_cell BK233.out 2).trans rfl, (blk_cell BK234.out 0).trans rfl, (blk_cell BK234.out 1).trans rfl⟩ (fun hHeld => ?_)
       clear hK K
       refine norm_ (a' := ?_) ?_ ?_
       rotate_left
       ·show Act.put _ (some 32) _ = _
        simp only [Act.put, List.setIfInBounds_toArray, List.set_cons_zero, List.set_cons_succ, i64_w, i32_w]
        rfl
       refine one_ (i := 4) (N := some 33) (bm 11 287) rfl rfl (one_of HT_.out (by kernel_rfl)) (by decide) (fun K hK => ?_)
       refine goes_ Tryd.func28 (by kernel_rfl) rfl #[.agg #[.string t247, .string t248, .int .i64 t249], .agg #[.string t250, .string t251]] (by rfl) rfl rfl (by (try simp only [List.map_toArray, List.map_cons, List.map_nil]); first | done | rfl | (simp only [List.length_drop, List.length_take]; rfl)) ?_
       with_reducible refine (impl_AppendRecord.calls k t247 t248 t249 t250 t251 t252 t253 t254 t255 _ ?side1 A24.out).mono ?_
       (case side1 => exact EnvW.below HENV.out bg_)
       rintro e w117 ⟨rfl, hb⟩
       refine ⟨_, rfl, ?_⟩
       have n0_ := Aside0.mk (blk_below (g := gb233) (o := .cells #[.string a0_0, .string a0_1, .int .i64 a0_2] 36 (0, 0)) (bk_ BK233) hb)
       have n1_ := Aside0.mk (blk_below (g := gb234) (o := .cells #[.string a1_0, .string a1_1] 23 (0, 0)) (bk_ BK234) hb)
       have n2_ := Aside0.mk (blk_below (g := gb246) (o := .cells #[.string t242, .string t243, .int .i64 t244] 31 (0, 0)) (bk_ BK246) hb)
       have n3_ := Aside0.mk (blk_below (g := gb256) (o := .cells #[.string (⟨#[]⟩ : ByteArray), .string (⟨#[]⟩ : ByteArray), .int .i64 0] 31 (0, 0)) (bk_ BK256) hb)
       have n4_ := Aside0.mk (below_step bg_ hb)
       clear BK233
       clear BK234
       clear BK246
       clear BK256
       clear HB
       have BK233 := n0_
       have BK234 := n1_
       have BK246 := n2_
       have BK256 := n3_
       have HB := n4_
       clear n0_ n1_ n2_ n3_ n4_
       (try clear hb)
       (try clear hb2)
       (try clear hk)
       (try clear hi)
       refine hK.out _ _ ⟨(blk_cell BK233.out 0).trans rfl, (blk_cell BK233.out 1).trans rfl, (blk_cell BK233.out 2).trans rfl, (blk_cell BK234.out 0).trans rfl, (blk_cell BK234.out 1).trans rfl⟩ (fun hHeld => ?_)
       clear hK K
       refine norm_ (a' := ?_) ?_ ?_
       rotate_left
       ·show Act.put _ (some 33) _ = _
        simp only [Act.put, List.setIfInBounds_toArray, List.set_cons_zero, List.set_cons_succ, i64_w, i32_w]
        rfl
       refine pa_ 5 (some 28) (bm 11 319) rfl rfl HT_.out ?_
       refine pa_ 6 (some 34) (bm 11 383) rfl rfl HT_.out ?_
       refine pa_ 7 (some 35) (bm 11 511) rfl rfl HT_.out ?_
       exact norm_ (by simp only [putAll, Act.put, List.setIfInBounds_toArray, List.set_cons_zero, List.set_cons_succ]) (hCont (gb256) _ ⟨hHeld, (bk_ BK233), (bk_ BK234), (bk_ BK246), (bk_ BK256), GW256.out, GE256.out, NB233_256.out, NB256_233.out, NB234_256.out, NB256_234.out, NB246_256.out, NB256_246.out, bg_⟩)
     ·skip
      refine box_step ?hg (N := 8) ?hd (cs := #[.string (⟨#[]⟩ : ByteArray), .string (⟨#[]⟩ : ByteArray), .int .i64 0]) (t := 31) ?hr ?_; (case hd => rfl); (case hg => rfl); (case hr => first | (go_simp; done) | (go_simp; rfl))
      intro gb256 hg w114 hbox hb
      have n0_ := Aside0.mk (blk_below (g := gb233) (o := .cells #[.string a0_0, .string a0_1, .int .i64 a0_2] 36 (0, 0)) (bk_ BK233) hb)
      have n1_ := Aside0.mk (blk_below (g := gb234) (o := .cells #[.string a1_0, .string a1_1] 23 (0, 0)) (bk_ BK234) hb)
      have n2_ := Aside0.mk (blk_below (g := gb246) (o := .cells #[.string t242, .string t243, .int .i64 t244] 31 (0, 0)) (bk_ BK246) hb)
      have n3_ := Aside0.mk (below_step bg_ hb)
      have n4_ := Aside0.mk (hbox)
      have n5_ := Aside0.mk ((by rw [hg]; exact (below_size bg_) : w.heap.size ≤ gb256))
      have n6_ := Aside0.mk ((by rw [hg]; exact (below_size bg_) : w.heap.size ≤ gb256))
      have n7_ := Aside0.mk ((by rw [hg]; exact Nat.ne_of_lt (blk_lt (g := gb233) (o := .cells #[.string a0_0, .string a0_1, .int .i64 a0_2] 36 (0, 0)) (bk_ BK233)) : gb233 ≠ gb256))
      have n8_ := Aside0.mk ((by rw [hg]; exact Nat.ne_of_gt (blk_lt (g := gb233) (o := .cells #[.string a0_0, .string a0_1, .int .i64 a0_2] 36 (0, 0)) (bk_ BK233)) : gb256 ≠ gb233))
      have n9_ := Aside0.mk ((by rw [hg]; exact Nat.ne_of_lt (blk_lt (g := gb234) (o := .cells #[.string a1_0, .string a1_1] 23 (0, 0)) (bk_ BK234)) : gb234 ≠ gb256))
      have n10_ := Aside0.mk ((by rw [hg]; exact Nat.ne_of_gt (blk_lt (g := gb234) (o := .cells #[.string a1_0, .string a1_1] 23 (0, 0)) (bk_ BK234)) : gb256 ≠ gb234))
      have n11_ := Aside0.mk ((by rw [hg]; exact Nat.ne_of_lt (blk_lt (g := gb246) (o := .cells #[.string t242, .string t243, .int .i64 t244] 31 (0, 0)) (bk_ BK246)) : gb246 ≠ gb256))
      have n12_ := Aside0.mk ((by rw [hg]; exact Nat.ne_of_gt (blk_lt (g := gb246) (o := .cells #[.string t242, .string t243, .int .i64 t244] 31 (0, 0)) (bk_ BK246)) : gb256 ≠ gb246))
      clear BK233
      clear BK234
      clear BK246
      clear HB
      have BK233 := n0_
      have BK234 := n1_
      have BK246 := n2_
      have HB := n3_
      have BK256 := n4_
      have GW256 := n5_
      have GE256 := n6_
      have NB233_256 := n7_
      have NB256_233 := n8_
      have NB234_256 := n9_
      have NB256_234 := n10_
      have NB246_256 := n11_
      have NB256_246 := n12_
      clear n0_ n1_ n2_ n3_ n4_ n5_ n6_ n7_ n8_ n9_ n10_ n11_ n12_
      clear hb hbox hg
      refine hK.out _ _ ⟨(blk_cell BK233.out 0).trans rfl, (blk_cell BK233.out 1).trans rfl, (blk_cell BK233.out 2).trans rfl, (blk_cell BK234.out 0).trans rfl, (blk_cell BK234.out 1).trans rfl⟩ (fun hHeld => ?_)
      clear hK K
      refine norm_ (a' := ?_) ?_ ?_
      rotate_left
      ·show Act.put _ (some 8) _ = _
       simp only [Act.put, List.setIfInBounds_toArray, List.set_cons_zero, List.set_cons_succ, i64_w, i32_w]
       rfl
      refine one_ (i := 1) (N := some 30) (bm 11 263) rfl rfl (one_of HT_.out (by kernel_rfl)) (by decide) (fun K hK => ?_)
      refine goes_ Tryd.func21 (by kernel_rfl) rfl #[.agg #[.string a0_0, .string a0_1, .int .i64 a0_2]] (by rfl) rfl rfl (by (try simp only [List.map_toArray, List.map_cons, List.map_nil]); first | done | rfl | (simp only [List.length_drop, List.length_take]; rfl)) ?_
      with_reducible refine (laws_toLog.calls a0_0 a0_1 a0_2 t247 t248 t249 _ A22.out).mono ?_
      rintro e w115 ⟨rfl, hb⟩
      refine ⟨_, rfl, ?_⟩
      have n0_ := Aside0.mk (blk_below (g := gb233) (o := .cells #[.string a0_0, .string a0_1, .int .i64 a0_2] 36 (0, 0)) (bk_ BK233) hb)
      have n1_ := Aside0.mk (blk_below (g := gb234) (o := .cells #[.string a1_0, .string a1_1] 23 (0, 0)) (bk_ BK234) hb)
      have n2_ := Aside0.mk (blk_below (g := gb246) (o := .cells #[.string t242, .string t243, .int .i64 t244] 31 (0, 0)) (bk_ BK246) hb)
      have n3_ := Aside0.mk (blk_below (g := gb256) (o := .cells #[.string (⟨#[]⟩ : ByteArray), .string (⟨#[]⟩ : ByteArray), .int .i64 0] 31 (0, 0)) (bk_ BK256) hb)
      have n4_ := Aside0.mk (below_step bg_ hb)
      clear BK233
      clear BK234
      clear BK246
      clear BK256
      clear HB
      have BK233 := n0_
      have BK234 := n1_
      have BK246 := n2_
      have BK256 := n3_
      have HB := n4_
      clear n0_ n1_ n2_ n3_ n4_
      (try clear hb)
      (try clear hb2)
      (try clear hk)
      (try clear hi)
      refine hK.out _ _ ⟨(blk_cell BK233.out 0).trans rfl, (blk_cell BK233.out 1).trans rfl, (blk_cell BK233.out 2).trans rfl, (blk_cell BK234.out 0).trans rfl, (blk_cell BK234.out 1).trans rfl⟩ (fun hHeld => ?_)
      clear hK K
      refine norm_ (a' := ?_) ?_ ?_
      rotate_left
      ·show Act.put _ (some 30) _ = _
       simp only [Act.put, List.setIfInBounds_toArray, List.set_cons_zero, List.set_cons_succ, i64_w, i32_w]
       rfl
      refine one_ (i := 3) (N := some 32) (bm 11 271) rfl rfl (one_of HT_.out (by kernel_rfl)) (by decide) (fun K hK => ?_)
      refine goes_ Tryd.func14 (by kernel_rfl) rfl #[.agg #[.string a1_0, .string a1_1]] (by rfl) rfl rfl (by (try simp only [List.map_toArray, List.map_cons, List.map_nil]); first | done | rfl | (simp only [List.length_drop, List.length_take]; rfl)) ?_
      with_reducible refine (laws_toLogRecord.calls a1_0 a1_1 t250 t251 _ A23.out).mono ?_
      rintro e w116 ⟨rfl, hb⟩
      refine ⟨_, rfl, ?_⟩
      have n0_ := Aside0.mk (blk_below (g := gb233) (o := .cells #[.string a0_0, .string a0_1, .int .i64 a0_2] 36 (0, 0)) (bk_ BK233) hb)
      have n1_ := Aside0.mk (blk_below (g := gb234) (o := .cells #[.string a1_0, .string a1_1] 23 (0, 0)) (bk_ BK234) hb)
      have n2_ := Aside0.mk (blk_below (g := gb246) (o := .cells #[.string t242, .string t243, .int .i64 t244] 31 (0, 0)) (bk_ BK246) hb)
      have n3_ := Aside0.mk (blk_below (g := gb256) (o := .cells #[.string (⟨#[]⟩ : ByteArray), .string (⟨#[]⟩ : ByteArray), .int .i64 0] 31 (0, 0)) (bk_ BK256) hb)
      have n4_ := Aside0.mk (below_step bg_ hb)
      clear BK233
      clear BK234
      clear BK246
      clear BK256
      clear HB
      have BK233 := n0_
      have BK234 := n1_
      have BK246 := n2_
      have BK256 := n3_
      have HB := n4_
      clear n0_ n1_ n2_ n3_ n4_
      (try clear hb)
      (try clear hb2)
      (try clear hk)
      (try clear hi)
      refine hK.out _ _ ⟨(blk_cell BK233.out 0).trans rfl, (blk_cell BK233.out 1).trans rfl, (blk_cell BK233.out 2).trans rfl, (blk_cell BK234.out 0).trans rfl, (blk_cell BK234.out 1).trans rfl⟩ (fun hHeld => ?_)
      clear hK K
      refine norm_ (a' := ?_) ?_ ?_
      rotate_left
      ·show Act.put _ (some 32) _ = _
       simp only [Act.put, List.setIfInBounds_toArray, List.set_cons_zero, List.set_cons_succ, i64_w, i32_w]
       rfl
      refine one_ (i := 4) (N := some 33) (bm 11 287) rfl rfl (one_of HT_.out (by kernel_rfl)) (by decide) (fun K hK => ?_)
      refine goes_ Tryd.func28 (by kernel_rfl) rfl #[.agg #[.string t247, .string t248, .int .i64 t249], .agg #[.string t250, .string t251]] (by rfl) rfl rfl (by (try simp only [List.map_toArray, List.map_cons, List.map_nil]); first | done | rfl | (simp only [List.length_drop, List.length_take]; rfl)) ?_
      with_reducible refine (impl_AppendRecord.calls k t247 t248 t249 t250 t251 t252 t253 t254 t255 _ ?side1 A24.out).mono ?_
      (case side1 => exact EnvW.below HENV.out bg_)
      rintro e w117 ⟨rfl, hb⟩
      refine ⟨_, rfl, ?_⟩
      have n0_ := Aside0.mk (blk_below (g := gb233) (o := .cells #[.string a0_0, .string a0_1, .int .i64 a0_2] 36 (0, 0)) (bk_ BK233) hb)
      have n1_ := Aside0.mk (blk_below (g := gb234) (o := .cells #[.string a1_0, .string a1_1] 23 (0, 0)) (bk_ BK234) hb)
      have n2_ := Aside0.mk (blk_below (g := gb246) (o := .cells #[.string t242, .string t243, .int .i64 t244] 31 (0, 0)) (bk_ BK246) hb)
      have n3_ := Aside0.mk (blk_below (g := gb256) (o := .cells #[.string (⟨#[]⟩ : ByteArray), .string (⟨#[]⟩ : ByteArray), .int .i64 0] 31 (0, 0)) (bk_ BK256) hb)
      have n4_ := Aside0.mk (below_step bg_ hb)
      clear BK233
      clear BK234
      clear BK246
      clear BK256
      clear HB
      have BK233 := n0_
      have BK234 := n1_
      have BK246 := n2_
      have BK256 := n3_
      have HB := n4_
      clear n0_ n1_ n2_ n3_ n4_
      (try clear hb)
      (try clear hb2)
      (try clear hk)
      (try clear hi)
      refine hK.out _ _ ⟨(blk_cell BK233.out 0).trans rfl, (blk_cell BK233.out 1).trans rfl, (blk_cell BK233.out 2).trans rfl, (blk_cell BK234.out 0).trans rfl, (blk_cell BK234.out 1).trans rfl⟩ (fun hHeld => ?_)
      clear hK K
      refine norm_ (a' := ?_) ?_ ?_
      rotate_left
      ·show Act.put _ (some 33) _ = _
       simp only [Act.put, List.setIfInBounds_toArray, List.set_cons_zero, List.set_cons_succ, i64_w, i32_w]
       rfl
      refine pa_ 5 (some 28) (bm 11 319) rfl rfl HT_.out ?_
      refine pa_ 6 (some 34) (bm 11 383) rfl rfl HT_.out ?_
      refine pa_ 7 (some 35) (bm 11 511) rfl rfl HT_.out ?_
      exact norm_ (by simp only [putAll, Act.put, List.setIfInBounds_toArray, List.set_cons_zero, List.set_cons_succ]) (hCont (gb256) _ ⟨hHeld, (bk_ BK233), (bk_ BK234), (bk_ BK246), (bk_ BK256), GW256.out, GE256.out, NB233_256.out, NB256_233.out, NB234_256.out, NB256_234.out, NB246_256.out, NB256_246.out, bg_⟩)
    rintro gb256 w118 ⟨hS_, h0_, h1_, h2_, h3_, h4_, h5_, h6_, h7_, h8_, h9_, h10_, h11_, h12_⟩
    have n0_ : Aside0 (w118.heap[gb233]? = some (.cells #[.string a0_0, .string a0_1, .int .i64 a0_2] 36 (0, 0))) := ⟨h0_⟩
    have n1_ : Aside0 (w118.heap[gb234]? = some (.cells #[.string a1_0, .string a1_1] 23 (0, 0))) := ⟨h1_⟩
    have n2_ : Aside0 (w118.heap[gb246]? = some (.cells #[.string t242, .string t243, .int .i64 t244] 31 (0, 0))) := ⟨h2_⟩
    have n3_ : Aside0 (w118.heap[gb256]? = some (.cells #[.string (⟨#[]⟩ : ByteArray), .string (⟨#[]⟩ : ByteArray), .int .i64 0] 31 (0, 0))) := ⟨h3_⟩
    have n4_ : Aside0 (w.heap.size ≤ gb256) := ⟨h4_⟩
    have n5_ : Aside0 (w.heap.size ≤ gb256) := ⟨h5_⟩
    have n6_ : Aside0 (gb233 ≠ gb256) := ⟨h6_⟩
    have n7_ : Aside0 (gb256 ≠ gb233) := ⟨h7_⟩
    have n8_ : Aside0 (gb234 ≠ gb256) := ⟨h8_⟩
    have n9_ : Aside0 (gb256 ≠ gb234) := ⟨h9_⟩
    have n10_ : Aside0 (gb246 ≠ gb256) := ⟨h10_⟩
    have n11_ : Aside0 (gb256 ≠ gb246) := ⟨h11_⟩
    have n12_ : Aside0 (Below w.heap.size w w118) := ⟨h12_⟩
    clear BK233
    clear BK234
    clear BK246
    clear HB
    clear h0_ h1_ h2_ h3_ h4_ h5_ h6_ h7_ h8_ h9_ h10_ h11_ h12_
    have BK233 := n0_
    have BK234 := n1_
    have BK246 := n2_
    have BK256 := n3_
    have GW256 := n4_
    have GE256 := n5_
    have NB233_256 := n6_
    have NB256_233 := n7_
    have NB234_256 := n8_
    have NB256_234 := n9_
    have NB246_256 := n10_
    have NB256_246 := n11_
    have HB := n12_
    clear n0_ n1_ n2_ n3_ n4_ n5_ n6_ n7_ n8_ n9_ n10_ n11_ n12_
    have hHeld : w118.cell? ⟨gb233, 0, none⟩ = some (.string a0_0) ∧ w118.cell? ⟨gb233, 1, none⟩ = some (.string a0_1) ∧ w118.cell? ⟨gb233, 2, none⟩ = some (.int .i64 a0_2) ∧ w118.cell? ⟨gb234, 0, none⟩ = some (.string a1_0) ∧ w118.cell? ⟨gb234, 1, none⟩ = some (.string a1_1) := hS_
    refine norm_ (a' := ?_) ?_ ?_
    rotate_left
    ·simp only [putAll, Act.put, List.setIfInBounds_toArray, List.set_cons_zero, List.set_cons_succ]
     rfl
    refine one_ (i := 9) (N := none) (bm 11 1023) rfl rfl (one_of HT_.out (by kernel_rfl)) (by decide) (fun K hK => ?_)
    have hs119 : w118.cell? ⟨gb256, 0, none⟩ = some (.string (⟨#[]⟩ : ByteArray)) := (blk_cell BK256.out 0).trans rfl
    have hfs119 := blk_frozen BK256.out 0
    have hns119_0 := NB233_256.out
    have hns119_1 := NB234_256.out
    have hns119_2 := NB246_256.out
    have hms119_0 := NB256_233.out
    have hms119_1 := NB256_234.out
    have hms119_2 := NB256_246.out
    have hs120 : w118.cell? ⟨gb256, 1, none⟩ = some (.string (⟨#[]⟩ : ByteArray)) := (blk_cell BK256.out 1).trans rfl
    have hfs120 := blk_frozen BK256.out 1
    have hns120_0 := NB233_256.out
    have hns120_1 := NB234_256.out
    have hns120_2 := NB246_256.out
    have hms120_0 := NB256_233.out
    have hms120_1 := NB256_234.out
    have hms120_2 := NB256_246.out
    have hs121 : w118.cell? ⟨gb256, 2, none⟩ = some (.int .i64 0) := (blk_cell BK256.out 2).trans rfl
    have hfs121 := blk_frozen BK256.out 2
    have hns121_0 := NB233_256.out
    have hns121_1 := NB234_256.out
    have hns121_2 := NB246_256.out
    have hms121_0 := NB256_233.out
    have hms121_1 := NB256_234.out
    have hms121_2 := NB256_246.out
    refine skip_ (w1 := ?_) (by rfl) rfl ?_ ?_
    rotate_left
    ·go_simp
     rfl
    refine hK.out _ _ ⟨((cell_far (p := ⟨gb256, _, none⟩) NB233_256.out _).trans (((cell_far (p := ⟨gb256, _, none⟩) NB233_256.out _).trans (((cell_far (p := ⟨gb256, _, none⟩) NB233_256.out _).trans (hHeld.1)))))), ((cell_far (p := ⟨gb256, _, none⟩) NB233_256.out _).trans (((cell_far (p := ⟨gb256, _, none⟩) NB233_256.out _).trans (((cell_far (p := ⟨gb256, _, none⟩) NB233_256.out _).trans (hHeld.2.1)))))), ((cell_far (p := ⟨gb256, _, none⟩) NB233_256.out _).trans (((cell_far (p := ⟨gb256, _, none⟩) NB233_256.out _).trans (((cell_far (p := ⟨gb256, _, none⟩) NB233_256.out _).trans (hHeld.2.2.1)))))), ((cell_far (p := ⟨gb256, _, none⟩) NB234_256.out _).trans (((cell_far (p := ⟨gb256, _, none⟩) NB234_256.out _).trans (((cell_far (p := ⟨gb256, _, none⟩) NB234_256.out _).trans (hHeld.2.2.2.1)))))), ((cell_far (p := ⟨gb256, _, none⟩) NB234_256.out _).trans (((cell_far (p := ⟨gb256, _, none⟩) NB234_256.out _).trans (((cell_far (p := ⟨gb256, _, none⟩) NB234_256.out _).trans (hHeld.2.2.2.2))))))⟩ (fun hHeld => ?_)
    clear hK K
    refine pa_ 10 (some 9) (bm 11 2047) rfl rfl HT_.out ?_
    refine done_ (done_of HT_.out (by kernel_rfl)) ?_
    have hnb122 := NB256_233.out
    have hnc122 := NB233_256.out
    have hnb123 := NB256_234.out
    have hnc123 := NB234_256.out
    have hnb124 := NB256_246.out
    have hnc124 := NB246_256.out
    have hcz125_0 : w118.cell? ⟨gb256, 0, none⟩ = some (.string (⟨#[]⟩ : ByteArray)) := (blk_cell BK256.out 0).trans rfl
    have hcz125_1 : w118.cell? ⟨gb256, 1, none⟩ = some (.string (⟨#[]⟩ : ByteArray)) := (blk_cell BK256.out 1).trans rfl
    have hcz125_2 : w118.cell? ⟨gb256, 2, none⟩ = some (.int .i64 0) := (blk_cell BK256.out 2).trans rfl
    have hfz125_0 := blk_frozen BK256.out 0
    have hfz125_1 := blk_frozen BK256.out 1
    have hfz125_2 := blk_frozen BK256.out 2
    have hnb126 := NB246_233.out
    have hnc126 := NB233_246.out
    have hnb127 := NB246_234.out
    have hnc127 := NB234_246.out
    have hcz128_0 : w118.cell? ⟨gb246, 0, none⟩ = some (.string t242) := (blk_cell BK246.out 0).trans rfl
    have hcz128_1 : w118.cell? ⟨gb246, 1, none⟩ = some (.string t243) := (blk_cell BK246.out 1).trans rfl
    have hcz128_2 : w118.cell? ⟨gb246, 2, none⟩ = some (.int .i64 t244) := (blk_cell BK246.out 2).trans rfl
    have hfz128_0 := blk_frozen BK246.out 0
    have hfz128_1 := blk_frozen BK246.out 1
    have hfz128_2 := blk_frozen BK246.out 2
    try go_wp2_with (first | ((with_reducible refine gate_callee (f := 18) rfl ?_); refine gL_ (some 38) Tryd.func18 #[.agg #[.string t252, .string t253, .int .i64 t254], .agg #[.string t242, .string t243, .int .i64 t244]] ?_ rfl rfl; (with_reducible refine (laws_eqLog.calls t252 t253 t254 t242 t243 t244 false _ A25.out).mono ?_); rintro e w129 ⟨rfl, hb⟩; refine ⟨_, rfl, ?_⟩; have n0_ := Aside0.mk (blk_below (g := gb233) (o := .cells #[.string a0_0, .string a0_1, .int .i64 a0_2] 36 (0, 0)) (by (with_reducible repeat (first | refine blk_drewN ?_ _ | refine blk_drew ?_ | refine blk_alloc ?_ _)); refine blk_far ?_ NB233_256.out _; (with_reducible repeat (first | refine blk_drewN ?_ _ | refine blk_drew ?_ | refine blk_alloc ?_ _)); refine blk_far ?_ NB233_256.out _; (with_reducible repeat (first | refine blk_drewN ?_ _ | refine blk_drew ?_ | refine blk_alloc ?_ _)); refine blk_far ?_ NB233_256.out _; (with_reducible repeat (first | refine blk_drewN ?_ _ | refine blk_drew ?_ | refine blk_alloc ?_ _)); exact BK233.out) hb); have n1_ := Aside0.mk (blk_below (g := gb234) (o := .cells #[.string a1_0, .string a1_1] 23 (0, 0)) (by (with_reducible repeat (first | refine blk_drewN ?_ _ | refine blk_drew ?_ | refine blk_alloc ?_ _)); refine blk_far ?_ NB234_256.out _; (with_reducible repeat (first | refine blk_drewN ?_ _ | refine blk_drew ?_ | refine blk_alloc ?_ _)); refine blk_far ?_ NB234_256.out _; (with_reducible repeat (first | refine blk_drewN ?_ _ | refine blk_drew ?_ | refine blk_alloc ?_ _)); refine blk_far ?_ NB234_256.out _; (with_reducible repeat (first | refine blk_drewN ?_ _ | refine blk_drew ?_ | refine blk_alloc ?_ _)); exact BK234.out) hb); have n2_ := Aside0.mk (blk_below (g := gb246) (o := .cells #[.string t242, .string t243, .int .i64 t244] 31 (0, 0)) (by (with_reducible repeat (first | refine blk_drewN ?_ _ | refine blk_drew ?_ | refine blk_alloc ?_ _)); refine blk_far ?_ NB246_256.out _; (with_reducible repeat (first | refine blk_drewN ?_ _ | refine blk_drew ?_ | refine blk_alloc ?_ _)); refine blk_far ?_ NB246_256.out _; (with_reducible repeat (first | refine blk_drewN ?_ _ | refine blk_drew ?_ | refine blk_alloc ?_ _)); refine blk_far ?_ NB246_256.out _; (with_reducible repeat (first | refine blk_drewN ?_ _ | refine blk_drew ?_ | refine blk_alloc ?_ _)); exact BK246.out) hb); have n3_ := Aside0.mk (blk_below (g := gb256) (o := .cells #[.string t252, .string t253, .int .i64 t254] 31 (0, 0)) (by (with_reducible repeat (first | refine blk_drewN ?_ _ | refine blk_drew ?_ | refine blk_alloc ?_ _)); refine blk_put (cs := #[.string t252, .string t253, .int .i64 0]) ?_ 2 _ rfl; (with_reducible repeat (first | refine blk_drewN ?_ _ | refine blk_drew ?_ | refine blk_alloc ?_ _)); refine blk_put (cs := #[.string t252, .string (⟨#[]⟩ : ByteArray), .int .i64 0]) ?_ 1 _ rfl; (with_reducible repeat (first | refine blk_drewN ?_ _ | refine blk_drew ?_ | refine blk_alloc ?_ _)); refine blk_put (cs := #[.string (⟨#[]⟩ : ByteArray), .string (⟨#[]⟩ : ByteArray), .int .i64 0]) ?_ 0 _ rfl; (with_reducible repeat (first | refine blk_drewN ?_ _ | refine blk_drew ?_ | refine blk_alloc ?_ _)); exact BK256.out) hb); have n4_ := Aside0.mk (below_step bg_ hb); clear BK233; clear BK234; clear BK246; clear BK256; clear HB; have BK233 := n0_; have BK234 := n1_; have BK246 := n2_; have BK256 := n3_; have HB := n4_; clear n0_ n1_ n2_ n3_ n4_; (try clear hb); (try clear hb2); (try clear hk); (try clear hi)))
    go_ret
    exact ⟨by first | rfl | (simp [errW_none, errW_some] <;> rfl) | (simp [*, errW_none, errW_some] <;> rfl), by repeat (first | (with_reducible first | exact HB.out | apply below_alloc | apply pw_below_drewN | apply below_drew1 | refine below_set ?_ GE233.out | refine below_set ?_ GE234.out | refine below_set ?_ GE246.out | refine below_set ?_ GE256.out) | exact HB.out)⟩

end Go.Proofs.YtklolnaonampeaaDoor.PFnExactAppendRecord
