-- written by wip/tools of this repo out of the translation (a turned copy of the kit's print): checked by Lean alone
import Derived.Test.YtiiaadgibkpaaaaPFnExactAfterMapx0
import Derived.Test.YtiiaadgibkpaaaaPFnExactAfterMapx7
namespace Go.Proofs.Ytiiaadgibkpaaaa.PFnExactAfterMap
open Go.RowKit Go.Proofs.YtiiaadgibkpaaaaW.PrintWords Go.Proofs.YtiiaadgibkpaaaaW.PrintLast Go.Proofs.YtiiaadgibkpaaaaW.PrintMore
attribute [local go_sem] max2_int min2_int max_two min_two max_three min_three max_four min_four   -- for this text's walks alone
set_option linter.unusedVariables false
set_option linter.unusedSimpArgs false

/-! ### impl_isPairs: function 117 -/
def impl_isPairs.l0 : Nat → List (S78) → Int → List (S78) → Int → Int → Option (Bool)
 | 0, _, _, _, _, _ => none
 | k + 1, x0, x1, x7, x8, x9 => if x9 < x8 then (if 0 ≤ x9 then (if x9 < (x7.length : Int) then (if ((rd_T78 x7 x9).f0) < 0 then (some false) else (if ((rd_T78 x7 x9).f0) ≥ ((rd_T78 x7 x9).f1) then (some false) else (if ((rd_T78 x7 x9).f1) ≥ x1 then (some false) else (if x9 > 0 then (if 0 ≤ (wrap64 (x9 - 1)) then (if (wrap64 (x9 - 1)) < (x0.length : Int) then ((impl_comparePairs.f k ((rd_T78 x0 (wrap64 (x9 - 1))).f0) ((rd_T78 x0 (wrap64 (x9 - 1))).f1) ((rd_T78 x7 x9).f0) ((rd_T78 x7 x9).f1)).bind fun t192 => (if t192 ≥ 0 then (some false) else (impl_isPairs.l0 k x0 x1 x7 x8 (wrap64 (x9 + 1))))) else (none)) else (none)) else (impl_isPairs.l0 k x0 x1 x7 x8 (wrap64 (x9 + 1))))))) else (none)) else (none)) else (some true)
def impl_isPairs.f (k : Nat) (l0 : List (S78)) (a1 : Int) : Option (Bool) := impl_isPairs.l0 k l0 a1 l0 (l0.length : Int) 0
def impl_isPairs.T4 : Bool × List (List Nat × List Nat) := (true, [([], []), ([0], [0]), ([1], [1]), ([2], [2]), ([3], [3]), ([4, 3], [3, 4]), ([3], [3]), ([6, 3], [3, 6]), ([5, 7, 3], [3, 5, 7]), ([3, 8], [3, 8]), ([9, 3], [9]), ([10], [10]), ([11, 10], [10, 11]), ([10], [10]), ([12, 13, 10], [10, 12, 13]), ([10, 14], [10, 14]), ([15, 10], [15]), ([16], [16]), ([17, 16], [16, 17]), ([18, 16, 16], [16, 18]), ([19], [19]), ([19], [19]), ([21, 19], [19, 21]), ([20, 22, 19], [19, 20, 22]), ([23, 19], [19, 23]), ([19], [19]), ([24, 25, 19, 19], [19, 24, 25]), ([26, 19], [19, 26]), ([19, 27, 16], [16, 19, 27]), ([16, 28], [16, 28])])
def impl_isPairs.B4 : List Nat := [0, 1, 3, 7, 15, 31, 15, 79, 255, 511, 1023, 2047, 4095, 2047, 16383, 32767, 65535, 131071, 262143, 524287, 1048575, 1048575, 3145727, 8388607, 16777215, 1048575, 67108863, 134217727, 268435455, 536870911]
theorem impl_isPairs.tab4 : rtab .any (opsOf Try.f117 4) = impl_isPairs.T4 := by kernel_rfl
theorem impl_isPairs.bits4 : waitsOk impl_isPairs.T4.2 impl_isPairs.B4 = true := by kernel_rfl
set_option maxHeartbeats 8000000 in
set_option maxRecDepth 100000 in
theorem impl_isPairs.calls (k : Nat) (A0 : Option Addr) (c0 : Nat) (l0 : List (S78)) (a1 : Int) (r : Bool) (w : World) (hr0 : Kd.C k78 w A0 l0.length l0) (hc0 : l0.length ≤ c0) (h : impl_isPairs.f k l0 a1 = some r) :
  Calls Try.prog 117 #[.slice A0 l0.length c0, .int .i64 a1] w fun e w' => e = .returned (.bool r) ∧ Below w.heap.size w w' := by
 have hu78 := Try.underlying78
 have HR0 := Aside0.mk hr0
 have HC0 := Aside0.mk hc0
 clear hr0 hc0
 have HB := Aside0.mk (Below.refl w.heap.size w)
 have H : (impl_isPairs.l0 k l0 a1 l0 (l0.length : Int) 0) = some r := h
 clear h
 have H' := Aside0.mk H
 clear H
 go_enter Try.func117, Try.ntmps117
 go_wp2
 go_loopg [9] k (fun kq v9 w' => ∃ (x9_1 : Int), v9 = .int .i64 x9_1 ∧ Aside0 (impl_isPairs.l0 kq l0 a1 l0 (l0.length : Int) x9_1 = some r) ∧ Aside0 (kq ≤ k) ∧ Aside0 (Below w.heap.size w w'))
 case atStart => exact ⟨(0), (by first | rfl | (simp; done) | (simp [*]; done)), H', ⟨Nat.le_refl _⟩, ⟨by repeat (first | (with_reducible first | exact HB.out | apply below_alloc | apply pw_below_drewN | apply below_drew1) | exact HB.out)⟩⟩
 case round =>
  clear H'
  try clear c1
  try clear p2
  obtain ⟨x9_1, rfl, HA, HK1, HB⟩ := hrel
  cases gk with
  | zero => exact absurd HA.out (by simp [impl_isPairs.l0])
  | succ k1 =>
   have H := HA.out
   clear HA
   simp only [impl_isPairs.l0] at H
   by_cases c3 : x9_1 < (l0.length : Int)
   ·rw [if_pos c3] at H
    have c3b0 : decide (x9_1 < (l0.length : Int)) = true := decide_eq_true c3
    clear c3
    by_cases c4 : 0 ≤ x9_1
    ·rw [if_pos c4] at H
     have c4b0 : decide (0 ≤ x9_1) = true := decide_eq_true c4
     clear c4
     by_cases c5 : x9_1 < (l0.length : Int)
     ·rw [if_pos c5] at H
      have c5b0 : decide (x9_1 < (l0.length : Int)) = true := decide_eq_true c5
      clear c5
      by_cases c6 : ((rd_T78 l0 x9_1).f0) < 0
      ·rw [if_pos c6] at H
       have c6b0 : decide (((rd_T78 l0 x9_1).f0) < 0) = true := decide_eq_true c6
       clear c6
       obtain rfl := Option.some.inj H
       have p189 : 0 ≤ (x9_1 : Int) := od_
       have q189 : x9_1 < (l0.length : Int) := od_
       obtain ⟨ad189, e189, hx189_0, hx189_1⟩ := at_T78 HR0.out x9_1 p189 q189
       cases e189
       replace hx189_0 := (HB.out.cell (World.block_lt_of_cell? w _ hx189_0)).trans hx189_0
       replace hx189_1 := (HB.out.cell (World.block_lt_of_cell? w _ hx189_1)).trans hx189_1
       replace p189 := eq_true p189
       replace q189 := eq_true q189
       try go_wp2_with (first | ((with_reducible refine gate_dst (N := 6) rfl ?_); refine box_event ?hg (N := 6) ?hd (cs := #[.int .i64 0, .int .i64 0]) (t := 78) ?hr ?_; (case hd => rfl); (case hg => rfl); (case hr => first | (go_simp; done) | (go_simp; rfl)); intro gb190 hg w7 hbox hb; have n_ := And.intro (Aside0.mk (below_step bl_ hb)) (And.intro (Aside0.mk (hbox)) (And.intro (Aside0.mk ((by rw [hg]; exact (below_size bl_) : w.heap.size ≤ gb190))) (Aside0.mk ((by rw [hg]; exact (below_size bl_) : w.heap.size ≤ gb190))))); clear HB; obtain ⟨HB, BK190, GW190, GE190⟩ := n_; clear hb hbox hg; have hcz8_0 : w7.cell? ⟨gb190, 0, none⟩ = some (.int .i64 0) := (blk_cell BK190.out 0).trans rfl; have hcz8_1 : w7.cell? ⟨gb190, 1, none⟩ = some (.int .i64 0) := (blk_cell BK190.out 1).trans rfl; have hfz8_0 := blk_frozen BK190.out 0; have hfz8_1 := blk_frozen BK190.out 1))
       have n0_ : Aside0 (((w7.setCell ⟨gb190, 0, none⟩ (.int .i64 ((rd_T78 l0 x9_1).f0))).setCell ⟨gb190, 1, none⟩ (.int .i64 ((rd_T78 l0 x9_1).f1))).heap[gb190]? = some (.cells #[.int .i64 ((rd_T78 l0 x9_1).f0), .int .i64 ((rd_T78 l0 x9_1).f1)] 78 (0, 0))) := ⟨by (with_reducible repeat (first | refine blk_drewN ?_ _ | refine blk_drew ?_ | refine blk_alloc ?_ _)); refine blk_put (cs := #[.int .i64 ((rd_T78 l0 x9_1).f0), .int .i64 0]) ?_ 1 _ rfl; (with_reducible repeat (first | refine blk_drewN ?_ _ | refine blk_drew ?_ | refine blk_alloc ?_ _)); refine blk_put (cs := #[.int .i64 0, .int .i64 0]) ?_ 0 _ rfl; (with_reducible repeat (first | refine blk_drewN ?_ _ | refine blk_drew ?_ | refine blk_alloc ?_ _)); exact BK190.out⟩
       have n1_ : Aside0 (Below w.heap.size w ((w7.setCell ⟨gb190, 0, none⟩ (.int .i64 ((rd_T78 l0 x9_1).f0))).setCell ⟨gb190, 1, none⟩ (.int .i64 ((rd_T78 l0 x9_1).f1)))) := ⟨by repeat (first | (with_reducible first | exact HB.out | apply below_alloc | apply pw_below_drewN | apply below_drew1 | refine below_set ?_ GE190.out) | exact HB.out)⟩
       (try clear BK190)
       (try clear HB)
       generalize ((w7.setCell ⟨gb190, 0, none⟩ (.int .i64 ((rd_T78 l0 x9_1).f0))).setCell ⟨gb190, 1, none⟩ (.int .i64 ((rd_T78 l0 x9_1).f1))) = w9 at n0_ n1_ ⊢
       have BK190 := n0_
       have HB := n1_
       clear n0_ n1_
       have n_ := And.intro (Aside0.mk (blk_drew BK190.out)) (Aside0.mk (below_drew1 HB.out))
       clear BK190 HB; obtain ⟨BK190, HB⟩ := n_
       refine start_ (n := 30) (S := fun w' => w'.cell? ⟨gb190, 0, none⟩ = some (.int .i64 ((rd_T78 l0 x9_1).f0)) ∧ w'.cell? ⟨gb190, 1, none⟩ = some (.int .i64 ((rd_T78 l0 x9_1).f1))) (ds := []) (bm 30 0) (by kernel_rfl) rfl rfl ⟨(blk_cell BK190.out 0).trans rfl, (blk_cell BK190.out 1).trans rfl⟩ (fun hHeld => ?_); refine with_tabW impl_isPairs.tab4 impl_isPairs.bits4 (fun HT_ HW_ => ?_)
       generalize w9.drew = w10 at BK190 HB hHeld ⊢
       refine pa_ 0 (some 14) (bm 30 1) rfl rfl HT_.out ?_
       refine take_ (i := 1) (N := some 15) (v := ?_) (a' := ?_) (bm 30 3) rfl rfl (take_ofW HT_.out HW_.out (by kernel_rfl)) (fun _ _ _ h => h) (Or.inl ⟨by rfl, ?_⟩) hHeld ?_ ?_
       rotate_left
       ·rintro w' ⟨s0, s1⟩
        go_simp
        with_reducible rfl
       rotate_left
       ·simp only [Act.put, List.setIfInBounds_toArray, List.set_cons_zero, List.set_cons_succ, i64_w, i32_w]
        rfl
       refine pa_ 2 (some 16) (bm 30 7) rfl rfl HT_.out ?_
       refine pa_ 3 (some 17) (bm 30 15) rfl rfl HT_.out ?_
       refine pu_ 4 (some 18) (bm 30 31) rfl rfl HT_.out ?_
       refine pu_ 5 (some 19) (bm 30 63) rfl rfl HT_.out ?_
       refine pu_ 6 (some 20) (bm 30 127) rfl rfl HT_.out ?_
       refine pu_ 7 (some 21) (bm 30 255) rfl rfl HT_.out ?_
       refine pu_ 8 (some 22) (bm 30 511) rfl rfl HT_.out ?_
       refine pa_ 9 (some 23) (bm 30 1023) rfl rfl HT_.out ?_
       refine pa_ 10 (some 24) (bm 30 2047) rfl rfl HT_.out ?_
       refine pu_ 11 (some 25) (bm 30 4095) rfl rfl HT_.out ?_
       refine pu_ 12 (some 26) (bm 30 8191) rfl rfl HT_.out ?_
       refine pu_ 13 (some 27) (bm 30 16383) rfl rfl HT_.out ?_
       refine pu_ 14 (some 28) (bm 30 32767) rfl rfl HT_.out ?_
       refine pa_ 15 (some 29) (bm 30 65535) rfl rfl HT_.out ?_
       refine pa_ 16 (some 30) (bm 30 131071) rfl rfl HT_.out ?_
       refine pu_ 17 (some 31) (bm 30 262143) rfl rfl HT_.out ?_
       refine pu_ 18 (some 32) (bm 30 524287) rfl rfl HT_.out ?_
       refine pu_ 19 (some 33) (bm 30 1048575) rfl rfl HT_.out ?_
       refine pu_ 20 (some 34) (bm 30 2097151) rfl rfl HT_.out ?_
       refine pu_ 21 (some 35) (bm 30 4194303) rfl rfl HT_.out ?_
       refine pu_ 22 (some 36) (bm 30 8388607) rfl rfl HT_.out ?_
       refine pu_ 23 (some 37) (bm 30 16777215) rfl rfl HT_.out ?_
       refine pu_ 24 (some 38) (bm 30 33554431) rfl rfl HT_.out ?_
       refine pu_ 25 (some 39) (bm 30 67108863) rfl rfl HT_.out ?_
       refine pu_ 26 (some 40) (bm 30 134217727) rfl rfl HT_.out ?_
       refine pu_ 27 (some 41) (bm 30 268435455) rfl rfl HT_.out ?_
       refine pu_ 28 (some 42) (bm 30 536870911) rfl rfl HT_.out ?_
       refine pa_ 29 (some 43) (bm 30 1073741823) rfl rfl HT_.out ?_
       refine done_ (done_of HT_.out (by kernel_rfl)) ?_
       try go_wp2
       go_ret
       exact ⟨by first | rfl | (simp [errW_none, errW_some] <;> rfl) | (simp [*, errW_none, errW_some] <;> rfl), by repeat (first | (with_reducible first | exact HB.out | apply below_alloc | apply pw_below_drewN | apply below_drew1 | refine below_set ?_ GE190.out) | exact HB.out)⟩
      ·rw [if_neg c6] at H
       have c6b0 : decide (((rd_T78 l0 x9_1).f0) < 0) = false := decide_eq_false c6
       clear c6
       by_cases c11 : ((rd_T78 l0 x9_1).f0) ≥ ((rd_T78 l0 x9_1).f1)
       ·rw [if_pos c11] at H
        have c11b0 : decide (((rd_T78 l0 x9_1).f1) ≤ ((rd_T78 l0 x9_1).f0)) = true := decide_eq_true c11
        clear c11
        obtain rfl := Option.some.inj H
        have p189 : 0 ≤ (x9_1 : Int) := od_
        have q189 : x9_1 < (l0.length : Int) := od_
        obtain ⟨ad189, e189, hx189_0, hx189_1⟩ := at_T78 HR0.out x9_1 p189 q189
        cases e189
        replace hx189_0 := (HB.out.cell (World.block_lt_of_cell? w _ hx189_0)).trans hx189_0
        replace hx189_1 := (HB.out.cell (World.block_lt_of_cell? w _ hx189_1)).trans hx189_1
        replace p189 := eq_true p189
        replace q189 := eq_true q189
        try go_wp2_with (first | ((with_reducible refine gate_dst (N := 6) rfl ?_); refine box_event ?hg (N := 6) ?hd (cs := #[.int .i64 0, .int .i64 0]) (t := 78) ?hr ?_; (case hd => rfl); (case hg => rfl); (case hr => first | (go_simp; done) | (go_simp; rfl)); intro gb190 hg w12 hbox hb; have n_ := And.intro (Aside0.mk (below_step bl_ hb)) (And.intro (Aside0.mk (hbox)) (And.intro (Aside0.mk ((by rw [hg]; exact (below_size bl_) : w.heap.size ≤ gb190))) (Aside0.mk ((by rw [hg]; exact (below_size bl_) : w.heap.size ≤ gb190))))); clear HB; obtain ⟨HB, BK190, GW190, GE190⟩ := n_; clear hb hbox hg; have hcz13_0 : w12.cell? ⟨gb190, 0, none⟩ = some (.int .i64 0) := (blk_cell BK190.out 0).trans rfl; have hcz13_1 : w12.cell? ⟨gb190, 1, none⟩ = some (.int .i64 0) := (blk_cell BK190.out 1).trans rfl; have hfz13_0 := blk_frozen BK190.out 0; have hfz13_1 := blk_frozen BK190.out 1))
        have n0_ : Aside0 (((w12.setCell ⟨gb190, 0, none⟩ (.int .i64 ((rd_T78 l0 x9_1).f0))).setCell ⟨gb190, 1, none⟩ (.int .i64 ((rd_T78 l0 x9_1).f1))).heap[gb190]? = some (.cells #[.int .i64 ((rd_T78 l0 x9_1).f0), .int .i64 ((rd_T78 l0 x9_1).f1)] 78 (0, 0))) := ⟨by (with_reducible repeat (first | refine blk_drewN ?_ _ | refine blk_drew ?_ | refine blk_alloc ?_ _)); refine blk_put (cs := #[.int .i64 ((rd_T78 l0 x9_1).f0), .int .i64 0]) ?_ 1 _ rfl; (with_reducible repeat (first | refine blk_drewN ?_ _ | refine blk_drew ?_ | refine blk_alloc ?_ _)); refine blk_put (cs := #[.int .i64 0, .int .i64 0]) ?_ 0 _ rfl; (with_reducible repeat (first | refine blk_drewN ?_ _ | refine blk_drew ?_ | refine blk_alloc ?_ _)); exact BK190.out⟩
        have n1_ : Aside0 (Below w.heap.size w ((w12.setCell ⟨gb190, 0, none⟩ (.int .i64 ((rd_T78 l0 x9_1).f0))).setCell ⟨gb190, 1, none⟩ (.int .i64 ((rd_T78 l0 x9_1).f1)))) := ⟨by repeat (first | (with_reducible first | exact HB.out | apply below_alloc | apply pw_below_drewN | apply below_drew1 | refine below_set ?_ GE190.out) | exact HB.out)⟩
        (try clear BK190)
        (try clear HB)
        generalize ((w12.setCell ⟨gb190, 0, none⟩ (.int .i64 ((rd_T78 l0 x9_1).f0))).setCell ⟨gb190, 1, none⟩ (.int .i64 ((rd_T78 l0 x9_1).f1))) = w14 at n0_ n1_ ⊢
        have BK190 := n0_
        have HB := n1_
        clear n0_ n1_
        have n_ := And.intro (Aside0.mk (blk_drew BK190.out)) (Aside0.mk (below_drew1 HB.out))
        clear BK190 HB; obtain ⟨BK190, HB⟩ := n_
        refine start_ (n := 30) (S := fun w' => w'.cell? ⟨gb190, 0, none⟩ = some (.int .i64 ((rd_T78 l0 x9_1).f0)) ∧ w'.cell? ⟨gb190, 1, none⟩ = some (.int .i64 ((rd_T78 l0 x9_1).f1))) (ds := []) (bm 30 0) (by kernel_rfl) rfl rfl ⟨(blk_cell BK190.out 0).trans rfl, (blk_cell BK190.out 1).trans rfl⟩ (fun hHeld => ?_); refine with_tabW impl_isPairs.tab4 impl_isPairs.bits4 (fun HT_ HW_ => ?_)
        generalize w14.drew = w15 at BK190 HB hHeld ⊢
        refine pa_ 0 (some 14) (bm 30 1) rfl rfl HT_.out ?_
        refine take_ (i := 1) (N := some 15) (v := ?_) (a' := ?_) (bm 30 3) rfl rfl (take_ofW HT_.out HW_.out (by kernel_rfl)) (fun _ _ _ h => h) (Or.inl ⟨by rfl, ?_⟩) hHeld ?_ ?_
        rotate_left
        ·rintro w' ⟨s0, s1⟩
         go_simp
         with_reducible rfl
        rotate_left
        ·simp only [Act.put, List.setIfInBounds_toArray, List.set_cons_zero, List.set_cons_succ, i64_w, i32_w]
         rfl
        refine pa_ 2 (some 16) (bm 30 7) rfl rfl HT_.out ?_
        refine pa_ 3 (some 17) (bm 30 15) rfl rfl HT_.out ?_
        refine pa_ 4 (some 18) (bm 30 31) rfl rfl HT_.out ?_
        refine pa_ 6 (some 20) (bm 30 95) rfl rfl HT_.out ?_
        refine take_ (i := 5) (N := some 19) (v := ?_) (a' := ?_) (bm 30 127) rfl rfl (take_ofW HT_.out HW_.out (by kernel_rfl)) (fun _ _ _ h => h) (Or.inl ⟨by rfl, ?_⟩) hHeld ?_ ?_
        rotate_left
        ·rintro w' ⟨s0, s1⟩
         go_simp
         with_reducible rfl
        rotate_left
        ·simp only [Act.put, List.setIfInBounds_toArray, List.set_cons_zero, List.set_cons_succ, i64_w, i32_w]
         rfl
        refine take_ (i := 7) (N := some 21) (v := ?_) (a' := ?_) (bm 30 255) rfl rfl (take_ofW HT_.out HW_.out (by kernel_rfl)) (fun _ _ _ h => h) (Or.inl ⟨by rfl, ?_⟩) hHeld ?_ ?_
        rotate_left
        ·rintro w' ⟨s0, s1⟩
         go_simp
         with_reducible rfl
        rotate_left
        ·simp only [Act.put, List.setIfInBounds_toArray, List.set_cons_zero, List.set_cons_succ, i64_w, i32_w]
         rfl
        refine pa_ 8 (some 22) (bm 30 511) rfl rfl HT_.out ?_
        refine pa_ 9 (some 23) (bm 30 1023) rfl rfl HT_.out ?_
        refine pa_ 10 (some 24) (bm 30 2047) rfl rfl HT_.out ?_
        refine pu_ 11 (some 25) (bm 30 4095) rfl rfl HT_.out ?_
        refine pu_ 12 (some 26) (bm 30 8191) rfl rfl HT_.out ?_
        refine pu_ 13 (some 27) (bm 30 16383) rfl rfl HT_.out ?_
        refine pu_ 14 (some 28) (bm 30 32767) rfl rfl HT_.out ?_
        refine pa_ 15 (some 29) (bm 30 65535) rfl rfl HT_.out ?_
        refine pa_ 16 (some 30) (bm 30 131071) rfl rfl HT_.out ?_
        refine pu_ 17 (some 31) (bm 30 262143) rfl rfl HT_.out ?_
        refine pu_ 18 (some 32) (bm 30 524287) rfl rfl HT_.out ?_
        refine pu_ 19 (some 33) (bm 30 1048575) rfl rfl HT_.out ?_
        refine pu_ 20 (some 34) (bm 30 2097151) rfl rfl HT_.out ?_
        refine pu_ 21 (some 35) (bm 30 4194303) rfl rfl HT_.out ?_
        refine pu_ 22 (some 36) (bm 30 8388607) rfl rfl HT_.out ?_
        refine pu_ 23 (some 37) (bm 30 16777215) rfl rfl HT_.out ?_
        refine pu_ 24 (some 38) (bm 30 33554431) rfl rfl HT_.out ?_
        refine pu_ 25 (some 39) (bm 30 67108863) rfl rfl HT_.out ?_
        refine pu_ 26 (some 40) (bm 30 134217727) rfl rfl HT_.out ?_
        refine pu_ 27 (some 41) (bm 30 268435455) rfl rfl HT_.out ?_
        refine pu_ 28 (some 42) (bm 30 536870911) rfl rfl HT_.out ?_
        refine pa_ 29 (some 43) (bm 30 1073741823) rfl rfl HT_.out ?_
        refine done_ (done_of HT_.out (by kernel_rfl)) ?_
        try go_wp2
        go_ret
        exact ⟨by first | rfl | (simp [errW_none, errW_some] <;> rfl) | (simp [*, errW_none, errW_some] <;> rfl), by repeat (first | (with_reducible first | exact HB.out | apply below_alloc | apply pw_below_drewN | apply below_drew1 | refine below_set ?_ GE190.out) | exact HB.out)⟩
       ·rw [if_neg c11] at H
        have c11b0 : decide (((rd_T78 l0 x9_1).f1) ≤ ((rd_T78 l0 x9_1).f0)) = false := decide_eq_false c11
        clear c11
        by_cases c16 : ((rd_T78 l0 x9_1).f1) ≥ a1
        ·rw [if_pos c16] at H
         have c16b0 : decide (a1 ≤ ((rd_T78 l0 x9_1).f1)) = true := decide_eq_true c16
         clear c16
         obtain rfl := Option.some.inj H
         have p189 : 0 ≤ (x9_1 : Int) := od_
         have q189 : x9_1 < (l0.length : Int) := od_
         obtain ⟨ad189, e189, hx189_0, hx189_1⟩ := at_T78 HR0.out x9_1 p189 q189
         cases e189
         replace hx189_0 := (HB.out.cell (World.block_lt_of_cell? w _ hx189_0)).trans hx189_0
         replace hx189_1 := (HB.out.cell (World.block_lt_of_cell? w _ hx189_1)).trans hx189_1
         replace p189 := eq_true p189
         replace q189 := eq_true q189
         try go_wp2_with (first | ((with_reducible refine gate_dst (N := 6) rfl ?_); refine box_event ?hg (N := 6) ?hd (cs := #[.int .i64 0, .int .i64 0]) (t := 78) ?hr ?_; (case hd => rfl); (case hg => rfl); (case hr => first | (go_simp; done) | (go_simp; rfl)); intro gb190 hg w17 hbox hb; have n_ := And.intro (Aside0.mk (below_step bl_ hb)) (And.intro (Aside0.mk (hbox)) (And.intro (Aside0.mk ((by rw [hg]; exact (below_size bl_) : w.heap.size ≤ gb190))) (Aside0.mk ((by rw [hg]; exact (below_size bl_) : w.heap.size ≤ gb190))))); clear HB; obtain ⟨HB, BK190, GW190, GE190⟩ := n_; clear hb hbox hg; have hcz18_0 : w17.cell? ⟨gb190, 0, none⟩ = some (.int .i64 0) := (blk_cell BK190.out 0).trans rfl; have hcz18_1 : w17.cell? ⟨gb190, 1, none⟩ = some (.int .i64 0) := (blk_cell BK190.out 1).trans rfl; have hfz18_0 := blk_frozen BK190.out 0; have hfz18_1 := blk_frozen BK190.out 1))
         have n0_ : Aside0 (((w17.setCell ⟨gb190, 0, none⟩ (.int .i64 ((rd_T78 l0 x9_1).f0))).setCell ⟨gb190, 1, none⟩ (.int .i64 ((rd_T78 l0 x9_1).f1))).heap[gb190]? = some (.cells #[.int .i64 ((rd_T78 l0 x9_1).f0), .int .i64 ((rd_T78 l0 x9_1).f1)] 78 (0, 0))) := ⟨by (with_reducible repeat (first | refine blk_drewN ?_ _ | refine blk_drew ?_ | refine blk_alloc ?_ _)); refine blk_put (cs := #[.int .i64 ((rd_T78 l0 x9_1).f0), .int .i64 0]) ?_ 1 _ rfl; (with_reducible repeat (first | refine blk_drewN ?_ _ | refine blk_drew ?_ | refine blk_alloc ?_ _)); refine blk_put (cs := #[.int .i64 0, .int .i64 0]) ?_ 0 _ rfl; (with_reducible repeat (first | refine blk_drewN ?_ _ | refine blk_drew ?_ | refine blk_alloc ?_ _)); exact BK190.out⟩
         have n1_ : Aside0 (Below w.heap.size w ((w17.setCell ⟨gb190, 0, none⟩ (.int .i64 ((rd_T78 l0 x9_1).f0))).setCell ⟨gb190, 1, none⟩ (.int .i64 ((rd_T78 l0 x9_1).f1)))) := ⟨by repeat (first | (with_reducible first | exact HB.out | apply below_alloc | apply pw_below_drewN | apply below_drew1 | refine below_set ?_ GE190.out) | exact HB.out)⟩
         (try clear BK190)
         (try clear HB)
         generalize ((w17.setCell ⟨gb190, 0, none⟩ (.int .i64 ((rd_T78 l0 x9_1).f0))).setCell ⟨gb190, 1, none⟩ (.int .i64 ((rd_T78 l0 x9_1).f1))) = w19 at n0_ n1_ ⊢
         have BK190 := n0_
         have HB := n1_
         clear n0_ n1_
         have n_ := And.intro (Aside0.mk (blk_drew BK190.out)) (Aside0.mk (below_drew1 HB.out))
         clear BK190 HB; obtain ⟨BK190, HB⟩ := n_
         refine start_ (n := 30) (S := fun w' => w'.cell? ⟨gb190, 0, none⟩ = some (.int .i64 ((rd_T78 l0 x9_1).f0)) ∧ w'.cell? ⟨gb190, 1, none⟩ = some (.int .i64 ((rd_T78 l0 x9_1).f1))) (ds := []) (bm 30 0) (by kernel_rfl) rfl rfl ⟨(blk_cell BK190.out 0).trans rfl, (blk_cell BK190.out 1).trans rfl⟩ (fun hHeld => ?_); refine with_tabW impl_isPairs.tab4 impl_isPairs.bits4 (fun HT_ HW_ => ?_)
         generalize w19.drew = w20 at BK190 HB hHeld ⊢
         refine pa_ 0 (some 14) (bm 30 1) rfl rfl HT_.out ?_
         refine take_ (i := 1) (N := some 15) (v := ?_) (a' := ?_) (bm 30 3) rfl rfl (take_ofW HT_.out HW_.out (by kernel_rfl)) (fun _ _ _ h => h) (Or.inl ⟨by rfl, ?_⟩) hHeld ?_ ?_
         rotate_left
         ·rintro w' ⟨s0, s1⟩
          go_simp
          with_reducible rfl
         rotate_left
         ·simp only [Act.put, List.setIfInBounds_toArray, List.set_cons_zero, List.set_cons_succ, i64_w, i32_w]
          rfl
         refine pa_ 2 (some 16) (bm 30 7) rfl rfl HT_.out ?_
         refine pa_ 3 (some 17) (bm 30 15) rfl rfl HT_.out ?_
         refine pa_ 4 (some 18) (bm 30 31) rfl rfl HT_.out ?_
         refine pa_ 6 (some 20) (bm 30 95) rfl rfl HT_.out ?_
         refine take_ (i := 5) (N := some 19) (v := ?_) (a' := ?_) (bm 30 127) rfl rfl (take_ofW HT_.out HW_.out (by kernel_rfl)) (fun _ _ _ h => h) (Or.inl ⟨by rfl, ?_⟩) hHeld ?_ ?_
         rotate_left
         ·rintro w' ⟨s0, s1⟩
          go_simp
          with_reducible rfl
         rotate_left
         ·simp only [Act.put, List.setIfInBounds_toArray, List.set_cons_zero, List.set_cons_succ, i64_w, i32_w]
          rfl
         refine take_ (i := 7) (N := some 21) (v := ?_) (a' := ?_) (bm 30 255) rfl rfl (take_ofW HT_.out HW_.out (by kernel_rfl)) (fun _ _ _ h => h) (Or.inl ⟨by rfl, ?_⟩) hHeld ?_ ?_
         rotate_left
         ·rintro w' ⟨s0, s1⟩
          go_simp
          with_reducible rfl
         rotate_left
         ·simp only [Act.put, List.setIfInBounds_toArray, List.set_cons_zero, List.set_cons_succ, i64_w, i32_w]
          rfl
         refine pa_ 8 (some 22) (bm 30 511) rfl rfl HT_.out ?_
         refine pa_ 9 (some 23) (bm 30 1023) rfl rfl HT_.out ?_
         refine pa_ 10 (some 24) (bm 30 2047) rfl rfl HT_.out ?_
         refine pa_ 11 (some 25) (bm 30 4095) rfl rfl HT_.out ?_
         refine pa_ 13 (some 27) (bm 30 12287) rfl rfl HT_.out ?_
         refine take_ (i := 12) (N := some 26) (v := ?_) (a' := ?_) (bm 30 16383) rfl rfl (take_ofW HT_.out HW_.out (by kernel_rfl)) (fun _ _ _ h => h) (Or.inl ⟨by rfl, ?_⟩) hHeld ?_ ?_
         rotate_left
         ·rintro w' ⟨s0, s1⟩
          go_simp
          with_reducible rfl
         rotate_left
         ·simp only [Act.put, List.setIfInBounds_toArray, List.set_cons_zero, List.set_cons_succ, i64_w, i32_w]
          rfl
         refine pa_ 14 (some 28) (bm 30 32767) rfl rfl HT_.out ?_
         refine pa_ 15 (some 29) (bm 30 65535) rfl rfl HT_.out ?_
         refine pa_ 16 (some 30) (bm 30 131071) rfl rfl HT_.out ?_
         refine pu_ 17 (some 31) (bm 30 262143) rfl rfl HT_.out ?_
         refine pu_ 18 (some 32) (bm 30 524287) rfl rfl HT_.out ?_
         refine pu_ 19 (some 33) (bm 30 1048575) rfl rfl HT_.out ?_
         refine pu_ 20 (some 34) (bm 30 2097151) rfl rfl HT_.out ?_
         refine pu_ 21 (some 35) (bm 30 4194303) rfl rfl HT_.out ?_
         refine pu_ 22 (some 36) (bm 30 8388607) rfl rfl HT_.out ?_
         refine pu_ 23 (some 37) (bm 30 16777215) rfl rfl HT_.out ?_
         refine pu_ 24 (some 38) (bm 30 33554431) rfl rfl HT_.out ?_
         refine pu_ 25 (some 39) (bm 30 67108863) rfl rfl HT_.out ?_
         refine pu_ 26 (some 40) (bm 30 134217727) rfl rfl HT_.out ?_
         refine pu_ 27 (some 41) (bm 30 268435455) rfl rfl HT_.out ?_
         refine pu_ 28 (some 42) (bm 30 536870911) rfl rfl HT_.out ?_
         refine pa_ 29 (some 43) (bm 30 1073741823) rfl rfl HT_.out ?_
         refine done_ (done_of HT_.out (by kernel_rfl)) ?_
         try go_wp2
         go_ret
         exact ⟨by first | rfl | (simp [errW_none, errW_some] <;> rfl) | (simp [*, errW_none, errW_some] <;> rfl), by repeat (first | (with_reducible first | exact HB.out | apply below_alloc | apply pw_below_drewN | apply below_drew1 | refine below_set ?_ GE190.out) | exact HB.out)⟩
        ·rw [if_neg c16] at H
         have c16b0 : decide (a1 ≤ ((rd_T78 l0 x9_1).f1)) = false := decide_eq_false c16
         clear c16
         by_cases c21 : x9_1 > 0
         ·rw [if_pos c21] at H
          have c21b0 : decide (0 < x9_1) = true := decide_eq_true c21
          clear c21
          obtain ⟨ji22, hji22⟩ : ∃ j_ : Int, (wrap64 (x9_1 - 1)) = j_ := ⟨_, rfl⟩
          replace H : (if 0 ≤ (ji22) then (if (ji22) < (l0.length : Int) then ((impl_comparePairs.f k1 ((rd_T78 l0 (ji22)).f0) ((rd_T78 l0 (ji22)).f1) ((rd_T78 l0 x9_1).f0) ((rd_T78 l0 x9_1).f1)).bind fun t192 => (if t192 ≥ 0 then (some false) else (impl_isPairs.l0 k1 l0 a1 l0 (l0.length : Int) (wrap64 (x9_1 + 1))))) else (none)) else (none)) = some r := by first | (rw [hji22] at H; exact H) | (simp only [hji22] at H ⊢; exact H)
          have hji22w : (IntKind.i64.wrap (x9_1 - 1)) = ji22 := (i64_w _).trans hji22
          by_cases c23 : 0 ≤ (ji22)
          ·rw [if_pos c23] at H
           have c23b0 : decide (0 ≤ (ji22)) = true := decide_eq_true c23
           clear c23
           (try have hjnx9_1_ji22 : (x9_1.toNat = ji22.toNat) = False := by (have h1_ := of_decide_eq_true c23b0; have h2_ := hji22; have h3_ := of_decide_eq_true c4b0; unfold wrap64 at h2_; exact eq_false (by omega)))
           (try have hjmx9_1_ji22 : (x9_1.toNat * 2 = ji22.toNat * 2) = False := by (have h1_ := of_decide_eq_true c23b0; have h2_ := hji22; have h3_ := of_decide_eq_true c4b0; unfold wrap64 at h2_; exact eq_false (by omega)))
           (try have hjnji22_x9_1 : (ji22.toNat = x9_1.toNat) = False := by (have h1_ := of_decide_eq_true c23b0; have h2_ := hji22; have h3_ := of_decide_eq_true c4b0; unfold wrap64 at h2_; exact eq_false (by omega)))
           (try have hjmji22_x9_1 : (ji22.toNat * 2 = x9_1.toNat * 2) = False := by (have h1_ := of_decide_eq_true c23b0; have h2_ := hji22; have h3_ := of_decide_eq_true c4b0; unfold wrap64 at h2_; exact eq_false (by omega)))
           by_cases c24 : (ji22) < (l0.length : Int)
           ·rw [if_pos c24] at H
            have c24b0 : decide ((ji22) < (l0.length : Int)) = true := decide_eq_true c24
            clear c24
            replace H := Option.bind_eq_some_iff.mp H
            obtain ⟨t192, A250, H⟩ := H
            (try dsimp only at H)
            have A25 := Aside0.mk A250
            clear A250
            by_cases c26 : t192 ≥ 0
            ·rw [if_pos c26] at H
             have c26b0 : decide (0 ≤ t192) = true := decide_eq_true c26
             clear c26
             obtain rfl := Option.some.inj H
             have p189 : 0 ≤ (x9_1 : Int) := od_
             have q189 : x9_1 < (l0.length : Int) := od_
             obtain ⟨ad189, e189, hx189_0, hx189_1⟩ := at_T78 HR0.out x9_1 p189 q189
             cases e189
             replace hx189_0 := (HB.out.cell (World.block_lt_of_cell? w _ hx189_0)).trans hx189_0
             replace hx189_1 := (HB.out.cell (World.block_lt_of_cell? w _ hx189_1)).trans hx189_1
             replace p189 := eq_true p189
             replace q189 := eq_true q189
             try go_wp2_with (first | ((with_reducible refine gate_dst (N := 6) rfl ?_); refine box_event ?hg (N := 6) ?hd (cs := #[.int .i64 0, .int .i64 0]) (t := 78) ?hr ?_; (case hd => rfl); (case hg => rfl); (case hr => first | (go_simp; done) | (go_simp; rfl)); intro gb190 hg w27 hbox hb; have n_ := And.intro (Aside0.mk (below_step bl_ hb)) (And.intro (Aside0.mk (hbox)) (And.intro (Aside0.mk ((by rw [hg]; exact (below_size bl_) : w.heap.size ≤ gb190))) (Aside0.mk ((by rw [hg]; exact (below_size bl_) : w.heap.size ≤ gb190))))); clear HB; obtain ⟨HB, BK190, GW190, GE190⟩ := n_; clear hb hbox hg; have hcz28_0 : w27.cell? ⟨gb190, 0, none⟩ = some (.int .i64 0) := (blk_cell BK190.out 0).trans rfl; have hcz28_1 : w27.cell? ⟨gb190, 1, none⟩ = some (.int .i64 0) := (blk_cell BK190.out 1).trans rfl; have hfz28_0 := blk_frozen BK190.out 0; have hfz28_1 := blk_frozen BK190.out 1))
             have n0_ : Aside0 (((w27.setCell ⟨gb190, 0, none⟩ (.int .i64 ((rd_T78 l0 x9_1).f0))).setCell ⟨gb190, 1, none⟩ (.int .i64 ((rd_T78 l0 x9_1).f1))).heap[gb190]? = some (.cells #[.int .i64 ((rd_T78 l0 x9_1).f0), .int .i64 ((rd_T78 l0 x9_1).f1)] 78 (0, 0))) := ⟨by (with_reducible repeat (first | refine blk_drewN ?_ _ | refine blk_drew ?_ | refine blk_alloc ?_ _)); refine blk_put (cs := #[.int .i64 ((rd_T78 l0 x9_1).f0), .int .i64 0]) ?_ 1 _ rfl; (with_reducible repeat (first | refine blk_drewN ?_ _ | refine blk_drew ?_ | refine blk_alloc ?_ _)); refine blk_put (cs := #[.int .i64 0, .int .i64 0]) ?_ 0 _ rfl; (with_reducible repeat (first | refine blk_drewN ?_ _ | refine blk_drew ?_ | refine blk_alloc ?_ _)); exact BK190.out⟩
             have n1_ : Aside0 (Below w.heap.size w ((w27.setCell ⟨gb190, 0, none⟩ (.int .i64 ((rd_T78 l0 x9_1).f0))).setCell ⟨gb190, 1, none⟩ (.int .i64 ((rd_T78 l0 x9_1).f1)))) := ⟨by repeat (first | (with_reducible first | exact HB.out | apply below_alloc | apply pw_below_drewN | apply below_drew1 | refine below_set ?_ GE190.out) | exact HB.out)⟩
             (try clear BK190)
             (try clear HB)
             generalize ((w27.setCell ⟨gb190, 0, none⟩ (.int .i64 ((rd_T78 l0 x9_1).f0))).setCell ⟨gb190, 1, none⟩ (.int .i64 ((rd_T78 l0 x9_1).f1))) = w29 at n0_ n1_ ⊢
             have BK190 := n0_
             have HB := n1_
             clear n0_ n1_
             have n_ := And.intro (Aside0.mk (blk_drew BK190.out)) (Aside0.mk (below_drew1 HB.out))
             clear BK190 HB; obtain ⟨BK190, HB⟩ := n_
             have p191 : 0 ≤ ((ji22) : Int) := od_
             have q191 : (ji22) < (l0.length : Int) := od_
             obtain ⟨ad191, e191, hx191_0, hx191_1⟩ := at_T78 HR0.out (ji22) p191 q191
             have hw191_1 := hx191_1
             have hw191_0 := hx191_0
             obtain rfl : ad189 = ad191 := (by injection e191)
             replace hx191_0 := (HB.out.cell (World.block_lt_of_cell? w _ hx191_0)).trans hx191_0
             replace hx191_1 := (HB.out.cell (World.block_lt_of_cell? w _ hx191_1)).trans hx191_1
             replace p191 := eq_true p191
             replace q191 := eq_true q191
             refine start_ (n := 30) (S := fun w' => w'.cell? ⟨gb190, 0, none⟩ = some (.int .i64 ((rd_T78 l0 x9_1).f0)) ∧ w'.cell? ⟨gb190, 1, none⟩ = some (.int .i64 ((rd_T78 l0 x9_1).f1)) ∧ w'.cell? (ad189.add (((ji22)).toNat * 2)) = some (.int .i64 ((rd_T78 l0 (ji22)).f0)) ∧ w'.cell? ⟨(ad189.add (((ji22)).toNat * 2)).block, (ad189.add (((ji22)).toNat * 2)).off + 1, none⟩ = some (.int .i64 ((rd_T78 l0 (ji22)).f1))) (ds := []) (bm 30 0) (by kernel_rfl) rfl rfl ⟨(blk_cell BK190.out 0).trans rfl, (blk_cell BK190.out 1).trans rfl, ((HB.out.cell (World.block_lt_of_cell? w _ hw191_0)).trans hw191_0), ((HB.out.cell (World.block_lt_of_cell? w _ hw191_1)).trans hw191_1)⟩ (fun hHeld => ?_); refine with_tabW impl_isPairs.tab4 impl_isPairs.bits4 (fun HT_ HW_ => ?_)
             generalize w29.drew = w30 at BK190 HB hx191_0 hx191_1 hHeld ⊢
             refine pa_ 0 (some 14) (bm 30 1) rfl rfl HT_.out ?_
             refine take_ (i := 1) (N := some 15) (v := ?_) (a' := ?_) (bm 30 3) rfl rfl (take_ofW HT_.out HW_.out (by kernel_rfl)) (fun _ _ _ h => h) (Or.inl ⟨by rfl, ?_⟩) hHeld ?_ ?_
             rotate_left
             ·rintro w' ⟨s0, s1, s2, s3⟩
              go_simp
              with_reducible rfl
             rotate_left
             ·simp only [Act.put, List.setIfInBounds_toArray, List.set_cons_zero, List.set_cons_succ, i64_w, i32_w]
              rfl
             refine pa_ 2 (some 16) (bm 30 7) rfl rfl HT_.out ?_
             refine pa_ 3 (some 17) (bm 30 15) rfl rfl HT_.out ?_
             refine pa_ 4 (some 18) (bm 30 31) rfl rfl HT_.out ?_
             refine pa_ 6 (some 20) (bm 30 95) rfl rfl HT_.out ?_
             refine take_ (i := 5) (N := some 19) (v := ?_) (a' := ?_) (bm 30 127) rfl rfl (take_ofW HT_.out HW_.out (by kernel_rfl)) (fun _ _ _ h => h) (Or.inl ⟨by rfl, ?_⟩) hHeld ?_ ?_
             rotate_left
             ·rintro w' ⟨s0, s1, s2, s3⟩
              go_simp
              with_reducible rfl
             rotate_left
             ·simp only [Act.put, List.setIfInBounds_toArray, List.set_cons_zero, List.set_cons_succ, i64_w, i32_w]
              rfl
             refine take_ (i := 7) (N := some 21) (v := ?_) (a' := ?_) (bm 30 255) rfl rfl (take_ofW HT_.out HW_.out (by kernel_rfl)) (fun _ _ _ h => h) (Or.inl ⟨by rfl, ?_⟩) hHeld ?_ ?_
             rotate_left
             ·rintro w' ⟨s0, s1, s2, s3⟩
              go_simp
              with_reducible rfl
             rotate_left
             ·simp only [Act.put, List.setIfInBounds_toArray, List.set_cons_zero, List.set_cons_succ, i64_w, i32_w]
              rfl
             refine pa_ 8 (some 22) (bm 30 511) rfl rfl HT_.out ?_
             refine pa_ 9 (some 23) (bm 30 1023) rfl rfl HT_.out ?_
             refine pa_ 10 (some 24) (bm 30 2047) rfl rfl HT_.out ?_
             refine pa_ 11 (some 25) (bm 30 4095) rfl rfl HT_.out ?_
             refine pa_ 13 (some 27) (bm 30 12287) rfl rfl HT_.out ?_
             refine take_ (i := 12) (N := some 26) (v := ?_) (a' := ?_) (bm 30 16383) rfl rfl (take_ofW HT_.out HW_.out (by kernel_rfl)) (fun _ _ _ h => h) (Or.inl ⟨by rfl, ?_⟩) hHeld ?_ ?_
             rotate_left
             ·rintro w' ⟨s0, s1, s2, s3⟩
              go_simp
              with_reducible rfl
             rotate_left
             ·simp only [Act.put, List.setIfInBounds_toArray, List.set_cons_zero, List.set_cons_succ, i64_w, i32_w]
              rfl
             refine pa_ 14 (some 28) (bm 30 32767) rfl rfl HT_.out ?_
             refine pa_ 15 (some 29) (bm 30 65535) rfl rfl HT_.out ?_
             refine pa_ 16 (some 30) (bm 30 131071) rfl rfl HT_.out ?_
             refine pa_ 17 (some 31) (bm 30 262143) rfl rfl HT_.out ?_
             refine pa_ 18 (some 32) (bm 30 524287) rfl rfl HT_.out ?_
             refine pa_ 19 (some 33) (bm 30 1048575) rfl rfl HT_.out ?_
             refine pa_ 20 (some 34) (bm 30 2097151) rfl rfl HT_.out ?_
             refine pa_ 21 (some 35) (bm 30 4194303) rfl rfl HT_.out ?_
             refine pa_ 22 (some 36) (bm 30 8388607) rfl rfl HT_.out ?_
             refine pa_ 23 (some 37) (bm 30 16777215) rfl rfl HT_.out ?_
             refine take_ (i := 24) (N := some 38) (v := ?_) (a' := ?_) (bm 30 33554431) rfl rfl (take_ofW HT_.out HW_.out (by kernel_rfl)) (fun _ _ _ h => h) (Or.inl ⟨by rfl, ?_⟩) hHeld ?_ ?_
             rotate_left
             ·rintro w' ⟨s0, s1, s2, s3⟩
              go_simp
              with_reducible rfl
             rotate_left
             ·simp only [Act.put, List.setIfInBounds_toArray, List.set_cons_zero, List.set_cons_succ, i64_w, i32_w]
              rfl
             refine take_ (i := 25) (N := some 39) (v := ?_) (a' := ?_) (bm 30 67108863) rfl rfl (take_ofW HT_.out HW_.out (by kernel_rfl)) (fun _ _ _ h => h) (Or.inl ⟨by rfl, ?_⟩) hHeld ?_ ?_
             rotate_left
             ·rintro w' ⟨s0, s1, s2, s3⟩
              go_simp
              with_reducible rfl
             rotate_left
             ·simp only [Act.put, List.setIfInBounds_toArray, List.set_cons_zero, List.set_cons_succ, i64_w, i32_w]
              rfl
             refine one_ (i := 26) (N := some 40) (bm 30 134217727) rfl rfl (one_of HT_.out (by kernel_rfl)) (by decide) (fun K hK => ?_)
             refine goes_ Try.func137 (by kernel_rfl) rfl #[.agg #[.int .i64 ((rd_T78 l0 (ji22)).f0), .int .i64 ((rd_T78 l0 (ji22)).f1)], .agg #[.int .i64 ((rd_T78 l0 x9_1).f0), .int .i64 ((rd_T78 l0 x9_1).f1)]] (by rfl) rfl rfl (by (try simp only [List.map_toArray, List.map_cons, List.map_nil]); first | done | (simp only [hji22]; rfl) | rfl | (simp only [List.length_drop, List.length_take]; rfl)) ?_
             with_reducible refine (impl_comparePairs.calls k1 ((rd_T78 l0 (ji22)).f0) ((rd_T78 l0 (ji22)).f1) ((rd_T78 l0 x9_1).f0) ((rd_T78 l0 x9_1).f1) t192 _ A25.out).mono ?_
             rintro e w31 ⟨rfl, hb⟩
             refine ⟨_, rfl, ?_⟩
             have n_ := And.intro (Aside0.mk (blk_below (g := gb190) (o := .cells #[.int .i64 ((rd_T78 l0 x9_1).f0), .int .i64 ((rd_T78 l0 x9_1).f1)] 78 (0, 0)) (bk_ BK190) hb)) (Aside0.mk (below_step bg_ hb))
             clear BK190 HB; obtain ⟨BK190, HB⟩ := n_
             (try clear hb)
             (try clear hb2)
             (try clear hk)
             (try clear hi)
             refine hK.out _ _ ⟨(blk_cell BK190.out 0).trans rfl, (blk_cell BK190.out 1).trans rfl, ((HB.out.cell (World.block_lt_of_cell? w _ hw191_0)).trans hw191_0), ((HB.out.cell (World.block_lt_of_cell? w _ hw191_1)).trans hw191_1)⟩ (fun hHeld => ?_)
             clear hK K
             refine norm_ (a' := ?_) ?_ ?_
             rotate_left
             ·show Act.put _ (some 40) _ = _
              simp only [Act.put, List.setIfInBounds_toArray, List.set_cons_zero, List.set_cons_succ, i64_w, i32_w]
              rfl
             refine pa_ 27 (some 41) (bm 30 268435455) rfl rfl HT_.out ?_
             refine pa_ 28 (some 42) (bm 30 536870911) rfl rfl HT_.out ?_
             refine pa_ 29 (some 43) (bm 30 1073741823) rfl rfl HT_.out ?_
             refine done_ (done_of HT_.out (by kernel_rfl)) ?_
             try go_wp2
             go_ret
             exact ⟨by first | rfl | (simp [errW_none, errW_some] <;> rfl) | (simp only [← hji22]; first | rfl | (simp [errW_none, errW_some] <;> rfl)) | (simp [*, errW_none, errW_some] <;> rfl), by repeat (first | (with_reducible first | exact HB.out | apply below_alloc | apply pw_below_drewN | apply below_drew1 | refine below_set ?_ GE190.out) | exact HB.out)⟩
            ·rw [if_neg c26] at H
             have c26b0 : decide (0 ≤ t192) = false := decide_eq_false c26
             clear c26
             have H' := Aside0.mk H
             clear H
             have p189 : 0 ≤ (x9_1 : Int) := od_
             have q189 : x9_1 < (l0.length : Int) := od_
             obtain ⟨ad189, e189, hx189_0, hx189_1⟩ := at_T78 HR0.out x9_1 p189 q189
             cases e189
             replace hx189_0 := (HB.out.cell (World.block_lt_of_cell? w _ hx189_0)).trans hx189_0
             replace hx189_1 := (HB.out.cell (World.block_lt_of_cell? w _ hx189_1)).trans hx189_1
             replace p189 := eq_true p189
             replace q189 := eq_true q189
             try go_wp2_with (first | ((with_reducible refine gate_dst (N := 6) rfl ?_); refine box_event ?hg (N := 6) ?hd (cs := #[.int .i64 0, .int .i64 0]) (t := 78) ?hr ?_; (case hd => rfl); (case hg => rfl); (case hr => first | (go_simp; done) | (go_simp; rfl)); intro gb190 hg w32 hbox hb; have n_ := And.intro (Aside0.mk (below_step bl_ hb)) (And.intro (Aside0.mk (hbox)) (And.intro (Aside0.mk ((by rw [hg]; exact (below_size bl_) : w.heap.size ≤ gb190))) (Aside0.mk ((by rw [hg]; exact (below_size bl_) : w.heap.size ≤ gb190))))); clear HB; obtain ⟨HB, BK190, GW190, GE190⟩ := n_; clear hb hbox hg; have hcz33_0 : w32.cell? ⟨gb190, 0, none⟩ = some (.int .i64 0) := (blk_cell BK190.out 0).trans rfl; have hcz33_1 : w32.cell? ⟨gb190, 1, none⟩ = some (.int .i64 0) := (blk_cell BK190.out 1).trans rfl; have hfz33_0 := blk_frozen BK190.out 0; have hfz33_1 := blk_frozen BK190.out 1))
             have n0_ : Aside0 (((w32.setCell ⟨gb190, 0, none⟩ (.int .i64 ((rd_T78 l0 x9_1).f0))).setCell ⟨gb190, 1, none⟩ (.int .i64 ((rd_T78 l0 x9_1).f1))).heap[gb190]? = some (.cells #[.int .i64 ((rd_T78 l0 x9_1).f0), .int .i64 ((rd_T78 l0 x9_1).f1)] 78 (0, 0))) := ⟨by (with_reducible repeat (first | refine blk_drewN ?_ _ | refine blk_drew ?_ | refine blk_alloc ?_ _)); refine blk_put (cs := #[.int .i64 ((rd_T78 l0 x9_1).f0), .int .i64 0]) ?_ 1 _ rfl; (with_reducible repeat (first | refine blk_drewN ?_ _ | refine blk_drew ?_ | refine blk_alloc ?_ _)); refine blk_put (cs := #[.int .i64 0, .int .i64 0]) ?_ 0 _ rfl; (with_reducible repeat (first | refine blk_drewN ?_ _ | refine blk_drew ?_ | refine blk_alloc ?_ _)); exact BK190.out⟩
             have n1_ : Aside0 (Below w.heap.size w ((w32.setCell ⟨gb190, 0, none⟩ (.int .i64 ((rd_T78 l0 x9_1).f0))).setCell ⟨gb190, 1, none⟩ (.int .i64 ((rd_T78 l0 x9_1).f1)))) := ⟨by repeat (first | (with_reducible first | exact HB.out | apply below_alloc | apply pw_below_drewN | apply below_drew1 | refine below_set ?_ GE190.out) | exact HB.out)⟩
             (try clear BK190)
             (try clear HB)
             generalize ((w32.setCell ⟨gb190, 0, none⟩ (.int .i64 ((rd_T78 l0 x9_1).f0))).setCell ⟨gb190, 1, none⟩ (.int .i64 ((rd_T78 l0 x9_1).f1))) = w34 at n0_ n1_ ⊢
             have BK190 := n0_
             have HB := n1_
             clear n0_ n1_
             have n_ := And.intro (Aside0.mk (blk_drew BK190.out)) (Aside0.mk (below_drew1 HB.out))
             clear BK190 HB; obtain ⟨BK190, HB⟩ := n_
             have p191 : 0 ≤ ((ji22) : Int) := od_
             have q191 : (ji22) < (l0.length : Int) := od_
             obtain ⟨ad191, e191, hx191_0, hx191_1⟩ := at_T78 HR0.out (ji22) p191 q191
             have hw191_1 := hx191_1
             have hw191_0 := hx191_0
             obtain rfl : ad189 = ad191 := (by injection e191)
             replace hx191_0 := (HB.out.cell (World.block_lt_of_cell? w _ hx191_0)).trans hx191_0
             replace hx191_1 := (HB.out.cell (World.block_lt_of_cell? w _ hx191_1)).trans hx191_1
             replace p191 := eq_true p191
             replace q191 := eq_true q191
             refine start_ (n := 30) (S := fun w' => w'.cell? ⟨gb190, 0, none⟩ = some (.int .i64 ((rd_T78 l0 x9_1).f0)) ∧ w'.cell? ⟨gb190, 1, none⟩ = some (.int .i64 ((rd_T78 l0 x9_1).f1)) ∧ w'.cell? (ad189.add (((ji22)).toNat * 2)) = some (.int .i64 ((rd_T78 l0 (ji22)).f0)) ∧ w'.cell? ⟨(ad189.add (((ji22)).toNat * 2)).block, (ad189.add (((ji22)).toNat * 2)).off + 1, none⟩ = some (.int .i64 ((rd_T78 l0 (ji22)).f1))) (ds := []) (bm 30 0) (by kernel_rfl) rfl rfl ⟨(blk_cell BK190.out 0).trans rfl, (blk_cell BK190.out 1).trans rfl, ((HB.out.cell (World.block_lt_of_cell? w _ hw191_0)).trans hw191_0), ((HB.out.cell (World.block_lt_of_cell? w _ hw191_1)).trans hw191_1)⟩ (fun hHeld => ?_); refine with_tabW impl_isPairs.tab4 impl_isPairs.bits4 (fun HT_ HW_ => ?_)
             generalize w34.drew = w35 at BK190 HB hx191_0 hx191_1 hHeld ⊢
             refine pa_ 0 (some 14) (bm 30 1) rfl rfl HT_.out ?_
             refine take_ (i := 1) (N := some 15) (v := ?_) (a' := ?_) (bm 30 3) rfl rfl (take_ofW HT_.out HW_.out (by kernel_rfl)) (fun _ _ _ h => h) (Or.inl ⟨by rfl, ?_⟩) hHeld ?_ ?_
             rotate_left
             ·rintro w' ⟨s0, s1, s2, s3⟩
              go_simp
              with_reducible rfl
             rotate_left
             ·simp only [Act.put, List.setIfInBounds_toArray, List.set_cons_zero, List.set_cons_succ, i64_w, i32_w]
              rfl
             refine pa_ 2 (some 16) (bm 30 7) rfl rfl HT_.out ?_
             refine pa_ 3 (some 17) (bm 30 15) rfl rfl HT_.out ?_
             refine pa_ 4 (some 18) (bm 30 31) rfl rfl HT_.out ?_
             refine pa_ 6 (some 20) (bm 30 95) rfl rfl HT_.out ?_
             refine take_ (i := 5) (N := some 19) (v := ?_) (a' := ?_) (bm 30 127) rfl rfl (take_ofW HT_.out HW_.out (by kernel_rfl)) (fun _ _ _ h => h) (Or.inl ⟨by rfl, ?_⟩) hHeld ?_ ?_
             rotate_left
             ·rintro w' ⟨s0, s1, s2, s3⟩
              go_simp
              with_reducible rfl
             rotate_left
             ·simp only [Act.put, List.setIfInBounds_toArray, List.set_cons_zero, List.set_cons_succ, i64_w, i32_w]
              rfl
             refine take_ (i := 7) (N := some 21) (v := ?_) (a' := ?_) (bm 30 255) rfl rfl (take_ofW HT_.out HW_.out (by kernel_rfl)) (fun _ _ _ h => h) (Or.inl ⟨by rfl, ?_⟩) hHeld ?_ ?_
             rotate_left
             ·rintro w' ⟨s0, s1, s2, s3⟩
              go_simp
              with_reducible rfl
             rotate_left
             ·simp only [Act.put, List.setIfInBounds_toArray, List.set_cons_zero, List.set_cons_succ, i64_w, i32_w]
              rfl
             refine pa_ 8 (some 22) (bm 30 511) rfl rfl HT_.out ?_
             refine pa_ 9 (some 23) (bm 30 1023) rfl rfl HT_.out ?_
             refine pa_ 10 (some 24) (bm 30 2047) rfl rfl HT_.out ?_
             refine pa_ 11 (some 25) (bm 30 4095) rfl rfl HT_.out ?_
             refine pa_ 13 (some 27) (bm 30 12287) rfl rfl HT_.out ?_
             refine take_ (i := 12) (N := some 26) (v := ?_) (a' := ?_) (bm 30 16383) rfl rfl (take_ofW HT_.out HW_.out (by kernel_rfl)) (fun _ _ _ h => h) (Or.inl ⟨by rfl, ?_⟩) hHeld ?_ ?_
             rotate_left
             ·rintro w' ⟨s0, s1, s2, s3⟩
              go_simp
              with_reducible rfl
             rotate_left
             ·simp only [Act.put, List.setIfInBounds_toArray, List.set_cons_zero, List.set_cons_succ, i64_w, i32_w]
              rfl
             refine pa_ 14 (some 28) (bm 30 32767) rfl rfl HT_.out ?_
             refine pa_ 15 (some 29) (bm 30 65535) rfl rfl HT_.out ?_
             refine pa_ 16 (some 30) (bm 30 131071) rfl rfl HT_.out ?_
             refine pa_ 17 (some 31) (bm 30 262143) rfl rfl HT_.out ?_
             refine pa_ 18 (some 32) (bm 30 524287) rfl rfl HT_.out ?_
             refine pa_ 19 (some 33) (bm 30 1048575) rfl rfl HT_.out ?_
             refine pa_ 20 (some 34) (bm 30 2097151) rfl rfl HT_.out ?_
             refine pa_ 21 (some 35) (bm 30 4194303) rfl rfl HT_.out ?_
             refine pa_ 22 (some 36) (bm 30 8388607) rfl rfl HT_.out ?_
             refine pa_ 23 (some 37) (bm 30 16777215) rfl rfl HT_.out ?_
             refine take_ (i := 24) (N := some 38) (v := ?_) (a' := ?_) (bm 30 33554431) rfl rfl (take_ofW HT_.out HW_.out (by kernel_rfl)) (fun _ _ _ h => h) (Or.inl ⟨by rfl, ?_⟩) hHeld ?_ ?_
             rotate_left
             ·rintro w' ⟨s0, s1, s2, s3⟩
              go_simp
              with_reducible rfl
             rotate_left
             ·simp only [Act.put, List.setIfInBounds_toArray, List.set_cons_zero, List.set_cons_succ, i64_w, i32_w]
              rfl
             refine take_ (i := 25) (N := some 39) (v := ?_) (a' := ?_) (bm 30 67108863) rfl rfl (take_ofW HT_.out HW_.out (by kernel_rfl)) (fun _ _ _ h => h) (Or.inl ⟨by rfl, ?_⟩) hHeld ?_ ?_
             rotate_left
             ·rintro w' ⟨s0, s1, s2, s3⟩
              go_simp
              with_reducible rfl
             rotate_left
             ·simp only [Act.put, List.setIfInBounds_toArray, List.set_cons_zero, List.set_cons_succ, i64_w, i32_w]
              rfl
             refine one_ (i := 26) (N := some 40) (bm 30 134217727) rfl rfl (one_of HT_.out (by kernel_rfl)) (by decide) (fun K hK => ?_)
             refine goes_ Try.func137 (by kernel_rfl) rfl #[.agg #[.int .i64 ((rd_T78 l0 (ji22)).f0), .int .i64 ((rd_T78 l0 (ji22)).f1)], .agg #[.int .i64 ((rd_T78 l0 x9_1).f0), .int .i64 ((rd_T78 l0 x9_1).f1)]] (by rfl) rfl rfl (by (try simp only [List.map_toArray, List.map_cons, List.map_nil]); first | done | (simp only [hji22]; rfl) | rfl | (simp only [List.length_drop, List.length_take]; rfl)) ?_
             with_reducible refine (impl_comparePairs.calls k1 ((rd_T78 l0 (ji22)).f0) ((rd_T78 l0 (ji22)).f1) ((rd_T78 l0 x9_1).f0) ((rd_T78 l0 x9_1).f1) t192 _ A25.out).mono ?_
             rintro e w36 ⟨rfl, hb⟩
             refine ⟨_, rfl, ?_⟩
             have n_ := And.intro (Aside0.mk (blk_below (g := gb190) (o := .cells #[.int .i64 ((rd_T78 l0 x9_1).f0), .int .i64 ((rd_T78 l0 x9_1).f1)] 78 (0, 0)) (bk_ BK190) hb)) (Aside0.mk (below_step bg_ hb))
             clear BK190 HB; obtain ⟨BK190, HB⟩ := n_
             (try clear hb)
             (try clear hb2)
             (try clear hk)
             (try clear hi)
             refine hK.out _ _ ⟨(blk_cell BK190.out 0).trans rfl, (blk_cell BK190.out 1).trans rfl, ((HB.out.cell (World.block_lt_of_cell? w _ hw191_0)).trans hw191_0), ((HB.out.cell (World.block_lt_of_cell? w _ hw191_1)).trans hw191_1)⟩ (fun hHeld => ?_)
             clear hK K
             refine norm_ (a' := ?_) ?_ ?_
             rotate_left
             ·show Act.put _ (some 40) _ = _
              simp only [Act.put, List.setIfInBounds_toArray, List.set_cons_zero, List.set_cons_succ, i64_w, i32_w]
              rfl
             refine pa_ 27 (some 41) (bm 30 268435455) rfl rfl HT_.out ?_
             refine pa_ 28 (some 42) (bm 30 536870911) rfl rfl HT_.out ?_
             refine pa_ 29 (some 43) (bm 30 1073741823) rfl rfl HT_.out ?_
             refine done_ (done_of HT_.out (by kernel_rfl)) ?_
             try go_wp2
             go_roundg k1
             case measure => have := HK1.out; omega
             case rel => exact ⟨(wrap64 (x9_1 + 1)), (by first | rfl | (simp; done) | (simp [*]; done)), H', ⟨by have := HK1.out; omega⟩, ⟨by repeat (first | (with_reducible first | exact HB.out | apply below_alloc | apply pw_below_drewN | apply below_drew1 | refine below_set ?_ GE190.out) | exact HB.out)⟩⟩
           ·rw [if_neg c24] at H
            exact absurd H (by simp)
          ·rw [if_neg c23] at H
           exact absurd H (by simp)
         ·rw [if_neg c21] at H
          have c21b0 : decide (0 < x9_1) = false := decide_eq_false c21
          clear c21
          have H' := Aside0.mk H
          clear H
          have p189 : 0 ≤ (x9_1 : Int) := od_
          have q189 : x9_1 < (l0.length : Int) := od_
          obtain ⟨ad189, e189, hx189_0, hx189_1⟩ := at_T78 HR0.out x9_1 p189 q189
          cases e189
          replace hx189_0 := (HB.out.cell (World.block_lt_of_cell? w _ hx189_0)).trans hx189_0
          replace hx189_1 := (HB.out.cell (World.block_lt_of_cell? w _ hx189_1)).trans hx189_1
          replace p189 := eq_true p189
          replace q189 := eq_true q189
          try go_wp2_with (first | ((with_reducible refine gate_dst (N := 6) rfl ?_); refine box_event ?hg (N := 6) ?hd (cs := #[.int .i64 0, .int .i64 0]) (t := 78) ?hr ?_; (case hd => rfl); (case hg => rfl); (case hr => first | (go_simp; done) | (go_simp; rfl)); intro gb190 hg w37 hbox hb; have n_ := And.intro (Aside0.mk (below_step bl_ hb)) (And.intro (Aside0.mk (hbox)) (And.intro (Aside0.mk ((by rw [hg]; exact (below_size bl_) : w.heap.size ≤ gb190))) (Aside0.mk ((by rw [hg]; exact (below_size bl_) : w.heap.size ≤ gb190))))); clear HB; obtain ⟨HB, BK190, GW190, GE190⟩ := n_; clear hb hbox hg; have hcz38_0 : w37.cell? ⟨gb190, 0, none⟩ = some (.int .i64 0) := (blk_cell BK190.out 0).trans rfl; have hcz38_1 : w37.cell? ⟨gb190, 1, none⟩ = some (.int .i64 0) := (blk_cell BK190.out 1).trans rfl; have hfz38_0 := blk_frozen BK190.out 0; have hfz38_1 := blk_frozen BK190.out 1))
          have n0_ : Aside0 (((w37.setCell ⟨gb190, 0, none⟩ (.int .i64 ((rd_T78 l0 x9_1).f0))).setCell ⟨gb190, 1, none⟩ (.int .i64 ((rd_T78 l0 x9_1).f1))).heap[gb190]? = some (.cells #[.int .i64 ((rd_T78 l0 x9_1).f0), .int .i64 ((rd_T78 l0 x9_1).f1)] 78 (0, 0))) := ⟨by (with_reducible repeat (first | refine blk_drewN ?_ _ | refine blk_drew ?_ | refine blk_alloc ?_ _)); refine blk_put (cs := #[.int .i64 ((rd_T78 l0 x9_1).f0), .int .i64 0]) ?_ 1 _ rfl; (with_reducible repeat (first | refine blk_drewN ?_ _ | refine blk_drew ?_ | refine blk_alloc ?_ _)); refine blk_put (cs := #[.int .i64 0, .int .i64 0]) ?_ 0 _ rfl; (with_reducible repeat (first | refine blk_drewN ?_ _ | refine blk_drew ?_ | refine blk_alloc ?_ _)); exact BK190.out⟩
          have n1_ : Aside0 (Below w.heap.size w ((w37.setCell ⟨gb190, 0, none⟩ (.int .i64 ((rd_T78 l0 x9_1).f0))).setCell ⟨gb190, 1, none⟩ (.int .i64 ((rd_T78 l0 x9_1).f1)))) := ⟨by repeat (first | (with_reducible first | exact HB.out | apply below_alloc | apply pw_below_drewN | apply below_drew1 | refine below_set ?_ GE190.out) | exact HB.out)⟩
          (try clear BK190)
          (try clear HB)
          generalize ((w37.setCell ⟨gb190, 0, none⟩ (.int .i64 ((rd_T78 l0 x9_1).f0))).setCell ⟨gb190, 1, none⟩ (.int .i64 ((rd_T78 l0 x9_1).f1))) = w39 at n0_ n1_ ⊢
          have BK190 := n0_
          have HB := n1_
          clear n0_ n1_
          have n_ := And.intro (Aside0.mk (blk_drew BK190.out)) (Aside0.mk (below_drew1 HB.out))
          clear BK190 HB; obtain ⟨BK190, HB⟩ := n_
          refine start_ (n := 30) (S := fun w' => w'.cell? ⟨gb190, 0, none⟩ = some (.int .i64 ((rd_T78 l0 x9_1).f0)) ∧ w'.cell? ⟨gb190, 1, none⟩ = some (.int .i64 ((rd_T78 l0 x9_1).f1))) (ds := []) (bm 30 0) (by kernel_rfl) rfl rfl ⟨(blk_cell BK190.out 0).trans rfl, (blk_cell BK190.out 1).trans rfl⟩ (fun hHeld => ?_); refine with_tabW impl_isPairs.tab4 impl_isPairs.bits4 (fun HT_ HW_ => ?_)
          generalize w39.drew = w40 at BK190 HB hHeld ⊢
          refine pa_ 0 (some 14) (bm 30 1) rfl rfl HT_.out ?_
          refine take_ (i := 1) (N := some 15) (v := ?_) (a' := ?_) (bm 30 3) rfl rfl (take_ofW HT_.out HW_.out (by kernel_rfl)) (fun _ _ _ h => h) (Or.inl ⟨by rfl, ?_⟩) hHeld ?_ ?_
          rotate_left
          ·rintro w' ⟨s0, s1⟩
           go_simp
           with_reducible rfl
          rotate_left
          ·simp only [Act.put, List.setIfInBounds_toArray, List.set_cons_zero, List.set_cons_succ, i64_w, i32_w]
           rfl
          refine pa_ 2 (some 16) (bm 30 7) rfl rfl HT_.out ?_
          refine pa_ 3 (some 17) (bm 30 15) rfl rfl HT_.out ?_
          refine pa_ 4 (some 18) (bm 30 31) rfl rfl HT_.out ?_
          refine pa_ 6 (some 20) (bm 30 95) rfl rfl HT_.out ?_
          refine take_ (i := 5) (N := some 19) (v := ?_) (a' := ?_) (bm 30 127) rfl rfl (take_ofW HT_.out HW_.out (by kernel_rfl)) (fun _ _ _ h => h) (Or.inl ⟨by rfl, ?_⟩) hHeld ?_ ?_
          rotate_left
          ·rintro w' ⟨s0, s1⟩
           go_simp
           with_reducible rfl
          rotate_left
          ·simp only [Act.put, List.setIfInBounds_toArray, List.set_cons_zero, List.set_cons_succ, i64_w, i32_w]
           rfl
          refine take_ (i := 7) (N := some 21) (v := ?_) (a' := ?_) (bm 30 255) rfl rfl (take_ofW HT_.out HW_.out (by kernel_rfl)) (fun _ _ _ h => h) (Or.inl ⟨by rfl, ?_⟩) hHeld ?_ ?_
          rotate_left
          ·rintro w' ⟨s0, s1⟩
           go_simp
           with_reducible rfl
          rotate_left
          ·simp only [Act.put, List.setIfInBounds_toArray, List.set_cons_zero, List.set_cons_succ, i64_w, i32_w]
           rfl
          refine pa_ 8 (some 22) (bm 30 511) rfl rfl HT_.out ?_
          refine pa_ 9 (some 23) (bm 30 1023) rfl rfl HT_.out ?_
          refine pa_ 10 (some 24) (bm 30 2047) rfl rfl HT_.out ?_
          refine pa_ 11 (some 25) (bm 30 4095) rfl rfl HT_.out ?_
          refine pa_ 13 (some 27) (bm 30 12287) rfl rfl HT_.out ?_
          refine take_ (i := 12) (N := some 26) (v := ?_) (a' := ?_) (bm 30 16383) rfl rfl (take_ofW HT_.out HW_.out (by kernel_rfl)) (fun _ _ _ h => h) (Or.inl ⟨by rfl, ?_⟩) hHeld ?_ ?_
          rotate_left
          ·rintro w' ⟨s0, s1⟩
           go_simp
           with_reducible rfl
          rotate_left
          ·simp only [Act.put, List.setIfInBounds_toArray, List.set_cons_zero, List.set_cons_succ, i64_w, i32_w]
           rfl
          refine pa_ 14 (some 28) (bm 30 32767) rfl rfl HT_.out ?_
          refine pa_ 15 (some 29) (bm 30 65535) rfl rfl HT_.out ?_
          refine pa_ 16 (some 30) (bm 30 131071) rfl rfl HT_.out ?_
          refine pa_ 17 (some 31) (bm 30 262143) rfl rfl HT_.out ?_
          refine pa_ 18 (some 32) (bm 30 524287) rfl rfl HT_.out ?_
          refine pa_ 19 (some 33) (bm 30 1048575) rfl rfl HT_.out ?_
          refine pu_ 20 (some 34) (bm 30 2097151) rfl rfl HT_.out ?_
          refine pu_ 21 (some 35) (bm 30 4194303) rfl rfl HT_.out ?_
          refine pu_ 22 (some 36) (bm 30 8388607) rfl rfl HT_.out ?_
          refine pu_ 23 (some 37) (bm 30 16777215) rfl rfl HT_.out ?_
          refine pu_ 24 (some 38) (bm 30 33554431) rfl rfl HT_.out ?_
          refine pu_ 25 (some 39) (bm 30 67108863) rfl rfl HT_.out ?_
          refine pu_ 26 (some 40) (bm 30 134217727) rfl rfl HT_.out ?_
          refine pu_ 27 (some 41) (bm 30 268435455) rfl rfl HT_.out ?_
          refine pa_ 28 (some 42) (bm 30 536870911) rfl rfl HT_.out ?_
          refine pa_ 29 (some 43) (bm 30 1073741823) rfl rfl HT_.out ?_
          refine done_ (done_of HT_.out (by kernel_rfl)) ?_
          try go_wp2
          go_roundg k1
          case measure => have := HK1.out; omega
          case rel => exact ⟨(wrap64 (x9_1 + 1)), (by first | rfl | (simp; done) | (simp [*]; done)), H', ⟨by have := HK1.out; omega⟩, ⟨by repeat (first | (with_reducible first | exact HB.out | apply below_alloc | apply pw_below_drewN | apply below_drew1 | refine below_set ?_ GE190.out) | exact HB.out)⟩⟩
     ·rw [if_neg c5] at H
      exact absurd H (by simp)
    ·rw [if_neg c4] at H
     exact absurd H (by simp)
   ·rw [if_neg c3] at H
    have c3b0 : decide (x9_1 < (l0.length : Int)) = false := decide_eq_false c3
    clear c3
    obtain rfl := Option.some.inj H
    go_wp2
    go_ret
    exact ⟨by first | rfl | (simp [errW_none, errW_some] <;> rfl) | (simp [*, errW_none, errW_some] <;> rfl), by repeat (first | (with_reducible first | exact HB.out | apply below_alloc | apply pw_below_drewN | apply below_drew1) | exact HB.out)⟩

end Go.Proofs.Ytiiaadgibkpaaaa.PFnExactAfterMap
