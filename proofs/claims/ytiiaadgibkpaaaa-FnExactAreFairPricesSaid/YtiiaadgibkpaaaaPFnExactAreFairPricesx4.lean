-- written by wip/tools of this repo out of the translation (a turned copy of the kit's print): checked by Lean alone
import Derived.Test.YtiiaadgibkpaaaaPFnExactAreFairPricesx0
import Derived.Test.YtiiaadgibkpaaaaPFnExactAreFairPricesx3
namespace Go.Proofs.Ytiiaadgibkpaaaa.PFnExactAreFairPrices
open Go.RowKit Go.Proofs.YtiiaadgibkpaaaaW.PrintWords Go.Proofs.YtiiaadgibkpaaaaW.PrintLast Go.Proofs.YtiiaadgibkpaaaaW.PrintMore
attribute [local go_sem] max2_int min2_int max_two min_two max_three min_three max_four min_four   -- for this text's walks alone
set_option linter.unusedVariables false
set_option linter.unusedSimpArgs false

/-! ### spec_l11Fair: function 76 -/
def spec_l11Fair.l0 : Nat → List Int → List Int → Int → List (List Int) → List (S78) → Option (Bool)
 | 0, _, _, _, _, _ => none
 | k + 1, x1, x2, x7, x144000, x144001 => if x7 < (x144001.length : Int) then (if 0 ≤ x7 then (if 0 ≤ ((rd_T78 x144001 x7).f0) then (if ((rd_T78 x144001 x7).f0) < (x2.length : Int) then (if 0 ≤ ((rd_T78 x144001 x7).f1) then (if ((rd_T78 x144001 x7).f1) < (x2.length : Int) then ((spec_l1Most.f (wrap64 ((rd x2 ((rd_T78 x144001 x7).f0)) - (rd x2 ((rd_T78 x144001 x7).f1)))) (wrap64 (-(wrap64 ((rd x2 ((rd_T78 x144001 x7).f0)) - (rd x2 ((rd_T78 x144001 x7).f1))))))).bind fun t148 => (if x7 < (x1.length : Int) then (if t148 > (rd x1 x7) then (some false) else (spec_l11Fair.l0 k x1 x2 (wrap64 (x7 + 1)) x144000 x144001)) else (none))) else (none)) else (none)) else (none)) else (none)) else (none)) else (some true)
def spec_l11Fair.f (k : Nat) (l0_0 : List (List Int)) (l0_1 : List (S78)) (l1 : List Int) (l2 : List Int) : Option (Bool) := spec_l11Fair.l0 k l1 l2 0 l0_0 l0_1
def spec_l11Fair.T4 : Bool × List (List Nat × List Nat) := (true, [([], []), ([], []), ([1], [1]), ([], []), ([2, 3], [2, 3]), ([4], [4]), ([5], [5]), ([0, 6], [0, 6]), ([7], [7]), ([], []), ([], []), ([10], [10]), ([], []), ([11, 12], [11, 12]), ([13], [13]), ([14], [14]), ([9, 15], [9, 15]), ([16], [16]), ([8, 17], [8, 17]), ([18, 0, 1, 2, 3, 4, 5, 6, 7, 8, 9, 10, 11, 12, 13, 14, 15, 16, 17, 18], [18])])
def spec_l11Fair.B4 : List Nat := [0, 0, 2, 0, 14, 30, 62, 127, 255, 0, 0, 1024, 0, 7168, 15360, 31744, 65024, 130560, 262143, 524287]
theorem spec_l11Fair.tab4 : rtab .any (opsOf Try.f76 4) = spec_l11Fair.T4 := by kernel_rfl
theorem spec_l11Fair.bits4 : waitsOk spec_l11Fair.T4.2 spec_l11Fair.B4 = true := by kernel_rfl
def spec_l11Fair.T5 : Bool × List (List Nat × List Nat) := (true, [([], []), ([], []), ([1], [1]), ([0, 2], [0, 2]), ([], []), ([], []), ([4, 5], [4, 5]), ([6], [6]), ([3, 7], [3, 7])])
def spec_l11Fair.B5 : List Nat := [0, 0, 2, 7, 0, 0, 48, 112, 255]
theorem spec_l11Fair.tab5 : rtab .any (opsOf Try.f76 5) = spec_l11Fair.T5 := by kernel_rfl
theorem spec_l11Fair.bits5 : waitsOk spec_l11Fair.T5.2 spec_l11Fair.B5 = true := by kernel_rfl
set_option maxHeartbeats 8000000 in
set_option maxRecDepth 100000 in
theorem spec_l11Fair.calls (k : Nat) (A0_0 : Option Addr) (c0_0 : Nat) (l0_0 : List (List Int)) (A0_1 : Option Addr) (c0_1 : Nat) (l0_1 : List (S78)) (A1 : Option Addr) (c1 : Nat) (l1 : List Int) (A2 : Option Addr) (c2 : Nat) (l2 : List Int) (r : Bool) (w : World) (hr0_0 : Kd.C (Kd.slice 3 (Kd.int .i64)) w A0_0 l0_0.length l0_0) (hc0_0 : l0_0.length ≤ c0_0) (hr0_1 : Kd.C k78 w A0_1 l0_1.length l0_1) (hc0_1 : l0_1.length ≤ c0_1) (hr1 : Kd.C (Kd.int .i64) w A1 l1.length l1) (hc1 : l1.length ≤ c1) (hr2 : Kd.C (Kd.int .i64) w A2 l2.length l2) (hc2 : l2.length ≤ c2) (h : spec_l11Fair.f k l0_0 l0_1 l1 l2 = some r) :
  Calls Try.prog 76 #[.agg #[.slice A0_0 l0_0.length c0_0, .slice A0_1 l0_1.length c0_1], .slice A1 l1.length c1, .slice A2 l2.length c2] w fun e w' => e = .returned (.bool r) ∧ Below w.heap.size w w' := by
 have hu55 := Try.underlying55
 have HR0_0 := Aside0.mk hr0_0
 have HC0_0 := Aside0.mk hc0_0
 clear hr0_0 hc0_0
 have HR0_1 := Aside0.mk hr0_1
 have HC0_1 := Aside0.mk hc0_1
 clear hr0_1 hc0_1
 have HR1 := Aside0.mk hr1
 have HC1 := Aside0.mk hc1
 clear hr1 hc1
 have HR2 := Aside0.mk hr2
 have HC2 := Aside0.mk hc2
 clear hr2 hc2
 have HB := Aside0.mk (Below.refl w.heap.size w)
 have H : (spec_l11Fair.l0 k l1 l2 0 l0_0 l0_1) = some r := h
 clear h
 have H' := Aside0.mk H
 clear H
 go_enter Try.func76, Try.ntmps76
 go_wp2_with (first | ((with_reducible refine gate_dst (N := 3) rfl ?_); refine box_event ?hg (N := 3) ?hd (cs := #[.slice A0_0 l0_0.length c0_0, .slice A0_1 l0_1.length c0_1]) (t := 55) ?hr ?_; (case hd => rfl); (case hg => rfl); (case hr => first | (go_simp; done) | (go_simp; rfl)); intro gb143 hg w4 hbox hb; have n0_ := Aside0.mk (below_step bl_ hb); have n1_ := Aside0.mk (hbox); have n2_ := Aside0.mk ((by rw [hg]; exact (below_size bl_) : w.heap.size ≤ gb143)); have n3_ := Aside0.mk ((by rw [hg]; exact (below_size bl_) : w.heap.size ≤ gb143)); clear HB; have HB := n0_; have BK143 := n1_; have GW143 := n2_; have GE143 := n3_; clear n0_ n1_ n2_ n3_; clear hb hbox hg))
 go_loopg [7] k (fun kq v7 w' => ∃ (x7_1 : Int), v7 = .int .i64 x7_1 ∧ Aside0 (spec_l11Fair.l0 kq l1 l2 x7_1 l0_0 l0_1 = some r) ∧ Aside0 (kq ≤ k) ∧ Aside0 (w'.heap[gb143]? = some (.cells #[(.slice A0_0 l0_0.length c0_0), (.slice A0_1 l0_1.length c0_1)] 55 (0, 0))) ∧ Aside0 (Below w.heap.size w w'))
 case atStart => exact ⟨(0), (by first | rfl | (simp; done) | (simp [*]; done)), H', ⟨Nat.le_refl _⟩, ⟨by (with_reducible repeat (first | refine blk_drewN ?_ _ | refine blk_drew ?_ | refine blk_alloc ?_ _)); exact BK143.out⟩, ⟨by repeat (first | (with_reducible first | exact HB.out | apply below_alloc | apply pw_below_drewN | apply below_drew1 | refine below_set ?_ GE143.out) | exact HB.out)⟩⟩
 case round =>
  clear H'
  try clear c1
  try clear c2
  try clear p2
  obtain ⟨x7_1, rfl, HA, HK1, BK143, HB⟩ := hrel
  cases gk with
  | zero => exact absurd HA.out (by simp [spec_l11Fair.l0])
  | succ k1 =>
   have H := HA.out
   clear HA
   simp only [spec_l11Fair.l0] at H
   by_cases c5 : x7_1 < (l0_1.length : Int)
   ·rw [if_pos c5] at H
    have c5b0 : decide (x7_1 < (l0_1.length : Int)) = true := decide_eq_true c5
    clear c5
    by_cases c6 : 0 ≤ x7_1
    ·rw [if_pos c6] at H
     have c6b0 : decide (0 ≤ x7_1) = true := decide_eq_true c6
     clear c6
     by_cases c7 : 0 ≤ ((rd_T78 l0_1 x7_1).f0)
     ·rw [if_pos c7] at H
      have c7b0 : decide (0 ≤ ((rd_T78 l0_1 x7_1).f0)) = true := decide_eq_true c7
      clear c7
      by_cases c8 : ((rd_T78 l0_1 x7_1).f0) < (l2.length : Int)
      ·rw [if_pos c8] at H
       have c8b0 : decide (((rd_T78 l0_1 x7_1).f0) < (l2.length : Int)) = true := decide_eq_true c8
       clear c8
       by_cases c9 : 0 ≤ ((rd_T78 l0_1 x7_1).f1)
       ·rw [if_pos c9] at H
        have c9b0 : decide (0 ≤ ((rd_T78 l0_1 x7_1).f1)) = true := decide_eq_true c9
        clear c9
        by_cases c10 : ((rd_T78 l0_1 x7_1).f1) < (l2.length : Int)
        ·rw [if_pos c10] at H
         have c10b0 : decide (((rd_T78 l0_1 x7_1).f1) < (l2.length : Int)) = true := decide_eq_true c10
         clear c10
         replace H := Option.bind_eq_some_iff.mp H
         obtain ⟨t148, A110, H⟩ := H
         replace H : (if x7_1 < (l1.length : Int) then (if t148 > (rd l1 x7_1) then (some false) else (spec_l11Fair.l0 k1 l1 l2 (wrap64 (x7_1 + 1)) l0_0 l0_1)) else (none)) = some r := H
         have A11 := Aside0.mk A110
         clear A110
         by_cases c12 : x7_1 < (l1.length : Int)
         ·rw [if_pos c12] at H
          have c12b0 : decide (x7_1 < (l1.length : Int)) = true := decide_eq_true c12
          clear c12
          by_cases c13 : t148 > (rd l1 x7_1)
          ·rw [if_pos c13] at H
           have c13b0 : decide ((rd l1 x7_1) < t148) = true := decide_eq_true c13
           clear c13
           obtain rfl := Option.some.inj H
           have hcz14_0 : wr.cell? ⟨gb143, 0, none⟩ = some (.slice A0_0 l0_0.length c0_0) := (blk_cell BK143.out 0).trans rfl
           have hcz14_1 : wr.cell? ⟨gb143, 1, none⟩ = some (.slice A0_1 l0_1.length c0_1) := (blk_cell BK143.out 1).trans rfl
           have hfz14_0 := blk_frozen BK143.out 0
           have hfz14_1 := blk_frozen BK143.out 1
           try go_wp2
           have n0_ := Aside0.mk (blk_drew BK143.out)
           have n1_ := Aside0.mk (below_drew1 HB.out)
           clear BK143
           clear HB
           have BK143 := n0_
           have HB := n1_
           clear n0_ n1_
           have p144 : 0 ≤ (x7_1 : Int) := od_
           have q144 : x7_1 < (l0_1.length : Int) := od_
           obtain ⟨ad144, e144, hx144_0, hx144_1⟩ := at_T78 HR0_1.out x7_1 p144 q144
           have hw144_1 := hx144_1
           have hw144_0 := hx144_0
           cases e144
           replace hx144_0 := (HB.out.cell (World.block_lt_of_cell? w _ hx144_0)).trans hx144_0
           replace hx144_1 := (HB.out.cell (World.block_lt_of_cell? w _ hx144_1)).trans hx144_1
           replace p144 := eq_true p144
           replace q144 := eq_true q144
           have p145 : 0 ≤ (((rd_T78 l0_1 x7_1).f0) : Int) := od_
           have q145 : ((rd_T78 l0_1 x7_1).f0) < (l2.length : Int) := od_
           obtain ⟨ad145, e145, hx145_0⟩ := Kd.at_int HR2.out ((rd_T78 l0_1 x7_1).f0) p145 q145
           have hw145_0 := hx145_0
           cases e145
           replace hx145_0 := (HB.out.cell (World.block_lt_of_cell? w _ hx145_0)).trans hx145_0
           replace p145 := eq_true p145
           replace q145 := eq_true q145
           have p146 : 0 ≤ (x7_1 : Int) := od_
           have q146 : x7_1 < (l0_1.length : Int) := od_
           obtain ⟨ad146, e146, hx146_0, hx146_1⟩ := at_T78 HR0_1.out x7_1 p146 q146
           have hw146_1 := hx146_1
           have hw146_0 := hx146_0
           obtain rfl : ad144 = ad146 := (by injection e146)
           replace hx146_0 := (HB.out.cell (World.block_lt_of_cell? w _ hx146_0)).trans hx146_0
           replace hx146_1 := (HB.out.cell (World.block_lt_of_cell? w _ hx146_1)).trans hx146_1
           replace p146 := eq_true p146
           replace q146 := eq_true q146
           have p147 : 0 ≤ (((rd_T78 l0_1 x7_1).f1) : Int) := od_
           have q147 : ((rd_T78 l0_1 x7_1).f1) < (l2.length : Int) := od_
           obtain ⟨ad147, e147, hx147_0⟩ := Kd.at_int HR2.out ((rd_T78 l0_1 x7_1).f1) p147 q147
           have hw147_0 := hx147_0
           obtain rfl : ad145 = ad147 := (by injection e147)
           replace hx147_0 := (HB.out.cell (World.block_lt_of_cell? w _ hx147_0)).trans hx147_0
           replace p147 := eq_true p147
           replace q147 := eq_true q147
           refine start_ (n := 20) (S := fun w' => w'.cell? ⟨gb143, 0, none⟩ = some (.slice A0_0 l0_0.length c0_0) ∧ w'.cell? ⟨gb143, 1, none⟩ = some (.slice (some ad144) l0_1.length c0_1) ∧ w'.cell? (ad144.add ((x7_1).toNat * 2)) = some (.int .i64 ((rd_T78 l0_1 x7_1).f0)) ∧ w'.cell? ⟨(ad144.add ((x7_1).toNat * 2)).block, (ad144.add ((x7_1).toNat * 2)).off + 1, none⟩ = some (.int .i64 ((rd_T78 l0_1 x7_1).f1)) ∧ w'.cell? (ad145.add (((rd_T78 l0_1 x7_1).f0)).toNat) = some (.int .i64 (rd l2 ((rd_T78 l0_1 x7_1).f0))) ∧ w'.cell? (ad144.add ((x7_1).toNat * 2)) = some (.int .i64 ((rd_T78 l0_1 x7_1).f0)) ∧ w'.cell? ⟨(ad144.add ((x7_1).toNat * 2)).block, (ad144.add ((x7_1).toNat * 2)).off + 1, none⟩ = some (.int .i64 ((rd_T78 l0_1 x7_1).f1)) ∧ w'.cell? (ad145.add (((rd_T78 l0_1 x7_1).f1)).toNat) = some (.int .i64 (rd l2 ((rd_T78 l0_1 x7_1).f1)))) (ds := []) (bm 20 0) (by kernel_rfl) rfl rfl ⟨(blk_cell BK143.out 0).trans rfl, (blk_cell BK143.out 1).trans rfl, ((HB.out.cell (World.block_lt_of_cell? w _ hw144_0)).trans hw144_0), ((HB.out.cell (World.block_lt_of_cell? w _ hw144_1)).trans hw144_1), ((HB.out.cell (World.block_lt_of_cell? w _ hw145_0)).trans hw145_0), ((HB.out.cell (World.block_lt_of_cell? w _ hw146_0)).trans hw146_0), ((HB.out.cell (World.block_lt_of_cell? w _ hw146_1)).trans hw146_1), ((HB.out.cell (World.block_lt_of_cell? w _ hw147_0)).trans hw147_0)⟩ (fun hHeld => ?_); refine with_tabW spec_l11Fair.tab4 spec_l11Fair.bits4 (fun HT_ HW_ => ?_)
           generalize wr.drew = w15 at BK143 HB hx144_0 hx144_1 hx145_0 hx146_0 hx146_1 hx147_0 hHeld ⊢
           refine pa_ 0 (some 16) (bm 20 1) rfl rfl HT_.out ?_
           refine pa_ 1 (some 17) (bm 20 3) rfl rfl HT_.out ?_
           refine pa_ 3 (some 19) (bm 20 11) rfl rfl HT_.out ?_
           refine pa_ 9 (some 25) (bm 20 523) rfl rfl HT_.out ?_
           refine pa_ 10 (some 26) (bm 20 1547) rfl rfl HT_.out ?_
           refine pa_ 12 (some 28) (bm 20 5643) rfl rfl HT_.out ?_
           refine take_ (i := 2) (N := some 18) (v := ?_) (a' := ?_) (bm 20 5647) rfl rfl (take_ofW HT_.out HW_.out (by kernel_rfl)) (fun _ _ _ h => h) (Or.inl ⟨by rfl, ?_⟩) hHeld ?_ ?_
           rotate_left
           ·rintro w' ⟨s0, s1, s2, s3, s4, s5, s6, s7⟩
            go_simp
            with_reducible rfl
           rotate_left
           ·simp only [Act.put, List.setIfInBounds_toArray, List.set_cons_zero, List.set_cons_succ, i64_w, i32_w]
            rfl
           refine pa_ 4 (some 20) (bm 20 5663) rfl rfl HT_.out ?_
           refine pa_ 5 (some 21) (bm 20 5695) rfl rfl HT_.out ?_
           refine take_ (i := 6) (N := some 22) (v := ?_) (a' := ?_) (bm 20 5759) rfl rfl (take_ofW HT_.out HW_.out (by kernel_rfl)) (fun _ _ _ h => h) (Or.inl ⟨by rfl, ?_⟩) hHeld ?_ ?_
           rotate_left
           ·rintro w' ⟨s0, s1, s2, s3, s4, s5, s6, s7⟩
            go_simp
            with_reducible rfl
           rotate_left
           ·simp only [Act.put, List.setIfInBounds_toArray, List.set_cons_zero, List.set_cons_succ, i64_w, i32_w]
            rfl
           refine pa_ 7 (some 23) (bm 20 5887) rfl rfl HT_.out ?_
           refine take_ (i := 8) (N := some 24) (v := ?_) (a' := ?_) (bm 20 6143) rfl rfl (take_ofW HT_.out HW_.out (by kernel_rfl)) (fun _ _ _ h => h) (Or.inl ⟨by rfl, ?_⟩) hHeld ?_ ?_
           rotate_left
           ·rintro w' ⟨s0, s1, s2, s3, s4, s5, s6, s7⟩
            go_simp
            with_reducible rfl
           rotate_left
           ·simp only [Act.put, List.setIfInBounds_toArray, List.set_cons_zero, List.set_cons_succ, i64_w, i32_w]
            rfl
           refine take_ (i := 11) (N := some 27) (v := ?_) (a' := ?_) (bm 20 8191) rfl rfl (take_ofW HT_.out HW_.out (by kernel_rfl)) (fun _ _ _ h => h) (Or.inl ⟨by rfl, ?_⟩) hHeld ?_ ?_
           rotate_left
           ·rintro w' ⟨s0, s1, s2, s3, s4, s5, s6, s7⟩
            go_simp
            with_reducible rfl
           rotate_left
           ·simp only [Act.put, List.setIfInBounds_toArray, List.set_cons_zero, List.set_cons_succ, i64_w, i32_w]
            rfl
           refine pa_ 13 (some 29) (bm 20 16383) rfl rfl HT_.out ?_
           refine pa_ 14 (some 30) (bm 20 32767) rfl rfl HT_.out ?_
           refine take_ (i := 15) (N := some 31) (v := ?_) (a' := ?_) (bm 20 65535) rfl rfl (take_ofW HT_.out HW_.out (by kernel_rfl)) (fun _ _ _ h => h) (Or.inl ⟨by rfl, ?_⟩) hHeld ?_ ?_
           rotate_left
           ·rintro w' ⟨s0, s1, s2, s3, s4, s5, s6, s7⟩
            go_simp
            with_reducible rfl
           rotate_left
           ·simp only [Act.put, List.setIfInBounds_toArray, List.set_cons_zero, List.set_cons_succ, i64_w, i32_w]
            rfl
           refine pa_ 16 (some 32) (bm 20 131071) rfl rfl HT_.out ?_
           refine take_ (i := 17) (N := some 33) (v := ?_) (a' := ?_) (bm 20 262143) rfl rfl (take_ofW HT_.out HW_.out (by kernel_rfl)) (fun _ _ _ h => h) (Or.inl ⟨by rfl, ?_⟩) hHeld ?_ ?_
           rotate_left
           ·rintro w' ⟨s0, s1, s2, s3, s4, s5, s6, s7⟩
            go_simp
            with_reducible rfl
           rotate_left
           ·simp only [Act.put, List.setIfInBounds_toArray, List.set_cons_zero, List.set_cons_succ, i64_w, i32_w]
            rfl
           refine pa_ 18 (some 34) (bm 20 524287) rfl rfl HT_.out ?_
           refine pa_ 19 (some 8) (bm 20 1048575) rfl rfl HT_.out ?_
           refine done_ (done_of HT_.out (by kernel_rfl)) ?_
           try go_wp2
           have n0_ := Aside0.mk (blk_drew BK143.out)
           have n1_ := Aside0.mk (below_drew1 HB.out)
           clear BK143
           clear HB
           have BK143 := n0_
           have HB := n1_
           clear n0_ n1_
           have p149 : 0 ≤ (x7_1 : Int) := od_
           have q149 : x7_1 < (l1.length : Int) := od_
           obtain ⟨ad149, e149, hx149_0⟩ := Kd.at_int HR1.out x7_1 p149 q149
           have hw149_0 := hx149_0
           cases e149
           replace hx149_0 := (HB.out.cell (World.block_lt_of_cell? w _ hx149_0)).trans hx149_0
           replace p149 := eq_true p149
           replace q149 := eq_true q149
           refine start_ (n := 9) (S := fun w' => w'.cell? (ad149.add (x7_1).toNat) = some (.int .i64 (rd l1 x7_1))) (ds := []) (bm 9 0) (by kernel_rfl) rfl rfl (((HB.out.cell (World.block_lt_of_cell? w _ hw149_0)).trans hw149_0)) (fun hHeld => ?_); refine with_tabW spec_l11Fair.tab5 spec_l11Fair.bits5 (fun HT_ HW_ => ?_)
           generalize w15.drew = w16 at BK143 HB hx149_0 hHeld ⊢
           refine pa_ 0 (some 35) (bm 9 1) rfl rfl HT_.out ?_
           refine pa_ 1 (some 36) (bm 9 3) rfl rfl HT_.out ?_
           refine pa_ 2 (some 37) (bm 9 7) rfl rfl HT_.out ?_
           refine pa_ 4 (some 39) (bm 9 23) rfl rfl HT_.out ?_
           refine pa_ 5 (some 40) (bm 9 55) rfl rfl HT_.out ?_
           refine pa_ 6 (some 41) (bm 9 119) rfl rfl HT_.out ?_
           refine take_ (i := 7) (N := some 42) (v := ?_) (a' := ?_) (bm 9 247) rfl rfl (take_ofW HT_.out HW_.out (by kernel_rfl)) (fun _ _ _ h => h) (Or.inl ⟨by rfl, ?_⟩) hHeld ?_ ?_
           rotate_left
           ·intro w' s0
            go_simp
            with_reducible rfl
           rotate_left
           ·simp only [Act.put, List.setIfInBounds_toArray, List.set_cons_zero, List.set_cons_succ, i64_w, i32_w]
            rfl
           refine one_ (i := 3) (N := some 38) (bm 9 255) rfl rfl (one_of HT_.out (by kernel_rfl)) (by decide) (fun K hK => ?_)
           refine goes_ Try.func84 (by kernel_rfl) rfl #[.int .i64 (wrap64 ((rd l2 ((rd_T78 l0_1 x7_1).f0)) - (rd l2 ((rd_T78 l0_1 x7_1).f1)))), .int .i64 (wrap64 (-(wrap64 ((rd l2 ((rd_T78 l0_1 x7_1).f0)) - (rd l2 ((rd_T78 l0_1 x7_1).f1))))))] (by rfl) rfl rfl (by (try simp only [List.map_toArray, List.map_cons, List.map_nil]); first | done | rfl | (simp only [List.length_drop, List.length_take]; rfl)) ?_
           with_reducible refine (spec_l1Most.calls (wrap64 ((rd l2 ((rd_T78 l0_1 x7_1).f0)) - (rd l2 ((rd_T78 l0_1 x7_1).f1)))) (wrap64 (-(wrap64 ((rd l2 ((rd_T78 l0_1 x7_1).f0)) - (rd l2 ((rd_T78 l0_1 x7_1).f1)))))) t148 _ A11.out).mono ?_
           rintro e w' ⟨rfl, ⟨nd, rfl⟩⟩
           refine ⟨_, rfl, ?_⟩
           refine hK.out _ _ (((HB.out.cell (World.block_lt_of_cell? w _ hw149_0)).trans hw149_0)) (fun hHeld => ?_)
           clear hK K
           refine norm_ (a' := ?_) ?_ ?_
           rotate_left
           ·show Act.put _ (some 38) _ = _
            simp only [Act.put, List.setIfInBounds_toArray, List.set_cons_zero, List.set_cons_succ, i64_w, i32_w]
            rfl
           refine pa_ 8 (some 43) (bm 9 511) rfl rfl HT_.out ?_
           refine done_ (done_of HT_.out (by kernel_rfl)) ?_
           try go_wp2
           go_ret
           exact ⟨by first | rfl | (simp [errW_none, errW_some] <;> rfl) | (simp [*, errW_none, errW_some] <;> rfl), by repeat (first | (with_reducible first | exact HB.out | apply below_alloc | apply pw_below_drewN | apply below_drew1 | refine below_set ?_ GE143.out) | exact HB.out)⟩
          ·rw [if_neg c13] at H
           have c13b0 : decide ((rd l1 x7_1) < t148) = false := decide_eq_false c13
           clear c13
           have H' := Aside0.mk H
           clear H
           have hcz17_0 : wr.cell? ⟨gb143, 0, none⟩ = some (.slice A0_0 l0_0.length c0_0) := (blk_cell BK143.out 0).trans rfl
           have hcz17_1 : wr.cell? ⟨gb143, 1, none⟩ = some (.slice A0_1 l0_1.length c0_1) := (blk_cell BK143.out 1).trans rfl
           have hfz17_0 := blk_frozen BK143.out 0
           have hfz17_1 := blk_frozen BK143.out 1
           try go_wp2
           have n0_ := Aside0.mk (blk_drew BK143.out)
           have n1_ := Aside0.mk (below_drew1 HB.out)
           clear BK143
           clear HB
           have BK143 := n0_
           have HB := n1_
           clear n0_ n1_
           have p144 : 0 ≤ (x7_1 : Int) := od_
           have q144 : x7_1 < (l0_1.length : Int) := od_
           obtain ⟨ad144, e144, hx144_0, hx144_1⟩ := at_T78 HR0_1.out x7_1 p144 q144
           have hw144_1 := hx144_1
           have hw144_0 := hx144_0
           cases e144
           replace hx144_0 := (HB.out.cell (World.block_lt_of_cell? w _ hx144_0)).trans hx144_0
           replace hx144_1 := (HB.out.cell (World.block_lt_of_cell? w _ hx144_1)).trans hx144_1
           replace p144 := eq_true p144
           replace q144 := eq_true q144
           have p145 : 0 ≤ (((rd_T78 l0_1 x7_1).f0) : Int) := od_
           have q145 : ((rd_T78 l0_1 x7_1).f0) < (l2.length : Int) := od_
           obtain ⟨ad145, e145, hx145_0⟩ := Kd.at_int HR2.out ((rd_T78 l0_1 x7_1).f0) p145 q145
           have hw145_0 := hx145_0
           cases e145
           replace hx145_0 := (HB.out.cell (World.block_lt_of_cell? w _ hx145_0)).trans hx145_0
           replace p145 := eq_true p145
           replace q145 := eq_true q145
           have p146 : 0 ≤ (x7_1 : Int) := od_
           have q146 : x7_1 < (l0_1.length : Int) := od_
           obtain ⟨ad146, e146, hx146_0, hx146_1⟩ := at_T78 HR0_1.out x7_1 p146 q146
           have hw146_1 := hx146_1
           have hw146_0 := hx146_0
           obtain rfl : ad144 = ad146 := (by injection e146)
           replace hx146_0 := (HB.out.cell (World.block_lt_of_cell? w _ hx146_0)).trans hx146_0
           replace hx146_1 := (HB.out.cell (World.block_lt_of_cell? w _ hx146_1)).trans hx146_1
           replace p146 := eq_true p146
           replace q146 := eq_true q146
           have p147 : 0 ≤ (((rd_T78 l0_1 x7_1).f1) : Int) := od_
           have q147 : ((rd_T78 l0_1 x7_1).f1) < (l2.length : Int) := od_
           obtain ⟨ad147, e147, hx147_0⟩ := Kd.at_int HR2.out ((rd_T78 l0_1 x7_1).f1) p147 q147
           have hw147_0 := hx147_0
           obtain rfl : ad145 = ad147 := (by injection e147)
           replace hx147_0 := (HB.out.cell (World.block_lt_of_cell? w _ hx147_0)).trans hx147_0
           replace p147 := eq_true p147
           replace q147 := eq_true q147
           refine start_ (n := 20) (S := fun w' => w'.cell? ⟨gb143, 0, none⟩ = some (.slice A0_0 l0_0.length c0_0) ∧ w'.cell? ⟨gb143, 1, none⟩ = some (.slice (some ad144) l0_1.length c0_1) ∧ w'.cell? (ad144.add ((x7_1).toNat * 2)) = some (.int .i64 ((rd_T78 l0_1 x7_1).f0)) ∧ w'.cell? ⟨(ad144.add ((x7_1).toNat * 2)).block, (ad144.add ((x7_1).toNat * 2)).off + 1, none⟩ = some (.int .i64 ((rd_T78 l0_1 x7_1).f1)) ∧ w'.cell? (ad145.add (((rd_T78 l0_1 x7_1).f0)).toNat) = some (.int .i64 (rd l2 ((rd_T78 l0_1 x7_1).f0))) ∧ w'.cell? (ad144.add ((x7_1).toNat * 2)) = some (.int .i64 ((rd_T78 l0_1 x7_1).f0)) ∧ w'.cell? ⟨(ad144.add ((x7_1).toNat * 2)).block, (ad144.add ((x7_1).toNat * 2)).off + 1, none⟩ = some (.int .i64 ((rd_T78 l0_1 x7_1).f1)) ∧ w'.cell? (ad145.add (((rd_T78 l0_1 x7_1).f1)).toNat) = some (.int .i64 (rd l2 ((rd_T78 l0_1 x7_1).f1)))) (ds := []) (bm 20 0) (by kernel_rfl) rfl rfl ⟨(blk_cell BK143.out 0).trans rfl, (blk_cell BK143.out 1).trans rfl, ((HB.out.cell (World.block_lt_of_cell? w _ hw144_0)).trans hw144_0), ((HB.out.cell (World.block_lt_of_cell? w _ hw144_1)).trans hw144_1), ((HB.out.cell (World.block_lt_of_cell? w _ hw145_0)).trans hw145_0), ((HB.out.cell (World.block_lt_of_cell? w _ hw146_0)).trans hw146_0), ((HB.out.cell (World.block_lt_of_cell? w _ hw146_1)).trans hw146_1), ((HB.out.cell (World.block_lt_of_cell? w _ hw147_0)).trans hw147_0)⟩ (fun hHeld => ?_); refine with_tabW spec_l11Fair.tab4 spec_l11Fair.bits4 (fun HT_ HW_ => ?_)
           generalize wr.drew = w18 at BK143 HB hx144_0 hx144_1 hx145_0 hx146_0 hx146_1 hx147_0 hHeld ⊢
           refine pa_ 0 (some 16) (bm 20 1) rfl rfl HT_.out ?_
           refine pa_ 1 (some 17) (bm 20 3) rfl rfl HT_.out ?_
           refine pa_ 3 (some 19) (bm 20 11) rfl rfl HT_.out ?_
           refine pa_ 9 (some 25) (bm 20 523) rfl rfl HT_.out ?_
           refine pa_ 10 (some 26) (bm 20 1547) rfl rfl HT_.out ?_
           refine pa_ 12 (some 28) (bm 20 5643) rfl rfl HT_.out ?_
           refine take_ (i := 2) (N := some 18) (v := ?_) (a' := ?_) (bm 20 5647) rfl rfl (take_ofW HT_.out HW_.out (by kernel_rfl)) (fun _ _ _ h => h) (Or.inl ⟨by rfl, ?_⟩) hHeld ?_ ?_
           rotate_left
           ·rintro w' ⟨s0, s1, s2, s3, s4, s5, s6, s7⟩
            go_simp
            with_reducible rfl
           rotate_left
           ·simp only [Act.put, List.setIfInBounds_toArray, List.set_cons_zero, List.set_cons_succ, i64_w, i32_w]
            rfl
           refine pa_ 4 (some 20) (bm 20 5663) rfl rfl HT_.out ?_
           refine pa_ 5 (some 21) (bm 20 5695) rfl rfl HT_.out ?_
           refine take_ (i := 6) (N := some 22) (v := ?_) (a' := ?_) (bm 20 5759) rfl rfl (take_ofW HT_.out HW_.out (by kernel_rfl)) (fun _ _ _ h => h) (Or.inl ⟨by rfl, ?_⟩) hHeld ?_ ?_
           rotate_left
           ·rintro w' ⟨s0, s1, s2, s3, s4, s5, s6, s7⟩
            go_simp
            with_reducible rfl
           rotate_left
           ·simp only [Act.put, List.setIfInBounds_toArray, List.set_cons_zero, List.set_cons_succ, i64_w, i32_w]
            rfl
           refine pa_ 7 (some 23) (bm 20 5887) rfl rfl HT_.out ?_
           refine take_ (i := 8) (N := some 24) (v := ?_) (a' := ?_) (bm 20 6143) rfl rfl (take_ofW HT_.out HW_.out (by kernel_rfl)) (fun _ _ _ h => h) (Or.inl ⟨by rfl, ?_⟩) hHeld ?_ ?_
           rotate_left
           ·rintro w' ⟨s0, s1, s2, s3, s4, s5, s6, s7⟩
            go_simp
            with_reducible rfl
           rotate_left
           ·simp only [Act.put, List.setIfInBounds_toArray, List.set_cons_zero, List.set_cons_succ, i64_w, i32_w]
            rfl
           refine take_ (i := 11) (N := some 27) (v := ?_) (a' := ?_) (bm 20 8191) rfl rfl (take_ofW HT_.out HW_.out (by kernel_rfl)) (fun _ _ _ h => h) (Or.inl ⟨by rfl, ?_⟩) hHeld ?_ ?_
           rotate_left
           ·rintro w' ⟨s0, s1, s2, s3, s4, s5, s6, s7⟩
            go_simp
            with_reducible rfl
           rotate_left
           ·simp only [Act.put, List.setIfInBounds_toArray, List.set_cons_zero, List.set_cons_succ, i64_w, i32_w]
            rfl
           refine pa_ 13 (some 29) (bm 20 16383) rfl rfl HT_.out ?_
           refine pa_ 14 (some 30) (bm 20 32767) rfl rfl HT_.out ?_
           refine take_ (i := 15) (N := some 31) (v := ?_) (a' := ?_) (bm 20 65535) rfl rfl (take_ofW HT_.out HW_.out (by kernel_rfl)) (fun _ _ _ h => h) (Or.inl ⟨by rfl, ?_⟩) hHeld ?_ ?_
           rotate_left
           ·rintro w' ⟨s0, s1, s2, s3, s4, s5, s6, s7⟩
            go_simp
            with_reducible rfl
           rotate_left
           ·simp only [Act.put, List.setIfInBounds_toArray, List.set_cons_zero, List.set_cons_succ, i64_w, i32_w]
            rfl
           refine pa_ 16 (some 32) (bm 20 131071) rfl rfl HT_.out ?_
           refine take_ (i := 17) (N := some 33) (v := ?_) (a' := ?_) (bm 20 262143) rfl rfl (take_ofW HT_.out HW_.out (by kernel_rfl)) (fun _ _ _ h => h) (Or.inl ⟨by rfl, ?_⟩) hHeld ?_ ?_
           rotate_left
           ·rintro w' ⟨s0, s1, s2, s3, s4, s5, s6, s7⟩
            go_simp
            with_reducible rfl
           rotate_left
           ·simp only [Act.put, List.setIfInBounds_toArray, List.set_cons_zero, List.set_cons_succ, i64_w, i32_w]
            rfl
           refine pa_ 18 (some 34) (bm 20 524287) rfl rfl HT_.out ?_
           refine pa_ 19 (some 8) (bm 20 1048575) rfl rfl HT_.out ?_
           refine done_ (done_of HT_.out (by kernel_rfl)) ?_
           try go_wp2
           have n0_ := Aside0.mk (blk_drew BK143.out)
           have n1_ := Aside0.mk (below_drew1 HB.out)
           clear BK143
           clear HB
           have BK143 := n0_
           have HB := n1_
           clear n0_ n1_
           have p149 : 0 ≤ (x7_1 : Int) := od_
           have q149 : x7_1 < (l1.length : Int) := od_
           obtain ⟨ad149, e149, hx149_0⟩ := Kd.at_int HR1.out x7_1 p149 q149
           have hw149_0 := hx149_0
           cases e149
           replace hx149_0 := (HB.out.cell (World.block_lt_of_cell? w _ hx149_0)).trans hx149_0
           replace p149 := eq_true p149
           replace q149 := eq_true q149
           refine start_ (n := 9) (S := fun w' => w'.cell? (ad149.add (x7_1).toNat) = some (.int .i64 (rd l1 x7_1))) (ds := []) (bm 9 0) (by kernel_rfl) rfl rfl (((HB.out.cell (World.block_lt_of_cell? w _ hw149_0)).trans hw149_0)) (fun hHeld => ?_); refine with_tabW spec_l11Fair.tab5 spec_l11Fair.bits5 (fun HT_ HW_ => ?_)
           generalize w18.drew = w19 at BK143 HB hx149_0 hHeld ⊢
           refine pa_ 0 (some 35) (bm 9 1) rfl rfl HT_.out ?_
           refine pa_ 1 (some 36) (bm 9 3) rfl rfl HT_.out ?_
           refine pa_ 2 (some 37) (bm 9 7) rfl rfl HT_.out ?_
           refine pa_ 4 (some 39) (bm 9 23) rfl rfl HT_.out ?_
           refine pa_ 5 (some 40) (bm 9 55) rfl rfl HT_.out ?_
           refine pa_ 6 (some 41) (bm 9 119) rfl rfl HT_.out ?_
           refine take_ (i := 7) (N := some 42) (v := ?_) (a' := ?_) (bm 9 247) rfl rfl (take_ofW HT_.out HW_.out (by kernel_rfl)) (fun _ _ _ h => h) (Or.inl ⟨by rfl, ?_⟩) hHeld ?_ ?_
           rotate_left
           ·intro w' s0
            go_simp
            with_reducible rfl
           rotate_left
           ·simp only [Act.put, List.setIfInBounds_toArray, List.set_cons_zero, List.set_cons_succ, i64_w, i32_w]
            rfl
           refine one_ (i := 3) (N := some 38) (bm 9 255) rfl rfl (one_of HT_.out (by kernel_rfl)) (by decide) (fun K hK => ?_)
           refine goes_ Try.func84 (by kernel_rfl) rfl #[.int .i64 (wrap64 ((rd l2 ((rd_T78 l0_1 x7_1).f0)) - (rd l2 ((rd_T78 l0_1 x7_1).f1)))), .int .i64 (wrap64 (-(wrap64 ((rd l2 ((rd_T78 l0_1 x7_1).f0)) - (rd l2 ((rd_T78 l0_1 x7_1).f1))))))] (by rfl) rfl rfl (by (try simp only [List.map_toArray, List.map_cons, List.map_nil]); first | done | rfl | (simp only [List.length_drop, List.length_take]; rfl)) ?_
           with_reducible refine (spec_l1Most.calls (wrap64 ((rd l2 ((rd_T78 l0_1 x7_1).f0)) - (rd l2 ((rd_T78 l0_1 x7_1).f1)))) (wrap64 (-(wrap64 ((rd l2 ((rd_T78 l0_1 x7_1).f0)) - (rd l2 ((rd_T78 l0_1 x7_1).f1)))))) t148 _ A11.out).mono ?_
           rintro e w' ⟨rfl, ⟨nd, rfl⟩⟩
           refine ⟨_, rfl, ?_⟩
           refine hK.out _ _ (((HB.out.cell (World.block_lt_of_cell? w _ hw149_0)).trans hw149_0)) (fun hHeld => ?_)
           clear hK K
           refine norm_ (a' := ?_) ?_ ?_
           rotate_left
           ·show Act.put _ (some 38) _ = _
            simp only [Act.put, List.setIfInBounds_toArray, List.set_cons_zero, List.set_cons_succ, i64_w, i32_w]
            rfl
           refine pa_ 8 (some 43) (bm 9 511) rfl rfl HT_.out ?_
           refine done_ (done_of HT_.out (by kernel_rfl)) ?_
           try go_wp2
           go_roundg k1
           case measure => have := HK1.out; omega
           case rel => exact ⟨(wrap64 (x7_1 + 1)), (by first | rfl | (simp; done) | (simp [*]; done)), H', ⟨by have := HK1.out; omega⟩, ⟨by (with_reducible repeat (first | refine blk_drewN ?_ _ | refine blk_drew ?_ | refine blk_alloc ?_ _)); exact BK143.out⟩, ⟨by repeat (first | (with_reducible first | exact HB.out | apply below_alloc | apply pw_below_drewN | apply below_drew1 | refine below_set ?_ GE143.out) | exact HB.out)⟩⟩
         ·rw [if_neg c12] at H
          exact absurd H (by simp)
        ·rw [if_neg c10] at H
         exact absurd H (by simp)
       ·rw [if_neg c9] at H
        exact absurd H (by simp)
      ·rw [if_neg c8] at H
       exact absurd H (by simp)
     ·rw [if_neg c7] at H
      exact absurd H (by simp)
    ·rw [if_neg c6] at H
     exact absurd H (by simp)
   ·rw [if_neg c5] at H
    have c5b0 : decide (x7_1 < (l0_1.length : Int)) = false := decide_eq_false c5
    clear c5
    obtain rfl := Option.some.inj H
    have hcz20_0 : wr.cell? ⟨gb143, 0, none⟩ = some (.slice A0_0 l0_0.length c0_0) := (blk_cell BK143.out 0).trans rfl
    have hcz20_1 : wr.cell? ⟨gb143, 1, none⟩ = some (.slice A0_1 l0_1.length c0_1) := (blk_cell BK143.out 1).trans rfl
    have hfz20_0 := blk_frozen BK143.out 0
    have hfz20_1 := blk_frozen BK143.out 1
    go_wp2
    go_ret
    exact ⟨by first | rfl | (simp [errW_none, errW_some] <;> rfl) | (simp [*, errW_none, errW_some] <;> rfl), by repeat (first | (with_reducible first | exact HB.out | apply below_alloc | apply pw_below_drewN | apply below_drew1 | refine below_set ?_ GE143.out) | exact HB.out)⟩

/-! ### spec_AreFairPrices: function 39 -/
def spec_AreFairPrices.f (k : Nat) (l0_0 : List (List Int)) (l0_1 : List (S78)) (l1 : List Int) (l2 : List Int) : Option (Bool × Bool) := (spec_l11Weighted.f k l0_0 l0_1 l1).bind fun t151 => (if t151 = true then ((spec_l2Values.f k l0_0 l0_1 l2).bind fun t152 => (if t152 = true then ((spec_l11Fair.f k l0_0 l0_1 l1 l2).bind fun t153 => (some (t153, true))) else (some (false, false)))) else (some (false, false)))
set_option maxHeartbeats 8000000 in
set_option maxRecDepth 100000 in
theorem spec_AreFairPrices.calls (k : Nat) (A0_0 : Option Addr) (c0_0 : Nat) (l0_0 : List (List Int)) (A0_1 : Option Addr) (c0_1 : Nat) (l0_1 : List (S78)) (A1 : Option Addr) (c1 : Nat) (l1 : List Int) (A2 : Option Addr) (c2 : Nat) (l2 : List Int) (r1 : Bool) (r2 : Bool) (w : World) (hr0_0 : Kd.C (Kd.slice 3 (Kd.int .i64)) w A0_0 l0_0.length l0_0) (hc0_0 : l0_0.length ≤ c0_0) (hr0_1 : Kd.C k78 w A0_1 l0_1.length l0_1) (hc0_1 : l0_1.length ≤ c0_1) (hr1 : Kd.C (Kd.int .i64) w A1 l1.length l1) (hc1 : l1.length ≤ c1) (hr2 : Kd.C (Kd.int .i64) w A2 l2.length l2) (hc2 : l2.length ≤ c2) (h : spec_AreFairPrices.f k l0_0 l0_1 l1 l2 = some (r1, r2)) :
  Calls Try.prog 39 #[.agg #[.slice A0_0 l0_0.length c0_0, .slice A0_1 l0_1.length c0_1], .slice A1 l1.length c1, .slice A2 l2.length c2] w fun e w' => e = .returned (.tuple #[.bool r1, .bool r2]) ∧ Below w.heap.size w w' := by
 have hu55 := Try.underlying55
 have HR0_0 := Aside0.mk hr0_0
 have HC0_0 := Aside0.mk hc0_0
 clear hr0_0 hc0_0
 have HR0_1 := Aside0.mk hr0_1
 have HC0_1 := Aside0.mk hc0_1
 clear hr0_1 hc0_1
 have HR1 := Aside0.mk hr1
 have HC1 := Aside0.mk hc1
 clear hr1 hc1
 have HR2 := Aside0.mk hr2
 have HC2 := Aside0.mk hc2
 clear hr2 hc2
 have HB := Aside0.mk (Below.refl w.heap.size w)
 have H : ((spec_l11Weighted.f k l0_0 l0_1 l1).bind fun t151 => (if t151 = true then ((spec_l2Values.f k l0_0 l0_1 l2).bind fun t152 => (if t152 = true then ((spec_l11Fair.f k l0_0 l0_1 l1 l2).bind fun t153 => (some (t153, true))) else (some (false, false)))) else (some (false, false)))) = some (r1, r2) := h
 clear h
 replace H := Option.bind_eq_some_iff.mp H
 obtain ⟨t151, A40, H⟩ := H
 replace H : (if t151 = true then ((spec_l2Values.f k l0_0 l0_1 l2).bind fun t152 => (if t152 = true then ((spec_l11Fair.f k l0_0 l0_1 l1 l2).bind fun t153 => (some (t153, true))) else (some (false, false)))) else (some (false, false))) = some (r1, r2) := H
 have A4 := Aside0.mk A40
 clear A40
 by_cases c5 : t151 = true
 ·subst c5
  have H1 : ((spec_l2Values.f k l0_0 l0_1 l2).bind fun t152 => (if t152 = true then ((spec_l11Fair.f k l0_0 l0_1 l1 l2).bind fun t153 => (some (t153, true))) else (some (false, false)))) = some (r1, r2) := by rw [if_pos rfl] at H; exact H
  clear H
  have H := H1
  clear H1
  replace H := Option.bind_eq_some_iff.mp H
  obtain ⟨t152, A60, H⟩ := H
  replace H : (if t152 = true then ((spec_l11Fair.f k l0_0 l0_1 l1 l2).bind fun t153 => (some (t153, true))) else (some (false, false))) = some (r1, r2) := H
  have A6 := Aside0.mk A60
  clear A60
  by_cases c7 : t152 = true
  ·subst c7
   have H1 : ((spec_l11Fair.f k l0_0 l0_1 l1 l2).bind fun t153 => (some (t153, true))) = some (r1, r2) := by rw [if_pos rfl] at H; exact H
   clear H
   have H := H1
   clear H1
   replace H := Option.bind_eq_some_iff.mp H
   obtain ⟨t153, A80, H⟩ := H
   replace H : (some (t153, true)) = some (r1, r2) := H
   have A8 := Aside0.mk A80
   clear A80
   simp only [Option.some.injEq, Prod.mk.injEq] at H
   obtain ⟨rfl, rfl⟩ := H
   go_enter Try.func39, Try.ntmps39
   go_wp2_with (first | ((with_reducible refine gate_dst (N := 3) rfl ?_); refine box_event ?hg (N := 3) ?hd (cs := #[.slice A0_0 l0_0.length c0_0, .slice A0_1 l0_1.length c0_1]) (t := 55) ?hr ?_; (case hd => rfl); (case hg => rfl); (case hr => first | (go_simp; done) | (go_simp; rfl)); intro gb150 hg w9 hbox hb; have n0_ := Aside0.mk (below_step bl_ hb); have n1_ := Aside0.mk (hbox); have n2_ := Aside0.mk ((by rw [hg]; exact (below_size bl_) : w.heap.size ≤ gb150)); have n3_ := Aside0.mk ((by rw [hg]; exact (below_size bl_) : w.heap.size ≤ gb150)); clear HB; have HB := n0_; have BK150 := n1_; have GW150 := n2_; have GE150 := n3_; clear n0_ n1_ n2_ n3_; clear hb hbox hg; have hcz10_0 : w9.cell? ⟨gb150, 0, none⟩ = some (.slice A0_0 l0_0.length c0_0) := (blk_cell BK150.out 0).trans rfl; have hcz10_1 : w9.cell? ⟨gb150, 1, none⟩ = some (.slice A0_1 l0_1.length c0_1) := (blk_cell BK150.out 1).trans rfl; have hfz10_0 := blk_frozen BK150.out 0; have hfz10_1 := blk_frozen BK150.out 1) | ((with_reducible refine gate_callee (f := 74) rfl ?_); refine gL_ (some 10) Try.func74 #[.agg #[.slice A0_0 l0_0.length c0_0, .slice A0_1 l0_1.length c0_1], .slice A1 l1.length c1] ?_ rfl rfl; (with_reducible refine (spec_l11Weighted.calls k _ _ l0_0 _ _ l0_1 _ _ l1 true _ ?side1 ?side2 ?side3 ?side4 ?side5 ?side6 A4.out).mono ?_); (case side1 => exact cb_ HR0_0); (case side2 => exact HC0_0.out); (case side3 => exact cb_ HR0_1); (case side4 => exact HC0_1.out); (case side5 => exact cb_ HR1); (case side6 => exact HC1.out); rintro e w11 ⟨rfl, hb⟩; refine ⟨_, rfl, ?_⟩; have n0_ := Aside0.mk (blk_below (g := gb150) (o := .cells #[.slice A0_0 l0_0.length c0_0, .slice A0_1 l0_1.length c0_1] 55 (0, 0)) (by (with_reducible repeat (first | refine blk_drewN ?_ _ | refine blk_drew ?_ | refine blk_alloc ?_ _)); exact BK150.out) hb); have n1_ := Aside0.mk (below_step (by repeat (first | (with_reducible first | exact HB.out | apply below_alloc | apply pw_below_drewN | apply below_drew1 | refine below_set ?_ GE150.out) | exact HB.out)) hb); clear BK150; clear HB; have BK150 := n0_; have HB := n1_; clear n0_ n1_; (try clear hb); (try clear hb2); (try clear hk); (try clear hi); have hcz12_0 : w11.cell? ⟨gb150, 0, none⟩ = some (.slice A0_0 l0_0.length c0_0) := (blk_cell BK150.out 0).trans rfl; have hcz12_1 : w11.cell? ⟨gb150, 1, none⟩ = some (.slice A0_1 l0_1.length c0_1) := (blk_cell BK150.out 1).trans rfl; have hfz12_0 := blk_frozen BK150.out 0; have hfz12_1 := blk_frozen BK150.out 1) | (go_at_call 75; (with_reducible refine (spec_l2Values.calls k _ _ l0_0 _ _ l0_1 _ _ l2 true _ ?side1 ?side2 ?side3 ?side4 ?side5 ?side6 A6.out).mono ?_); (case side1 => exact cb_ HR0_0); (case side2 => exact HC0_0.out); (case side3 => exact cb_ HR0_1); (case side4 => exact HC0_1.out); (case side5 => exact cb_ HR2); (case side6 => exact HC2.out); rintro e w13 ⟨rfl, hb⟩; have n0_ := Aside0.mk (blk_below (g := gb150) (o := .cells #[.slice A0_0 l0_0.length c0_0, .slice A0_1 l0_1.length c0_1] 55 (0, 0)) (by (with_reducible repeat (first | refine blk_drewN ?_ _ | refine blk_drew ?_ | refine blk_alloc ?_ _)); exact BK150.out) hb); have n1_ := Aside0.mk (below_step (by repeat (first | (with_reducible first | exact HB.out | apply below_alloc | apply pw_below_drewN | apply below_drew1 | refine below_set ?_ GE150.out) | exact HB.out)) hb); clear BK150; clear HB; have BK150 := n0_; have HB := n1_; clear n0_ n1_; (try clear hb); (try clear hb2); (try clear hk); (try clear hi); have hcz14_0 : w13.cell? ⟨gb150, 0, none⟩ = some (.slice A0_0 l0_0.length c0_0) := (blk_cell BK150.out 0).trans rfl; have hcz14_1 : w13.cell? ⟨gb150, 1, none⟩ = some (.slice A0_1 l0_1.length c0_1) := (blk_cell BK150.out 1).trans rfl; have hfz14_0 := blk_frozen BK150.out 0; have hfz14_1 := blk_frozen BK150.out 1) | ((with_reducible refine gate_callee (f := 76) rfl ?_); refine gL_ (some 21) Try.func76 #[.agg #[.slice A0_0 l0_0.length c0_0, .slice A0_1 l0_1.length c0_1], .slice A1 l1.length c1, .slice A2 l2.length c2] ?_ rfl rfl; (with_reducible refine (spec_l11Fair.calls k _ _ l0_0 _ _ l0_1 _ _ l1 _ _ l2 t153 _ ?side1 ?side2 ?side3 ?side4 ?side5 ?side6 ?side7 ?side8 A8.out).mono ?_); (case side1 => exact cb_ HR0_0); (case side2 => exact HC0_0.out); (case side3 => exact cb_ HR0_1); (case side4 => exact HC0_1.out); (case side5 => exact cb_ HR1); (case side6 => exact HC1.out); (case side7 => exact cb_ HR2); (case side8 => exact HC2.out); rintro e w15 ⟨rfl, hb⟩; refine ⟨_, rfl, ?_⟩; have n0_ := Aside0.mk (blk_below (g := gb150) (o := .cells #[.slice A0_0 l0_0.length c0_0, .slice A0_1 l0_1.length c0_1] 55 (0, 0)) (by (with_reducible repeat (first | refine blk_drewN ?_ _ | refine blk_drew ?_ | refine blk_alloc ?_ _)); exact BK150.out) hb); have n1_ := Aside0.mk (below_step (by repeat (first | (with_reducible first | exact HB.out | apply below_alloc | apply pw_below_drewN | apply below_drew1 | refine below_set ?_ GE150.out) | exact HB.out)) hb); clear BK150; clear HB; have BK150 := n0_; have HB := n1_; clear n0_ n1_; (try clear hb); (try clear hb2); (try clear hk); (try clear hi)))
   go_ret2
   exact ⟨by first | rfl | (simp [errW_none, errW_some] <;> rfl) | (simp [*, errW_none, errW_some] <;> rfl), by repeat (first | (with_reducible first | exact HB.out | apply below_alloc | apply pw_below_drewN | apply below_drew1 | refine below_set ?_ GE150.out) | exact HB.out)⟩
  ·replace c7 := Bool.eq_false_iff.mpr c7
   subst c7
   have H1 : (some (false, false)) = some (r1, r2) := by rw [if_neg (show ¬ (false = true) by decide)] at H; exact H
   clear H
   have H := H1
   clear H1
   simp only [Option.some.injEq, Prod.mk.injEq] at H
   obtain ⟨rfl, rfl⟩ := H
   go_enter Try.func39, Try.ntmps39
   go_wp2_with (first | ((with_reducible refine gate_dst (N := 3) rfl ?_); refine box_event ?hg (N := 3) ?hd (cs := #[.slice A0_0 l0_0.length c0_0, .slice A0_1 l0_1.length c0_1]) (t := 55) ?hr ?_; (case hd => rfl); (case hg => rfl); (case hr => first | (go_simp; done) | (go_simp; rfl)); intro gb150 hg w16 hbox hb; have n0_ := Aside0.mk (below_step bl_ hb); have n1_ := Aside0.mk (hbox); have n2_ := Aside0.mk ((by rw [hg]; exact (below_size bl_) : w.heap.size ≤ gb150)); have n3_ := Aside0.mk ((by rw [hg]; exact (below_size bl_) : w.heap.size ≤ gb150)); clear HB; have HB := n0_; have BK150 := n1_; have GW150 := n2_; have GE150 := n3_; clear n0_ n1_ n2_ n3_; clear hb hbox hg; have hcz17_0 : w16.cell? ⟨gb150, 0, none⟩ = some (.slice A0_0 l0_0.length c0_0) := (blk_cell BK150.out 0).trans rfl; have hcz17_1 : w16.cell? ⟨gb150, 1, none⟩ = some (.slice A0_1 l0_1.length c0_1) := (blk_cell BK150.out 1).trans rfl; have hfz17_0 := blk_frozen BK150.out 0; have hfz17_1 := blk_frozen BK150.out 1) | ((with_reducible refine gate_callee (f := 74) rfl ?_); refine gL_ (some 10) Try.func74 #[.agg #[.slice A0_0 l0_0.length c0_0, .slice A0_1 l0_1.length c0_1], .slice A1 l1.length c1] ?_ rfl rfl; (with_reducible refine (spec_l11Weighted.calls k _ _ l0_0 _ _ l0_1 _ _ l1 true _ ?side1 ?side2 ?side3 ?side4 ?side5 ?side6 A4.out).mono ?_); (case side1 => exact cb_ HR0_0); (case side2 => exact HC0_0.out); (case side3 => exact cb_ HR0_1); (case side4 => exact HC0_1.out); (case side5 => exact cb_ HR1); (case side6 => exact HC1.out); rintro e w18 ⟨rfl, hb⟩; refine ⟨_, rfl, ?_⟩; have n0_ := Aside0.mk (blk_below (g := gb150) (o := .cells #[.slice A0_0 l0_0.length c0_0, .slice A0_1 l0_1.length c0_1] 55 (0, 0)) (by (with_reducible repeat (first | refine blk_drewN ?_ _ | refine blk_drew ?_ | refine blk_alloc ?_ _)); exact BK150.out) hb); have n1_ := Aside0.mk (below_step (by repeat (first | (with_reducible first | exact HB.out | apply below_alloc | apply pw_below_drewN | apply below_drew1 | refine below_set ?_ GE150.out) | exact HB.out)) hb); clear BK150; clear HB; have BK150 := n0_; have HB := n1_; clear n0_ n1_; (try clear hb); (try clear hb2); (try clear hk); (try clear hi); have hcz19_0 : w18.cell? ⟨gb150, 0, none⟩ = some (.slice A0_0 l0_0.length c0_0) := (blk_cell BK150.out 0).trans rfl; have hcz19_1 : w18.cell? ⟨gb150, 1, none⟩ = some (.slice A0_1 l0_1.length c0_1) := (blk_cell BK150.out 1).trans rfl; have hfz19_0 := blk_frozen BK150.out 0; have hfz19_1 := blk_frozen BK150.out 1) | (go_at_call 75; (with_reducible refine (spec_l2Values.calls k _ _ l0_0 _ _ l0_1 _ _ l2 false _ ?side1 ?side2 ?side3 ?side4 ?side5 ?side6 A6.out).mono ?_); (case side1 => exact cb_ HR0_0); (case side2 => exact HC0_0.out); (case side3 => exact cb_ HR0_1); (case side4 => exact HC0_1.out); (case side5 => exact cb_ HR2); (case side6 => exact HC2.out); rintro e w20 ⟨rfl, hb⟩; have n0_ := Aside0.mk (blk_below (g := gb150) (o := .cells #[.slice A0_0 l0_0.length c0_0, .slice A0_1 l0_1.length c0_1] 55 (0, 0)) (by (with_reducible repeat (first | refine blk_drewN ?_ _ | refine blk_drew ?_ | refine blk_alloc ?_ _)); exact BK150.out) hb); have n1_ := Aside0.mk (below_step (by repeat (first | (with_reducible first | exact HB.out | apply below_alloc | apply pw_below_drewN | apply below_drew1 | refine below_set ?_ GE150.out) | exact HB.out)) hb); clear BK150; clear HB; have BK150 := n0_; have HB := n1_; clear n0_ n1_; (try clear hb); (try clear hb2); (try clear hk); (try clear hi)))
   go_ret2
   exact ⟨by first | rfl | (simp [errW_none, errW_some] <;> rfl) | (simp [*, errW_none, errW_some] <;> rfl), by repeat (first | (with_reducible first | exact HB.out | apply below_alloc | apply pw_below_drewN | apply below_drew1 | refine below_set ?_ GE150.out) | exact HB.out)⟩
 ·replace c5 := Bool.eq_false_iff.mpr c5
  subst c5
  have H1 : (some (false, false)) = some (r1, r2) := by rw [if_neg (show ¬ (false = true) by decide)] at H; exact H
  clear H
  have H := H1
  clear H1
  simp only [Option.some.injEq, Prod.mk.injEq] at H
  obtain ⟨rfl, rfl⟩ := H
  go_enter Try.func39, Try.ntmps39
  go_wp2_with (first | ((with_reducible refine gate_dst (N := 3) rfl ?_); refine box_event ?hg (N := 3) ?hd (cs := #[.slice A0_0 l0_0.length c0_0, .slice A0_1 l0_1.length c0_1]) (t := 55) ?hr ?_; (case hd => rfl); (case hg => rfl); (case hr => first | (go_simp; done) | (go_simp; rfl)); intro gb150 hg w21 hbox hb; have n0_ := Aside0.mk (below_step bl_ hb); have n1_ := Aside0.mk (hbox); have n2_ := Aside0.mk ((by rw [hg]; exact (below_size bl_) : w.heap.size ≤ gb150)); have n3_ := Aside0.mk ((by rw [hg]; exact (below_size bl_) : w.heap.size ≤ gb150)); clear HB; have HB := n0_; have BK150 := n1_; have GW150 := n2_; have GE150 := n3_; clear n0_ n1_ n2_ n3_; clear hb hbox hg; have hcz22_0 : w21.cell? ⟨gb150, 0, none⟩ = some (.slice A0_0 l0_0.length c0_0) := (blk_cell BK150.out 0).trans rfl; have hcz22_1 : w21.cell? ⟨gb150, 1, none⟩ = some (.slice A0_1 l0_1.length c0_1) := (blk_cell BK150.out 1).trans rfl; have hfz22_0 := blk_frozen BK150.out 0; have hfz22_1 := blk_frozen BK150.out 1) | ((with_reducible refine gate_callee (f := 74) rfl ?_); refine gL_ (some 10) Try.func74 #[.agg #[.slice A0_0 l0_0.length c0_0, .slice A0_1 l0_1.length c0_1], .slice A1 l1.length c1] ?_ rfl rfl; (with_reducible refine (spec_l11Weighted.calls k _ _ l0_0 _ _ l0_1 _ _ l1 false _ ?side1 ?side2 ?side3 ?side4 ?side5 ?side6 A4.out).mono ?_); (case side1 => exact cb_ HR0_0); (case side2 => exact HC0_0.out); (case side3 => exact cb_ HR0_1); (case side4 => exact HC0_1.out); (case side5 => exact cb_ HR1); (case side6 => exact HC1.out); rintro e w23 ⟨rfl, hb⟩; refine ⟨_, rfl, ?_⟩; have n0_ := Aside0.mk (blk_below (g := gb150) (o := .cells #[.slice A0_0 l0_0.length c0_0, .slice A0_1 l0_1.length c0_1] 55 (0, 0)) (by (with_reducible repeat (first | refine blk_drewN ?_ _ | refine blk_drew ?_ | refine blk_alloc ?_ _)); exact BK150.out) hb); have n1_ := Aside0.mk (below_step (by repeat (first | (with_reducible first | exact HB.out | apply below_alloc | apply pw_below_drewN | apply below_drew1 | refine below_set ?_ GE150.out) | exact HB.out)) hb); clear BK150; clear HB; have BK150 := n0_; have HB := n1_; clear n0_ n1_; (try clear hb); (try clear hb2); (try clear hk); (try clear hi)))
  go_ret2
  exact ⟨by first | rfl | (simp [errW_none, errW_some] <;> rfl) | (simp [*, errW_none, errW_some] <;> rfl), by repeat (first | (with_reducible first | exact HB.out | apply below_alloc | apply pw_below_drewN | apply below_drew1 | refine below_set ?_ GE150.out) | exact HB.out)⟩

end Go.Proofs.Ytiiaadgibkpaaaa.PFnExactAreFairPrices
