-- written by wip/tools of this repo out of the translation (a turned copy of the kit's print): checked by Lean alone
import Derived.Test.YtiiaadgibkpaaaaPFnExactIsCostProofx0
import Derived.Test.YtiiaadgibkpaaaaPFnExactIsCostProofx1
import Derived.Test.YtiiaadgibkpaaaaPFnExactIsCostProofx5
namespace Go.Proofs.Ytiiaadgibkpaaaa.PFnExactIsCostProof
open Go.RowKit Go.Proofs.YtiiaadgibkpaaaaW.PrintWords Go.Proofs.YtiiaadgibkpaaaaW.PrintLast Go.Proofs.YtiiaadgibkpaaaaW.PrintMore
attribute [local go_sem] max2_int min2_int max_two min_two max_three min_three max_four min_four   -- for this text's walks alone
set_option linter.unusedVariables false
set_option linter.unusedSimpArgs false

attribute [local go_sem high] eqA78
/-! ### spec_l11Fair: function 76 -/
def spec_l11Fair.l0 : Nat → List Int → List Int → Int → List (List Int) → List (S78) → Option (Bool)
 | 0, _, _, _, _, _ => none
 | k + 1, x1, x2, x7, x183000, x183001 => if x7 < (x183001.length : Int) then (if 0 ≤ x7 then (if 0 ≤ ((rd_T78 x183001 x7).f0) then (if ((rd_T78 x183001 x7).f0) < (x2.length : Int) then (if 0 ≤ ((rd_T78 x183001 x7).f1) then (if ((rd_T78 x183001 x7).f1) < (x2.length : Int) then ((spec_l1Most.f (wrap64 ((rd x2 ((rd_T78 x183001 x7).f0)) - (rd x2 ((rd_T78 x183001 x7).f1)))) (wrap64 (-(wrap64 ((rd x2 ((rd_T78 x183001 x7).f0)) - (rd x2 ((rd_T78 x183001 x7).f1))))))).bind fun t187 => (if x7 < (x1.length : Int) then (if t187 > (rd x1 x7) then (some false) else (spec_l11Fair.l0 k x1 x2 (wrap64 (x7 + 1)) x183000 x183001)) else (none))) else (none)) else (none)) else (none)) else (none)) else (none)) else (some true)
def spec_l11Fair.f (k : Nat) (l0_0 : List (List Int)) (l0_1 : List (S78)) (l1 : List Int) (l2 : List Int) : Option (Bool) := spec_l11Fair.l0 k l1 l2 0 l0_0 l0_1
def spec_l11Fair.T4 : Bool × List (List Nat × List Nat) := (true, [([], []), ([], []), ([1], [1]), ([], []), ([2, 3], [2, 3]), ([4], [4]), ([5], [5]), ([0, 6], [0, 6]), ([7], [7]), ([], []), ([], []), ([10], [10]), ([], []), ([11, 12], [11, 12]), ([13], [13]), ([14], [14]), ([9, 15], [9, 15]), ([16], [16]), ([8, 17], [8, 17]), ([18, 0, 1, 2, 3, 4, 5, 6, 7, 8, 9, 10, 11, 12, 13, 14, 15, 16, 17, 18], [18])])
def spec_l11Fair.B4 : List Nat := [0, 0, 2, 0, 14, 30, 62, 127, 255, 0, 0, 1024, 0, 7168, 15360, 31744, 65024, 130560, 262143, 524287]
theorem spec_l11Fair.tab4 : rtab .any (opsOf Try.f76 4) = spec_l11Fair.T4 := by kernel_rfl
theorem spec_l11Fair.bits4 : waitsOk spec_l11Fair.T4.2 spec_l11Fair.B4 = true := by kernel_rfl
def spec_l11Fair.T5 : Bool × List (List Nat × List Nat) := (true, [([], []), ([], []), ([1], [1]), ([0, 2], [0, 2]), ([], []), ([], []), ([4, 5], [4, 5]), ([6], [6]), ([3, 7], [3, 7])])
def spec_l11Fair.B5 : List Nat := [0, 0, 2, 7, 0, 0, 48, 112, 255]
theorem spec_l11Fair.tab5 : rtab .any (opsOf Try.f76 5) = spec_l11Fair.T5 := by kernel_rfl
theorem spec_l11Fair.bits5 : waitsOk spec_l11Fair.T5.2 spec_l11Fair.B5 = true := by kernel_rfl
set_option maxHeartbeats 8000000 in
set_option maxRecDepth 100000 in
theorem spec_l11Fair.calls (k : Nat) (A0_0 : Option Addr) (c0_0 : Nat) (l0_0 : List (List Int)) (A0_1 : Option Addr) (c0_1 : Nat) (l0_1 : List (S78)) (A1 : Option Addr) (c1 : Nat) (l1 : List Int) (A2 : Option Addr) (c2 : Nat) (l2 : List Int) (r : Bool) (w : World) (hr0_0 : Kd.C (Kd.slice 3 (Kd.int .i64)) w A0_0 l0_0.length l0_0) (hc0_0 : l0_0.length ≤ c0_0) (hr0_1 : Kd.C k78 w A0_1 l0_1.length l0_1) (hc0_1 : l0_1.length ≤ c0_1) (hr1 : Kd.C (Kd.int .i64) w A1 l1.length l1) (hc1 : l1.length ≤ c1) (hr2 : Kd.C (Kd.int .i64) w A2 l2.length l2) (hc2 : l2.length ≤ c2) (h : spec_l11Fair.f k l0_0 l0_1 l1 l2 = some r) :
  Calls Try.prog 76 #[.agg #[.slice A0_0 l0_0.length c0_0, .slice A0_1 l0_1.length c0_1], .slice A1 l1.length c1, .slice A2 l2.length c2] w fun e w' => e = .returned (.bool r) ∧ Below w.heap.size w w' := by
 have hu55 := Try.underlying55
 have HR0_0 := Aside0.mk hr0_0
 have HC0_0 := Aside0.mk hc0_0
 clear hr0_0 hc0_0
 have HR0_1 := Aside0.mk hr0_1
 have HC0_1 := Aside0.mk hc0_1
 clear hr0_1 hc0_1
 have HR1 := Aside0.mk hr1
 have HC1 := Aside0.mk hc1
 clear hr1 hc1
 have HR2 := Aside0.mk hr2
 have HC2 := Aside0.mk hc2
 clear hr2 hc2
 have HB := Aside0.mk (Below.refl w.heap.size w)
 have H : (spec_l11Fair.l0 k l1 l2 0 l0_0 l0_1) = some r := h
 clear h
 have H' := Aside0.mk H
 clear H
 go_enter Try.func76, Try.ntmps76
 go_wp2_with (first | ((with_reducible refine gate_dst (N := 3) rfl ?_); refine box_event ?hg (N := 3) ?hd (cs := #[.slice A0_0 l0_0.length c0_0, .slice A0_1 l0_1.length c0_1]) (t := 55) ?hr ?_; (case hd => rfl); (case hg => rfl); (case hr => first | (go_simp; done) | (go_simp; rfl)); intro gb182 hg w4 hbox hb; have n0_ := Aside0.mk (below_step bl_ hb); have n1_ := Aside0.mk (hbox); have n2_ := Aside0.mk ((by rw [hg]; exact (below_size bl_) : w.heap.size ≤ gb182)); have n3_ := Aside0.mk ((by rw [hg]; exact (below_size bl_) : w.heap.size ≤ gb182)); clear HB; have HB := n0_; have BK182 := n1_; have GW182 := n2_; have GE182 := n3_; clear n0_ n1_ n2_ n3_; clear hb hbox hg))
 go_loopg [7] k (fun kq v7 w' => ∃ (x7_1 : Int), v7 = .int .i64 x7_1 ∧ Aside0 (spec_l11Fair.l0 kq l1 l2 x7_1 l0_0 l0_1 = some r) ∧ Aside0 (kq ≤ k) ∧ Aside0 (w'.heap[gb182]? = some (.cells #[(.slice A0_0 l0_0.length c0_0), (.slice A0_1 l0_1.length c0_1)] 55 (0, 0))) ∧ Aside0 (Below w.heap.size w w'))
 case atStart => exact ⟨(0), (by first | rfl | (simp; done) | (simp [*]; done)), H', ⟨Nat.le_refl _⟩, ⟨by (with_reducible repeat (first | refine blk_drewN ?_ _ | refine blk_drew ?_ | refine blk_alloc ?_ _)); exact BK182.out⟩, ⟨by repeat (first | (with_reducible first | exact HB.out | apply below_alloc | apply pw_below_drewN | apply below_drew1 | refine below_set ?_ GE182.out) | exact HB.out)⟩⟩
 case round =>
  clear H'
  try clear c1
  try clear c2
  try clear p2
  obtain ⟨x7_1, rfl, HA, HK1, BK182, HB⟩ := hrel
  cases gk with
  | zero => exact absurd HA.out (by simp [spec_l11Fair.l0])
  | succ k1 =>
   have H := HA.out
   clear HA
   simp only [spec_l11Fair.l0] at H
   by_cases c5 : x7_1 < (l0_1.length : Int)
   ·rw [if_pos c5] at H
    have c5b0 : decide (x7_1 < (l0_1.length : Int)) = true := decide_eq_true c5
    clear c5
    by_cases c6 : 0 ≤ x7_1
    ·rw [if_pos c6] at H
     have c6b0 : decide (0 ≤ x7_1) = true := decide_eq_true c6
     clear c6
     by_cases c7 : 0 ≤ ((rd_T78 l0_1 x7_1).f0)
     ·rw [if_pos c7] at H
      have c7b0 : decide (0 ≤ ((rd_T78 l0_1 x7_1).f0)) = true := decide_eq_true c7
      clear c7
      by_cases c8 : ((rd_T78 l0_1 x7_1).f0) < (l2.length : Int)
      ·rw [if_pos c8] at H
       have c8b0 : decide (((rd_T78 l0_1 x7_1).f0) < (l2.length : Int)) = true := decide_eq_true c8
       clear c8
       by_cases c9 : 0 ≤ ((rd_T78 l0_1 x7_1).f1)
       ·rw [if_pos c9] at H
        have c9b0 : decide (0 ≤ ((rd_T78 l0_1 x7_1).f1)) = true := decide_eq_true c9
        clear c9
        by_cases c10 : ((rd_T78 l0_1 x7_1).f1) < (l2.length : Int)
        ·rw [if_pos c10] at H
         have c10b0 : decide (((rd_T78 l0_1 x7_1).f1) < (l2.length : Int)) = true := decide_eq_true c10
         clear c10
         replace H := Option.bind_eq_some_iff.mp H
         obtain ⟨t187, A110, H⟩ := H
         replace H : (if x7_1 < (l1.length : Int) then (if t187 > (rd l1 x7_1) then (some false) else (spec_l11Fair.l0 k1 l1 l2 (wrap64 (x7_1 + 1)) l0_0 l0_1)) else (none)) = some r := H
         have A11 := Aside0.mk A110
         clear A110
         by_cases c12 : x7_1 < (l1.length : Int)
         ·rw [if_pos c12] at H
          have c12b0 : decide (x7_1 < (l1.length : Int)) = true := decide_eq_true c12
          clear c12
          by_cases c13 : t187 > (rd l1 x7_1)
          ·rw [if_pos c13] at H
           have c13b0 : decide ((rd l1 x7_1) < t187) = true := decide_eq_true c13
           clear c13
           obtain rfl := Option.some.inj H
           have hcz14_0 : wr.cell? ⟨gb182, 0, none⟩ = some (.slice A0_0 l0_0.length c0_0) := (blk_cell BK182.out 0).trans rfl
           have hcz14_1 : wr.cell? ⟨gb182, 1, none⟩ = some (.slice A0_1 l0_1.length c0_1) := (blk_cell BK182.out 1).trans rfl
           have hfz14_0 := blk_frozen BK182.out 0
           have hfz14_1 := blk_frozen BK182.out 1
           try go_wp2
           have n0_ := Aside0.mk (blk_drew BK182.out)
           have n1_ := Aside0.mk (below_drew1 HB.out)
           clear BK182
           clear HB
           have BK182 := n0_
           have HB := n1_
           clear n0_ n1_
           have p183 : 0 ≤ (x7_1 : Int) := od_
           have q183 : x7_1 < (l0_1.length : Int) := od_
           obtain ⟨ad183, e183, hx183_0, hx183_1⟩ := at_T78 HR0_1.out x7_1 p183 q183
           have hw183_1 := hx183_1
           have hw183_0 := hx183_0
           cases e183
           replace hx183_0 := (HB.out.cell (World.block_lt_of_cell? w _ hx183_0)).trans hx183_0
           replace hx183_1 := (HB.out.cell (World.block_lt_of_cell? w _ hx183_1)).trans hx183_1
           replace p183 := eq_true p183
           replace q183 := eq_true q183
           have p184 : 0 ≤ (((rd_T78 l0_1 x7_1).f0) : Int) := od_
           have q184 : ((rd_T78 l0_1 x7_1).f0) < (l2.length : Int) := od_
           obtain ⟨ad184, e184, hx184_0⟩ := Kd.at_int HR2.out ((rd_T78 l0_1 x7_1).f0) p184 q184
           have hw184_0 := hx184_0
           cases e184
           replace hx184_0 := (HB.out.cell (World.block_lt_of_cell? w _ hx184_0)).trans hx184_0
           replace p184 := eq_true p184
           replace q184 := eq_true q184
           have p185 : 0 ≤ (x7_1 : Int) := od_
           have q185 : x7_1 < (l0_1.length : Int) := od_
           obtain ⟨ad185, e185, hx185_0, hx185_1⟩ := at_T78 HR0_1.out x7_1 p185 q185
           have hw185_1 := hx185_1
           have hw185_0 := hx185_0
           obtain rfl : ad183 = ad185 := (by injection e185)
           replace hx185_0 := (HB.out.cell (World.block_lt_of_cell? w _ hx185_0)).trans hx185_0
           replace hx185_1 := (HB.out.cell (World.block_lt_of_cell? w _ hx185_1)).trans hx185_1
           replace p185 := eq_true p185
           replace q185 := eq_true q185
           have p186 : 0 ≤ (((rd_T78 l0_1 x7_1).f1) : Int) := od_
           have q186 : ((rd_T78 l0_1 x7_1).f1) < (l2.length : Int) := od_
           obtain ⟨ad186, e186, hx186_0⟩ := Kd.at_int HR2.out ((rd_T78 l0_1 x7_1).f1) p186 q186
           have hw186_0 := hx186_0
           obtain rfl : ad184 = ad186 := (by injection e186)
           replace hx186_0 := (HB.out.cell (World.block_lt_of_cell? w _ hx186_0)).trans hx186_0
           replace p186 := eq_true p186
           replace q186 := eq_true q186
           refine start_ (n := 20) (S := fun w' => w'.cell? ⟨gb182, 0, none⟩ = some (.slice A0_0 l0_0.length c0_0) ∧ w'.cell? ⟨gb182, 1, none⟩ = some (.slice (some ad183) l0_1.length c0_1) ∧ w'.cell? (ad183.add ((x7_1).toNat * 2)) = some (.int .i64 ((rd_T78 l0_1 x7_1).f0)) ∧ w'.cell? ⟨(ad183.add ((x7_1).toNat * 2)).block, (ad183.add ((x7_1).toNat * 2)).off + 1, none⟩ = some (.int .i64 ((rd_T78 l0_1 x7_1).f1)) ∧ w'.cell? (ad184.add (((rd_T78 l0_1 x7_1).f0)).toNat) = some (.int .i64 (rd l2 ((rd_T78 l0_1 x7_1).f0))) ∧ w'.cell? (ad183.add ((x7_1).toNat * 2)) = some (.int .i64 ((rd_T78 l0_1 x7_1).f0)) ∧ w'.cell? ⟨(ad183.add ((x7_1).toNat * 2)).block, (ad183.add ((x7_1).toNat * 2)).off + 1, none⟩ = some (.int .i64 ((rd_T78 l0_1 x7_1).f1)) ∧ w'.cell? (ad184.add (((rd_T78 l0_1 x7_1).f1)).toNat) = some (.int .i64 (rd l2 ((rd_T78 l0_1 x7_1).f1)))) (ds := []) (bm 20 0) (by kernel_rfl) rfl rfl ⟨(blk_cell BK182.out 0).trans rfl, (blk_cell BK182.out 1).trans rfl, ((HB.out.cell (World.block_lt_of_cell? w _ hw183_0)).trans hw183_0), ((HB.out.cell (World.block_lt_of_cell? w _ hw183_1)).trans hw183_1), ((HB.out.cell (World.block_lt_of_cell? w _ hw184_0)).trans hw184_0), ((HB.out.cell (World.block_lt_of_cell? w _ hw185_0)).trans hw185_0), ((HB.out.cell (World.block_lt_of_cell? w _ hw185_1)).trans hw185_1), ((HB.out.cell (World.block_lt_of_cell? w _ hw186_0)).trans hw186_0)⟩ (fun hHeld => ?_); refine with_tabW spec_l11Fair.tab4 spec_l11Fair.bits4 (fun HT_ HW_ => ?_)
           generalize wr.drew = w15 at BK182 HB hx183_0 hx183_1 hx184_0 hx185_0 hx185_1 hx186_0 hHeld ⊢
           refine pa_ 0 (some 16) (bm 20 1) rfl rfl HT_.out ?_
           refine pa_ 1 (some 17) (bm 20 3) rfl rfl HT_.out ?_
           refine pa_ 3 (some 19) (bm 20 11) rfl rfl HT_.out ?_
           refine pa_ 9 (some 25) (bm 20 523) rfl rfl HT_.out ?_
           refine pa_ 10 (some 26) (bm 20 1547) rfl rfl HT_.out ?_
           refine pa_ 12 (some 28) (bm 20 5643) rfl rfl HT_.out ?_
           refine take_ (i := 2) (N := some 18) (v := ?_) (a' := ?_) (bm 20 5647) rfl rfl (take_ofW HT_.out HW_.out (by kernel_rfl)) (fun _ _ _ h => h) (Or.inl ⟨by rfl, ?_⟩) hHeld ?_ ?_
           rotate_left
           ·rintro w' ⟨s0, s1, s2, s3, s4, s5, s6, s7⟩
            go_simp
            with_reducible rfl
           rotate_left
           ·simp only [Act.put, List.setIfInBounds_toArray, List.set_cons_zero, List.set_cons_succ, i64_w, i32_w]
            rfl
           refine pa_ 4 (some 20) (bm 20 5663) rfl rfl HT_.out ?_
           refine pa_ 5 (some 21) (bm 20 5695) rfl rfl HT_.out ?_
           refine take_ (i := 6) (N := some 22) (v := ?_) (a' := ?_) (bm 20 5759) rfl rfl (take_ofW HT_.out HW_.out (by kernel_rfl)) (fun _ _ _ h => h) (Or.inl ⟨by rfl, ?_⟩) hHeld ?_ ?_
           rotate_left
           ·rintro w' ⟨s0, s1, s2, s3, s4, s5, s6, s7⟩
            go_simp
            with_reducible rfl
           rotate_left
           ·simp only [Act.put, List.setIfInBounds_toArray, List.set_cons_zero, List.set_cons_succ, i64_w, i32_w]
            rfl
           refine pa_ 7 (some 23) (bm 20 5887) rfl rfl HT_.out ?_
           refine take_ (i := 8) (N := some 24) (v := ?_) (a' := ?_) (bm 20 6143) rfl rfl (take_ofW HT_.out HW_.out (by kernel_rfl)) (fun _ _ _ h => h) (Or.inl ⟨by rfl, ?_⟩) hHeld ?_ ?_
           rotate_left
           ·rintro w' ⟨s0, s1, s2, s3, s4, s5, s6, s7⟩
            go_simp
            with_reducible rfl
           rotate_left
           ·simp only [Act.put, List.setIfInBounds_toArray, List.set_cons_zero, List.set_cons_succ, i64_w, i32_w]
            rfl
           refine take_ (i := 11) (N := some 27) (v := ?_) (a' := ?_) (bm 20 8191) rfl rfl (take_ofW HT_.out HW_.out (by kernel_rfl)) (fun _ _ _ h => h) (Or.inl ⟨by rfl, ?_⟩) hHeld ?_ ?_
           rotate_left
           ·rintro w' ⟨s0, s1, s2, s3, s4, s5, s6, s7⟩
            go_simp
            with_reducible rfl
           rotate_left
           ·simp only [Act.put, List.setIfInBounds_toArray, List.set_cons_zero, List.set_cons_succ, i64_w, i32_w]
            rfl
           refine pa_ 13 (some 29) (bm 20 16383) rfl rfl HT_.out ?_
           refine pa_ 14 (some 30) (bm 20 32767) rfl rfl HT_.out ?_
           refine take_ (i := 15) (N := some 31) (v := ?_) (a' := ?_) (bm 20 65535) rfl rfl (take_ofW HT_.out HW_.out (by kernel_rfl)) (fun _ _ _ h => h) (Or.inl ⟨by rfl, ?_⟩) hHeld ?_ ?_
           rotate_left
           ·rintro w' ⟨s0, s1, s2, s3, s4, s5, s6, s7⟩
            go_simp
            with_reducible rfl
           rotate_left
           ·simp only [Act.put, List.setIfInBounds_toArray, List.set_cons_zero, List.set_cons_succ, i64_w, i32_w]
            rfl
           refine pa_ 16 (some 32) (bm 20 131071) rfl rfl HT_.out ?_
           refine take_ (i := 17) (N := some 33) (v := ?_) (a' := ?_) (bm 20 262143) rfl rfl (take_ofW HT_.out HW_.out (by kernel_rfl)) (fun _ _ _ h => h) (Or.inl ⟨by rfl, ?_⟩) hHeld ?_ ?_
           rotate_left
           ·rintro w' ⟨s0, s1, s2, s3, s4, s5, s6, s7⟩
            go_simp
            with_reducible rfl
           rotate_left
           ·simp only [Act.put, List.setIfInBounds_toArray, List.set_cons_zero, List.set_cons_succ, i64_w, i32_w]
            rfl
           refine pa_ 18 (some 34) (bm 20 524287) rfl rfl HT_.out ?_
           refine pa_ 19 (some 8) (bm 20 1048575) rfl rfl HT_.out ?_
           refine done_ (done_of HT_.out (by kernel_rfl)) ?_
           try go_wp2
           have n0_ := Aside0.mk (blk_drew BK182.out)
           have n1_ := Aside0.mk (below_drew1 HB.out)
           clear BK182
           clear HB
           have BK182 := n0_
           have HB := n1_
           clear n0_ n1_
           have p188 : 0 ≤ (x7_1 : Int) := od_
           have q188 : x7_1 < (l1.length : Int) := od_
           obtain ⟨ad188, e188, hx188_0⟩ := Kd.at_int HR1.out x7_1 p188 q188
           have hw188_0 := hx188_0
           cases e188
           replace hx188_0 := (HB.out.cell (World.block_lt_of_cell? w _ hx188_0)).trans hx188_0
           replace p188 := eq_true p188
           replace q188 := eq_true q188
           refine start_ (n := 9) (S := fun w' => w'.cell? (ad188.add (x7_1).toNat) = some (.int .i64 (rd l1 x7_1))) (ds := []) (bm 9 0) (by kernel_rfl) rfl rfl (((HB.out.cell (World.block_lt_of_cell? w _ hw188_0)).trans hw188_0)) (fun hHeld => ?_); refine with_tabW spec_l11Fair.tab5 spec_l11Fair.bits5 (fun HT_ HW_ => ?_)
           generalize w15.drew = w16 at BK182 HB hx188_0 hHeld ⊢
           refine pa_ 0 (some 35) (bm 9 1) rfl rfl HT_.out ?_
           refine pa_ 1 (some 36) (bm 9 3) rfl rfl HT_.out ?_
           refine pa_ 2 (some 37) (bm 9 7) rfl rfl HT_.out ?_
           refine pa_ 4 (some 39) (bm 9 23) rfl rfl HT_.out ?_
           refine pa_ 5 (some 40) (bm 9 55) rfl rfl HT_.out ?_
           refine pa_ 6 (some 41) (bm 9 119) rfl rfl HT_.out ?_
           refine take_ (i := 7) (N := some 42) (v := ?_) (a' := ?_) (bm 9 247) rfl rfl (take_ofW HT_.out HW_.out (by kernel_rfl)) (fun _ _ _ h => h) (Or.inl ⟨by rfl, ?_⟩) hHeld ?_ ?_
           rotate_left
           ·intro w' s0
            go_simp
            with_reducible rfl
           rotate_left
           ·simp only [Act.put, List.setIfInBounds_toArray, List.set_cons_zero, List.set_cons_succ, i64_w, i32_w]
            rfl
           refine one_ (i := 3) (N := some 38) (bm 9 255) rfl rfl (one_of HT_.out (by kernel_rfl)) (by decide) (fun K hK => ?_)
           refine goes_ Try.func84 (by kernel_rfl) rfl #[.int .i64 (wrap64 ((rd l2 ((rd_T78 l0_1 x7_1).f0)) - (rd l2 ((rd_T78 l0_1 x7_1).f1)))), .int .i64 (wrap64 (-(wrap64 ((rd l2 ((rd_T78 l0_1 x7_1).f0)) - (rd l2 ((rd_T78 l0_1 x7_1).f1))))))] (by rfl) rfl rfl (by (try simp only [List.map_toArray, List.map_cons, List.map_nil]); first | done | rfl | (simp only [List.length_drop, List.length_take]; rfl)) ?_
           with_reducible refine (spec_l1Most.calls (wrap64 ((rd l2 ((rd_T78 l0_1 x7_1).f0)) - (rd l2 ((rd_T78 l0_1 x7_1).f1)))) (wrap64 (-(wrap64 ((rd l2 ((rd_T78 l0_1 x7_1).f0)) - (rd l2 ((rd_T78 l0_1 x7_1).f1)))))) t187 _ A11.out).mono ?_
           rintro e w' ⟨rfl, ⟨nd, rfl⟩⟩
           refine ⟨_, rfl, ?_⟩
           refine hK.out _ _ (((HB.out.cell (World.block_lt_of_cell? w _ hw188_0)).trans hw188_0)) (fun hHeld => ?_)
           clear hK K
           refine norm_ (a' := ?_) ?_ ?_
           rotate_left
           ·show Act.put _ (some 38) _ = _
            simp only [Act.put, List.setIfInBounds_toArray, List.set_cons_zero, List.set_cons_succ, i64_w, i32_w]
            rfl
           refine pa_ 8 (some 43) (bm 9 511) rfl rfl HT_.out ?_
           refine done_ (done_of HT_.out (by kernel_rfl)) ?_
           try go_wp2
           go_ret
           exact ⟨by first | rfl | (simp [errW_none, errW_some] <;> rfl) | (simp [*, errW_none, errW_some] <;> rfl), by repeat (first | (with_reducible first | exact HB.out | apply below_alloc | apply pw_below_drewN | apply below_drew1 | refine below_set ?_ GE182.out) | exact HB.out)⟩
          ·rw [if_neg c13] at H
           have c13b0 : decide ((rd l1 x7_1) < t187) = false := decide_eq_false c13
           clear c13
           have H' := Aside0.mk H
           clear H
           have hcz17_0 : wr.cell? ⟨gb182, 0, none⟩ = some (.slice A0_0 l0_0.length c0_0) := (blk_cell BK182.out 0).trans rfl
           have hcz17_1 : wr.cell? ⟨gb182, 1, none⟩ = some (.slice A0_1 l0_1.length c0_1) := (blk_cell BK182.out 1).trans rfl
           have hfz17_0 := blk_frozen BK182.out 0
           have hfz17_1 := blk_frozen BK182.out 1
           try go_wp2
           have n0_ := Aside0.mk (blk_drew BK182.out)
           have n1_ := Aside0.mk (below_drew1 HB.out)
           clear BK182
           clear HB
           have BK182 := n0_
           have HB := n1_
           clear n0_ n1_
           have p183 : 0 ≤ (x7_1 : Int) := od_
           have q183 : x7_1 < (l0_1.length : Int) := od_
           obtain ⟨ad183, e183, hx183_0, hx183_1⟩ := at_T78 HR0_1.out x7_1 p183 q183
           have hw183_1 := hx183_1
           have hw183_0 := hx183_0
           cases e183
           replace hx183_0 := (HB.out.cell (World.block_lt_of_cell? w _ hx183_0)).trans hx183_0
           replace hx183_1 := (HB.out.cell (World.block_lt_of_cell? w _ hx183_1)).trans hx183_1
           replace p183 := eq_true p183
           replace q183 := eq_true q183
           have p184 : 0 ≤ (((rd_T78 l0_1 x7_1).f0) : Int) := od_
           have q184 : ((rd_T78 l0_1 x7_1).f0) < (l2.length : Int) := od_
           obtain ⟨ad184, e184, hx184_0⟩ := Kd.at_int HR2.out ((rd_T78 l0_1 x7_1).f0) p184 q184
           have hw184_0 := hx184_0
           cases e184
           replace hx184_0 := (HB.out.cell (World.block_lt_of_cell? w _ hx184_0)).trans hx184_0
           replace p184 := eq_true p184
           replace q184 := eq_true q184
           have p185 : 0 ≤ (x7_1 : Int) := od_
           have q185 : x7_1 < (l0_1.length : Int) := od_
           obtain ⟨ad185, e185, hx185_0, hx185_1⟩ := at_T78 HR0_1.out x7_1 p185 q185
           have hw185_1 := hx185_1
           have hw185_0 := hx185_0
           obtain rfl : ad183 = ad185 := (by injection e185)
           replace hx185_0 := (HB.out.cell (World.block_lt_of_cell? w _ hx185_0)).trans hx185_0
           replace hx185_1 := (HB.out.cell (World.block_lt_of_cell? w _ hx185_1)).trans hx185_1
           replace p185 := eq_true p185
           replace q185 := eq_true q185
           have p186 : 0 ≤ (((rd_T78 l0_1 x7_1).f1) : Int) := od_
           have q186 : ((rd_T78 l0_1 x7_1).f1) < (l2.length : Int) := od_
           obtain ⟨ad186, e186, hx186_0⟩ := Kd.at_int HR2.out ((rd_T78 l0_1 x7_1).f1) p186 q186
           have hw186_0 := hx186_0
           obtain rfl : ad184 = ad186 := (by injection e186)
           replace hx186_0 := (HB.out.cell (World.block_lt_of_cell? w _ hx186_0)).trans hx186_0
           replace p186 := eq_true p186
           replace q186 := eq_true q186
           refine start_ (n := 20) (S := fun w' => w'.cell? ⟨gb182, 0, none⟩ = some (.slice A0_0 l0_0.length c0_0) ∧ w'.cell? ⟨gb182, 1, none⟩ = some (.slice (some ad183) l0_1.length c0_1) ∧ w'.cell? (ad183.add ((x7_1).toNat * 2)) = some (.int .i64 ((rd_T78 l0_1 x7_1).f0)) ∧ w'.cell? ⟨(ad183.add ((x7_1).toNat * 2)).block, (ad183.add ((x7_1).toNat * 2)).off + 1, none⟩ = some (.int .i64 ((rd_T78 l0_1 x7_1).f1)) ∧ w'.cell? (ad184.add (((rd_T78 l0_1 x7_1).f0)).toNat) = some (.int .i64 (rd l2 ((rd_T78 l0_1 x7_1).f0))) ∧ w'.cell? (ad183.add ((x7_1).toNat * 2)) = some (.int .i64 ((rd_T78 l0_1 x7_1).f0)) ∧ w'.cell? ⟨(ad183.add ((x7_1).toNat * 2)).block, (ad183.add ((x7_1).toNat * 2)).off + 1, none⟩ = some (.int .i64 ((rd_T78 l0_1 x7_1).f1)) ∧ w'.cell? (ad184.add (((rd_T78 l0_1 x7_1).f1)).toNat) = some (.int .i64 (rd l2 ((rd_T78 l0_1 x7_1).f1)))) (ds := []) (bm 20 0) (by kernel_rfl) rfl rfl ⟨(blk_cell BK182.out 0).trans rfl, (blk_cell BK182.out 1).trans rfl, ((HB.out.cell (World.block_lt_of_cell? w _ hw183_0)).trans hw183_0), ((HB.out.cell (World.block_lt_of_cell? w _ hw183_1)).trans hw183_1), ((HB.out.cell (World.block_lt_of_cell? w _ hw184_0)).trans hw184_0), ((HB.out.cell (World.block_lt_of_cell? w _ hw185_0)).trans hw185_0), ((HB.out.cell (World.block_lt_of_cell? w _ hw185_1)).trans hw185_1), ((HB.out.cell (World.block_lt_of_cell? w _ hw186_0)).trans hw186_0)⟩ (fun hHeld => ?_); refine with_tabW spec_l11Fair.tab4 spec_l11Fair.bits4 (fun HT_ HW_ => ?_)
           generalize wr.drew = w18 at BK182 HB hx183_0 hx183_1 hx184_0 hx185_0 hx185_1 hx186_0 hHeld ⊢
           refine pa_ 0 (some 16) (bm 20 1) rfl rfl HT_.out ?_
           refine pa_ 1 (some 17) (bm 20 3) rfl rfl HT_.out ?_
           refine pa_ 3 (some 19) (bm 20 11) rfl rfl HT_.out ?_
           refine pa_ 9 (some 25) (bm 20 523) rfl rfl HT_.out ?_
           refine pa_ 10 (some 26) (bm 20 1547) rfl rfl HT_.out ?_
           refine pa_ 12 (some 28) (bm 20 5643) rfl rfl HT_.out ?_
           refine take_ (i := 2) (N := some 18) (v := ?_) (a' := ?_) (bm 20 5647) rfl rfl (take_ofW HT_.out HW_.out (by kernel_rfl)) (fun _ _ _ h => h) (Or.inl ⟨by rfl, ?_⟩) hHeld ?_ ?_
           rotate_left
           ·rintro w' ⟨s0, s1, s2, s3, s4, s5, s6, s7⟩
            go_simp
            with_reducible rfl
           rotate_left
           ·simp only [Act.put, List.setIfInBounds_toArray, List.set_cons_zero, List.set_cons_succ, i64_w, i32_w]
            rfl
           refine pa_ 4 (some 20) (bm 20 5663) rfl rfl HT_.out ?_
           refine pa_ 5 (some 21) (bm 20 5695) rfl rfl HT_.out ?_
           refine take_ (i := 6) (N := some 22) (v := ?_) (a' := ?_) (bm 20 5759) rfl rfl (take_ofW HT_.out HW_.out (by kernel_rfl)) (fun _ _ _ h => h) (Or.inl ⟨by rfl, ?_⟩) hHeld ?_ ?_
           rotate_left
           ·rintro w' ⟨s0, s1, s2, s3, s4, s5, s6, s7⟩
            go_simp
            with_reducible rfl
           rotate_left
           ·simp only [Act.put, List.setIfInBounds_toArray, List.set_cons_zero, List.set_cons_succ, i64_w, i32_w]
            rfl
           refine pa_ 7 (some 23) (bm 20 5887) rfl rfl HT_.out ?_
           refine take_ (i := 8) (N := some 24) (v := ?_) (a' := ?_) (bm 20 6143) rfl rfl (take_ofW HT_.out HW_.out (by kernel_rfl)) (fun _ _ _ h => h) (Or.inl ⟨by rfl, ?_⟩) hHeld ?_ ?_
           rotate_left
           ·rintro w' ⟨s0, s1, s2, s3, s4, s5, s6, s7⟩
            go_simp
            with_reducible rfl
           rotate_left
           ·simp only [Act.put, List.setIfInBounds_toArray, List.set_cons_zero, List.set_cons_succ, i64_w, i32_w]
            rfl
           refine take_ (i := 11) (N := some 27) (v := ?_) (a' := ?_) (bm 20 8191) rfl rfl (take_ofW HT_.out HW_.out (by kernel_rfl)) (fun _ _ _ h => h) (Or.inl ⟨by rfl, ?_⟩) hHeld ?_ ?_
           rotate_left
           ·rintro w' ⟨s0, s1, s2, s3, s4, s5, s6, s7⟩
            go_simp
            with_reducible rfl
           rotate_left
           ·simp only [Act.put, List.setIfInBounds_toArray, List.set_cons_zero, List.set_cons_succ, i64_w, i32_w]
            rfl
           refine pa_ 13 (some 29) (bm 20 16383) rfl rfl HT_.out ?_
           refine pa_ 14 (some 30) (bm 20 32767) rfl rfl HT_.out ?_
           refine take_ (i := 15) (N := some 31) (v := ?_) (a' := ?_) (bm 20 65535) rfl rfl (take_ofW HT_.out HW_.out (by kernel_rfl)) (fun _ _ _ h => h) (Or.inl ⟨by rfl, ?_⟩) hHeld ?_ ?_
           rotate_left
           ·rintro w' ⟨s0, s1, s2, s3, s4, s5, s6, s7⟩
            go_simp
            with_reducible rfl
           rotate_left
           ·simp only [Act.put, List.setIfInBounds_toArray, List.set_cons_zero, List.set_cons_succ, i64_w, i32_w]
            rfl
           refine pa_ 16 (some 32) (bm 20 131071) rfl rfl HT_.out ?_
           refine take_ (i := 17) (N := some 33) (v := ?_) (a' := ?_) (bm 20 262143) rfl rfl (take_ofW HT_.out HW_.out (by kernel_rfl)) (fun _ _ _ h => h) (Or.inl ⟨by rfl, ?_⟩) hHeld ?_ ?_
           rotate_left
           ·rintro w' ⟨s0, s1, s2, s3, s4, s5, s6, s7⟩
            go_simp
            with_reducible rfl
           rotate_left
           ·simp only [Act.put, List.setIfInBounds_toArray, List.set_cons_zero, List.set_cons_succ, i64_w, i32_w]
            rfl
           refine pa_ 18 (some 34) (bm 20 524287) rfl rfl HT_.out ?_
           refine pa_ 19 (some 8) (bm 20 1048575) rfl rfl HT_.out ?_
           refine done_ (done_of HT_.out (by kernel_rfl)) ?_
           try go_wp2
           have n0_ := Aside0.mk (blk_drew BK182.out)
           have n1_ := Aside0.mk (below_drew1 HB.out)
           clear BK182
           clear HB
           have BK182 := n0_
           have HB := n1_
           clear n0_ n1_
           have p188 : 0 ≤ (x7_1 : Int) := od_
           have q188 : x7_1 < (l1.length : Int) := od_
           obtain ⟨ad188, e188, hx188_0⟩ := Kd.at_int HR1.out x7_1 p188 q188
           have hw188_0 := hx188_0
           cases e188
           replace hx188_0 := (HB.out.cell (World.block_lt_of_cell? w _ hx188_0)).trans hx188_0
           replace p188 := eq_true p188
           replace q188 := eq_true q188
           refine start_ (n := 9) (S := fun w' => w'.cell? (ad188.add (x7_1).toNat) = some (.int .i64 (rd l1 x7_1))) (ds := []) (bm 9 0) (by kernel_rfl) rfl rfl (((HB.out.cell (World.block_lt_of_cell? w _ hw188_0)).trans hw188_0)) (fun hHeld => ?_); refine with_tabW spec_l11Fair.tab5 spec_l11Fair.bits5 (fun HT_ HW_ => ?_)
           generalize w18.drew = w19 at BK182 HB hx188_0 hHeld ⊢
           refine pa_ 0 (some 35) (bm 9 1) rfl rfl HT_.out ?_
           refine pa_ 1 (some 36) (bm 9 3) rfl rfl HT_.out ?_
           refine pa_ 2 (some 37) (bm 9 7) rfl rfl HT_.out ?_
           refine pa_ 4 (some 39) (bm 9 23) rfl rfl HT_.out ?_
           refine pa_ 5 (some 40) (bm 9 55) rfl rfl HT_.out ?_
           refine pa_ 6 (some 41) (bm 9 119) rfl rfl HT_.out ?_
           refine take_ (i := 7) (N := some 42) (v := ?_) (a' := ?_) (bm 9 247) rfl rfl (take_ofW HT_.out HW_.out (by kernel_rfl)) (fun _ _ _ h => h) (Or.inl ⟨by rfl, ?_⟩) hHeld ?_ ?_
           rotate_left
           ·intro w' s0
            go_simp
            with_reducible rfl
           rotate_left
           ·simp only [Act.put, List.setIfInBounds_toArray, List.set_cons_zero, List.set_cons_succ, i64_w, i32_w]
            rfl
           refine one_ (i := 3) (N := some 38) (bm 9 255) rfl rfl (one_of HT_.out (by kernel_rfl)) (by decide) (fun K hK => ?_)
           refine goes_ Try.func84 (by kernel_rfl) rfl #[.int .i64 (wrap64 ((rd l2 ((rd_T78 l0_1 x7_1).f0)) - (rd l2 ((rd_T78 l0_1 x7_1).f1)))), .int .i64 (wrap64 (-(wrap64 ((rd l2 ((rd_T78 l0_1 x7_1).f0)) - (rd l2 ((rd_T78 l0_1 x7_1).f1))))))] (by rfl) rfl rfl (by (try simp only [List.map_toArray, List.map_cons, List.map_nil]); first | done | rfl | (simp only [List.length_drop, List.length_take]; rfl)) ?_
           with_reducible refine (spec_l1Most.calls (wrap64 ((rd l2 ((rd_T78 l0_1 x7_1).f0)) - (rd l2 ((rd_T78 l0_1 x7_1).f1)))) (wrap64 (-(wrap64 ((rd l2 ((rd_T78 l0_1 x7_1).f0)) - (rd l2 ((rd_T78 l0_1 x7_1).f1)))))) t187 _ A11.out).mono ?_
           rintro e w' ⟨rfl, ⟨nd, rfl⟩⟩
           refine ⟨_, rfl, ?_⟩
           refine hK.out _ _ (((HB.out.cell (World.block_lt_of_cell? w _ hw188_0)).trans hw188_0)) (fun hHeld => ?_)
           clear hK K
           refine norm_ (a' := ?_) ?_ ?_
           rotate_left
           ·show Act.put _ (some 38) _ = _
            simp only [Act.put, List.setIfInBounds_toArray, List.set_cons_zero, List.set_cons_succ, i64_w, i32_w]
            rfl
           refine pa_ 8 (some 43) (bm 9 511) rfl rfl HT_.out ?_
           refine done_ (done_of HT_.out (by kernel_rfl)) ?_
           try go_wp2
           go_roundg k1
           case measure => have := HK1.out; omega
           case rel => exact ⟨(wrap64 (x7_1 + 1)), (by first | rfl | (simp; done) | (simp [*]; done)), H', ⟨by have := HK1.out; omega⟩, ⟨by (with_reducible repeat (first | refine blk_drewN ?_ _ | refine blk_drew ?_ | refine blk_alloc ?_ _)); exact BK182.out⟩, ⟨by repeat (first | (with_reducible first | exact HB.out | apply below_alloc | apply pw_below_drewN | apply below_drew1 | refine below_set ?_ GE182.out) | exact HB.out)⟩⟩
         ·rw [if_neg c12] at H
          exact absurd H (by simp)
        ·rw [if_neg c10] at H
         exact absurd H (by simp)
       ·rw [if_neg c9] at H
        exact absurd H (by simp)
      ·rw [if_neg c8] at H
       exact absurd H (by simp)
     ·rw [if_neg c7] at H
      exact absurd H (by simp)
    ·rw [if_neg c6] at H
     exact absurd H (by simp)
   ·rw [if_neg c5] at H
    have c5b0 : decide (x7_1 < (l0_1.length : Int)) = false := decide_eq_false c5
    clear c5
    obtain rfl := Option.some.inj H
    have hcz20_0 : wr.cell? ⟨gb182, 0, none⟩ = some (.slice A0_0 l0_0.length c0_0) := (blk_cell BK182.out 0).trans rfl
    have hcz20_1 : wr.cell? ⟨gb182, 1, none⟩ = some (.slice A0_1 l0_1.length c0_1) := (blk_cell BK182.out 1).trans rfl
    have hfz20_0 := blk_frozen BK182.out 0
    have hfz20_1 := blk_frozen BK182.out 1
    go_wp2
    go_ret
    exact ⟨by first | rfl | (simp [errW_none, errW_some] <;> rfl) | (simp [*, errW_none, errW_some] <;> rfl), by repeat (first | (with_reducible first | exact HB.out | apply below_alloc | apply pw_below_drewN | apply below_drew1 | refine below_set ?_ GE182.out) | exact HB.out)⟩

/-! ### spec_l1Least: function 153 -/
def spec_l1Least.f (a0 : Int) (a1 : Int) : Option (Int) := if a0 < a1 then (some a0) else (some a1)
set_option maxHeartbeats 8000000 in
set_option maxRecDepth 100000 in
theorem spec_l1Least.calls (a0 : Int) (a1 : Int) (r : Int) (w : World) (h : spec_l1Least.f a0 a1 = some r) :
  Calls Try.prog 153 #[.int .i64 a0, .int .i64 a1] w fun e w' => e = .returned (.int .i64 r) ∧ Drawn0 w w' := by
 have H : (if a0 < a1 then (some a0) else (some a1)) = some r := h
 clear h
 by_cases c3 : a0 < a1
 ·rw [if_pos c3] at H
  have c3b0 : decide (a0 < a1) = true := decide_eq_true c3
  clear c3
  obtain rfl := Option.some.inj H
  go_enter Try.func153, Try.ntmps153
  go_wp2
  go_ret
  exact ⟨by first | rfl | (simp; done) | (simp [*]; done), by repeat (first | exact Drawn0.refl _ | apply Drawn0.step)⟩
 ·rw [if_neg c3] at H
  have c3b0 : decide (a0 < a1) = false := decide_eq_false c3
  clear c3
  obtain rfl := Option.some.inj H
  go_enter Try.func153, Try.ntmps153
  go_wp2
  go_ret
  exact ⟨by first | rfl | (simp; done) | (simp [*]; done), by repeat (first | exact Drawn0.refl _ | apply Drawn0.step)⟩

/-! ### spec_l2Step: function 150 -/
def spec_l2Step.l0 : Nat → Int → Int → Int → List (List Int) → List (S78) → Option (Bool)
 | 0, _, _, _, _, _ => none
 | k + 1, x1, x2, x7, x190000, x190001 => if x7 < (x190001.length : Int) then (if 0 ≤ x7 then ((spec_l1Least.f x1 x2).bind fun t191 => ((spec_l1Most.f x1 x2).bind fun t192 => (if (((rd_T78 x190001 x7).f0) == t191 && (((rd_T78 x190001 x7).f1) == t192)) = true then (some true) else (spec_l2Step.l0 k x1 x2 (wrap64 (x7 + 1)) x190000 x190001)))) else (none)) else (some false)
def spec_l2Step.f (k : Nat) (l0_0 : List (List Int)) (l0_1 : List (S78)) (a1 : Int) (a2 : Int) : Option (Bool) := spec_l2Step.l0 k a1 a2 0 l0_0 l0_1
set_option maxHeartbeats 8000000 in
set_option maxRecDepth 100000 in
theorem spec_l2Step.calls (k : Nat) (A0_0 : Option Addr) (c0_0 : Nat) (l0_0 : List (List Int)) (A0_1 : Option Addr) (c0_1 : Nat) (l0_1 : List (S78)) (a1 : Int) (a2 : Int) (r : Bool) (w : World) (hr0_0 : Kd.C (Kd.slice 3 (Kd.int .i64)) w A0_0 l0_0.length l0_0) (hc0_0 : l0_0.length ≤ c0_0) (hr0_1 : Kd.C k78 w A0_1 l0_1.length l0_1) (hc0_1 : l0_1.length ≤ c0_1) (h : spec_l2Step.f k l0_0 l0_1 a1 a2 = some r) :
  Calls Try.prog 150 #[.agg #[.slice A0_0 l0_0.length c0_0, .slice A0_1 l0_1.length c0_1], .int .i64 a1, .int .i64 a2] w fun e w' => e = .returned (.bool r) ∧ Below w.heap.size w w' := by
 have hu55 := Try.underlying55
 have hu78 := Try.underlying78
 have HR0_0 := Aside0.mk hr0_0
 have HC0_0 := Aside0.mk hc0_0
 clear hr0_0 hc0_0
 have HR0_1 := Aside0.mk hr0_1
 have HC0_1 := Aside0.mk hc0_1
 clear hr0_1 hc0_1
 have HB := Aside0.mk (Below.refl w.heap.size w)
 have H : (spec_l2Step.l0 k a1 a2 0 l0_0 l0_1) = some r := h
 clear h
 have H' := Aside0.mk H
 clear H
 go_enter Try.func150, Try.ntmps150
 go_wp2_with (first | ((with_reducible refine gate_dst (N := 3) rfl ?_); refine box_event ?hg (N := 3) ?hd (cs := #[.slice A0_0 l0_0.length c0_0, .slice A0_1 l0_1.length c0_1]) (t := 55) ?hr ?_; (case hd => rfl); (case hg => rfl); (case hr => first | (go_simp; done) | (go_simp; rfl)); intro gb189 hg w4 hbox hb; have n0_ := Aside0.mk (below_step bl_ hb); have n1_ := Aside0.mk (hbox); have n2_ := Aside0.mk ((by rw [hg]; exact (below_size bl_) : w.heap.size ≤ gb189)); have n3_ := Aside0.mk ((by rw [hg]; exact (below_size bl_) : w.heap.size ≤ gb189)); clear HB; have HB := n0_; have BK189 := n1_; have GW189 := n2_; have GE189 := n3_; clear n0_ n1_ n2_ n3_; clear hb hbox hg))
 repeat (go_quiet (first | ((with_reducible refine gate_dst (N := 3) rfl ?_); refine box_event ?hg (N := 3) ?hd (cs := #[.slice A0_0 l0_0.length c0_0, .slice A0_1 l0_1.length c0_1]) (t := 55) ?hr ?_; (case hd => rfl); (case hg => rfl); (case hr => first | (go_simp; done) | (go_simp; rfl)); intro gb189 hg w4 hbox hb; have n0_ := Aside0.mk (below_step bl_ hb); have n1_ := Aside0.mk (hbox); have n2_ := Aside0.mk ((by rw [hg]; exact (below_size bl_) : w.heap.size ≤ gb189)); have n3_ := Aside0.mk ((by rw [hg]; exact (below_size bl_) : w.heap.size ≤ gb189)); clear HB; have HB := n0_; have BK189 := n1_; have GW189 := n2_; have GE189 := n3_; clear n0_ n1_ n2_ n3_; clear hb hbox hg)); try go_wp2_with (first | ((with_reducible refine gate_dst (N := 3) rfl ?_); refine box_event ?hg (N := 3) ?hd (cs := #[.slice A0_0 l0_0.length c0_0, .slice A0_1 l0_1.length c0_1]) (t := 55) ?hr ?_; (case hd => rfl); (case hg => rfl); (case hr => first | (go_simp; done) | (go_simp; rfl)); intro gb189 hg w4 hbox hb; have n0_ := Aside0.mk (below_step bl_ hb); have n1_ := Aside0.mk (hbox); have n2_ := Aside0.mk ((by rw [hg]; exact (below_size bl_) : w.heap.size ≤ gb189)); have n3_ := Aside0.mk ((by rw [hg]; exact (below_size bl_) : w.heap.size ≤ gb189)); clear HB; have HB := n0_; have BK189 := n1_; have GW189 := n2_; have GE189 := n3_; clear n0_ n1_ n2_ n3_; clear hb hbox hg)))
 go_loopg [7] k (fun kq v7 w' => ∃ (x7_1 : Int), v7 = .int .i64 x7_1 ∧ Aside0 (spec_l2Step.l0 kq a1 a2 x7_1 l0_0 l0_1 = some r) ∧ Aside0 (kq ≤ k) ∧ Aside0 (w'.heap[gb189]? = some (.cells #[(.slice A0_0 l0_0.length c0_0), (.slice A0_1 l0_1.length c0_1)] 55 (0, 0))) ∧ Aside0 (Below w.heap.size w w'))
 case atStart => exact ⟨(0), (by first | rfl | (simp; done) | (simp [*]; done)), H', ⟨Nat.le_refl _⟩, ⟨by (with_reducible repeat (first | refine blk_drewN ?_ _ | refine blk_drew ?_ | refine blk_alloc ?_ _)); exact BK189.out⟩, ⟨by repeat (first | (with_reducible first | exact HB.out | apply below_alloc | apply pw_below_drewN | apply below_drew1 | refine below_set ?_ GE189.out) | exact HB.out)⟩⟩
 case round =>
  clear H'
  try clear c1
  try clear p2
  obtain ⟨x7_1, rfl, HA, HK1, BK189, HB⟩ := hrel
  cases gk with
  | zero => exact absurd HA.out (by simp [spec_l2Step.l0])
  | succ k1 =>
   have H := HA.out
   clear HA
   simp only [spec_l2Step.l0] at H
   by_cases c5 : x7_1 < (l0_1.length : Int)
   ·rw [if_pos c5] at H
    have c5b0 : decide (x7_1 < (l0_1.length : Int)) = true := decide_eq_true c5
    clear c5
    by_cases c6 : 0 ≤ x7_1
    ·rw [if_pos c6] at H
     have c6b0 : decide (0 ≤ x7_1) = true := decide_eq_true c6
     clear c6
     replace H := Option.bind_eq_some_iff.mp H
     obtain ⟨t191, A70, H⟩ := H
     replace H : ((spec_l1Most.f a1 a2).bind fun t192 => (if (((rd_T78 l0_1 x7_1).f0) == t191 && (((rd_T78 l0_1 x7_1).f1) == t192)) = true then (some true) else (spec_l2Step.l0 k1 a1 a2 (wrap64 (x7_1 + 1)) l0_0 l0_1))) = some r := H
     have A7 := Aside0.mk A70
     clear A70
     replace H := Option.bind_eq_some_iff.mp H
     obtain ⟨t192, A80, H⟩ := H
     replace H : (if (((rd_T78 l0_1 x7_1).f0) == t191 && (((rd_T78 l0_1 x7_1).f1) == t192)) = true then (some true) else (spec_l2Step.l0 k1 a1 a2 (wrap64 (x7_1 + 1)) l0_0 l0_1)) = some r := H
     have A8 := Aside0.mk A80
     clear A80
     by_cases c9 : (((rd_T78 l0_1 x7_1).f0) == t191 && (((rd_T78 l0_1 x7_1).f1) == t192)) = true
     ·rw [if_pos c9] at H
      have c9b0 : (((rd_T78 l0_1 x7_1).f0) == t191 && (((rd_T78 l0_1 x7_1).f1) == t192)) = true := c9
      (try (have c9b1 : decide (((rd_T78 l0_1 x7_1).f0) = t191 && (((rd_T78 l0_1 x7_1).f1) == t192)) = true := by simpa using c9))
      (try (have c9b2 : (((rd_T78 l0_1 x7_1).f0) == t191 && (((rd_T78 l0_1 x7_1).f1) == t192)) = true := by simpa using c9))
      clear c9
      obtain rfl := Option.some.inj H
      have hcz10_0 : wr.cell? ⟨gb189, 0, none⟩ = some (.slice A0_0 l0_0.length c0_0) := (blk_cell BK189.out 0).trans rfl
      have hcz10_1 : wr.cell? ⟨gb189, 1, none⟩ = some (.slice A0_1 l0_1.length c0_1) := (blk_cell BK189.out 1).trans rfl
      have hfz10_0 := blk_frozen BK189.out 0
      have hfz10_1 := blk_frozen BK189.out 1
      have p190 : 0 ≤ (x7_1 : Int) := od_
      have q190 : x7_1 < (l0_1.length : Int) := od_
      obtain ⟨ad190, e190, hx190_0, hx190_1⟩ := at_T78 HR0_1.out x7_1 p190 q190
      cases e190
      replace hx190_0 := (HB.out.cell (World.block_lt_of_cell? w _ hx190_0)).trans hx190_0
      replace hx190_1 := (HB.out.cell (World.block_lt_of_cell? w _ hx190_1)).trans hx190_1
      replace p190 := eq_true p190
      replace q190 := eq_true q190
      go_wp2_with (first | (go_at_call 153; (with_reducible refine (spec_l1Least.calls a1 a2 t191 _ A7.out).mono ?_); rintro e w' ⟨rfl, ⟨nd, rfl⟩⟩; (try first | exact ⟨rfl, _, World.drewN_drewN _ _ _⟩ | exact ⟨rfl, _, Eq.trans (World.drewN_drewN _ _ _) (congrArg (World.drewN _) (Nat.add_assoc _ _ _))⟩)) | (go_at_call 84; (with_reducible refine (spec_l1Most.calls a1 a2 t192 _ A8.out).mono ?_); rintro e w' ⟨rfl, ⟨nd, rfl⟩⟩; (try first | exact ⟨rfl, _, World.drewN_drewN _ _ _⟩ | exact ⟨rfl, _, Eq.trans (World.drewN_drewN _ _ _) (congrArg (World.drewN _) (Nat.add_assoc _ _ _))⟩)))
      repeat (go_quiet (first | (go_at_call 153; (with_reducible refine (spec_l1Least.calls a1 a2 t191 _ A7.out).mono ?_); rintro e w' ⟨rfl, ⟨nd, rfl⟩⟩; (try first | exact ⟨rfl, _, World.drewN_drewN _ _ _⟩ | exact ⟨rfl, _, Eq.trans (World.drewN_drewN _ _ _) (congrArg (World.drewN _) (Nat.add_assoc _ _ _))⟩)) | (go_at_call 84; (with_reducible refine (spec_l1Most.calls a1 a2 t192 _ A8.out).mono ?_); rintro e w' ⟨rfl, ⟨nd, rfl⟩⟩; (try first | exact ⟨rfl, _, World.drewN_drewN _ _ _⟩ | exact ⟨rfl, _, Eq.trans (World.drewN_drewN _ _ _) (congrArg (World.drewN _) (Nat.add_assoc _ _ _))⟩))); try go_wp2_with (first | (go_at_call 153; (with_reducible refine (spec_l1Least.calls a1 a2 t191 _ A7.out).mono ?_); rintro e w' ⟨rfl, ⟨nd, rfl⟩⟩; (try first | exact ⟨rfl, _, World.drewN_drewN _ _ _⟩ | exact ⟨rfl, _, Eq.trans (World.drewN_drewN _ _ _) (congrArg (World.drewN _) (Nat.add_assoc _ _ _))⟩)) | (go_at_call 84; (with_reducible refine (spec_l1Most.calls a1 a2 t192 _ A8.out).mono ?_); rintro e w' ⟨rfl, ⟨nd, rfl⟩⟩; (try first | exact ⟨rfl, _, World.drewN_drewN _ _ _⟩ | exact ⟨rfl, _, Eq.trans (World.drewN_drewN _ _ _) (congrArg (World.drewN _) (Nat.add_assoc _ _ _))⟩))))
      go_ret
      exact ⟨by first | rfl | (simp [errW_none, errW_some] <;> rfl) | (simp [*, errW_none, errW_some] <;> rfl), by repeat (first | (with_reducible first | exact HB.out | apply below_alloc | apply pw_below_drewN | apply below_drew1 | refine below_set ?_ GE189.out) | exact HB.out)⟩
     ·rw [if_neg c9] at H
      have c9b0 : (((rd_T78 l0_1 x7_1).f0) == t191 && (((rd_T78 l0_1 x7_1).f1) == t192)) = false := by simpa using c9
      (try (have c9b1 : decide (((rd_T78 l0_1 x7_1).f0) = t191 && (((rd_T78 l0_1 x7_1).f1) == t192)) = false := by simpa using c9))
      (try (have c9b2 : (((rd_T78 l0_1 x7_1).f0) == t191 && (((rd_T78 l0_1 x7_1).f1) == t192)) = false := by simpa using c9))
      (try (have c9b3 : ¬ (((rd_T78 l0_1 x7_1).f0) = t191 && (((rd_T78 l0_1 x7_1).f1) == t192)) := by simpa using c9))
      clear c9
      have H' := Aside0.mk H
      clear H
      have hcz11_0 : wr.cell? ⟨gb189, 0, none⟩ = some (.slice A0_0 l0_0.length c0_0) := (blk_cell BK189.out 0).trans rfl
      have hcz11_1 : wr.cell? ⟨gb189, 1, none⟩ = some (.slice A0_1 l0_1.length c0_1) := (blk_cell BK189.out 1).trans rfl
      have hfz11_0 := blk_frozen BK189.out 0
      have hfz11_1 := blk_frozen BK189.out 1
      have p190 : 0 ≤ (x7_1 : Int) := od_
      have q190 : x7_1 < (l0_1.length : Int) := od_
      obtain ⟨ad190, e190, hx190_0, hx190_1⟩ := at_T78 HR0_1.out x7_1 p190 q190
      cases e190
      replace hx190_0 := (HB.out.cell (World.block_lt_of_cell? w _ hx190_0)).trans hx190_0
      replace hx190_1 := (HB.out.cell (World.block_lt_of_cell? w _ hx190_1)).trans hx190_1
      replace p190 := eq_true p190
      replace q190 := eq_true q190
      go_wp2_with (first | (go_at_call 153; (with_reducible refine (spec_l1Least.calls a1 a2 t191 _ A7.out).mono ?_); rintro e w' ⟨rfl, ⟨nd, rfl⟩⟩; (try first | exact ⟨rfl, _, World.drewN_drewN _ _ _⟩ | exact ⟨rfl, _, Eq.trans (World.drewN_drewN _ _ _) (congrArg (World.drewN _) (Nat.add_assoc _ _ _))⟩)) | (go_at_call 84; (with_reducible refine (spec_l1Most.calls a1 a2 t192 _ A8.out).mono ?_); rintro e w' ⟨rfl, ⟨nd, rfl⟩⟩; (try first | exact ⟨rfl, _, World.drewN_drewN _ _ _⟩ | exact ⟨rfl, _, Eq.trans (World.drewN_drewN _ _ _) (congrArg (World.drewN _) (Nat.add_assoc _ _ _))⟩)))
      repeat (go_quiet (first | (go_at_call 153; (with_reducible refine (spec_l1Least.calls a1 a2 t191 _ A7.out).mono ?_); rintro e w' ⟨rfl, ⟨nd, rfl⟩⟩; (try first | exact ⟨rfl, _, World.drewN_drewN _ _ _⟩ | exact ⟨rfl, _, Eq.trans (World.drewN_drewN _ _ _) (congrArg (World.drewN _) (Nat.add_assoc _ _ _))⟩)) | (go_at_call 84; (with_reducible refine (spec_l1Most.calls a1 a2 t192 _ A8.out).mono ?_); rintro e w' ⟨rfl, ⟨nd, rfl⟩⟩; (try first | exact ⟨rfl, _, World.drewN_drewN _ _ _⟩ | exact ⟨rfl, _, Eq.trans (World.drewN_drewN _ _ _) (congrArg (World.drewN _) (Nat.add_assoc _ _ _))⟩))); try go_wp2_with (first | (go_at_call 153; (with_reducible refine (spec_l1Least.calls a1 a2 t191 _ A7.out).mono ?_); rintro e w' ⟨rfl, ⟨nd, rfl⟩⟩; (try first | exact ⟨rfl, _, World.drewN_drewN _ _ _⟩ | exact ⟨rfl, _, Eq.trans (World.drewN_drewN _ _ _) (congrArg (World.drewN _) (Nat.add_assoc _ _ _))⟩)) | (go_at_call 84; (with_reducible refine (spec_l1Most.calls a1 a2 t192 _ A8.out).mono ?_); rintro e w' ⟨rfl, ⟨nd, rfl⟩⟩; (try first | exact ⟨rfl, _, World.drewN_drewN _ _ _⟩ | exact ⟨rfl, _, Eq.trans (World.drewN_drewN _ _ _) (congrArg (World.drewN _) (Nat.add_assoc _ _ _))⟩))))
      go_roundg k1
      case measure => have := HK1.out; omega
      case rel => exact ⟨(wrap64 (x7_1 + 1)), (by first | rfl | (simp; done) | (simp [*]; done)), H', ⟨by have := HK1.out; omega⟩, ⟨by (with_reducible repeat (first | refine blk_drewN ?_ _ | refine blk_drew ?_ | refine blk_alloc ?_ _)); exact BK189.out⟩, ⟨by repeat (first | (with_reducible first | exact HB.out | apply below_alloc | apply pw_below_drewN | apply below_drew1 | refine below_set ?_ GE189.out) | exact HB.out)⟩⟩
    ·rw [if_neg c6] at H
     exact absurd H (by simp)
   ·rw [if_neg c5] at H
    have c5b0 : decide (x7_1 < (l0_1.length : Int)) = false := decide_eq_false c5
    clear c5
    obtain rfl := Option.some.inj H
    have hcz12_0 : wr.cell? ⟨gb189, 0, none⟩ = some (.slice A0_0 l0_0.length c0_0) := (blk_cell BK189.out 0).trans rfl
    have hcz12_1 : wr.cell? ⟨gb189, 1, none⟩ = some (.slice A0_1 l0_1.length c0_1) := (blk_cell BK189.out 1).trans rfl
    have hfz12_0 := blk_frozen BK189.out 0
    have hfz12_1 := blk_frozen BK189.out 1
    go_wp2
    repeat (go_quiet (fail); try go_wp2)
    go_ret
    exact ⟨by first | rfl | (simp [errW_none, errW_some] <;> rfl) | (simp [*, errW_none, errW_some] <;> rfl), by repeat (first | (with_reducible first | exact HB.out | apply below_alloc | apply pw_below_drewN | apply below_drew1 | refine below_set ?_ GE189.out) | exact HB.out)⟩

end Go.Proofs.Ytiiaadgibkpaaaa.PFnExactIsCostProof
