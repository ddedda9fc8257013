-- written by wip/tools of this repo out of the translation (a turned copy of the kit's print): checked by Lean alone
import Derived.Test.YtiiaadgibkpaaaaPFnExactAfterMapx0
import Derived.Test.YtiiaadgibkpaaaaPFnExactAfterMapx3
namespace Go.Proofs.Ytiiaadgibkpaaaa.PFnExactAfterMap
open Go.RowKit Go.Proofs.YtiiaadgibkpaaaaW.PrintWords Go.Proofs.YtiiaadgibkpaaaaW.PrintLast Go.Proofs.YtiiaadgibkpaaaaW.PrintMore
attribute [local go_sem] max2_int min2_int max_two min_two max_three min_three max_four min_four   -- for this text's walks alone
set_option linter.unusedVariables false
set_option linter.unusedSimpArgs false

/-! ### spec_l2Pairs: function 113 -/
def spec_l2Pairs.l0 : Nat → List (S78) → Int → Int → Option (Bool)
 | 0, _, _, _ => none
 | k + 1, x0, x1, x5 => if x5 < (x0.length : Int) then (if 0 ≤ x5 then ((spec_l1In.f ((rd_T78 x0 x5).f0) 0 (wrap64 (x1 - 1))).bind fun t138 => (if t138 = true then ((spec_l1In.f ((rd_T78 x0 x5).f1) 0 (wrap64 (x1 - 1))).bind fun t139 => (if t139 = true then (if ((rd_T78 x0 x5).f0) ≥ ((rd_T78 x0 x5).f1) then (some false) else (if x5 > 0 then (if 0 ≤ (wrap64 (x5 - 1)) then (if (wrap64 (x5 - 1)) < (x0.length : Int) then ((spec_l2Edge.f ((rd_T78 x0 (wrap64 (x5 - 1))).f0) ((rd_T78 x0 (wrap64 (x5 - 1))).f1) ((rd_T78 x0 x5).f0) ((rd_T78 x0 x5).f1)).bind fun t141 => (if t141 = true then (spec_l2Pairs.l0 k x0 x1 (wrap64 (x5 + 1))) else (some false))) else (none)) else (none)) else (spec_l2Pairs.l0 k x0 x1 (wrap64 (x5 + 1))))) else (some false))) else (some false))) else (none)) else (some true)
def spec_l2Pairs.f (k : Nat) (l0 : List (S78)) (a1 : Int) : Option (Bool) := spec_l2Pairs.l0 k l0 a1 0
def spec_l2Pairs.T5 : Bool × List (List Nat × List Nat) := (true, [([], []), ([0], [0]), ([], []), ([2], [2]), ([1, 3], [1, 3]), ([4], [4]), ([5, 4], [5]), ([6], [6]), ([7, 6], [6, 7]), ([6], [6]), ([9, 6], [6, 9]), ([8, 10, 6, 6], [6, 8, 10]), ([11, 6], [6, 11]), ([6, 12], [6, 12]), ([13, 11], [13]), ([14], [14]), ([15, 14], [14, 15]), ([14], [14]), ([17, 14], [14, 17]), ([16, 18, 14], [14, 16, 18]), ([14, 19], [14, 19]), ([20, 14], [20]), ([21], [21]), ([22, 21], [21, 22]), ([23, 21, 21], [21, 23]), ([24], [24]), ([24], [24]), ([26, 24], [24, 26]), ([25, 27, 24], [24, 25, 27]), ([28, 24], [24, 28]), ([24], [24]), ([29, 30, 24, 24], [24, 29, 30]), ([31, 24], [24, 31]), ([24, 32, 21], [21, 24, 32]), ([21, 33], [21, 33])])
def spec_l2Pairs.B5 : List Nat := [0, 1, 0, 4, 15, 31, 63, 127, 255, 127, 639, 2047, 4095, 8191, 16383, 32767, 65535, 32767, 163839, 524287, 1048575, 2097151, 4194303, 8388607, 16777215, 33554431, 33554431, 100663295, 268435455, 536870911, 33554431, 2147483647, 4294967295, 8589934591, 17179869183]
theorem spec_l2Pairs.tab5 : rtab .any (opsOf Try.f113 5) = spec_l2Pairs.T5 := by kernel_rfl
theorem spec_l2Pairs.bits5 : waitsOk spec_l2Pairs.T5.2 spec_l2Pairs.B5 = true := by kernel_rfl
set_option maxHeartbeats 8000000 in
set_option maxRecDepth 100000 in
theorem spec_l2Pairs.calls (k : Nat) (A0 : Option Addr) (c0 : Nat) (l0 : List (S78)) (a1 : Int) (r : Bool) (w : World) (hr0 : Kd.C k78 w A0 l0.length l0) (hc0 : l0.length ≤ c0) (h : spec_l2Pairs.f k l0 a1 = some r) :
  Calls Try.prog 113 #[.slice A0 l0.length c0, .int .i64 a1] w fun e w' => e = .returned (.bool r) ∧ Below w.heap.size w w' := by
 have hu78 := Try.underlying78
 have HR0 := Aside0.mk hr0
 have HC0 := Aside0.mk hc0
 clear hr0 hc0
 have HB := Aside0.mk (Below.refl w.heap.size w)
 have H : (spec_l2Pairs.l0 k l0 a1 0) = some r := h
 clear h
 have H' := Aside0.mk H
 clear H
 go_enter Try.func113, Try.ntmps113
 go_wp2
 go_loopg [5] k (fun kq v5 w' => ∃ (x5_1 : Int), v5 = .int .i64 x5_1 ∧ Aside0 (spec_l2Pairs.l0 kq l0 a1 x5_1 = some r) ∧ Aside0 (kq ≤ k) ∧ Aside0 (Below w.heap.size w w'))
 case atStart => exact ⟨(0), (by first | rfl | (simp; done) | (simp [*]; done)), H', ⟨Nat.le_refl _⟩, ⟨by repeat (first | (with_reducible first | exact HB.out | apply below_alloc | apply pw_below_drewN | apply below_drew1) | exact HB.out)⟩⟩
 case round =>
  clear H'
  try clear c1
  try clear p2
  obtain ⟨x5_1, rfl, HA, HK1, HB⟩ := hrel
  cases gk with
  | zero => exact absurd HA.out (by simp [spec_l2Pairs.l0])
  | succ k1 =>
   have H := HA.out
   clear HA
   simp only [spec_l2Pairs.l0] at H
   by_cases c3 : x5_1 < (l0.length : Int)
   ·rw [if_pos c3] at H
    have c3b0 : decide (x5_1 < (l0.length : Int)) = true := decide_eq_true c3
    clear c3
    by_cases c4 : 0 ≤ x5_1
    ·rw [if_pos c4] at H
     have c4b0 : decide (0 ≤ x5_1) = true := decide_eq_true c4
     clear c4
     replace H := Option.bind_eq_some_iff.mp H
     obtain ⟨t138, A50, H⟩ := H
     (try dsimp only at H)
     have A5 := Aside0.mk A50
     clear A50
     by_cases c6 : t138 = true
     ·subst c6
      have H1 : ((spec_l1In.f ((rd_T78 l0 x5_1).f1) 0 (wrap64 (a1 - 1))).bind fun t139 => (if t139 = true then (if ((rd_T78 l0 x5_1).f0) ≥ ((rd_T78 l0 x5_1).f1) then (some false) else (if x5_1 > 0 then (if 0 ≤ (wrap64 (x5_1 - 1)) then (if (wrap64 (x5_1 - 1)) < (l0.length : Int) then ((spec_l2Edge.f ((rd_T78 l0 (wrap64 (x5_1 - 1))).f0) ((rd_T78 l0 (wrap64 (x5_1 - 1))).f1) ((rd_T78 l0 x5_1).f0) ((rd_T78 l0 x5_1).f1)).bind fun t141 => (if t141 = true then (spec_l2Pairs.l0 k1 l0 a1 (wrap64 (x5_1 + 1))) else (some false))) else (none)) else (none)) else (spec_l2Pairs.l0 k1 l0 a1 (wrap64 (x5_1 + 1))))) else (some false))) = some r := by rw [if_pos rfl] at H; exact H
      clear H
      have H := H1
      clear H1
      replace H := Option.bind_eq_some_iff.mp H
      obtain ⟨t139, A70, H⟩ := H
      (try dsimp only at H)
      have A7 := Aside0.mk A70
      clear A70
      by_cases c8 : t139 = true
      ·subst c8
       have H1 : (if ((rd_T78 l0 x5_1).f0) ≥ ((rd_T78 l0 x5_1).f1) then (some false) else (if x5_1 > 0 then (if 0 ≤ (wrap64 (x5_1 - 1)) then (if (wrap64 (x5_1 - 1)) < (l0.length : Int) then ((spec_l2Edge.f ((rd_T78 l0 (wrap64 (x5_1 - 1))).f0) ((rd_T78 l0 (wrap64 (x5_1 - 1))).f1) ((rd_T78 l0 x5_1).f0) ((rd_T78 l0 x5_1).f1)).bind fun t141 => (if t141 = true then (spec_l2Pairs.l0 k1 l0 a1 (wrap64 (x5_1 + 1))) else (some false))) else (none)) else (none)) else (spec_l2Pairs.l0 k1 l0 a1 (wrap64 (x5_1 + 1))))) = some r := by rw [if_pos rfl] at H; exact H
       clear H
       have H := H1
       clear H1
       by_cases c9 : ((rd_T78 l0 x5_1).f0) ≥ ((rd_T78 l0 x5_1).f1)
       ·rw [if_pos c9] at H
        have c9b0 : decide (((rd_T78 l0 x5_1).f1) ≤ ((rd_T78 l0 x5_1).f0)) = true := decide_eq_true c9
        clear c9
        obtain rfl := Option.some.inj H
        have p136 : 0 ≤ (x5_1 : Int) := od_
        have q136 : x5_1 < (l0.length : Int) := od_
        obtain ⟨ad136, e136, hx136_0, hx136_1⟩ := at_T78 HR0.out x5_1 p136 q136
        cases e136
        replace hx136_0 := (HB.out.cell (World.block_lt_of_cell? w _ hx136_0)).trans hx136_0
        replace hx136_1 := (HB.out.cell (World.block_lt_of_cell? w _ hx136_1)).trans hx136_1
        replace p136 := eq_true p136
        replace q136 := eq_true q136
        try go_wp2_with (first | ((with_reducible refine gate_dst (N := 6) rfl ?_); refine box_event ?hg (N := 6) ?hd (cs := #[.int .i64 0, .int .i64 0]) (t := 78) ?hr ?_; (case hd => rfl); (case hg => rfl); (case hr => first | (go_simp; done) | (go_simp; rfl)); intro gb137 hg w10 hbox hb; have n_ := And.intro (Aside0.mk (below_step bl_ hb)) (And.intro (Aside0.mk (hbox)) (And.intro (Aside0.mk ((by rw [hg]; exact (below_size bl_) : w.heap.size ≤ gb137))) (Aside0.mk ((by rw [hg]; exact (below_size bl_) : w.heap.size ≤ gb137))))); clear HB; obtain ⟨HB, BK137, GW137, GE137⟩ := n_; clear hb hbox hg; have hcz11_0 : w10.cell? ⟨gb137, 0, none⟩ = some (.int .i64 0) := (blk_cell BK137.out 0).trans rfl; have hcz11_1 : w10.cell? ⟨gb137, 1, none⟩ = some (.int .i64 0) := (blk_cell BK137.out 1).trans rfl; have hfz11_0 := blk_frozen BK137.out 0; have hfz11_1 := blk_frozen BK137.out 1))
        have n0_ : Aside0 (((w10.setCell ⟨gb137, 0, none⟩ (.int .i64 ((rd_T78 l0 x5_1).f0))).setCell ⟨gb137, 1, none⟩ (.int .i64 ((rd_T78 l0 x5_1).f1))).heap[gb137]? = some (.cells #[.int .i64 ((rd_T78 l0 x5_1).f0), .int .i64 ((rd_T78 l0 x5_1).f1)] 78 (0, 0))) := ⟨by (with_reducible repeat (first | refine blk_drewN ?_ _ | refine blk_drew ?_ | refine blk_alloc ?_ _)); refine blk_put (cs := #[.int .i64 ((rd_T78 l0 x5_1).f0), .int .i64 0]) ?_ 1 _ rfl; (with_reducible repeat (first | refine blk_drewN ?_ _ | refine blk_drew ?_ | refine blk_alloc ?_ _)); refine blk_put (cs := #[.int .i64 0, .int .i64 0]) ?_ 0 _ rfl; (with_reducible repeat (first | refine blk_drewN ?_ _ | refine blk_drew ?_ | refine blk_alloc ?_ _)); exact BK137.out⟩
        have n1_ : Aside0 (Below w.heap.size w ((w10.setCell ⟨gb137, 0, none⟩ (.int .i64 ((rd_T78 l0 x5_1).f0))).setCell ⟨gb137, 1, none⟩ (.int .i64 ((rd_T78 l0 x5_1).f1)))) := ⟨by repeat (first | (with_reducible first | exact HB.out | apply below_alloc | apply pw_below_drewN | apply below_drew1 | refine below_set ?_ GE137.out) | exact HB.out)⟩
        (try clear BK137)
        (try clear HB)
        generalize ((w10.setCell ⟨gb137, 0, none⟩ (.int .i64 ((rd_T78 l0 x5_1).f0))).setCell ⟨gb137, 1, none⟩ (.int .i64 ((rd_T78 l0 x5_1).f1))) = w12 at n0_ n1_ ⊢
        have BK137 := n0_
        have HB := n1_
        clear n0_ n1_
        have n_ := And.intro (Aside0.mk (blk_drew BK137.out)) (Aside0.mk (below_drew1 HB.out))
        clear BK137 HB; obtain ⟨BK137, HB⟩ := n_
        refine start_ (n := 35) (S := fun w' => w'.cell? ⟨gb137, 0, none⟩ = some (.int .i64 ((rd_T78 l0 x5_1).f0)) ∧ w'.cell? ⟨gb137, 1, none⟩ = some (.int .i64 ((rd_T78 l0 x5_1).f1))) (ds := []) (bm 35 0) (by kernel_rfl) rfl rfl ⟨(blk_cell BK137.out 0).trans rfl, (blk_cell BK137.out 1).trans rfl⟩ (fun hHeld => ?_); refine with_tabW spec_l2Pairs.tab5 spec_l2Pairs.bits5 (fun HT_ HW_ => ?_)
        generalize w12.drew = w13 at BK137 HB hHeld ⊢
        refine pa_ 0 (some 17) (bm 35 1) rfl rfl HT_.out ?_
        refine pa_ 2 (some 19) (bm 35 5) rfl rfl HT_.out ?_
        refine pa_ 3 (some 20) (bm 35 13) rfl rfl HT_.out ?_
        refine take_ (i := 1) (N := some 18) (v := ?_) (a' := ?_) (bm 35 15) rfl rfl (take_ofW HT_.out HW_.out (by kernel_rfl)) (fun _ _ _ h => h) (Or.inl ⟨by rfl, ?_⟩) hHeld ?_ ?_
        rotate_left
        ·rintro w' ⟨s0, s1⟩
         go_simp
         with_reducible rfl
        rotate_left
        ·simp only [Act.put, List.setIfInBounds_toArray, List.set_cons_zero, List.set_cons_succ, i64_w, i32_w]
         rfl
        refine one_ (i := 4) (N := some 21) (bm 35 31) rfl rfl (one_of HT_.out (by kernel_rfl)) (by decide) (fun K hK => ?_)
        refine goes_ Try.func89 (by kernel_rfl) rfl #[.int .i64 ((rd_T78 l0 x5_1).f0), .int .i64 0, .int .i64 (wrap64 (a1 - 1))] (by rfl) rfl rfl (by (try simp only [List.map_toArray, List.map_cons, List.map_nil]); first | done | rfl | (simp only [List.length_drop, List.length_take]; rfl)) ?_
        with_reducible refine (spec_l1In.calls ((rd_T78 l0 x5_1).f0) 0 (wrap64 (a1 - 1)) true _ A5.out).mono ?_
        rintro e w' ⟨rfl, ⟨nd, rfl⟩⟩
        refine ⟨_, rfl, ?_⟩
        refine hK.out _ _ ⟨(blk_cell BK137.out 0).trans rfl, (blk_cell BK137.out 1).trans rfl⟩ (fun hHeld => ?_)
        clear hK K
        refine norm_ (a' := ?_) ?_ ?_
        rotate_left
        ·show Act.put _ (some 21) _ = _
         simp only [Act.put, List.setIfInBounds_toArray, List.set_cons_zero, List.set_cons_succ, i64_w, i32_w]
         rfl
        refine pa_ 5 (some 22) (bm 35 63) rfl rfl HT_.out ?_
        refine pa_ 6 (some 23) (bm 35 127) rfl rfl HT_.out ?_
        refine pa_ 7 (some 24) (bm 35 255) rfl rfl HT_.out ?_
        refine pa_ 9 (some 26) (bm 35 767) rfl rfl HT_.out ?_
        refine pa_ 10 (some 27) (bm 35 1791) rfl rfl HT_.out ?_
        refine take_ (i := 8) (N := some 25) (v := ?_) (a' := ?_) (bm 35 2047) rfl rfl (take_ofW HT_.out HW_.out (by kernel_rfl)) (fun _ _ _ h => h) (Or.inl ⟨by rfl, ?_⟩) hHeld ?_ ?_
        rotate_left
        ·rintro w' ⟨s0, s1⟩
         go_simp
         with_reducible rfl
        rotate_left
        ·simp only [Act.put, List.setIfInBounds_toArray, List.set_cons_zero, List.set_cons_succ, i64_w, i32_w]
         rfl
        refine one_ (i := 11) (N := some 28) (bm 35 4095) rfl rfl (one_of HT_.out (by kernel_rfl)) (by decide) (fun K hK => ?_)
        refine goes_ Try.func89 (by kernel_rfl) rfl #[.int .i64 ((rd_T78 l0 x5_1).f1), .int .i64 0, .int .i64 (wrap64 (a1 - 1))] (by rfl) rfl rfl (by (try simp only [List.map_toArray, List.map_cons, List.map_nil]); first | done | rfl | (simp only [List.length_drop, List.length_take]; rfl)) ?_
        with_reducible refine (spec_l1In.calls ((rd_T78 l0 x5_1).f1) 0 (wrap64 (a1 - 1)) true _ A7.out).mono ?_
        rintro e w' ⟨rfl, ⟨nd, rfl⟩⟩
        refine ⟨_, rfl, ?_⟩
        refine hK.out _ _ ⟨(blk_cell BK137.out 0).trans rfl, (blk_cell BK137.out 1).trans rfl⟩ (fun hHeld => ?_)
        clear hK K
        refine norm_ (a' := ?_) ?_ ?_
        rotate_left
        ·show Act.put _ (some 28) _ = _
         simp only [Act.put, List.setIfInBounds_toArray, List.set_cons_zero, List.set_cons_succ, i64_w, i32_w]
         rfl
        refine pa_ 12 (some 29) (bm 35 8191) rfl rfl HT_.out ?_
        refine pa_ 13 (some 30) (bm 35 16383) rfl rfl HT_.out ?_
        refine pa_ 14 (some 31) (bm 35 32767) rfl rfl HT_.out ?_
        refine pa_ 15 (some 32) (bm 35 65535) rfl rfl HT_.out ?_
        refine pa_ 17 (some 34) (bm 35 196607) rfl rfl HT_.out ?_
        refine take_ (i := 16) (N := some 33) (v := ?_) (a' := ?_) (bm 35 262143) rfl rfl (take_ofW HT_.out HW_.out (by kernel_rfl)) (fun _ _ _ h => h) (Or.inl ⟨by rfl, ?_⟩) hHeld ?_ ?_
        rotate_left
        ·rintro w' ⟨s0, s1⟩
         go_simp
         with_reducible rfl
        rotate_left
        ·simp only [Act.put, List.setIfInBounds_toArray, List.set_cons_zero, List.set_cons_succ, i64_w, i32_w]
         rfl
        refine take_ (i := 18) (N := some 35) (v := ?_) (a' := ?_) (bm 35 524287) rfl rfl (take_ofW HT_.out HW_.out (by kernel_rfl)) (fun _ _ _ h => h) (Or.inl ⟨by rfl, ?_⟩) hHeld ?_ ?_
        rotate_left
        ·rintro w' ⟨s0, s1⟩
         go_simp
         with_reducible rfl
        rotate_left
        ·simp only [Act.put, List.setIfInBounds_toArray, List.set_cons_zero, List.set_cons_succ, i64_w, i32_w]
         rfl
        refine pa_ 19 (some 36) (bm 35 1048575) rfl rfl HT_.out ?_
        refine pa_ 20 (some 37) (bm 35 2097151) rfl rfl HT_.out ?_
        refine pa_ 21 (some 38) (bm 35 4194303) rfl rfl HT_.out ?_
        refine pu_ 22 (some 39) (bm 35 8388607) rfl rfl HT_.out ?_
        refine pu_ 23 (some 40) (bm 35 16777215) rfl rfl HT_.out ?_
        refine pu_ 24 (some 41) (bm 35 33554431) rfl rfl HT_.out ?_
        refine pu_ 25 (some 42) (bm 35 67108863) rfl rfl HT_.out ?_
        refine pu_ 26 (some 43) (bm 35 134217727) rfl rfl HT_.out ?_
        refine pu_ 27 (some 44) (bm 35 268435455) rfl rfl HT_.out ?_
        refine pu_ 28 (some 45) (bm 35 536870911) rfl rfl HT_.out ?_
        refine pu_ 29 (some 46) (bm 35 1073741823) rfl rfl HT_.out ?_
        refine pu_ 30 (some 47) (bm 35 2147483647) rfl rfl HT_.out ?_
        refine pu_ 31 (some 48) (bm 35 4294967295) rfl rfl HT_.out ?_
        refine pu_ 32 (some 49) (bm 35 8589934591) rfl rfl HT_.out ?_
        refine pu_ 33 (some 50) (bm 35 17179869183) rfl rfl HT_.out ?_
        refine pa_ 34 (some 51) (bm 35 34359738367) rfl rfl HT_.out ?_
        refine done_ (done_of HT_.out (by kernel_rfl)) ?_
        try go_wp2
        go_ret
        exact ⟨by first | rfl | (simp [errW_none, errW_some] <;> rfl) | (simp [*, errW_none, errW_some] <;> rfl), by repeat (first | (with_reducible first | exact HB.out | apply below_alloc | apply pw_below_drewN | apply below_drew1 | refine below_set ?_ GE137.out) | exact HB.out)⟩
       ·rw [if_neg c9] at H
        have c9b0 : decide (((rd_T78 l0 x5_1).f1) ≤ ((rd_T78 l0 x5_1).f0)) = false := decide_eq_false c9
        clear c9
        by_cases c14 : x5_1 > 0
        ·rw [if_pos c14] at H
         have c14b0 : decide (0 < x5_1) = true := decide_eq_true c14
         clear c14
         obtain ⟨ji15, hji15⟩ : ∃ j_ : Int, (wrap64 (x5_1 - 1)) = j_ := ⟨_, rfl⟩
         replace H : (if 0 ≤ (ji15) then (if (ji15) < (l0.length : Int) then ((spec_l2Edge.f ((rd_T78 l0 (ji15)).f0) ((rd_T78 l0 (ji15)).f1) ((rd_T78 l0 x5_1).f0) ((rd_T78 l0 x5_1).f1)).bind fun t141 => (if t141 = true then (spec_l2Pairs.l0 k1 l0 a1 (wrap64 (x5_1 + 1))) else (some false))) else (none)) else (none)) = some r := by first | (rw [hji15] at H; exact H) | (simp only [hji15] at H ⊢; exact H)
         (try rw [hji15] at A5)
         (try rw [hji15] at A7)
         have hji15w : (IntKind.i64.wrap (x5_1 - 1)) = ji15 := (i64_w _).trans hji15
         by_cases c16 : 0 ≤ (ji15)
         ·rw [if_pos c16] at H
          have c16b0 : decide (0 ≤ (ji15)) = true := decide_eq_true c16
          clear c16
          (try have hjnx5_1_ji15 : (x5_1.toNat = ji15.toNat) = False := by (have h1_ := of_decide_eq_true c16b0; have h2_ := hji15; have h3_ := of_decide_eq_true c4b0; unfold wrap64 at h2_; exact eq_false (by omega)))
          (try have hjmx5_1_ji15 : (x5_1.toNat * 2 = ji15.toNat * 2) = False := by (have h1_ := of_decide_eq_true c16b0; have h2_ := hji15; have h3_ := of_decide_eq_true c4b0; unfold wrap64 at h2_; exact eq_false (by omega)))
          (try have hjnji15_x5_1 : (ji15.toNat = x5_1.toNat) = False := by (have h1_ := of_decide_eq_true c16b0; have h2_ := hji15; have h3_ := of_decide_eq_true c4b0; unfold wrap64 at h2_; exact eq_false (by omega)))
          (try have hjmji15_x5_1 : (ji15.toNat * 2 = x5_1.toNat * 2) = False := by (have h1_ := of_decide_eq_true c16b0; have h2_ := hji15; have h3_ := of_decide_eq_true c4b0; unfold wrap64 at h2_; exact eq_false (by omega)))
          by_cases c17 : (ji15) < (l0.length : Int)
          ·rw [if_pos c17] at H
           have c17b0 : decide ((ji15) < (l0.length : Int)) = true := decide_eq_true c17
           clear c17
           replace H := Option.bind_eq_some_iff.mp H
           obtain ⟨t141, A180, H⟩ := H
           (try dsimp only at H)
           have A18 := Aside0.mk A180
           clear A180
           by_cases c19 : t141 = true
           ·subst c19
            have H1 : (spec_l2Pairs.l0 k1 l0 a1 (wrap64 (x5_1 + 1))) = some r := by rw [if_pos rfl] at H; exact H
            clear H
            have H := H1
            clear H1
            have H' := Aside0.mk H
            clear H
            have p136 : 0 ≤ (x5_1 : Int) := od_
            have q136 : x5_1 < (l0.length : Int) := od_
            obtain ⟨ad136, e136, hx136_0, hx136_1⟩ := at_T78 HR0.out x5_1 p136 q136
            cases e136
            replace hx136_0 := (HB.out.cell (World.block_lt_of_cell? w _ hx136_0)).trans hx136_0
            replace hx136_1 := (HB.out.cell (World.block_lt_of_cell? w _ hx136_1)).trans hx136_1
            replace p136 := eq_true p136
            replace q136 := eq_true q136
            try go_wp2_with (first | ((with_reducible refine gate_dst (N := 6) rfl ?_); refine box_event ?hg (N := 6) ?hd (cs := #[.int .i64 0, .int .i64 0]) (t := 78) ?hr ?_; (case hd => rfl); (case hg => rfl); (case hr => first | (go_simp; done) | (go_simp; rfl)); intro gb137 hg w20 hbox hb; have n_ := And.intro (Aside0.mk (below_step bl_ hb)) (And.intro (Aside0.mk (hbox)) (And.intro (Aside0.mk ((by rw [hg]; exact (below_size bl_) : w.heap.size ≤ gb137))) (Aside0.mk ((by rw [hg]; exact (below_size bl_) : w.heap.size ≤ gb137))))); clear HB; obtain ⟨HB, BK137, GW137, GE137⟩ := n_; clear hb hbox hg; have hcz21_0 : w20.cell? ⟨gb137, 0, none⟩ = some (.int .i64 0) := (blk_cell BK137.out 0).trans rfl; have hcz21_1 : w20.cell? ⟨gb137, 1, none⟩ = some (.int .i64 0) := (blk_cell BK137.out 1).trans rfl; have hfz21_0 := blk_frozen BK137.out 0; have hfz21_1 := blk_frozen BK137.out 1))
            have n0_ : Aside0 (((w20.setCell ⟨gb137, 0, none⟩ (.int .i64 ((rd_T78 l0 x5_1).f0))).setCell ⟨gb137, 1, none⟩ (.int .i64 ((rd_T78 l0 x5_1).f1))).heap[gb137]? = some (.cells #[.int .i64 ((rd_T78 l0 x5_1).f0), .int .i64 ((rd_T78 l0 x5_1).f1)] 78 (0, 0))) := ⟨by (with_reducible repeat (first | refine blk_drewN ?_ _ | refine blk_drew ?_ | refine blk_alloc ?_ _)); refine blk_put (cs := #[.int .i64 ((rd_T78 l0 x5_1).f0), .int .i64 0]) ?_ 1 _ rfl; (with_reducible repeat (first | refine blk_drewN ?_ _ | refine blk_drew ?_ | refine blk_alloc ?_ _)); refine blk_put (cs := #[.int .i64 0, .int .i64 0]) ?_ 0 _ rfl; (with_reducible repeat (first | refine blk_drewN ?_ _ | refine blk_drew ?_ | refine blk_alloc ?_ _)); exact BK137.out⟩
            have n1_ : Aside0 (Below w.heap.size w ((w20.setCell ⟨gb137, 0, none⟩ (.int .i64 ((rd_T78 l0 x5_1).f0))).setCell ⟨gb137, 1, none⟩ (.int .i64 ((rd_T78 l0 x5_1).f1)))) := ⟨by repeat (first | (with_reducible first | exact HB.out | apply below_alloc | apply pw_below_drewN | apply below_drew1 | refine below_set ?_ GE137.out) | exact HB.out)⟩
            (try clear BK137)
            (try clear HB)
            generalize ((w20.setCell ⟨gb137, 0, none⟩ (.int .i64 ((rd_T78 l0 x5_1).f0))).setCell ⟨gb137, 1, none⟩ (.int .i64 ((rd_T78 l0 x5_1).f1))) = w22 at n0_ n1_ ⊢
            have BK137 := n0_
            have HB := n1_
            clear n0_ n1_
            have n_ := And.intro (Aside0.mk (blk_drew BK137.out)) (Aside0.mk (below_drew1 HB.out))
            clear BK137 HB; obtain ⟨BK137, HB⟩ := n_
            have p140 : 0 ≤ ((ji15) : Int) := od_
            have q140 : (ji15) < (l0.length : Int) := od_
            obtain ⟨ad140, e140, hx140_0, hx140_1⟩ := at_T78 HR0.out (ji15) p140 q140
            have hw140_1 := hx140_1
            have hw140_0 := hx140_0
            obtain rfl : ad136 = ad140 := (by injection e140)
            replace hx140_0 := (HB.out.cell (World.block_lt_of_cell? w _ hx140_0)).trans hx140_0
            replace hx140_1 := (HB.out.cell (World.block_lt_of_cell? w _ hx140_1)).trans hx140_1
            replace p140 := eq_true p140
            replace q140 := eq_true q140
            refine start_ (n := 35) (S := fun w' => w'.cell? ⟨gb137, 0, none⟩ = some (.int .i64 ((rd_T78 l0 x5_1).f0)) ∧ w'.cell? ⟨gb137, 1, none⟩ = some (.int .i64 ((rd_T78 l0 x5_1).f1)) ∧ w'.cell? (ad136.add (((ji15)).toNat * 2)) = some (.int .i64 ((rd_T78 l0 (ji15)).f0)) ∧ w'.cell? ⟨(ad136.add (((ji15)).toNat * 2)).block, (ad136.add (((ji15)).toNat * 2)).off + 1, none⟩ = some (.int .i64 ((rd_T78 l0 (ji15)).f1))) (ds := []) (bm 35 0) (by kernel_rfl) rfl rfl ⟨(blk_cell BK137.out 0).trans rfl, (blk_cell BK137.out 1).trans rfl, ((HB.out.cell (World.block_lt_of_cell? w _ hw140_0)).trans hw140_0), ((HB.out.cell (World.block_lt_of_cell? w _ hw140_1)).trans hw140_1)⟩ (fun hHeld => ?_); refine with_tabW spec_l2Pairs.tab5 spec_l2Pairs.bits5 (fun HT_ HW_ => ?_)
            generalize w22.drew = w23 at BK137 HB hx140_0 hx140_1 hHeld ⊢
            refine pa_ 0 (some 17) (bm 35 1) rfl rfl HT_.out ?_
            refine pa_ 2 (some 19) (bm 35 5) rfl rfl HT_.out ?_
            refine pa_ 3 (some 20) (bm 35 13) rfl rfl HT_.out ?_
            refine take_ (i := 1) (N := some 18) (v := ?_) (a' := ?_) (bm 35 15) rfl rfl (take_ofW HT_.out HW_.out (by kernel_rfl)) (fun _ _ _ h => h) (Or.inl ⟨by rfl, ?_⟩) hHeld ?_ ?_
            rotate_left
            ·rintro w' ⟨s0, s1, s2, s3⟩
             go_simp
             with_reducible rfl
            rotate_left
            ·simp only [Act.put, List.setIfInBounds_toArray, List.set_cons_zero, List.set_cons_succ, i64_w, i32_w]
             rfl
            refine one_ (i := 4) (N := some 21) (bm 35 31) rfl rfl (one_of HT_.out (by kernel_rfl)) (by decide) (fun K hK => ?_)
            refine goes_ Try.func89 (by kernel_rfl) rfl #[.int .i64 ((rd_T78 l0 x5_1).f0), .int .i64 0, .int .i64 (wrap64 (a1 - 1))] (by rfl) rfl rfl (by (try simp only [List.map_toArray, List.map_cons, List.map_nil]); first | done | rfl | (simp only [List.length_drop, List.length_take]; rfl)) ?_
            with_reducible refine (spec_l1In.calls ((rd_T78 l0 x5_1).f0) 0 (wrap64 (a1 - 1)) true _ A5.out).mono ?_
            rintro e w' ⟨rfl, ⟨nd, rfl⟩⟩
            refine ⟨_, rfl, ?_⟩
            refine hK.out _ _ ⟨(blk_cell BK137.out 0).trans rfl, (blk_cell BK137.out 1).trans rfl, ((HB.out.cell (World.block_lt_of_cell? w _ hw140_0)).trans hw140_0), ((HB.out.cell (World.block_lt_of_cell? w _ hw140_1)).trans hw140_1)⟩ (fun hHeld => ?_)
            clear hK K
            refine norm_ (a' := ?_) ?_ ?_
            rotate_left
            ·show Act.put _ (some 21) _ = _
             simp only [Act.put, List.setIfInBounds_toArray, List.set_cons_zero, List.set_cons_succ, i64_w, i32_w]
             rfl
            refine pa_ 5 (some 22) (bm 35 63) rfl rfl HT_.out ?_
            refine pa_ 6 (some 23) (bm 35 127) rfl rfl HT_.out ?_
            refine pa_ 7 (some 24) (bm 35 255) rfl rfl HT_.out ?_
            refine pa_ 9 (some 26) (bm 35 767) rfl rfl HT_.out ?_
            refine pa_ 10 (some 27) (bm 35 1791) rfl rfl HT_.out ?_
            refine take_ (i := 8) (N := some 25) (v := ?_) (a' := ?_) (bm 35 2047) rfl rfl (take_ofW HT_.out HW_.out (by kernel_rfl)) (fun _ _ _ h => h) (Or.inl ⟨by rfl, ?_⟩) hHeld ?_ ?_
            rotate_left
            ·rintro w' ⟨s0, s1, s2, s3⟩
             go_simp
             with_reducible rfl
            rotate_left
            ·simp only [Act.put, List.setIfInBounds_toArray, List.set_cons_zero, List.set_cons_succ, i64_w, i32_w]
             rfl
            refine one_ (i := 11) (N := some 28) (bm 35 4095) rfl rfl (one_of HT_.out (by kernel_rfl)) (by decide) (fun K hK => ?_)
            refine goes_ Try.func89 (by kernel_rfl) rfl #[.int .i64 ((rd_T78 l0 x5_1).f1), .int .i64 0, .int .i64 (wrap64 (a1 - 1))] (by rfl) rfl rfl (by (try simp only [List.map_toArray, List.map_cons, List.map_nil]); first | done | rfl | (simp only [List.length_drop, List.length_take]; rfl)) ?_
            with_reducible refine (spec_l1In.calls ((rd_T78 l0 x5_1).f1) 0 (wrap64 (a1 - 1)) true _ A7.out).mono ?_
            rintro e w' ⟨rfl, ⟨nd, rfl⟩⟩
            refine ⟨_, rfl, ?_⟩
            refine hK.out _ _ ⟨(blk_cell BK137.out 0).trans rfl, (blk_cell BK137.out 1).trans rfl, ((HB.out.cell (World.block_lt_of_cell? w _ hw140_0)).trans hw140_0), ((HB.out.cell (World.block_lt_of_cell? w _ hw140_1)).trans hw140_1)⟩ (fun hHeld => ?_)
            clear hK K
            refine norm_ (a' := ?_) ?_ ?_
            rotate_left
            ·show Act.put _ (some 28) _ = _
             simp only [Act.put, List.setIfInBounds_toArray, List.set_cons_zero, List.set_cons_succ, i64_w, i32_w]
             rfl
            refine pa_ 12 (some 29) (bm 35 8191) rfl rfl HT_.out ?_
            refine pa_ 13 (some 30) (bm 35 16383) rfl rfl HT_.out ?_
            refine pa_ 14 (some 31) (bm 35 32767) rfl rfl HT_.out ?_
            refine pa_ 15 (some 32) (bm 35 65535) rfl rfl HT_.out ?_
            refine pa_ 17 (some 34) (bm 35 196607) rfl rfl HT_.out ?_
            refine take_ (i := 16) (N := some 33) (v := ?_) (a' := ?_) (bm 35 262143) rfl rfl (take_ofW HT_.out HW_.out (by kernel_rfl)) (fun _ _ _ h => h) (Or.inl ⟨by rfl, ?_⟩) hHeld ?_ ?_
            rotate_left
            ·rintro w' ⟨s0, s1, s2, s3⟩
             go_simp
             with_reducible rfl
            rotate_left
            ·simp only [Act.put, List.setIfInBounds_toArray, List.set_cons_zero, List.set_cons_succ, i64_w, i32_w]
             rfl
            refine take_ (i := 18) (N := some 35) (v := ?_) (a' := ?_) (bm 35 524287) rfl rfl (take_ofW HT_.out HW_.out (by kernel_rfl)) (fun _ _ _ h => h) (Or.inl ⟨by rfl, ?_⟩) hHeld ?_ ?_
            rotate_left
            ·rintro w' ⟨s0, s1, s2, s3⟩
             go_simp
             with_reducible rfl
            rotate_left
            ·simp only [Act.put, List.setIfInBounds_toArray, List.set_cons_zero, List.set_cons_succ, i64_w, i32_w]
             rfl
            refine pa_ 19 (some 36) (bm 35 1048575) rfl rfl HT_.out ?_
            refine pa_ 20 (some 37) (bm 35 2097151) rfl rfl HT_.out ?_
            refine pa_ 21 (some 38) (bm 35 4194303) rfl rfl HT_.out ?_
            refine pa_ 22 (some 39) (bm 35 8388607) rfl rfl HT_.out ?_
            refine pa_ 23 (some 40) (bm 35 16777215) rfl rfl HT_.out ?_
            refine pa_ 24 (some 41) (bm 35 33554431) rfl rfl HT_.out ?_
            refine pa_ 25 (some 42) (bm 35 67108863) rfl rfl HT_.out ?_
            refine pa_ 26 (some 43) (bm 35 134217727) rfl rfl HT_.out ?_
            refine pa_ 27 (some 44) (bm 35 268435455) rfl rfl HT_.out ?_
            refine pa_ 28 (some 45) (bm 35 536870911) rfl rfl HT_.out ?_
            refine take_ (i := 29) (N := some 46) (v := ?_) (a' := ?_) (bm 35 1073741823) rfl rfl (take_ofW HT_.out HW_.out (by kernel_rfl)) (fun _ _ _ h => h) (Or.inl ⟨by rfl, ?_⟩) hHeld ?_ ?_
            rotate_left
            ·rintro w' ⟨s0, s1, s2, s3⟩
             go_simp
             with_reducible rfl
            rotate_left
            ·simp only [Act.put, List.setIfInBounds_toArray, List.set_cons_zero, List.set_cons_succ, i64_w, i32_w]
             rfl
            refine take_ (i := 30) (N := some 47) (v := ?_) (a' := ?_) (bm 35 2147483647) rfl rfl (take_ofW HT_.out HW_.out (by kernel_rfl)) (fun _ _ _ h => h) (Or.inl ⟨by rfl, ?_⟩) hHeld ?_ ?_
            rotate_left
            ·rintro w' ⟨s0, s1, s2, s3⟩
             go_simp
             with_reducible rfl
            rotate_left
            ·simp only [Act.put, List.setIfInBounds_toArray, List.set_cons_zero, List.set_cons_succ, i64_w, i32_w]
             rfl
            refine one_ (i := 31) (N := some 48) (bm 35 4294967295) rfl rfl (one_of HT_.out (by kernel_rfl)) (by decide) (fun K hK => ?_)
            refine goes_ Try.func141 (by kernel_rfl) rfl #[.agg #[.int .i64 ((rd_T78 l0 (ji15)).f0), .int .i64 ((rd_T78 l0 (ji15)).f1)], .agg #[.int .i64 ((rd_T78 l0 x5_1).f0), .int .i64 ((rd_T78 l0 x5_1).f1)]] (by rfl) rfl rfl (by (try simp only [List.map_toArray, List.map_cons, List.map_nil]); first | done | (simp only [hji15]; rfl) | rfl | (simp only [List.length_drop, List.length_take]; rfl)) ?_
            with_reducible refine (spec_l2Edge.calls ((rd_T78 l0 (ji15)).f0) ((rd_T78 l0 (ji15)).f1) ((rd_T78 l0 x5_1).f0) ((rd_T78 l0 x5_1).f1) true _ A18.out).mono ?_
            rintro e w24 ⟨rfl, hb⟩
            refine ⟨_, rfl, ?_⟩
            have n_ := And.intro (Aside0.mk (blk_below (g := gb137) (o := .cells #[.int .i64 ((rd_T78 l0 x5_1).f0), .int .i64 ((rd_T78 l0 x5_1).f1)] 78 (0, 0)) (bk_ BK137) hb)) (Aside0.mk (below_step bg_ hb))
            clear BK137 HB; obtain ⟨BK137, HB⟩ := n_
            (try clear hb)
            (try clear hb2)
            (try clear hk)
            (try clear hi)
            refine hK.out _ _ ⟨(blk_cell BK137.out 0).trans rfl, (blk_cell BK137.out 1).trans rfl, ((HB.out.cell (World.block_lt_of_cell? w _ hw140_0)).trans hw140_0), ((HB.out.cell (World.block_lt_of_cell? w _ hw140_1)).trans hw140_1)⟩ (fun hHeld => ?_)
            clear hK K
            refine norm_ (a' := ?_) ?_ ?_
            rotate_left
            ·show Act.put _ (some 48) _ = _
             simp only [Act.put, List.setIfInBounds_toArray, List.set_cons_zero, List.set_cons_succ, i64_w, i32_w]
             rfl
            refine pa_ 32 (some 49) (bm 35 8589934591) rfl rfl HT_.out ?_
            refine pa_ 33 (some 50) (bm 35 17179869183) rfl rfl HT_.out ?_
            refine pa_ 34 (some 51) (bm 35 34359738367) rfl rfl HT_.out ?_
            refine done_ (done_of HT_.out (by kernel_rfl)) ?_
            try go_wp2
            go_roundg k1
            case measure => have := HK1.out; omega
            case rel => exact ⟨(wrap64 (x5_1 + 1)), (by first | rfl | (simp; done) | (simp [*]; done)), H', ⟨by have := HK1.out; omega⟩, ⟨by repeat (first | (with_reducible first | exact HB.out | apply below_alloc | apply pw_below_drewN | apply below_drew1 | refine below_set ?_ GE137.out) | exact HB.out)⟩⟩
           ·replace c19 := Bool.eq_false_iff.mpr c19
            subst c19
            have H1 : (some false) = some r := by rw [if_neg (show ¬ (false = true) by decide)] at H; exact H
            clear H
            have H := H1
            clear H1
            obtain rfl := Option.some.inj H
            have p136 : 0 ≤ (x5_1 : Int) := od_
            have q136 : x5_1 < (l0.length : Int) := od_
            obtain ⟨ad136, e136, hx136_0, hx136_1⟩ := at_T78 HR0.out x5_1 p136 q136
            cases e136
            replace hx136_0 := (HB.out.cell (World.block_lt_of_cell? w _ hx136_0)).trans hx136_0
            replace hx136_1 := (HB.out.cell (World.block_lt_of_cell? w _ hx136_1)).trans hx136_1
            replace p136 := eq_true p136
            replace q136 := eq_true q136
            try go_wp2_with (first | ((with_reducible refine gate_dst (N := 6) rfl ?_); refine box_event ?hg (N := 6) ?hd (cs := #[.int .i64 0, .int .i64 0]) (t := 78) ?hr ?_; (case hd => rfl); (case hg => rfl); (case hr => first | (go_simp; done) | (go_simp; rfl)); intro gb137 hg w25 hbox hb; have n_ := And.intro (Aside0.mk (below_step bl_ hb)) (And.intro (Aside0.mk (hbox)) (And.intro (Aside0.mk ((by rw [hg]; exact (below_size bl_) : w.heap.size ≤ gb137))) (Aside0.mk ((by rw [hg]; exact (below_size bl_) : w.heap.size ≤ gb137))))); clear HB; obtain ⟨HB, BK137, GW137, GE137⟩ := n_; clear hb hbox hg; have hcz26_0 : w25.cell? ⟨gb137, 0, none⟩ = some (.int .i64 0) := (blk_cell BK137.out 0).trans rfl; have hcz26_1 : w25.cell? ⟨gb137, 1, none⟩ = some (.int .i64 0) := (blk_cell BK137.out 1).trans rfl; have hfz26_0 := blk_frozen BK137.out 0; have hfz26_1 := blk_frozen BK137.out 1))
            have n0_ : Aside0 (((w25.setCell ⟨gb137, 0, none⟩ (.int .i64 ((rd_T78 l0 x5_1).f0))).setCell ⟨gb137, 1, none⟩ (.int .i64 ((rd_T78 l0 x5_1).f1))).heap[gb137]? = some (.cells #[.int .i64 ((rd_T78 l0 x5_1).f0), .int .i64 ((rd_T78 l0 x5_1).f1)] 78 (0, 0))) := ⟨by (with_reducible repeat (first | refine blk_drewN ?_ _ | refine blk_drew ?_ | refine blk_alloc ?_ _)); refine blk_put (cs := #[.int .i64 ((rd_T78 l0 x5_1).f0), .int .i64 0]) ?_ 1 _ rfl; (with_reducible repeat (first | refine blk_drewN ?_ _ | refine blk_drew ?_ | refine blk_alloc ?_ _)); refine blk_put (cs := #[.int .i64 0, .int .i64 0]) ?_ 0 _ rfl; (with_reducible repeat (first | refine blk_drewN ?_ _ | refine blk_drew ?_ | refine blk_alloc ?_ _)); exact BK137.out⟩
            have n1_ : Aside0 (Below w.heap.size w ((w25.setCell ⟨gb137, 0, none⟩ (.int .i64 ((rd_T78 l0 x5_1).f0))).setCell ⟨gb137, 1, none⟩ (.int .i64 ((rd_T78 l0 x5_1).f1)))) := ⟨by repeat (first | (with_reducible first | exact HB.out | apply below_alloc | apply pw_below_drewN | apply below_drew1 | refine below_set ?_ GE137.out) | exact HB.out)⟩
            (try clear BK137)
            (try clear HB)
            generalize ((w25.setCell ⟨gb137, 0, none⟩ (.int .i64 ((rd_T78 l0 x5_1).f0))).setCell ⟨gb137, 1, none⟩ (.int .i64 ((rd_T78 l0 x5_1).f1))) = w27 at n0_ n1_ ⊢
            have BK137 := n0_
            have HB := n1_
            clear n0_ n1_
            have n_ := And.intro (Aside0.mk (blk_drew BK137.out)) (Aside0.mk (below_drew1 HB.out))
            clear BK137 HB; obtain ⟨BK137, HB⟩ := n_
            have p140 : 0 ≤ ((ji15) : Int) := od_
            have q140 : (ji15) < (l0.length : Int) := od_
            obtain ⟨ad140, e140, hx140_0, hx140_1⟩ := at_T78 HR0.out (ji15) p140 q140
            have hw140_1 := hx140_1
            have hw140_0 := hx140_0
            obtain rfl : ad136 = ad140 := (by injection e140)
            replace hx140_0 := (HB.out.cell (World.block_lt_of_cell? w _ hx140_0)).trans hx140_0
            replace hx140_1 := (HB.out.cell (World.block_lt_of_cell? w _ hx140_1)).trans hx140_1
            replace p140 := eq_true p140
            replace q140 := eq_true q140
            refine start_ (n := 35) (S := fun w' => w'.cell? ⟨gb137, 0, none⟩ = some (.int .i64 ((rd_T78 l0 x5_1).f0)) ∧ w'.cell? ⟨gb137, 1, none⟩ = some (.int .i64 ((rd_T78 l0 x5_1).f1)) ∧ w'.cell? (ad136.add (((ji15)).toNat * 2)) = some (.int .i64 ((rd_T78 l0 (ji15)).f0)) ∧ w'.cell? ⟨(ad136.add (((ji15)).toNat * 2)).block, (ad136.add (((ji15)).toNat * 2)).off + 1, none⟩ = some (.int .i64 ((rd_T78 l0 (ji15)).f1))) (ds := []) (bm 35 0) (by kernel_rfl) rfl rfl ⟨(blk_cell BK137.out 0).trans rfl, (blk_cell BK137.out 1).trans rfl, ((HB.out.cell (World.block_lt_of_cell? w _ hw140_0)).trans hw140_0), ((HB.out.cell (World.block_lt_of_cell? w _ hw140_1)).trans hw140_1)⟩ (fun hHeld => ?_); refine with_tabW spec_l2Pairs.tab5 spec_l2Pairs.bits5 (fun HT_ HW_ => ?_)
            generalize w27.drew = w28 at BK137 HB hx140_0 hx140_1 hHeld ⊢
            refine pa_ 0 (some 17) (bm 35 1) rfl rfl HT_.out ?_
            refine pa_ 2 (some 19) (bm 35 5) rfl rfl HT_.out ?_
            refine pa_ 3 (some 20) (bm 35 13) rfl rfl HT_.out ?_
            refine take_ (i := 1) (N := some 18) (v := ?_) (a' := ?_) (bm 35 15) rfl rfl (take_ofW HT_.out HW_.out (by kernel_rfl)) (fun _ _ _ h => h) (Or.inl ⟨by rfl, ?_⟩) hHeld ?_ ?_
            rotate_left
            ·rintro w' ⟨s0, s1, s2, s3⟩
             go_simp
             with_reducible rfl
            rotate_left
            ·simp only [Act.put, List.setIfInBounds_toArray, List.set_cons_zero, List.set_cons_succ, i64_w, i32_w]
             rfl
            refine one_ (i := 4) (N := some 21) (bm 35 31) rfl rfl (one_of HT_.out (by kernel_rfl)) (by decide) (fun K hK => ?_)
            refine goes_ Try.func89 (by kernel_rfl) rfl #[.int .i64 ((rd_T78 l0 x5_1).f0), .int .i64 0, .int .i64 (wrap64 (a1 - 1))] (by rfl) rfl rfl (by (try simp only [List.map_toArray, List.map_cons, List.map_nil]); first | done | rfl | (simp only [List.length_drop, List.length_take]; rfl)) ?_
            with_reducible refine (spec_l1In.calls ((rd_T78 l0 x5_1).f0) 0 (wrap64 (a1 - 1)) true _ A5.out).mono ?_
            rintro e w' ⟨rfl, ⟨nd, rfl⟩⟩
            refine ⟨_, rfl, ?_⟩
            refine hK.out _ _ ⟨(blk_cell BK137.out 0).trans rfl, (blk_cell BK137.out 1).trans rfl, ((HB.out.cell (World.block_lt_of_cell? w _ hw140_0)).trans hw140_0), ((HB.out.cell (World.block_lt_of_cell? w _ hw140_1)).trans hw140_1)⟩ (fun hHeld => ?_)
            clear hK K
            refine norm_ (a' := ?_) ?_ ?_
            rotate_left
            ·show Act.put _ (some 21) _ = _
             simp only [Act.put, List.setIfInBounds_toArray, List.set_cons_zero, List.set_cons_succ, i64_w, i32_w]
             rfl
            refine pa_ 5 (some 22) (bm 35 63) rfl rfl HT_.out ?_
            refine pa_ 6 (some 23) (bm 35 127) rfl rfl HT_.out ?_
            refine pa_ 7 (some 24) (bm 35 255) rfl rfl HT_.out ?_
            refine pa_ 9 (some 26) (bm 35 767) rfl rfl HT_.out ?_
            refine pa_ 10 (some 27) (bm 35 1791) rfl rfl HT_.out ?_
            refine take_ (i := 8) (N := some 25) (v := ?_) (a' := ?_) (bm 35 2047) rfl rfl (take_ofW HT_.out HW_.out (by kernel_rfl)) (fun _ _ _ h => h) (Or.inl ⟨by rfl, ?_⟩) hHeld ?_ ?_
            rotate_left
            ·rintro w' ⟨s0, s1, s2, s3⟩
             go_simp
             with_reducible rfl
            rotate_left
            ·simp only [Act.put, List.setIfInBounds_toArray, List.set_cons_zero, List.set_cons_succ, i64_w, i32_w]
             rfl
            refine one_ (i := 11) (N := some 28) (bm 35 4095) rfl rfl (one_of HT_.out (by kernel_rfl)) (by decide) (fun K hK => ?_)
            refine goes_ Try.func89 (by kernel_rfl) rfl #[.int .i64 ((rd_T78 l0 x5_1).f1), .int .i64 0, .int .i64 (wrap64 (a1 - 1))] (by rfl) rfl rfl (by (try simp only [List.map_toArray, List.map_cons, List.map_nil]); first | done | rfl | (simp only [List.length_drop, List.length_take]; rfl)) ?_
            with_reducible refine (spec_l1In.calls ((rd_T78 l0 x5_1).f1) 0 (wrap64 (a1 - 1)) true _ A7.out).mono ?_
            rintro e w' ⟨rfl, ⟨nd, rfl⟩⟩
            refine ⟨_, rfl, ?_⟩
            refine hK.out _ _ ⟨(blk_cell BK137.out 0).trans rfl, (blk_cell BK137.out 1).trans rfl, ((HB.out.cell (World.block_lt_of_cell? w _ hw140_0)).trans hw140_0), ((HB.out.cell (World.block_lt_of_cell? w _ hw140_1)).trans hw140_1)⟩ (fun hHeld => ?_)
            clear hK K
            refine norm_ (a' := ?_) ?_ ?_
            rotate_left
            ·show Act.put _ (some 28) _ = _
             simp only [Act.put, List.setIfInBounds_toArray, List.set_cons_zero, List.set_cons_succ, i64_w, i32_w]
             rfl
            refine pa_ 12 (some 29) (bm 35 8191) rfl rfl HT_.out ?_
            refine pa_ 13 (some 30) (bm 35 16383) rfl rfl HT_.out ?_
            refine pa_ 14 (some 31) (bm 35 32767) rfl rfl HT_.out ?_
            refine pa_ 15 (some 32) (bm 35 65535) rfl rfl HT_.out ?_
            refine pa_ 17 (some 34) (bm 35 196607) rfl rfl HT_.out ?_
            refine take_ (i := 16) (N := some 33) (v := ?_) (a' := ?_) (bm 35 262143) rfl rfl (take_ofW HT_.out HW_.out (by kernel_rfl)) (fun _ _ _ h => h) (Or.inl ⟨by rfl, ?_⟩) hHeld ?_ ?_
            rotate_left
            ·rintro w' ⟨s0, s1, s2, s3⟩
             go_simp
             with_reducible rfl
            rotate_left
            ·simp only [Act.put, List.setIfInBounds_toArray, List.set_cons_zero, List.set_cons_succ, i64_w, i32_w]
             rfl
            refine take_ (i := 18) (N := some 35) (v := ?_) (a' := ?_) (bm 35 524287) rfl rfl (take_ofW HT_.out HW_.out (by kernel_rfl)) (fun _ _ _ h => h) (Or.inl ⟨by rfl, ?_⟩) hHeld ?_ ?_
            rotate_left
            ·rintro w' ⟨s0, s1, s2, s3⟩
             go_simp
             with_reducible rfl
            rotate_left
            ·simp only [Act.put, List.setIfInBounds_toArray, List.set_cons_zero, List.set_cons_succ, i64_w, i32_w]
             rfl
            refine pa_ 19 (some 36) (bm 35 1048575) rfl rfl HT_.out ?_
            refine pa_ 20 (some 37) (bm 35 2097151) rfl rfl HT_.out ?_
            refine pa_ 21 (some 38) (bm 35 4194303) rfl rfl HT_.out ?_
            refine pa_ 22 (some 39) (bm 35 8388607) rfl rfl HT_.out ?_
            refine pa_ 23 (some 40) (bm 35 16777215) rfl rfl HT_.out ?_
            refine pa_ 24 (some 41) (bm 35 33554431) rfl rfl HT_.out ?_
            refine pa_ 25 (some 42) (bm 35 67108863) rfl rfl HT_.out ?_
            refine pa_ 26 (some 43) (bm 35 134217727) rfl rfl HT_.out ?_
            refine pa_ 27 (some 44) (bm 35 268435455) rfl rfl HT_.out ?_
            refine pa_ 28 (some 45) (bm 35 536870911) rfl rfl HT_.out ?_
            refine take_ (i := 29) (N := some 46) (v := ?_) (a' := ?_) (bm 35 1073741823) rfl rfl (take_ofW HT_.out HW_.out (by kernel_rfl)) (fun _ _ _ h => h) (Or.inl ⟨by rfl, ?_⟩) hHeld ?_ ?_
            rotate_left
            ·rintro w' ⟨s0, s1, s2, s3⟩
             go_simp
             with_reducible rfl
            rotate_left
            ·simp only [Act.put, List.setIfInBounds_toArray, List.set_cons_zero, List.set_cons_succ, i64_w, i32_w]
             rfl
            refine take_ (i := 30) (N := some 47) (v := ?_) (a' := ?_) (bm 35 2147483647) rfl rfl (take_ofW HT_.out HW_.out (by kernel_rfl)) (fun _ _ _ h => h) (Or.inl ⟨by rfl, ?_⟩) hHeld ?_ ?_
            rotate_left
            ·rintro w' ⟨s0, s1, s2, s3⟩
             go_simp
             with_reducible rfl
            rotate_left
            ·simp only [Act.put, List.setIfInBounds_toArray, List.set_cons_zero, List.set_cons_succ, i64_w, i32_w]
             rfl
            refine one_ (i := 31) (N := some 48) (bm 35 4294967295) rfl rfl (one_of HT_.out (by kernel_rfl)) (by decide) (fun K hK => ?_)
            refine goes_ Try.func141 (by kernel_rfl) rfl #[.agg #[.int .i64 ((rd_T78 l0 (ji15)).f0), .int .i64 ((rd_T78 l0 (ji15)).f1)], .agg #[.int .i64 ((rd_T78 l0 x5_1).f0), .int .i64 ((rd_T78 l0 x5_1).f1)]] (by rfl) rfl rfl (by (try simp only [List.map_toArray, List.map_cons, List.map_nil]); first | done | (simp only [hji15]; rfl) | rfl | (simp only [List.length_drop, List.length_take]; rfl)) ?_
            with_reducible refine (spec_l2Edge.calls ((rd_T78 l0 (ji15)).f0) ((rd_T78 l0 (ji15)).f1) ((rd_T78 l0 x5_1).f0) ((rd_T78 l0 x5_1).f1) false _ A18.out).mono ?_
            rintro e w29 ⟨rfl, hb⟩
            refine ⟨_, rfl, ?_⟩
            have n_ := And.intro (Aside0.mk (blk_below (g := gb137) (o := .cells #[.int .i64 ((rd_T78 l0 x5_1).f0), .int .i64 ((rd_T78 l0 x5_1).f1)] 78 (0, 0)) (bk_ BK137) hb)) (Aside0.mk (below_step bg_ hb))
            clear BK137 HB; obtain ⟨BK137, HB⟩ := n_
            (try clear hb)
            (try clear hb2)
            (try clear hk)
            (try clear hi)
            refine hK.out _ _ ⟨(blk_cell BK137.out 0).trans rfl, (blk_cell BK137.out 1).trans rfl, ((HB.out.cell (World.block_lt_of_cell? w _ hw140_0)).trans hw140_0), ((HB.out.cell (World.block_lt_of_cell? w _ hw140_1)).trans hw140_1)⟩ (fun hHeld => ?_)
            clear hK K
            refine norm_ (a' := ?_) ?_ ?_
            rotate_left
            ·show Act.put _ (some 48) _ = _
             simp only [Act.put, List.setIfInBounds_toArray, List.set_cons_zero, List.set_cons_succ, i64_w, i32_w]
             rfl
            refine pa_ 32 (some 49) (bm 35 8589934591) rfl rfl HT_.out ?_
            refine pa_ 33 (some 50) (bm 35 17179869183) rfl rfl HT_.out ?_
            refine pa_ 34 (some 51) (bm 35 34359738367) rfl rfl HT_.out ?_
            refine done_ (done_of HT_.out (by kernel_rfl)) ?_
            try go_wp2
            go_ret
            exact ⟨by first | rfl | (simp [errW_none, errW_some] <;> rfl) | (simp only [← hji15]; first | rfl | (simp [errW_none, errW_some] <;> rfl)) | (simp [*, errW_none, errW_some] <;> rfl), by repeat (first | (with_reducible first | exact HB.out | apply below_alloc | apply pw_below_drewN | apply below_drew1 | refine below_set ?_ GE137.out) | exact HB.out)⟩
          ·rw [if_neg c17] at H
           exact absurd H (by simp)
         ·rw [if_neg c16] at H
          exact absurd H (by simp)
        ·rw [if_neg c14] at H
         have c14b0 : decide (0 < x5_1) = false := decide_eq_false c14
         clear c14
         have H' := Aside0.mk H
         clear H
         have p136 : 0 ≤ (x5_1 : Int) := od_
         have q136 : x5_1 < (l0.length : Int) := od_
         obtain ⟨ad136, e136, hx136_0, hx136_1⟩ := at_T78 HR0.out x5_1 p136 q136
         cases e136
         replace hx136_0 := (HB.out.cell (World.block_lt_of_cell? w _ hx136_0)).trans hx136_0
         replace hx136_1 := (HB.out.cell (World.block_lt_of_cell? w _ hx136_1)).trans hx136_1
         replace p136 := eq_true p136
         replace q136 := eq_true q136
         try go_wp2_with (first | ((with_reducible refine gate_dst (N := 6) rfl ?_); refine box_event ?hg (N := 6) ?hd (cs := #[.int .i64 0, .int .i64 0]) (t := 78) ?hr ?_; (case hd => rfl); (case hg => rfl); (case hr => first | (go_simp; done) | (go_simp; rfl)); intro gb137 hg w30 hbox hb; have n_ := And.intro (Aside0.mk (below_step bl_ hb)) (And.intro (Aside0.mk (hbox)) (And.intro (Aside0.mk ((by rw [hg]; exact (below_size bl_) : w.heap.size ≤ gb137))) (Aside0.mk ((by rw [hg]; exact (below_size bl_) : w.heap.size ≤ gb137))))); clear HB; obtain ⟨HB, BK137, GW137, GE137⟩ := n_; clear hb hbox hg; have hcz31_0 : w30.cell? ⟨gb137, 0, none⟩ = some (.int .i64 0) := (blk_cell BK137.out 0).trans rfl; have hcz31_1 : w30.cell? ⟨gb137, 1, none⟩ = some (.int .i64 0) := (blk_cell BK137.out 1).trans rfl; have hfz31_0 := blk_frozen BK137.out 0; have hfz31_1 := blk_frozen BK137.out 1))
         have n0_ : Aside0 (((w30.setCell ⟨gb137, 0, none⟩ (.int .i64 ((rd_T78 l0 x5_1).f0))).setCell ⟨gb137, 1, none⟩ (.int .i64 ((rd_T78 l0 x5_1).f1))).heap[gb137]? = some (.cells #[.int .i64 ((rd_T78 l0 x5_1).f0), .int .i64 ((rd_T78 l0 x5_1).f1)] 78 (0, 0))) := ⟨by (with_reducible repeat (first | refine blk_drewN ?_ _ | refine blk_drew ?_ | refine blk_alloc ?_ _)); refine blk_put (cs := #[.int .i64 ((rd_T78 l0 x5_1).f0), .int .i64 0]) ?_ 1 _ rfl; (with_reducible repeat (first | refine blk_drewN ?_ _ | refine blk_drew ?_ | refine blk_alloc ?_ _)); refine blk_put (cs := #[.int .i64 0, .int .i64 0]) ?_ 0 _ rfl; (with_reducible repeat (first | refine blk_drewN ?_ _ | refine blk_drew ?_ | refine blk_alloc ?_ _)); exact BK137.out⟩
         have n1_ : Aside0 (Below w.heap.size w ((w30.setCell ⟨gb137, 0, none⟩ (.int .i64 ((rd_T78 l0 x5_1).f0))).setCell ⟨gb137, 1, none⟩ (.int .i64 ((rd_T78 l0 x5_1).f1)))) := ⟨by repeat (first | (with_reducible first | exact HB.out | apply below_alloc | apply pw_below_drewN | apply below_drew1 | refine below_set ?_ GE137.out) | exact HB.out)⟩
         (try clear BK137)
         (try clear HB)
         generalize ((w30.setCell ⟨gb137, 0, none⟩ (.int .i64 ((rd_T78 l0 x5_1).f0))).setCell ⟨gb137, 1, none⟩ (.int .i64 ((rd_T78 l0 x5_1).f1))) = w32 at n0_ n1_ ⊢
         have BK137 := n0_
         have HB := n1_
         clear n0_ n1_
         have n_ := And.intro (Aside0.mk (blk_drew BK137.out)) (Aside0.mk (below_drew1 HB.out))
         clear BK137 HB; obtain ⟨BK137, HB⟩ := n_
         refine start_ (n := 35) (S := fun w' => w'.cell? ⟨gb137, 0, none⟩ = some (.int .i64 ((rd_T78 l0 x5_1).f0)) ∧ w'.cell? ⟨gb137, 1, none⟩ = some (.int .i64 ((rd_T78 l0 x5_1).f1))) (ds := []) (bm 35 0) (by kernel_rfl) rfl rfl ⟨(blk_cell BK137.out 0).trans rfl, (blk_cell BK137.out 1).trans rfl⟩ (fun hHeld => ?_); refine with_tabW spec_l2Pairs.tab5 spec_l2Pairs.bits5 (fun HT_ HW_ => ?_)
         generalize w32.drew = w33 at BK137 HB hHeld ⊢
         refine pa_ 0 (some 17) (bm 35 1) rfl rfl HT_.out ?_
         refine pa_ 2 (some 19) (bm 35 5) rfl rfl HT_.out ?_
         refine pa_ 3 (some 20) (bm 35 13) rfl rfl HT_.out ?_
         refine take_ (i := 1) (N := some 18) (v := ?_) (a' := ?_) (bm 35 15) rfl rfl (take_ofW HT_.out HW_.out (by kernel_rfl)) (fun _ _ _ h => h) (Or.inl ⟨by rfl, ?_⟩) hHeld ?_ ?_
         rotate_left
         ·rintro w' ⟨s0, s1⟩
          go_simp
          with_reducible rfl
         rotate_left
         ·simp only [Act.put, List.setIfInBounds_toArray, List.set_cons_zero, List.set_cons_succ, i64_w, i32_w]
          rfl
         refine one_ (i := 4) (N := some 21) (bm 35 31) rfl rfl (one_of HT_.out (by kernel_rfl)) (by decide) (fun K hK => ?_)
         refine goes_ Try.func89 (by kernel_rfl) rfl #[.int .i64 ((rd_T78 l0 x5_1).f0), .int .i64 0, .int .i64 (wrap64 (a1 - 1))] (by rfl) rfl rfl (by (try simp only [List.map_toArray, List.map_cons, List.map_nil]); first | done | rfl | (simp only [List.length_drop, List.length_take]; rfl)) ?_
         with_reducible refine (spec_l1In.calls ((rd_T78 l0 x5_1).f0) 0 (wrap64 (a1 - 1)) true _ A5.out).mono ?_
         rintro e w' ⟨rfl, ⟨nd, rfl⟩⟩
         refine ⟨_, rfl, ?_⟩
         refine hK.out _ _ ⟨(blk_cell BK137.out 0).trans rfl, (blk_cell BK137.out 1).trans rfl⟩ (fun hHeld => ?_)
         clear hK K
         refine norm_ (a' := ?_) ?_ ?_
         rotate_left
         ·show Act.put _ (some 21) _ = _
          simp only [Act.put, List.setIfInBounds_toArray, List.set_cons_zero, List.set_cons_succ, i64_w, i32_w]
          rfl
         refine pa_ 5 (some 22) (bm 35 63) rfl rfl HT_.out ?_
         refine pa_ 6 (some 23) (bm 35 127) rfl rfl HT_.out ?_
         refine pa_ 7 (some 24) (bm 35 255) rfl rfl HT_.out ?_
         refine pa_ 9 (some 26) (bm 35 767) rfl rfl HT_.out ?_
         refine pa_ 10 (some 27) (bm 35 1791) rfl rfl HT_.out ?_
         refine take_ (i := 8) (N := some 25) (v := ?_) (a' := ?_) (bm 35 2047) rfl rfl (take_ofW HT_.out HW_.out (by kernel_rfl)) (fun _ _ _ h => h) (Or.inl ⟨by rfl, ?_⟩) hHeld ?_ ?_
         rotate_left
         ·rintro w' ⟨s0, s1⟩
          go_simp
          with_reducible rfl
         rotate_left
         ·simp only [Act.put, List.setIfInBounds_toArray, List.set_cons_zero, List.set_cons_succ, i64_w, i32_w]
          rfl
         refine one_ (i := 11) (N := some 28) (bm 35 4095) rfl rfl (one_of HT_.out (by kernel_rfl)) (by decide) (fun K hK => ?_)
         refine goes_ Try.func89 (by kernel_rfl) rfl #[.int .i64 ((rd_T78 l0 x5_1).f1), .int .i64 0, .int .i64 (wrap64 (a1 - 1))] (by rfl) rfl rfl (by (try simp only [List.map_toArray, List.map_cons, List.map_nil]); first | done | rfl | (simp only [List.length_drop, List.length_take]; rfl)) ?_
         with_reducible refine (spec_l1In.calls ((rd_T78 l0 x5_1).f1) 0 (wrap64 (a1 - 1)) true _ A7.out).mono ?_
         rintro e w' ⟨rfl, ⟨nd, rfl⟩⟩
         refine ⟨_, rfl, ?_⟩
         refine hK.out _ _ ⟨(blk_cell BK137.out 0).trans rfl, (blk_cell BK137.out 1).trans rfl⟩ (fun hHeld => ?_)
         clear hK K
         refine norm_ (a' := ?_) ?_ ?_
         rotate_left
         ·show Act.put _ (some 28) _ = _
          simp only [Act.put, List.setIfInBounds_toArray, List.set_cons_zero, List.set_cons_succ, i64_w, i32_w]
          rfl
         refine pa_ 12 (some 29) (bm 35 8191) rfl rfl HT_.out ?_
         refine pa_ 13 (some 30) (bm 35 16383) rfl rfl HT_.out ?_
         refine pa_ 14 (some 31) (bm 35 32767) rfl rfl HT_.out ?_
         refine pa_ 15 (some 32) (bm 35 65535) rfl rfl HT_.out ?_
         refine pa_ 17 (some 34) (bm 35 196607) rfl rfl HT_.out ?_
         refine take_ (i := 16) (N := some 33) (v := ?_) (a' := ?_) (bm 35 262143) rfl rfl (take_ofW HT_.out HW_.out (by kernel_rfl)) (fun _ _ _ h => h) (Or.inl ⟨by rfl, ?_⟩) hHeld ?_ ?_
         rotate_left
         ·rintro w' ⟨s0, s1⟩
          go_simp
          with_reducible rfl
         rotate_left
         ·simp only [Act.put, List.setIfInBounds_toArray, List.set_cons_zero, List.set_cons_succ, i64_w, i32_w]
          rfl
         refine take_ (i := 18) (N := some 35) (v := ?_) (a' := ?_) (bm 35 524287) rfl rfl (take_ofW HT_.out HW_.out (by kernel_rfl)) (fun _ _ _ h => h) (Or.inl ⟨by rfl, ?_⟩) hHeld ?_ ?_
         rotate_left
         ·rintro w' ⟨s0, s1⟩
          go_simp
          with_reducible rfl
         rotate_left
         ·simp only [Act.put, List.setIfInBounds_toArray, List.set_cons_zero, List.set_cons_succ, i64_w, i32_w]
          rfl
         refine pa_ 19 (some 36) (bm 35 1048575) rfl rfl HT_.out ?_
         refine pa_ 20 (some 37) (bm 35 2097151) rfl rfl HT_.out ?_
         refine pa_ 21 (some 38) (bm 35 4194303) rfl rfl HT_.out ?_
         refine pa_ 22 (some 39) (bm 35 8388607) rfl rfl HT_.out ?_
         refine pa_ 23 (some 40) (bm 35 16777215) rfl rfl HT_.out ?_
         refine pa_ 24 (some 41) (bm 35 33554431) rfl rfl HT_.out ?_
         refine pu_ 25 (some 42) (bm 35 67108863) rfl rfl HT_.out ?_
         refine pu_ 26 (some 43) (bm 35 134217727) rfl rfl HT_.out ?_
         refine pu_ 27 (some 44) (bm 35 268435455) rfl rfl HT_.out ?_
         refine pu_ 28 (some 45) (bm 35 536870911) rfl rfl HT_.out ?_
         refine pu_ 29 (some 46) (bm 35 1073741823) rfl rfl HT_.out ?_
         refine pu_ 30 (some 47) (bm 35 2147483647) rfl rfl HT_.out ?_
         refine pu_ 31 (some 48) (bm 35 4294967295) rfl rfl HT_.out ?_
         refine pu_ 32 (some 49) (bm 35 8589934591) rfl rfl HT_.out ?_
         refine pa_ 33 (some 50) (bm 35 17179869183) rfl rfl HT_.out ?_
         refine pa_ 34 (some 51) (bm 35 34359738367) rfl rfl HT_.out ?_
         refine done_ (done_of HT_.out (by kernel_rfl)) ?_
         try go_wp2
         go_roundg k1
         case measure => have := HK1.out; omega
         case rel => exact ⟨(wrap64 (x5_1 + 1)), (by first | rfl | (simp; done) | (simp [*]; done)), H', ⟨by have := HK1.out; omega⟩, ⟨by repeat (first | (with_reducible first | exact HB.out | apply below_alloc | apply pw_below_drewN | apply below_drew1 | refine below_set ?_ GE137.out) | exact HB.out)⟩⟩
      ·replace c8 := Bool.eq_false_iff.mpr c8
       subst c8
       have H1 : (some false) = some r := by rw [if_neg (show ¬ (false = true) by decide)] at H; exact H
       clear H
       have H := H1
       clear H1
       obtain rfl := Option.some.inj H
       have p136 : 0 ≤ (x5_1 : Int) := od_
       have q136 : x5_1 < (l0.length : Int) := od_
       obtain ⟨ad136, e136, hx136_0, hx136_1⟩ := at_T78 HR0.out x5_1 p136 q136
       cases e136
       replace hx136_0 := (HB.out.cell (World.block_lt_of_cell? w _ hx136_0)).trans hx136_0
       replace hx136_1 := (HB.out.cell (World.block_lt_of_cell? w _ hx136_1)).trans hx136_1
       replace p136 := eq_true p136
       replace q136 := eq_true q136
       try go_wp2_with (first | ((with_reducible refine gate_dst (N := 6) rfl ?_); refine box_event ?hg (N := 6) ?hd (cs := #[.int .i64 0, .int .i64 0]) (t := 78) ?hr ?_; (case hd => rfl); (case hg => rfl); (case hr => first | (go_simp; done) | (go_simp; rfl)); intro gb137 hg w34 hbox hb; have n_ := And.intro (Aside0.mk (below_step bl_ hb)) (And.intro (Aside0.mk (hbox)) (And.intro (Aside0.mk ((by rw [hg]; exact (below_size bl_) : w.heap.size ≤ gb137))) (Aside0.mk ((by rw [hg]; exact (below_size bl_) : w.heap.size ≤ gb137))))); clear HB; obtain ⟨HB, BK137, GW137, GE137⟩ := n_; clear hb hbox hg; have hcz35_0 : w34.cell? ⟨gb137, 0, none⟩ = some (.int .i64 0) := (blk_cell BK137.out 0).trans rfl; have hcz35_1 : w34.cell? ⟨gb137, 1, none⟩ = some (.int .i64 0) := (blk_cell BK137.out 1).trans rfl; have hfz35_0 := blk_frozen BK137.out 0; have hfz35_1 := blk_frozen BK137.out 1))
       have n0_ : Aside0 (((w34.setCell ⟨gb137, 0, none⟩ (.int .i64 ((rd_T78 l0 x5_1).f0))).setCell ⟨gb137, 1, none⟩ (.int .i64 ((rd_T78 l0 x5_1).f1))).heap[gb137]? = some (.cells #[.int .i64 ((rd_T78 l0 x5_1).f0), .int .i64 ((rd_T78 l0 x5_1).f1)] 78 (0, 0))) := ⟨by (with_reducible repeat (first | refine blk_drewN ?_ _ | refine blk_drew ?_ | refine blk_alloc ?_ _)); refine blk_put (cs := #[.int .i64 ((rd_T78 l0 x5_1).f0), .int .i64 0]) ?_ 1 _ rfl; (with_reducible repeat (first | refine blk_drewN ?_ _ | refine blk_drew ?_ | refine blk_alloc ?_ _)); refine blk_put (cs := #[.int .i64 0, .int .i64 0]) ?_ 0 _ rfl; (with_reducible repeat (first | refine blk_drewN ?_ _ | refine blk_drew ?_ | refine blk_alloc ?_ _)); exact BK137.out⟩
       have n1_ : Aside0 (Below w.heap.size w ((w34.setCell ⟨gb137, 0, none⟩ (.int .i64 ((rd_T78 l0 x5_1).f0))).setCell ⟨gb137, 1, none⟩ (.int .i64 ((rd_T78 l0 x5_1).f1)))) := ⟨by repeat (first | (with_reducible first | exact HB.out | apply below_alloc | apply pw_below_drewN | apply below_drew1 | refine below_set ?_ GE137.out) | exact HB.out)⟩
       (try clear BK137)
       (try clear HB)
       generalize ((w34.setCell ⟨gb137, 0, none⟩ (.int .i64 ((rd_T78 l0 x5_1).f0))).setCell ⟨gb137, 1, none⟩ (.int .i64 ((rd_T78 l0 x5_1).f1))) = w36 at n0_ n1_ ⊢
       have BK137 := n0_
       have HB := n1_
       clear n0_ n1_
       have n_ := And.intro (Aside0.mk (blk_drew BK137.out)) (Aside0.mk (below_drew1 HB.out))
       clear BK137 HB; obtain ⟨BK137, HB⟩ := n_
       refine start_ (n := 35) (S := fun w' => w'.cell? ⟨gb137, 0, none⟩ = some (.int .i64 ((rd_T78 l0 x5_1).f0)) ∧ w'.cell? ⟨gb137, 1, none⟩ = some (.int .i64 ((rd_T78 l0 x5_1).f1))) (ds := []) (bm 35 0) (by kernel_rfl) rfl rfl ⟨(blk_cell BK137.out 0).trans rfl, (blk_cell BK137.out 1).trans rfl⟩ (fun hHeld => ?_); refine with_tabW spec_l2Pairs.tab5 spec_l2Pairs.bits5 (fun HT_ HW_ => ?_)
       generalize w36.drew = w37 at BK137 HB hHeld ⊢
       refine pa_ 0 (some 17) (bm 35 1) rfl rfl HT_.out ?_
       refine pa_ 2 (some 19) (bm 35 5) rfl rfl HT_.out ?_
       refine pa_ 3 (some 20) (bm 35 13) rfl rfl HT_.out ?_
       refine take_ (i := 1) (N := some 18) (v := ?_) (a' := ?_) (bm 35 15) rfl rfl (take_ofW HT_.out HW_.out (by kernel_rfl)) (fun _ _ _ h => h) (Or.inl ⟨by rfl, ?_⟩) hHeld ?_ ?_
       rotate_left
       ·rintro w' ⟨s0, s1⟩
        go_simp
        with_reducible rfl
       rotate_left
       ·simp only [Act.put, List.setIfInBounds_toArray, List.set_cons_zero, List.set_cons_succ, i64_w, i32_w]
        rfl
       refine one_ (i := 4) (N := some 21) (bm 35 31) rfl rfl (one_of HT_.out (by kernel_rfl)) (by decide) (fun K hK => ?_)
       refine goes_ Try.func89 (by kernel_rfl) rfl #[.int .i64 ((rd_T78 l0 x5_1).f0), .int .i64 0, .int .i64 (wrap64 (a1 - 1))] (by rfl) rfl rfl (by (try simp only [List.map_toArray, List.map_cons, List.map_nil]); first | done | rfl | (simp only [List.length_drop, List.length_take]; rfl)) ?_
       with_reducible refine (spec_l1In.calls ((rd_T78 l0 x5_1).f0) 0 (wrap64 (a1 - 1)) true _ A5.out).mono ?_
       rintro e w' ⟨rfl, ⟨nd, rfl⟩⟩
       refine ⟨_, rfl, ?_⟩
       refine hK.out _ _ ⟨(blk_cell BK137.out 0).trans rfl, (blk_cell BK137.out 1).trans rfl⟩ (fun hHeld => ?_)
       clear hK K
       refine norm_ (a' := ?_) ?_ ?_
       rotate_left
       ·show Act.put _ (some 21) _ = _
        simp only [Act.put, List.setIfInBounds_toArray, List.set_cons_zero, List.set_cons_succ, i64_w, i32_w]
        rfl
       refine pa_ 5 (some 22) (bm 35 63) rfl rfl HT_.out ?_
       refine pa_ 6 (some 23) (bm 35 127) rfl rfl HT_.out ?_
       refine pa_ 7 (some 24) (bm 35 255) rfl rfl HT_.out ?_
       refine pa_ 9 (some 26) (bm 35 767) rfl rfl HT_.out ?_
       refine pa_ 10 (some 27) (bm 35 1791) rfl rfl HT_.out ?_
       refine take_ (i := 8) (N := some 25) (v := ?_) (a' := ?_) (bm 35 2047) rfl rfl (take_ofW HT_.out HW_.out (by kernel_rfl)) (fun _ _ _ h => h) (Or.inl ⟨by rfl, ?_⟩) hHeld ?_ ?_
       rotate_left
       ·rintro w' ⟨s0, s1⟩
        go_simp
        with_reducible rfl
       rotate_left
       ·simp only [Act.put, List.setIfInBounds_toArray, List.set_cons_zero, List.set_cons_succ, i64_w, i32_w]
        rfl
       refine one_ (i := 11) (N := some 28) (bm 35 4095) rfl rfl (one_of HT_.out (by kernel_rfl)) (by decide) (fun K hK => ?_)
       refine goes_ Try.func89 (by kernel_rfl) rfl #[.int .i64 ((rd_T78 l0 x5_1).f1), .int .i64 0, .int .i64 (wrap64 (a1 - 1))] (by rfl) rfl rfl (by (try simp only [List.map_toArray, List.map_cons, List.map_nil]); first | done | rfl | (simp only [List.length_drop, List.length_take]; rfl)) ?_
       with_reducible refine (spec_l1In.calls ((rd_T78 l0 x5_1).f1) 0 (wrap64 (a1 - 1)) false _ A7.out).mono ?_
       rintro e w' ⟨rfl, ⟨nd, rfl⟩⟩
       refine ⟨_, rfl, ?_⟩
       refine hK.out _ _ ⟨(blk_cell BK137.out 0).trans rfl, (blk_cell BK137.out 1).trans rfl⟩ (fun hHeld => ?_)
       clear hK K
       refine norm_ (a' := ?_) ?_ ?_
       rotate_left
       ·show Act.put _ (some 28) _ = _
        simp only [Act.put, List.setIfInBounds_toArray, List.set_cons_zero, List.set_cons_succ, i64_w, i32_w]
        rfl
       refine pa_ 12 (some 29) (bm 35 8191) rfl rfl HT_.out ?_
       refine pa_ 13 (some 30) (bm 35 16383) rfl rfl HT_.out ?_
       refine pa_ 14 (some 31) (bm 35 32767) rfl rfl HT_.out ?_
       refine pu_ 15 (some 32) (bm 35 65535) rfl rfl HT_.out ?_
       refine pu_ 16 (some 33) (bm 35 131071) rfl rfl HT_.out ?_
       refine pu_ 17 (some 34) (bm 35 262143) rfl rfl HT_.out ?_
       refine pu_ 18 (some 35) (bm 35 524287) rfl rfl HT_.out ?_
       refine pu_ 19 (some 36) (bm 35 1048575) rfl rfl HT_.out ?_
       refine pa_ 20 (some 37) (bm 35 2097151) rfl rfl HT_.out ?_
       refine pa_ 21 (some 38) (bm 35 4194303) rfl rfl HT_.out ?_
       refine pu_ 22 (some 39) (bm 35 8388607) rfl rfl HT_.out ?_
       refine pu_ 23 (some 40) (bm 35 16777215) rfl rfl HT_.out ?_
       refine pu_ 24 (some 41) (bm 35 33554431) rfl rfl HT_.out ?_
       refine pu_ 25 (some 42) (bm 35 67108863) rfl rfl HT_.out ?_
       refine pu_ 26 (some 43) (bm 35 134217727) rfl rfl HT_.out ?_
       refine pu_ 27 (some 44) (bm 35 268435455) rfl rfl HT_.out ?_
       refine pu_ 28 (some 45) (bm 35 536870911) rfl rfl HT_.out ?_
       refine pu_ 29 (some 46) (bm 35 1073741823) rfl rfl HT_.out ?_
       refine pu_ 30 (some 47) (bm 35 2147483647) rfl rfl HT_.out ?_
       refine pu_ 31 (some 48) (bm 35 4294967295) rfl rfl HT_.out ?_
       refine pu_ 32 (some 49) (bm 35 8589934591) rfl rfl HT_.out ?_
       refine pu_ 33 (some 50) (bm 35 17179869183) rfl rfl HT_.out ?_
       refine pa_ 34 (some 51) (bm 35 34359738367) rfl rfl HT_.out ?_
       refine done_ (done_of HT_.out (by kernel_rfl)) ?_
       try go_wp2
       go_ret
       exact ⟨by first | rfl | (simp [errW_none, errW_some] <;> rfl) | (simp [*, errW_none, errW_some] <;> rfl), by repeat (first | (with_reducible first | exact HB.out | apply below_alloc | apply pw_below_drewN | apply below_drew1 | refine below_set ?_ GE137.out) | exact HB.out)⟩
     ·replace c6 := Bool.eq_false_iff.mpr c6
      subst c6
      have H1 : (some false) = some r := by rw [if_neg (show ¬ (false = true) by decide)] at H; exact H
      clear H
      have H := H1
      clear H1
      obtain rfl := Option.some.inj H
      have p136 : 0 ≤ (x5_1 : Int) := od_
      have q136 : x5_1 < (l0.length : Int) := od_
      obtain ⟨ad136, e136, hx136_0, hx136_1⟩ := at_T78 HR0.out x5_1 p136 q136
      cases e136
      replace hx136_0 := (HB.out.cell (World.block_lt_of_cell? w _ hx136_0)).trans hx136_0
      replace hx136_1 := (HB.out.cell (World.block_lt_of_cell? w _ hx136_1)).trans hx136_1
      replace p136 := eq_true p136
      replace q136 := eq_true q136
      try go_wp2_with (first | ((with_reducible refine gate_dst (N := 6) rfl ?_); refine box_event ?hg (N := 6) ?hd (cs := #[.int .i64 0, .int .i64 0]) (t := 78) ?hr ?_; (case hd => rfl); (case hg => rfl); (case hr => first | (go_simp; done) | (go_simp; rfl)); intro gb137 hg w38 hbox hb; have n_ := And.intro (Aside0.mk (below_step bl_ hb)) (And.intro (Aside0.mk (hbox)) (And.intro (Aside0.mk ((by rw [hg]; exact (below_size bl_) : w.heap.size ≤ gb137))) (Aside0.mk ((by rw [hg]; exact (below_size bl_) : w.heap.size ≤ gb137))))); clear HB; obtain ⟨HB, BK137, GW137, GE137⟩ := n_; clear hb hbox hg; have hcz39_0 : w38.cell? ⟨gb137, 0, none⟩ = some (.int .i64 0) := (blk_cell BK137.out 0).trans rfl; have hcz39_1 : w38.cell? ⟨gb137, 1, none⟩ = some (.int .i64 0) := (blk_cell BK137.out 1).trans rfl; have hfz39_0 := blk_frozen BK137.out 0; have hfz39_1 := blk_frozen BK137.out 1))
      have n0_ : Aside0 (((w38.setCell ⟨gb137, 0, none⟩ (.int .i64 ((rd_T78 l0 x5_1).f0))).setCell ⟨gb137, 1, none⟩ (.int .i64 ((rd_T78 l0 x5_1).f1))).heap[gb137]? = some (.cells #[.int .i64 ((rd_T78 l0 x5_1).f0), .int .i64 ((rd_T78 l0 x5_1).f1)] 78 (0, 0))) := ⟨by (with_reducible repeat (first | refine blk_drewN ?_ _ | refine blk_drew ?_ | refine blk_alloc ?_ _)); refine blk_put (cs := #[.int .i64 ((rd_T78 l0 x5_1).f0), .int .i64 0]) ?_ 1 _ rfl; (with_reducible repeat (first | refine blk_drewN ?_ _ | refine blk_drew ?_ | refine blk_alloc ?_ _)); refine blk_put (cs := #[.int .i64 0, .int .i64 0]) ?_ 0 _ rfl; (with_reducible repeat (first | refine blk_drewN ?_ _ | refine blk_drew ?_ | refine blk_alloc ?_ _)); exact BK137.out⟩
      have n1_ : Aside0 (Below w.heap.size w ((w38.setCell ⟨gb137, 0, none⟩ (.int .i64 ((rd_T78 l0 x5_1).f0))).setCell ⟨gb137, 1, none⟩ (.int .i64 ((rd_T78 l0 x5_1).f1)))) := ⟨by repeat (first | (with_reducible first | exact HB.out | apply below_alloc | apply pw_below_drewN | apply below_drew1 | refine below_set ?_ GE137.out) | exact HB.out)⟩
      (try clear BK137)
      (try clear HB)
      generalize ((w38.setCell ⟨gb137, 0, none⟩ (.int .i64 ((rd_T78 l0 x5_1).f0))).setCell ⟨gb137, 1, none⟩ (.int .i64 ((rd_T78 l0 x5_1).f1))) = w40 at n0_ n1_ ⊢
      have BK137 := n0_
      have HB := n1_
      clear n0_ n1_
      have n_ := And.intro (Aside0.mk (blk_drew BK137.out)) (Aside0.mk (below_drew1 HB.out))
      clear BK137 HB; obtain ⟨BK137, HB⟩ := n_
      refine start_ (n := 35) (S := fun w' => w'.cell? ⟨gb137, 0, none⟩ = some (.int .i64 ((rd_T78 l0 x5_1).f0)) ∧ w'.cell? ⟨gb137, 1, none⟩ = some (.int .i64 ((rd_T78 l0 x5_1).f1))) (ds := []) (bm 35 0) (by kernel_rfl) rfl rfl ⟨(blk_cell BK137.out 0).trans rfl, (blk_cell BK137.out 1).trans rfl⟩ (fun hHeld => ?_); refine with_tabW spec_l2Pairs.tab5 spec_l2Pairs.bits5 (fun HT_ HW_ => ?_)
      generalize w40.drew = w41 at BK137 HB hHeld ⊢
      refine pa_ 0 (some 17) (bm 35 1) rfl rfl HT_.out ?_
      refine pa_ 2 (some 19) (bm 35 5) rfl rfl HT_.out ?_
      refine pa_ 3 (some 20) (bm 35 13) rfl rfl HT_.out ?_
      refine take_ (i := 1) (N := some 18) (v := ?_) (a' := ?_) (bm 35 15) rfl rfl (take_ofW HT_.out HW_.out (by kernel_rfl)) (fun _ _ _ h => h) (Or.inl ⟨by rfl, ?_⟩) hHeld ?_ ?_
      rotate_left
      ·rintro w' ⟨s0, s1⟩
       go_simp
       with_reducible rfl
      rotate_left
      ·simp only [Act.put, List.setIfInBounds_toArray, List.set_cons_zero, List.set_cons_succ, i64_w, i32_w]
       rfl
      refine one_ (i := 4) (N := some 21) (bm 35 31) rfl rfl (one_of HT_.out (by kernel_rfl)) (by decide) (fun K hK => ?_)
      refine goes_ Try.func89 (by kernel_rfl) rfl #[.int .i64 ((rd_T78 l0 x5_1).f0), .int .i64 0, .int .i64 (wrap64 (a1 - 1))] (by rfl) rfl rfl (by (try simp only [List.map_toArray, List.map_cons, List.map_nil]); first | done | rfl | (simp only [List.length_drop, List.length_take]; rfl)) ?_
      with_reducible refine (spec_l1In.calls ((rd_T78 l0 x5_1).f0) 0 (wrap64 (a1 - 1)) false _ A5.out).mono ?_
      rintro e w' ⟨rfl, ⟨nd, rfl⟩⟩
      refine ⟨_, rfl, ?_⟩
      refine hK.out _ _ ⟨(blk_cell BK137.out 0).trans rfl, (blk_cell BK137.out 1).trans rfl⟩ (fun hHeld => ?_)
      clear hK K
      refine norm_ (a' := ?_) ?_ ?_
      rotate_left
      ·show Act.put _ (some 21) _ = _
       simp only [Act.put, List.setIfInBounds_toArray, List.set_cons_zero, List.set_cons_succ, i64_w, i32_w]
       rfl
      refine pa_ 5 (some 22) (bm 35 63) rfl rfl HT_.out ?_
      refine pa_ 6 (some 23) (bm 35 127) rfl rfl HT_.out ?_
      refine pu_ 7 (some 24) (bm 35 255) rfl rfl HT_.out ?_
      refine pu_ 8 (some 25) (bm 35 511) rfl rfl HT_.out ?_
      refine pu_ 9 (some 26) (bm 35 1023) rfl rfl HT_.out ?_
      refine pu_ 10 (some 27) (bm 35 2047) rfl rfl HT_.out ?_
      refine pu_ 11 (some 28) (bm 35 4095) rfl rfl HT_.out ?_
      refine pu_ 12 (some 29) (bm 35 8191) rfl rfl HT_.out ?_
      refine pa_ 13 (some 30) (bm 35 16383) rfl rfl HT_.out ?_
      refine pa_ 14 (some 31) (bm 35 32767) rfl rfl HT_.out ?_
      refine pu_ 15 (some 32) (bm 35 65535) rfl rfl HT_.out ?_
      refine pu_ 16 (some 33) (bm 35 131071) rfl rfl HT_.out ?_
      refine pu_ 17 (some 34) (bm 35 262143) rfl rfl HT_.out ?_
      refine pu_ 18 (some 35) (bm 35 524287) rfl rfl HT_.out ?_
      refine pu_ 19 (some 36) (bm 35 1048575) rfl rfl HT_.out ?_
      refine pa_ 20 (some 37) (bm 35 2097151) rfl rfl HT_.out ?_
      refine pa_ 21 (some 38) (bm 35 4194303) rfl rfl HT_.out ?_
      refine pu_ 22 (some 39) (bm 35 8388607) rfl rfl HT_.out ?_
      refine pu_ 23 (some 40) (bm 35 16777215) rfl rfl HT_.out ?_
      refine pu_ 24 (some 41) (bm 35 33554431) rfl rfl HT_.out ?_
      refine pu_ 25 (some 42) (bm 35 67108863) rfl rfl HT_.out ?_
      refine pu_ 26 (some 43) (bm 35 134217727) rfl rfl HT_.out ?_
      refine pu_ 27 (some 44) (bm 35 268435455) rfl rfl HT_.out ?_
      refine pu_ 28 (some 45) (bm 35 536870911) rfl rfl HT_.out ?_
      refine pu_ 29 (some 46) (bm 35 1073741823) rfl rfl HT_.out ?_
      refine pu_ 30 (some 47) (bm 35 2147483647) rfl rfl HT_.out ?_
      refine pu_ 31 (some 48) (bm 35 4294967295) rfl rfl HT_.out ?_
      refine pu_ 32 (some 49) (bm 35 8589934591) rfl rfl HT_.out ?_
      refine pu_ 33 (some 50) (bm 35 17179869183) rfl rfl HT_.out ?_
      refine pa_ 34 (some 51) (bm 35 34359738367) rfl rfl HT_.out ?_
      refine done_ (done_of HT_.out (by kernel_rfl)) ?_
      try go_wp2
      go_ret
      exact ⟨by first | rfl | (simp [errW_none, errW_some] <;> rfl) | (simp [*, errW_none, errW_some] <;> rfl), by repeat (first | (with_reducible first | exact HB.out | apply below_alloc | apply pw_below_drewN | apply below_drew1 | refine below_set ?_ GE137.out) | exact HB.out)⟩
    ·rw [if_neg c4] at H
     exact absurd H (by simp)
   ·rw [if_neg c3] at H
    have c3b0 : decide (x5_1 < (l0.length : Int)) = false := decide_eq_false c3
    clear c3
    obtain rfl := Option.some.inj H
    go_wp2
    go_ret
    exact ⟨by first | rfl | (simp [errW_none, errW_some] <;> rfl) | (simp [*, errW_none, errW_some] <;> rfl), by repeat (first | (with_reducible first | exact HB.out | apply below_alloc | apply pw_below_drewN | apply below_drew1) | exact HB.out)⟩

end Go.Proofs.Ytiiaadgibkpaaaa.PFnExactAfterMap
