-- written by wip/tools of this repo out of the translation (a turned copy of the kit's print): checked by Lean alone
import Derived.Test.YtiiaadgibkpaaaaPFnExactIsCostProofx0
import Derived.Test.YtiiaadgibkpaaaaPFnExactIsCostProofx10
import Derived.Test.YtiiaadgibkpaaaaPFnExactIsCostProofx13
namespace Go.Proofs.Ytiiaadgibkpaaaa.PFnExactIsCostProof
open Go.RowKit Go.Proofs.YtiiaadgibkpaaaaW.PrintWords Go.Proofs.YtiiaadgibkpaaaaW.PrintLast Go.Proofs.YtiiaadgibkpaaaaW.PrintMore
attribute [local go_sem] max2_int min2_int max_two min_two max_three min_three max_four min_four   -- for this text's walks alone
set_option linter.unusedVariables false
set_option linter.unusedSimpArgs false

/-! ### slices_BinarySearchFunc_2_int_2_int_2_int_impl_comparePairs: function 154 -/
def slices_BinarySearchFunc_2_int_2_int_2_int_impl_comparePairs.l0 : Nat → List (S78) → Int → Int → Int → Int → Int → Option (Int × Bool)
 | 0, _, _, _, _, _, _ => none
 | k + 1, x0, x8, x9, x10, x278000, x278001 => if x9 < x10 then (if 0 ≤ (wrap64 ((IntKind.u64.wrap (wrap64 (x9 + x10))) / 2)) then (if (wrap64 ((IntKind.u64.wrap (wrap64 (x9 + x10))) / 2)) < (x0.length : Int) then ((impl_comparePairs.f k ((rd_T78 x0 (wrap64 ((IntKind.u64.wrap (wrap64 (x9 + x10))) / 2))).f0) ((rd_T78 x0 (wrap64 ((IntKind.u64.wrap (wrap64 (x9 + x10))) / 2))).f1) x278000 x278001).bind fun t279 => (if t279 < 0 then (slices_BinarySearchFunc_2_int_2_int_2_int_impl_comparePairs.l0 k x0 x8 (wrap64 ((wrap64 ((IntKind.u64.wrap (wrap64 (x9 + x10))) / 2)) + 1)) x10 x278000 x278001) else (slices_BinarySearchFunc_2_int_2_int_2_int_impl_comparePairs.l0 k x0 x8 x9 (wrap64 ((IntKind.u64.wrap (wrap64 (x9 + x10))) / 2)) x278000 x278001))) else (none)) else (none)) else (if x9 < x8 then (if 0 ≤ x9 then (if x9 < (x0.length : Int) then ((impl_comparePairs.f k ((rd_T78 x0 x9).f0) ((rd_T78 x0 x9).f1) x278000 x278001).bind fun t281 => (some (x9, (t281 == 0)))) else (none)) else (none)) else (some (x9, false)))
def slices_BinarySearchFunc_2_int_2_int_2_int_impl_comparePairs.f (k : Nat) (l0 : List (S78)) (a1_0 : Int) (a1_1 : Int)  : Option (Int × Bool) := slices_BinarySearchFunc_2_int_2_int_2_int_impl_comparePairs.l0 k l0 (l0.length : Int) 0 (l0.length : Int) a1_0 a1_1
def slices_BinarySearchFunc_2_int_2_int_2_int_impl_comparePairs.T5 : Bool × List (List Nat × List Nat) := (true, [([], []), ([], []), ([], []), ([1, 2], [1, 2]), ([3], [3]), ([], []), ([0, 4, 5], [0, 4, 5]), ([6], [6])])
def slices_BinarySearchFunc_2_int_2_int_2_int_impl_comparePairs.B5 : List Nat := [0, 0, 0, 6, 14, 0, 63, 127]
theorem slices_BinarySearchFunc_2_int_2_int_2_int_impl_comparePairs.tab5 : rtab .any (opsOf Try.f154 5) = slices_BinarySearchFunc_2_int_2_int_2_int_impl_comparePairs.T5 := by kernel_rfl
theorem slices_BinarySearchFunc_2_int_2_int_2_int_impl_comparePairs.bits5 : waitsOk slices_BinarySearchFunc_2_int_2_int_2_int_impl_comparePairs.T5.2 slices_BinarySearchFunc_2_int_2_int_2_int_impl_comparePairs.B5 = true := by kernel_rfl
def slices_BinarySearchFunc_2_int_2_int_2_int_impl_comparePairs.T8 : Bool × List (List Nat × List Nat) := (true, [([], []), ([], []), ([], []), ([1, 2], [1, 2]), ([3], [3]), ([4], [4]), ([4], [4]), ([4], [4]), ([6, 7, 4], [4, 6, 7]), ([8, 4], [4, 8]), ([4], [4]), ([5, 9, 10, 4, 4], [4, 5, 9, 10]), ([11, 4], [4, 11]), ([4, 12], [4, 12]), ([0, 11, 0], [0]), ([13, 14, 0, 1, 2, 3, 4, 5, 6, 7, 8, 9, 10, 11, 12, 13, 14], [13])])
def slices_BinarySearchFunc_2_int_2_int_2_int_impl_comparePairs.B8 : List Nat := [0, 0, 0, 6, 14, 30, 30, 30, 222, 478, 30, 2046, 4094, 8190, 4095, 32767]
theorem slices_BinarySearchFunc_2_int_2_int_2_int_impl_comparePairs.tab8 : rtab .any (opsOf Try.f154 8) = slices_BinarySearchFunc_2_int_2_int_2_int_impl_comparePairs.T8 := by kernel_rfl
theorem slices_BinarySearchFunc_2_int_2_int_2_int_impl_comparePairs.bits8 : waitsOk slices_BinarySearchFunc_2_int_2_int_2_int_impl_comparePairs.T8.2 slices_BinarySearchFunc_2_int_2_int_2_int_impl_comparePairs.B8 = true := by kernel_rfl
set_option maxHeartbeats 8000000 in
set_option maxRecDepth 100000 in
theorem slices_BinarySearchFunc_2_int_2_int_2_int_impl_comparePairs.calls (k : Nat) (A0 : Option Addr) (c0 : Nat) (l0 : List (S78)) (a1_0 : Int) (a1_1 : Int)  (r1 : Int) (r2 : Bool) (w : World) (hr0 : Kd.C k78 w A0 l0.length l0) (hc0 : l0.length ≤ c0) (h : slices_BinarySearchFunc_2_int_2_int_2_int_impl_comparePairs.f k l0 a1_0 a1_1 = some (r1, r2)) :
  Calls Try.prog 154 #[.slice A0 l0.length c0, .agg #[.int .i64 a1_0, .int .i64 a1_1], .func (.func 137) #[] #[]] w fun e w' => e = .returned (.tuple #[.int .i64 r1, .bool r2]) ∧ Below w.heap.size w w' := by
 have hu78 := Try.underlying78
 have HR0 := Aside0.mk hr0
 have HC0 := Aside0.mk hc0
 clear hr0 hc0
 have HB := Aside0.mk (Below.refl w.heap.size w)
 have H : (slices_BinarySearchFunc_2_int_2_int_2_int_impl_comparePairs.l0 k l0 (l0.length : Int) 0 (l0.length : Int) a1_0 a1_1) = some (r1, r2) := h
 clear h
 have H' := Aside0.mk H
 clear H
 go_enter Try.func154, Try.ntmps154
 go_wp2_with (first | ((with_reducible refine gate_dst (N := 4) rfl ?_); refine box_event ?hg (N := 4) ?hd (cs := #[.int .i64 a1_0, .int .i64 a1_1]) (t := 78) ?hr ?_; (case hd => rfl); (case hg => rfl); (case hr => first | (go_simp; done) | (go_simp; rfl)); intro gb277 hg w4 hbox hb; have n0_ := Aside0.mk (below_step bl_ hb); have n1_ := Aside0.mk (hbox); have n2_ := Aside0.mk ((by rw [hg]; exact (below_size bl_) : w.heap.size ≤ gb277)); have n3_ := Aside0.mk ((by rw [hg]; exact (below_size bl_) : w.heap.size ≤ gb277)); clear HB; have HB := n0_; have BK277 := n1_; have GW277 := n2_; have GE277 := n3_; clear n0_ n1_ n2_ n3_; clear hb hbox hg))
 go_loopg [9, 10] k (fun kq v9 v10 w' => ∃ (x9_1 : Int) (x10_1 : Int), v9 = .int .i64 x9_1 ∧ v10 = .int .i64 x10_1 ∧ Aside0 (slices_BinarySearchFunc_2_int_2_int_2_int_impl_comparePairs.l0 kq l0 (l0.length : Int) x9_1 x10_1 a1_0 a1_1 = some (r1, r2)) ∧ Aside0 (kq ≤ k) ∧ Aside0 (w'.heap[gb277]? = some (.cells #[.int .i64 a1_0, .int .i64 a1_1] 78 (0, 0))) ∧ Aside0 (Below w.heap.size w w'))
 case atStart => exact ⟨(0), ((l0.length : Int)), (by first | rfl | (simp; done) | (simp [*]; done)), (by first | rfl | (simp; done) | (simp [*]; done)), H', ⟨Nat.le_refl _⟩, ⟨by (with_reducible repeat (first | refine blk_drewN ?_ _ | refine blk_drew ?_ | refine blk_alloc ?_ _)); exact BK277.out⟩, ⟨by repeat (first | (with_reducible first | exact HB.out | apply below_alloc | apply pw_below_drewN | apply below_drew1 | refine below_set ?_ GE277.out) | exact HB.out)⟩⟩
 case round =>
  clear H'
  try clear c1
  try clear p2
  obtain ⟨x9_1, x10_1, rfl, rfl, HA, HK1, BK277, HB⟩ := hrel
  cases gk with
  | zero => exact absurd HA.out (by simp [slices_BinarySearchFunc_2_int_2_int_2_int_impl_comparePairs.l0])
  | succ k1 =>
   have H := HA.out
   clear HA
   simp only [slices_BinarySearchFunc_2_int_2_int_2_int_impl_comparePairs.l0] at H
   by_cases c5 : x9_1 < x10_1
   ·rw [if_pos c5] at H
    have c5b0 : decide (x9_1 < x10_1) = true := decide_eq_true c5
    clear c5
    obtain ⟨ji6, hji6⟩ : ∃ j_ : Int, (wrap64 ((IntKind.u64.wrap (wrap64 (x9_1 + x10_1))) / 2)) = j_ := ⟨_, rfl⟩
    replace H : (if 0 ≤ (ji6) then (if (ji6) < (l0.length : Int) then ((impl_comparePairs.f k1 ((rd_T78 l0 (ji6)).f0) ((rd_T78 l0 (ji6)).f1) a1_0 a1_1).bind fun t279 => (if t279 < 0 then (slices_BinarySearchFunc_2_int_2_int_2_int_impl_comparePairs.l0 k1 l0 (l0.length : Int) (wrap64 ((ji6) + 1)) x10_1 a1_0 a1_1) else (slices_BinarySearchFunc_2_int_2_int_2_int_impl_comparePairs.l0 k1 l0 (l0.length : Int) x9_1 ji6 a1_0 a1_1))) else (none)) else (none)) = some (r1, r2) := by first | (rw [hji6] at H; exact H) | (simp only [hji6] at H ⊢; exact H)
    have hji6w : (IntKind.i64.wrap ((IntKind.u64.wrap (wrap64 (x9_1 + x10_1))) / 2)) = ji6 := (i64_w _).trans hji6
    by_cases c7 : 0 ≤ (ji6)
    ·rw [if_pos c7] at H
     have c7b0 : decide (0 ≤ (ji6)) = true := decide_eq_true c7
     clear c7
     by_cases c8 : (ji6) < (l0.length : Int)
     ·rw [if_pos c8] at H
      have c8b0 : decide ((ji6) < (l0.length : Int)) = true := decide_eq_true c8
      clear c8
      replace H := Option.bind_eq_some_iff.mp H
      obtain ⟨t279, A90, H⟩ := H
      replace H : (if t279 < 0 then (slices_BinarySearchFunc_2_int_2_int_2_int_impl_comparePairs.l0 k1 l0 (l0.length : Int) (wrap64 ((ji6) + 1)) x10_1 a1_0 a1_1) else (slices_BinarySearchFunc_2_int_2_int_2_int_impl_comparePairs.l0 k1 l0 (l0.length : Int) x9_1 ji6 a1_0 a1_1)) = some (r1, r2) := H
      have A9 := Aside0.mk A90
      clear A90
      by_cases c10 : t279 < 0
      ·rw [if_pos c10] at H
       have c10b0 : decide (t279 < 0) = true := decide_eq_true c10
       clear c10
       have H' := Aside0.mk H
       clear H
       try go_wp2
       have n0_ := Aside0.mk (blk_drew BK277.out)
       have n1_ := Aside0.mk (below_drew1 HB.out)
       clear BK277
       clear HB
       have BK277 := n0_
       have HB := n1_
       clear n0_ n1_
       have p278 : 0 ≤ ((ji6) : Int) := od_
       have q278 : (ji6) < (l0.length : Int) := od_
       obtain ⟨ad278, e278, hx278_0, hx278_1⟩ := at_T78 HR0.out (ji6) p278 q278
       have hw278_1 := hx278_1
       have hw278_0 := hx278_0
       cases e278
       replace hx278_0 := (HB.out.cell (World.block_lt_of_cell? w _ hx278_0)).trans hx278_0
       replace hx278_1 := (HB.out.cell (World.block_lt_of_cell? w _ hx278_1)).trans hx278_1
       replace p278 := eq_true p278
       replace q278 := eq_true q278
       refine start_ (n := 8) (S := fun w' => w'.cell? ⟨gb277, 0, none⟩ = some (.int .i64 a1_0) ∧ w'.cell? ⟨gb277, 1, none⟩ = some (.int .i64 a1_1) ∧ w'.cell? (ad278.add (((ji6)).toNat * 2)) = some (.int .i64 ((rd_T78 l0 (ji6)).f0)) ∧ w'.cell? ⟨(ad278.add (((ji6)).toNat * 2)).block, (ad278.add (((ji6)).toNat * 2)).off + 1, none⟩ = some (.int .i64 ((rd_T78 l0 (ji6)).f1))) (ds := []) (bm 8 0) (by kernel_rfl) rfl rfl ⟨(blk_cell BK277.out 0).trans rfl, (blk_cell BK277.out 1).trans rfl, ((HB.out.cell (World.block_lt_of_cell? w _ hw278_0)).trans hw278_0), ((HB.out.cell (World.block_lt_of_cell? w _ hw278_1)).trans hw278_1)⟩ (fun hHeld => ?_); refine with_tabW slices_BinarySearchFunc_2_int_2_int_2_int_impl_comparePairs.tab5 slices_BinarySearchFunc_2_int_2_int_2_int_impl_comparePairs.bits5 (fun HT_ HW_ => ?_)
       generalize wr.drew = w11 at BK277 HB hx278_0 hx278_1 hHeld ⊢
       refine pa_ 0 (some 24) (bm 8 1) rfl rfl HT_.out ?_
       refine pa_ 1 (some 25) (bm 8 3) rfl rfl HT_.out ?_
       refine pa_ 2 (some 26) (bm 8 7) rfl rfl HT_.out ?_
       refine pa_ 3 (some 27) (bm 8 15) rfl rfl HT_.out ?_
       refine take_ (i := 4) (N := some 28) (v := ?_) (a' := ?_) (bm 8 31) rfl rfl (take_ofW HT_.out HW_.out (by kernel_rfl)) (fun _ _ _ h => h) (Or.inl ⟨by rfl, ?_⟩) hHeld ?_ ?_
       rotate_left
       ·rintro w' ⟨s0, s1, s2, s3⟩
        go_simp
        with_reducible rfl
       rotate_left
       ·simp only [Act.put, List.setIfInBounds_toArray, List.set_cons_zero, List.set_cons_succ, i64_w, i32_w]
        rfl
       refine take_ (i := 5) (N := some 29) (v := ?_) (a' := ?_) (bm 8 63) rfl rfl (take_ofW HT_.out HW_.out (by kernel_rfl)) (fun _ _ _ h => h) (Or.inl ⟨by rfl, ?_⟩) hHeld ?_ ?_
       rotate_left
       ·rintro w' ⟨s0, s1, s2, s3⟩
        go_simp
        with_reducible rfl
       rotate_left
       ·simp only [Act.put, List.setIfInBounds_toArray, List.set_cons_zero, List.set_cons_succ, i64_w, i32_w]
        rfl
       refine one_ (i := 6) (N := some 30) (bm 8 127) rfl rfl (one_of HT_.out (by kernel_rfl)) (by decide) (fun K hK => ?_)
       refine goesV_ Try.func137 (by kernel_rfl) rfl #[.agg #[.int .i64 ((rd_T78 l0 (ji6)).f0), .int .i64 ((rd_T78 l0 (ji6)).f1)], .agg #[.int .i64 a1_0, .int .i64 a1_1]] (by rfl) rfl rfl rfl (by (try simp only [List.map_toArray, List.map_cons, List.map_nil]); first | done | (simp only [hji6]; rfl) | rfl | (simp only [List.length_drop, List.length_take]; rfl)) ?_
       with_reducible refine (impl_comparePairs.calls k1 ((rd_T78 l0 (ji6)).f0) ((rd_T78 l0 (ji6)).f1) a1_0 a1_1 t279 _ A9.out).mono ?_
       rintro e w12 ⟨rfl, hb⟩
       refine ⟨_, rfl, ?_⟩
       have n0_ := Aside0.mk (blk_below (g := gb277) (o := .cells #[.int .i64 a1_0, .int .i64 a1_1] 78 (0, 0)) (by (with_reducible repeat (first | refine blk_drewN ?_ _ | refine blk_drew ?_ | refine blk_alloc ?_ _)); exact BK277.out) hb)
       have n1_ := Aside0.mk (below_step (by repeat (first | (with_reducible first | exact HB.out | apply below_alloc | apply pw_below_drewN | apply below_drew1 | refine below_set ?_ GE277.out) | exact HB.out)) hb)
       clear BK277
       clear HB
       have BK277 := n0_
       have HB := n1_
       clear n0_ n1_
       (try clear hb)
       (try clear hb2)
       (try clear hk)
       (try clear hi)
       refine hK.out _ _ ⟨(blk_cell BK277.out 0).trans rfl, (blk_cell BK277.out 1).trans rfl, ((HB.out.cell (World.block_lt_of_cell? w _ hw278_0)).trans hw278_0), ((HB.out.cell (World.block_lt_of_cell? w _ hw278_1)).trans hw278_1)⟩ (fun hHeld => ?_)
       clear hK K
       refine norm_ (a' := ?_) ?_ ?_
       rotate_left
       ·show Act.put _ (some 30) _ = _
        simp only [Act.put, List.setIfInBounds_toArray, List.set_cons_zero, List.set_cons_succ, i64_w, i32_w]
        rfl
       refine pa_ 7 (some 31) (bm 8 255) rfl rfl HT_.out ?_
       refine done_ (done_of HT_.out (by kernel_rfl)) ?_
       try go_wp2
       go_roundg k1
       case measure => have := HK1.out; omega
       case rel => exact ⟨(wrap64 ((ji6) + 1)), (x10_1), (by first | rfl | (simp; done) | (simp only [← hji6] <;> (first | rfl | simp)) | (simp [*]; done)), (by first | rfl | (simp; done) | (simp [*]; done)), H', ⟨by have := HK1.out; omega⟩, ⟨by (with_reducible repeat (first | refine blk_drewN ?_ _ | refine blk_drew ?_ | refine blk_alloc ?_ _)); exact BK277.out⟩, ⟨by repeat (first | (with_reducible first | exact HB.out | apply below_alloc | apply pw_below_drewN | apply below_drew1 | refine below_set ?_ GE277.out) | exact HB.out)⟩⟩
      ·rw [if_neg c10] at H
       have c10b0 : decide (t279 < 0) = false := decide_eq_false c10
       clear c10
       have H' := Aside0.mk H
       clear H
       try go_wp2
       have n0_ := Aside0.mk (blk_drew BK277.out)
       have n1_ := Aside0.mk (below_drew1 HB.out)
       clear BK277
       clear HB
       have BK277 := n0_
       have HB := n1_
       clear n0_ n1_
       have p278 : 0 ≤ ((ji6) : Int) := od_
       have q278 : (ji6) < (l0.length : Int) := od_
       obtain ⟨ad278, e278, hx278_0, hx278_1⟩ := at_T78 HR0.out (ji6) p278 q278
       have hw278_1 := hx278_1
       have hw278_0 := hx278_0
       cases e278
       replace hx278_0 := (HB.out.cell (World.block_lt_of_cell? w _ hx278_0)).trans hx278_0
       replace hx278_1 := (HB.out.cell (World.block_lt_of_cell? w _ hx278_1)).trans hx278_1
       replace p278 := eq_true p278
       replace q278 := eq_true q278
       refine start_ (n := 8) (S := fun w' => w'.cell? ⟨gb277, 0, none⟩ = some (.int .i64 a1_0) ∧ w'.cell? ⟨gb277, 1, none⟩ = some (.int .i64 a1_1) ∧ w'.cell? (ad278.add (((ji6)).toNat * 2)) = some (.int .i64 ((rd_T78 l0 (ji6)).f0)) ∧ w'.cell? ⟨(ad278.add (((ji6)).toNat * 2)).block, (ad278.add (((ji6)).toNat * 2)).off + 1, none⟩ = some (.int .i64 ((rd_T78 l0 (ji6)).f1))) (ds := []) (bm 8 0) (by kernel_rfl) rfl rfl ⟨(blk_cell BK277.out 0).trans rfl, (blk_cell BK277.out 1).trans rfl, ((HB.out.cell (World.block_lt_of_cell? w _ hw278_0)).trans hw278_0), ((HB.out.cell (World.block_lt_of_cell? w _ hw278_1)).trans hw278_1)⟩ (fun hHeld => ?_); refine with_tabW slices_BinarySearchFunc_2_int_2_int_2_int_impl_comparePairs.tab5 slices_BinarySearchFunc_2_int_2_int_2_int_impl_comparePairs.bits5 (fun HT_ HW_ => ?_)
       generalize wr.drew = w13 at BK277 HB hx278_0 hx278_1 hHeld ⊢
       refine pa_ 0 (some 24) (bm 8 1) rfl rfl HT_.out ?_
       refine pa_ 1 (some 25) (bm 8 3) rfl rfl HT_.out ?_
       refine pa_ 2 (some 26) (bm 8 7) rfl rfl HT_.out ?_
       refine pa_ 3 (some 27) (bm 8 15) rfl rfl HT_.out ?_
       refine take_ (i := 4) (N := some 28) (v := ?_) (a' := ?_) (bm 8 31) rfl rfl (take_ofW HT_.out HW_.out (by kernel_rfl)) (fun _ _ _ h => h) (Or.inl ⟨by rfl, ?_⟩) hHeld ?_ ?_
       rotate_left
       ·rintro w' ⟨s0, s1, s2, s3⟩
        go_simp
        with_reducible rfl
       rotate_left
       ·simp only [Act.put, List.setIfInBounds_toArray, List.set_cons_zero, List.set_cons_succ, i64_w, i32_w]
        rfl
       refine take_ (i := 5) (N := some 29) (v := ?_) (a' := ?_) (bm 8 63) rfl rfl (take_ofW HT_.out HW_.out (by kernel_rfl)) (fun _ _ _ h => h) (Or.inl ⟨by rfl, ?_⟩) hHeld ?_ ?_
       rotate_left
       ·rintro w' ⟨s0, s1, s2, s3⟩
        go_simp
        with_reducible rfl
       rotate_left
       ·simp only [Act.put, List.setIfInBounds_toArray, List.set_cons_zero, List.set_cons_succ, i64_w, i32_w]
        rfl
       refine one_ (i := 6) (N := some 30) (bm 8 127) rfl rfl (one_of HT_.out (by kernel_rfl)) (by decide) (fun K hK => ?_)
       refine goesV_ Try.func137 (by kernel_rfl) rfl #[.agg #[.int .i64 ((rd_T78 l0 (ji6)).f0), .int .i64 ((rd_T78 l0 (ji6)).f1)], .agg #[.int .i64 a1_0, .int .i64 a1_1]] (by rfl) rfl rfl rfl (by (try simp only [List.map_toArray, List.map_cons, List.map_nil]); first | done | (simp only [hji6]; rfl) | rfl | (simp only [List.length_drop, List.length_take]; rfl)) ?_
       with_reducible refine (impl_comparePairs.calls k1 ((rd_T78 l0 (ji6)).f0) ((rd_T78 l0 (ji6)).f1) a1_0 a1_1 t279 _ A9.out).mono ?_
       rintro e w14 ⟨rfl, hb⟩
       refine ⟨_, rfl, ?_⟩
       have n0_ := Aside0.mk (blk_below (g := gb277) (o := .cells #[.int .i64 a1_0, .int .i64 a1_1] 78 (0, 0)) (by (with_reducible repeat (first | refine blk_drewN ?_ _ | refine blk_drew ?_ | refine blk_alloc ?_ _)); exact BK277.out) hb)
       have n1_ := Aside0.mk (below_step (by repeat (first | (with_reducible first | exact HB.out | apply below_alloc | apply pw_below_drewN | apply below_drew1 | refine below_set ?_ GE277.out) | exact HB.out)) hb)
       clear BK277
       clear HB
       have BK277 := n0_
       have HB := n1_
       clear n0_ n1_
       (try clear hb)
       (try clear hb2)
       (try clear hk)
       (try clear hi)
       refine hK.out _ _ ⟨(blk_cell BK277.out 0).trans rfl, (blk_cell BK277.out 1).trans rfl, ((HB.out.cell (World.block_lt_of_cell? w _ hw278_0)).trans hw278_0), ((HB.out.cell (World.block_lt_of_cell? w _ hw278_1)).trans hw278_1)⟩ (fun hHeld => ?_)
       clear hK K
       refine norm_ (a' := ?_) ?_ ?_
       rotate_left
       ·show Act.put _ (some 30) _ = _
        simp only [Act.put, List.setIfInBounds_toArray, List.set_cons_zero, List.set_cons_succ, i64_w, i32_w]
        rfl
       refine pa_ 7 (some 31) (bm 8 255) rfl rfl HT_.out ?_
       refine done_ (done_of HT_.out (by kernel_rfl)) ?_
       try go_wp2
       go_roundg k1
       case measure => have := HK1.out; omega
       case rel => exact ⟨(x9_1), (ji6), (by first | rfl | (simp; done) | (simp [*]; done)), (by first | rfl | (simp; done) | (simp only [← hji6] <;> (first | rfl | simp)) | (simp [*]; done)), H', ⟨by have := HK1.out; omega⟩, ⟨by (with_reducible repeat (first | refine blk_drewN ?_ _ | refine blk_drew ?_ | refine blk_alloc ?_ _)); exact BK277.out⟩, ⟨by repeat (first | (with_reducible first | exact HB.out | apply below_alloc | apply pw_below_drewN | apply below_drew1 | refine below_set ?_ GE277.out) | exact HB.out)⟩⟩
     ·rw [if_neg c8] at H
      exact absurd H (by simp)
    ·rw [if_neg c7] at H
     exact absurd H (by simp)
   ·rw [if_neg c5] at H
    have c5b0 : decide (x9_1 < x10_1) = false := decide_eq_false c5
    clear c5
    by_cases c15 : x9_1 < (l0.length : Int)
    ·rw [if_pos c15] at H
     have c15b0 : decide (x9_1 < (l0.length : Int)) = true := decide_eq_true c15
     clear c15
     by_cases c16 : 0 ≤ x9_1
     ·rw [if_pos c16] at H
      have c16b0 : decide (0 ≤ x9_1) = true := decide_eq_true c16
      clear c16
      by_cases c17 : x9_1 < (l0.length : Int)
      ·rw [if_pos c17] at H
       have c17b0 : decide (x9_1 < (l0.length : Int)) = true := decide_eq_true c17
       clear c17
       replace H := Option.bind_eq_some_iff.mp H
       obtain ⟨t281, A180, H⟩ := H
       replace H : (some (x9_1, (t281 == 0))) = some (r1, r2) := H
       have A18 := Aside0.mk A180
       clear A180
       simp only [Option.some.injEq, Prod.mk.injEq] at H
       obtain ⟨rfl, rfl⟩ := H
       try go_wp2
       have n0_ := Aside0.mk (blk_drew BK277.out)
       have n1_ := Aside0.mk (below_drew1 HB.out)
       clear BK277
       clear HB
       have BK277 := n0_
       have HB := n1_
       clear n0_ n1_
       have p280 : 0 ≤ (x9_1 : Int) := od_
       have q280 : x9_1 < (l0.length : Int) := od_
       obtain ⟨ad280, e280, hx280_0, hx280_1⟩ := at_T78 HR0.out x9_1 p280 q280
       have hw280_1 := hx280_1
       have hw280_0 := hx280_0
       cases e280
       replace hx280_0 := (HB.out.cell (World.block_lt_of_cell? w _ hx280_0)).trans hx280_0
       replace hx280_1 := (HB.out.cell (World.block_lt_of_cell? w _ hx280_1)).trans hx280_1
       replace p280 := eq_true p280
       replace q280 := eq_true q280
       refine start_ (n := 16) (S := fun w' => w'.cell? ⟨gb277, 0, none⟩ = some (.int .i64 a1_0) ∧ w'.cell? ⟨gb277, 1, none⟩ = some (.int .i64 a1_1) ∧ w'.cell? (ad280.add ((x9_1).toNat * 2)) = some (.int .i64 ((rd_T78 l0 x9_1).f0)) ∧ w'.cell? ⟨(ad280.add ((x9_1).toNat * 2)).block, (ad280.add ((x9_1).toNat * 2)).off + 1, none⟩ = some (.int .i64 ((rd_T78 l0 x9_1).f1))) (ds := []) (bm 16 0) (by kernel_rfl) rfl rfl ⟨(blk_cell BK277.out 0).trans rfl, (blk_cell BK277.out 1).trans rfl, ((HB.out.cell (World.block_lt_of_cell? w _ hw280_0)).trans hw280_0), ((HB.out.cell (World.block_lt_of_cell? w _ hw280_1)).trans hw280_1)⟩ (fun hHeld => ?_); refine with_tabW slices_BinarySearchFunc_2_int_2_int_2_int_impl_comparePairs.tab8 slices_BinarySearchFunc_2_int_2_int_2_int_impl_comparePairs.bits8 (fun HT_ HW_ => ?_)
       generalize wr.drew = w19 at BK277 HB hx280_0 hx280_1 hHeld ⊢
       refine pa_ 0 (some 35) (bm 16 1) rfl rfl HT_.out ?_
       refine pa_ 1 (some 36) (bm 16 3) rfl rfl HT_.out ?_
       refine pa_ 2 (some 37) (bm 16 7) rfl rfl HT_.out ?_
       refine pa_ 3 (some 38) (bm 16 15) rfl rfl HT_.out ?_
       refine pa_ 4 (some 39) (bm 16 31) rfl rfl HT_.out ?_
       refine pa_ 5 (some 40) (bm 16 63) rfl rfl HT_.out ?_
       refine pa_ 6 (some 41) (bm 16 127) rfl rfl HT_.out ?_
       refine pa_ 7 (some 42) (bm 16 255) rfl rfl HT_.out ?_
       refine pa_ 8 (some 43) (bm 16 511) rfl rfl HT_.out ?_
       refine take_ (i := 9) (N := some 44) (v := ?_) (a' := ?_) (bm 16 1023) rfl rfl (take_ofW HT_.out HW_.out (by kernel_rfl)) (fun _ _ _ h => h) (Or.inl ⟨by rfl, ?_⟩) hHeld ?_ ?_
       rotate_left
       ·rintro w' ⟨s0, s1, s2, s3⟩
        go_simp
        with_reducible rfl
       rotate_left
       ·simp only [Act.put, List.setIfInBounds_toArray, List.set_cons_zero, List.set_cons_succ, i64_w, i32_w]
        rfl
       refine take_ (i := 10) (N := some 45) (v := ?_) (a' := ?_) (bm 16 2047) rfl rfl (take_ofW HT_.out HW_.out (by kernel_rfl)) (fun _ _ _ h => h) (Or.inl ⟨by rfl, ?_⟩) hHeld ?_ ?_
       rotate_left
       ·rintro w' ⟨s0, s1, s2, s3⟩
        go_simp
        with_reducible rfl
       rotate_left
       ·simp only [Act.put, List.setIfInBounds_toArray, List.set_cons_zero, List.set_cons_succ, i64_w, i32_w]
        rfl
       refine one_ (i := 11) (N := some 46) (bm 16 4095) rfl rfl (one_of HT_.out (by kernel_rfl)) (by decide) (fun K hK => ?_)
       refine goesV_ Try.func137 (by kernel_rfl) rfl #[.agg #[.int .i64 ((rd_T78 l0 x9_1).f0), .int .i64 ((rd_T78 l0 x9_1).f1)], .agg #[.int .i64 a1_0, .int .i64 a1_1]] (by rfl) rfl rfl rfl (by (try simp only [List.map_toArray, List.map_cons, List.map_nil]); first | done | rfl | (simp only [List.length_drop, List.length_take]; rfl)) ?_
       with_reducible refine (impl_comparePairs.calls k1 ((rd_T78 l0 x9_1).f0) ((rd_T78 l0 x9_1).f1) a1_0 a1_1 t281 _ A18.out).mono ?_
       rintro e w20 ⟨rfl, hb⟩
       refine ⟨_, rfl, ?_⟩
       have n0_ := Aside0.mk (blk_below (g := gb277) (o := .cells #[.int .i64 a1_0, .int .i64 a1_1] 78 (0, 0)) (by (with_reducible repeat (first | refine blk_drewN ?_ _ | refine blk_drew ?_ | refine blk_alloc ?_ _)); exact BK277.out) hb)
       have n1_ := Aside0.mk (below_step (by repeat (first | (with_reducible first | exact HB.out | apply below_alloc | apply pw_below_drewN | apply below_drew1 | refine below_set ?_ GE277.out) | exact HB.out)) hb)
       clear BK277
       clear HB
       have BK277 := n0_
       have HB := n1_
       clear n0_ n1_
       (try clear hb)
       (try clear hb2)
       (try clear hk)
       (try clear hi)
       refine hK.out _ _ ⟨(blk_cell BK277.out 0).trans rfl, (blk_cell BK277.out 1).trans rfl, ((HB.out.cell (World.block_lt_of_cell? w _ hw280_0)).trans hw280_0), ((HB.out.cell (World.block_lt_of_cell? w _ hw280_1)).trans hw280_1)⟩ (fun hHeld => ?_)
       clear hK K
       refine norm_ (a' := ?_) ?_ ?_
       rotate_left
       ·show Act.put _ (some 46) _ = _
        simp only [Act.put, List.setIfInBounds_toArray, List.set_cons_zero, List.set_cons_succ, i64_w, i32_w]
        rfl
       refine pa_ 12 (some 47) (bm 16 8191) rfl rfl HT_.out ?_
       refine pa_ 13 (some 48) (bm 16 16383) rfl rfl HT_.out ?_
       refine pa_ 14 (some 6) (bm 16 32767) rfl rfl HT_.out ?_
       refine pa_ 15 (some 7) (bm 16 65535) rfl rfl HT_.out ?_
       refine done_ (done_of HT_.out (by kernel_rfl)) ?_
       try go_wp2
       go_ret2
       exact ⟨by first | rfl | (simp [errW_none, errW_some] <;> rfl) | (simp [*, errW_none, errW_some] <;> rfl), by repeat (first | (with_reducible first | exact HB.out | apply below_alloc | apply pw_below_drewN | apply below_drew1 | refine below_set ?_ GE277.out) | exact HB.out)⟩
      ·rw [if_neg c17] at H
       exact absurd H (by simp)
     ·rw [if_neg c16] at H
      exact absurd H (by simp)
    ·rw [if_neg c15] at H
     have c15b0 : decide (x9_1 < (l0.length : Int)) = false := decide_eq_false c15
     clear c15
     simp only [Option.some.injEq, Prod.mk.injEq] at H
     obtain ⟨rfl, rfl⟩ := H
     try go_wp2
     have n0_ := Aside0.mk (blk_drew BK277.out)
     have n1_ := Aside0.mk (below_drew1 HB.out)
     clear BK277
     clear HB
     have BK277 := n0_
     have HB := n1_
     clear n0_ n1_
     refine start_ (n := 16) (S := fun w' => True) (ds := []) (bm 16 0) (by kernel_rfl) rfl rfl trivial (fun hHeld => ?_); refine with_tabW slices_BinarySearchFunc_2_int_2_int_2_int_impl_comparePairs.tab8 slices_BinarySearchFunc_2_int_2_int_2_int_impl_comparePairs.bits8 (fun HT_ HW_ => ?_)
     generalize wr.drew = w21 at BK277 HB hHeld ⊢
     refine pa_ 0 (some 35) (bm 16 1) rfl rfl HT_.out ?_
     refine pa_ 1 (some 36) (bm 16 3) rfl rfl HT_.out ?_
     refine pa_ 2 (some 37) (bm 16 7) rfl rfl HT_.out ?_
     refine pa_ 3 (some 38) (bm 16 15) rfl rfl HT_.out ?_
     refine pa_ 4 (some 39) (bm 16 31) rfl rfl HT_.out ?_
     refine pu_ 5 (some 40) (bm 16 63) rfl rfl HT_.out ?_
     refine pu_ 6 (some 41) (bm 16 127) rfl rfl HT_.out ?_
     refine pu_ 7 (some 42) (bm 16 255) rfl rfl HT_.out ?_
     refine pu_ 8 (some 43) (bm 16 511) rfl rfl HT_.out ?_
     refine pu_ 9 (some 44) (bm 16 1023) rfl rfl HT_.out ?_
     refine pu_ 10 (some 45) (bm 16 2047) rfl rfl HT_.out ?_
     refine pu_ 11 (some 46) (bm 16 4095) rfl rfl HT_.out ?_
     refine pu_ 12 (some 47) (bm 16 8191) rfl rfl HT_.out ?_
     refine pa_ 13 (some 48) (bm 16 16383) rfl rfl HT_.out ?_
     refine pa_ 14 (some 6) (bm 16 32767) rfl rfl HT_.out ?_
     refine pa_ 15 (some 7) (bm 16 65535) rfl rfl HT_.out ?_
     refine done_ (done_of HT_.out (by kernel_rfl)) ?_
     try go_wp2
     go_ret2
     exact ⟨by first | rfl | (simp [errW_none, errW_some] <;> rfl) | (simp [*, errW_none, errW_some] <;> rfl), by repeat (first | (with_reducible first | exact HB.out | apply below_alloc | apply pw_below_drewN | apply below_drew1 | refine below_set ?_ GE277.out) | exact HB.out)⟩

/-! ### impl_Space_isStep: function 152 -/
def impl_Space_isStep.f (k : Nat) (l0_0 : List (List Int)) (l0_1 : List (S78)) (a1 : Int) (a2 : Int) : Option (Bool) := (impl_pair.f a1 a2).bind fun bt283 => ((slices_BinarySearchFunc_2_int_2_int_2_int_impl_comparePairs.f k l0_1 bt283.1 bt283.2).bind fun bt285 => (some bt285.2))
def impl_Space_isStep.T1 : Bool × List (List Nat × List Nat) := (true, [([], []), ([0], [0]), ([], []), ([], []), ([2, 3], [2, 3]), ([1, 4, 4], [1, 4]), ([5], [5]), ([6], [6]), ([6], [6]), ([7, 5, 0, 1, 2, 3, 4, 5, 6, 7], [7]), ([8, 9, 0, 1, 2, 3, 4, 5, 6, 7, 8, 9], [8])])
def impl_Space_isStep.B1 : List Nat := [0, 1, 0, 0, 12, 31, 63, 127, 127, 255, 1023]
theorem impl_Space_isStep.tab1 : rtab .any (opsOf Try.f152 1) = impl_Space_isStep.T1 := by kernel_rfl
theorem impl_Space_isStep.bits1 : waitsOk impl_Space_isStep.T1.2 impl_Space_isStep.B1 = true := by kernel_rfl
set_option maxHeartbeats 8000000 in
set_option maxRecDepth 100000 in
theorem impl_Space_isStep.calls (k : Nat) (A0_0 : Option Addr) (c0_0 : Nat) (l0_0 : List (List Int)) (A0_1 : Option Addr) (c0_1 : Nat) (l0_1 : List (S78)) (a1 : Int) (a2 : Int) (r : Bool) (w : World) (hr0_0 : Kd.C (Kd.slice 3 (Kd.int .i64)) w A0_0 l0_0.length l0_0) (hc0_0 : l0_0.length ≤ c0_0) (hr0_1 : Kd.C k78 w A0_1 l0_1.length l0_1) (hc0_1 : l0_1.length ≤ c0_1) (h : impl_Space_isStep.f k l0_0 l0_1 a1 a2 = some r) :
  Calls Try.prog 152 #[.agg #[.slice A0_0 l0_0.length c0_0, .slice A0_1 l0_1.length c0_1], .int .i64 a1, .int .i64 a2] w fun e w' => e = .returned (.bool r) ∧ Below w.heap.size w w' := by
 have hu55 := Try.underlying55
 have HR0_0 := Aside0.mk hr0_0
 have HC0_0 := Aside0.mk hc0_0
 clear hr0_0 hc0_0
 have HR0_1 := Aside0.mk hr0_1
 have HC0_1 := Aside0.mk hc0_1
 clear hr0_1 hc0_1
 have HB := Aside0.mk (Below.refl w.heap.size w)
 have H : ((impl_pair.f a1 a2).bind fun bt283 => ((slices_BinarySearchFunc_2_int_2_int_2_int_impl_comparePairs.f k l0_1 bt283.1 bt283.2).bind fun bt285 => (some bt285.2))) = some r := h
 clear h
 replace H := Option.bind_eq_some_iff.mp H
 obtain ⟨⟨t283, t284⟩, A40, H⟩ := H
 replace H : ((slices_BinarySearchFunc_2_int_2_int_2_int_impl_comparePairs.f k l0_1 t283 t284).bind fun bt285 => (some bt285.2)) = some r := H
 have A4 := Aside0.mk A40
 clear A40
 replace H := Option.bind_eq_some_iff.mp H
 obtain ⟨⟨t285, t286⟩, A50, H⟩ := H
 replace H : (some t286) = some r := H
 have A5 := Aside0.mk A50
 clear A50
 obtain rfl := Option.some.inj H
 go_enter Try.func152, Try.ntmps152
 try go_wp2_with (first | ((with_reducible refine gate_dst (N := 3) rfl ?_); refine box_event ?hg (N := 3) ?hd (cs := #[.slice A0_0 l0_0.length c0_0, .slice A0_1 l0_1.length c0_1]) (t := 55) ?hr ?_; (case hd => rfl); (case hg => rfl); (case hr => first | (go_simp; done) | (go_simp; rfl)); intro gb282 hg w6 hbox hb; have n0_ := Aside0.mk (below_step bl_ hb); have n1_ := Aside0.mk (hbox); have n2_ := Aside0.mk ((by rw [hg]; exact (below_size bl_) : w.heap.size ≤ gb282)); have n3_ := Aside0.mk ((by rw [hg]; exact (below_size bl_) : w.heap.size ≤ gb282)); clear HB; have HB := n0_; have BK282 := n1_; have GW282 := n2_; have GE282 := n3_; clear n0_ n1_ n2_ n3_; clear hb hbox hg))
 have n0_ := Aside0.mk (blk_drew BK282.out)
 have n1_ := Aside0.mk (below_drew1 HB.out)
 clear BK282
 clear HB
 have BK282 := n0_
 have HB := n1_
 clear n0_ n1_
 refine start_ (n := 11) (S := fun w' => w'.cell? ⟨gb282, 0, none⟩ = some (.slice A0_0 l0_0.length c0_0) ∧ w'.cell? ⟨gb282, 1, none⟩ = some (.slice A0_1 l0_1.length c0_1)) (ds := []) (bm 11 0) (by kernel_rfl) rfl rfl ⟨(blk_cell BK282.out 0).trans rfl, (blk_cell BK282.out 1).trans rfl⟩ (fun hHeld => ?_); refine with_tabW impl_Space_isStep.tab1 impl_Space_isStep.bits1 (fun HT_ HW_ => ?_)
 generalize w6.drew = w7 at BK282 HB hHeld ⊢
 refine pa_ 0 (some 10) (bm 11 1) rfl rfl HT_.out ?_
 refine pa_ 2 (some 12) (bm 11 5) rfl rfl HT_.out ?_
 refine pa_ 3 (some 13) (bm 11 13) rfl rfl HT_.out ?_
 refine take_ (i := 1) (N := some 11) (v := ?_) (a' := ?_) (bm 11 15) rfl rfl (take_ofW HT_.out HW_.out (by kernel_rfl)) (fun _ _ _ h => h) (Or.inl ⟨by rfl, ?_⟩) hHeld ?_ ?_
 rotate_left
 ·rintro w' ⟨s0, s1⟩
  go_simp
  with_reducible rfl
 rotate_left
 ·simp only [Act.put, List.setIfInBounds_toArray, List.set_cons_zero, List.set_cons_succ, i64_w, i32_w]
  rfl
 refine one_ (i := 4) (N := some 14) (bm 11 31) rfl rfl (one_of HT_.out (by kernel_rfl)) (by decide) (fun K hK => ?_)
 refine goes_ Try.func135 (by kernel_rfl) rfl #[.int .i64 a1, .int .i64 a2] (by rfl) rfl rfl (by (try simp only [List.map_toArray, List.map_cons, List.map_nil]); first | done | rfl | (simp only [List.length_drop, List.length_take]; rfl)) ?_
 with_reducible refine (impl_pair.calls a1 a2 t283 t284 _ A4.out).mono ?_
 rintro e w8 ⟨rfl, hb⟩
 refine ⟨_, rfl, ?_⟩
 have n0_ := Aside0.mk (blk_below (g := gb282) (o := .cells #[.slice A0_0 l0_0.length c0_0, .slice A0_1 l0_1.length c0_1] 55 (0, 0)) (by (with_reducible repeat (first | refine blk_drewN ?_ _ | refine blk_drew ?_ | refine blk_alloc ?_ _)); exact BK282.out) hb)
 have n1_ := Aside0.mk (below_step (by repeat (first | (with_reducible first | exact HB.out | apply below_alloc | apply pw_below_drewN | apply below_drew1 | refine below_set ?_ GE282.out) | exact HB.out)) hb)
 clear BK282
 clear HB
 have BK282 := n0_
 have HB := n1_
 clear n0_ n1_
 (try clear hb)
 (try clear hb2)
 (try clear hk)
 (try clear hi)
 refine hK.out _ _ ⟨(blk_cell BK282.out 0).trans rfl, (blk_cell BK282.out 1).trans rfl⟩ (fun hHeld => ?_)
 clear hK K
 refine norm_ (a' := ?_) ?_ ?_
 rotate_left
 ·show Act.put _ (some 14) _ = _
  simp only [Act.put, List.setIfInBounds_toArray, List.set_cons_zero, List.set_cons_succ, i64_w, i32_w]
  rfl
 refine one_ (i := 5) (N := some 15) (bm 11 63) rfl rfl (one_of HT_.out (by kernel_rfl)) (by decide) (fun K hK => ?_)
 refine goes_ Try.func154 (by kernel_rfl) rfl #[.slice A0_1 l0_1.length c0_1, .agg #[.int .i64 t283, .int .i64 t284], .func (.func 137) #[] #[]] (by rfl) rfl rfl (by (try simp only [List.map_toArray, List.map_cons, List.map_nil]); first | done | rfl | (simp only [List.length_drop, List.length_take]; rfl)) ?_
 with_reducible refine (slices_BinarySearchFunc_2_int_2_int_2_int_impl_comparePairs.calls k _ _ l0_1 t283 t284  t285 t286 _ ?side1 ?side2 A5.out).mono ?_
 (case side1 => exact cb_ HR0_1)
 (case side2 => exact HC0_1.out)
 rintro e w9 ⟨rfl, hb⟩
 refine ⟨_, rfl, ?_⟩
 have n0_ := Aside0.mk (blk_below (g := gb282) (o := .cells #[.slice A0_0 l0_0.length c0_0, .slice A0_1 l0_1.length c0_1] 55 (0, 0)) (by (with_reducible repeat (first | refine blk_drewN ?_ _ | refine blk_drew ?_ | refine blk_alloc ?_ _)); exact BK282.out) hb)
 have n1_ := Aside0.mk (below_step (by repeat (first | (with_reducible first | exact HB.out | apply below_alloc | apply pw_below_drewN | apply below_drew1 | refine below_set ?_ GE282.out) | exact HB.out)) hb)
 clear BK282
 clear HB
 have BK282 := n0_
 have HB := n1_
 clear n0_ n1_
 (try clear hb)
 (try clear hb2)
 (try clear hk)
 (try clear hi)
 refine hK.out _ _ ⟨(blk_cell BK282.out 0).trans rfl, (blk_cell BK282.out 1).trans rfl⟩ (fun hHeld => ?_)
 clear hK K
 refine norm_ (a' := ?_) ?_ ?_
 rotate_left
 ·show Act.put _ (some 15) _ = _
  simp only [Act.put, List.setIfInBounds_toArray, List.set_cons_zero, List.set_cons_succ, i64_w, i32_w]
  rfl
 refine pa_ 6 (some 9) (bm 11 127) rfl rfl HT_.out ?_
 refine pa_ 7 (some 16) (bm 11 255) rfl rfl HT_.out ?_
 refine pa_ 8 (some 17) (bm 11 511) rfl rfl HT_.out ?_
 refine pa_ 9 (some 7) (bm 11 1023) rfl rfl HT_.out ?_
 refine pa_ 10 (some 8) (bm 11 2047) rfl rfl HT_.out ?_
 refine done_ (done_of HT_.out (by kernel_rfl)) ?_
 try go_wp2
 go_ret
 exact ⟨by first | rfl | (simp [errW_none, errW_some] <;> rfl) | (simp [*, errW_none, errW_some] <;> rfl), by repeat (first | (with_reducible first | exact HB.out | apply below_alloc | apply pw_below_drewN | apply below_drew1 | refine below_set ?_ GE282.out) | exact HB.out)⟩

end Go.Proofs.Ytiiaadgibkpaaaa.PFnExactIsCostProof
