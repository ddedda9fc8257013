-- written by wip/tools of this repo out of the translation (a turned copy of the kit's print): checked by Lean alone
import Derived.Test.YtiiaadgibkpaaaaPFnExactAfterMapx0
import Derived.Test.YtiiaadgibkpaaaaPFnExactAfterMapx3
import Derived.Test.YtiiaadgibkpaaaaPFnExactAfterMapx5
namespace Go.Proofs.Ytiiaadgibkpaaaa.PFnExactAfterMap
open Go.RowKit Go.Proofs.YtiiaadgibkpaaaaW.PrintWords Go.Proofs.YtiiaadgibkpaaaaW.PrintLast Go.Proofs.YtiiaadgibkpaaaaW.PrintMore
attribute [local go_sem] max2_int min2_int max_two min_two max_three min_three max_four min_four   -- for this text's walks alone
set_option linter.unusedVariables false
set_option linter.unusedSimpArgs false

/-! ### spec_l10Map: function 58 -/
mutual
def spec_l10Map.l0 : Nat → List Int → Bool → Int → Int → List (S78) → Int → List (S78) → Option (Bool)
 | 0, _, _, _, _, _, _, _ => none
 | k + 1, x2, x3, x9, x155000, x155001, x156000, x156001 => if x9 < (x2.length : Int) then (if 0 ≤ x9 then ((spec_l1In.f (rd x2 x9) 0 (wrap64 (x156000 - 1))).bind fun t157 => (if t157 = true then (spec_l10Map.l0 k x2 x3 (wrap64 (x9 + 1)) x155000 x155001 x156000 x156001) else (some false))) else (none)) else (if (x2.length : Int) = x155000 then (spec_l10Map.l1 k x2 x3 0 x155000 x155001 x156000 x156001) else (some false))
def spec_l10Map.l1 : Nat → List Int → Bool → Int → Int → List (S78) → Int → List (S78) → Option (Bool)
 | 0, _, _, _, _, _, _, _ => none
 | k + 1, x2, x3, x10, x155000, x155001, x156000, x156001 => if x10 < (x155001.length : Int) then (if 0 ≤ x10 then (if 0 ≤ ((rd_T78 x155001 x10).f0) then (if ((rd_T78 x155001 x10).f0) < (x2.length : Int) then (if 0 ≤ ((rd_T78 x155001 x10).f1) then (if ((rd_T78 x155001 x10).f1) < (x2.length : Int) then ((spec_l10Fits.f k x156000 x156001 (rd x2 ((rd_T78 x155001 x10).f0)) (rd x2 ((rd_T78 x155001 x10).f1)) x3).bind fun t162 => (if t162 = true then (spec_l10Map.l1 k x2 x3 (wrap64 (x10 + 1)) x155000 x155001 x156000 x156001) else (some false))) else (none)) else (none)) else (none)) else (none)) else (none)) else (some true)
end
def spec_l10Map.f (k : Nat) (a0_0 : Int) (l0_1 : List (S78)) (a1_0 : Int) (l1_1 : List (S78)) (l2 : List Int) (a3 : Bool) : Option (Bool) := spec_l10Map.l0 k l2 a3 0 a0_0 l0_1 a1_0 l1_1
def spec_l10Map.T4 : Bool × List (List Nat × List Nat) := (true, [([], []), ([], []), ([0, 1], [0, 1]), ([2], [2]), ([], []), ([4], [4]), ([5], [5]), ([3, 6], [3, 6]), ([7], [7])])
def spec_l10Map.B4 : List Nat := [0, 0, 3, 7, 0, 16, 48, 127, 255]
theorem spec_l10Map.tab4 : rtab .any (opsOf Try.f58 4) = spec_l10Map.T4 := by kernel_rfl
theorem spec_l10Map.bits4 : waitsOk spec_l10Map.T4.2 spec_l10Map.B4 = true := by kernel_rfl
def spec_l10Map.T11 : Bool × List (List Nat × List Nat) := (true, [([], []), ([], []), ([], []), ([2], [2]), ([], []), ([3, 4], [3, 4]), ([5], [5]), ([6], [6]), ([1, 7], [1, 7]), ([8], [8]), ([], []), ([], []), ([11], [11]), ([], []), ([12, 13], [12, 13]), ([14], [14]), ([15], [15]), ([10, 16], [10, 16]), ([17], [17]), ([], []), ([0, 9, 18, 19], [0, 9, 18, 19]), ([20], [20])])
def spec_l10Map.B11 : List Nat := [0, 0, 0, 4, 0, 28, 60, 124, 254, 510, 0, 0, 2048, 0, 14336, 30720, 63488, 130048, 261120, 0, 1048575, 2097151]
theorem spec_l10Map.tab11 : rtab .any (opsOf Try.f58 11) = spec_l10Map.T11 := by kernel_rfl
theorem spec_l10Map.bits11 : waitsOk spec_l10Map.T11.2 spec_l10Map.B11 = true := by kernel_rfl
set_option maxHeartbeats 8000000 in
set_option maxRecDepth 100000 in
theorem spec_l10Map.calls (k : Nat) (a0_0 : Int) (A0_1 : Option Addr) (c0_1 : Nat) (l0_1 : List (S78)) (a1_0 : Int) (A1_1 : Option Addr) (c1_1 : Nat) (l1_1 : List (S78)) (A2 : Option Addr) (c2 : Nat) (l2 : List Int) (a3 : Bool) (r : Bool) (w : World) (hr0_1 : Kd.C k78 w A0_1 l0_1.length l0_1) (hc0_1 : l0_1.length ≤ c0_1) (hr1_1 : Kd.C k78 w A1_1 l1_1.length l1_1) (hc1_1 : l1_1.length ≤ c1_1) (hr2 : Kd.C (Kd.int .i64) w A2 l2.length l2) (hc2 : l2.length ≤ c2) (h : spec_l10Map.f k a0_0 l0_1 a1_0 l1_1 l2 a3 = some r) :
  Calls Try.prog 58 #[.agg #[.int .i64 a0_0, .slice A0_1 l0_1.length c0_1], .agg #[.int .i64 a1_0, .slice A1_1 l1_1.length c1_1], .slice A2 l2.length c2, .bool a3] w fun e w' => e = .returned (.bool r) ∧ Below w.heap.size w w' := by
 have hu29 := Try.underlying29
 have HR0_1 := Aside0.mk hr0_1
 have HC0_1 := Aside0.mk hc0_1
 clear hr0_1 hc0_1
 have HR1_1 := Aside0.mk hr1_1
 have HC1_1 := Aside0.mk hc1_1
 clear hr1_1 hc1_1
 have HR2 := Aside0.mk hr2
 have HC2 := Aside0.mk hc2
 clear hr2 hc2
 have HB := Aside0.mk (Below.refl w.heap.size w)
 have H : (spec_l10Map.l0 k l2 a3 0 a0_0 l0_1 a1_0 l1_1) = some r := h
 clear h
 have H' := Aside0.mk H
 clear H
 go_enter Try.func58, Try.ntmps58
 go_wp2_with (first | ((with_reducible refine gate_dst (N := 4) rfl ?_); refine box_event ?hg (N := 4) ?hd (cs := #[.int .i64 a0_0, .slice A0_1 l0_1.length c0_1]) (t := 29) ?hr ?_; (case hd => rfl); (case hg => rfl); (case hr => first | (go_simp; done) | (go_simp; rfl)); intro gb154 hg w5 hbox hb; have n_ := And.intro (Aside0.mk (below_step bl_ hb)) (And.intro (Aside0.mk (hbox)) (And.intro (Aside0.mk ((by rw [hg]; exact (below_size bl_) : w.heap.size ≤ gb154))) (Aside0.mk ((by rw [hg]; exact (below_size bl_) : w.heap.size ≤ gb154))))); clear HB; obtain ⟨HB, BK154, GW154, GE154⟩ := n_; clear hb hbox hg) | ((with_reducible refine gate_dst (N := 5) rfl ?_); refine box_event ?hg (N := 5) ?hd (cs := #[.int .i64 a1_0, .slice A1_1 l1_1.length c1_1]) (t := 29) ?hr ?_; (case hd => rfl); (case hg => rfl); (case hr => first | (go_simp; done) | (go_simp; rfl)); intro gb155 hg w6 hbox hb; have n_ := And.intro (Aside0.mk (blk_below (g := gb154) (o := .cells #[.int .i64 a0_0, .slice A0_1 l0_1.length c0_1] 29 (0, 0)) (bk_ BK154) hb)) (And.intro (Aside0.mk (below_step bg_ hb)) (And.intro (Aside0.mk (hbox)) (And.intro (Aside0.mk ((by rw [hg]; exact (below_size bg_) : w.heap.size ≤ gb155))) (And.intro (Aside0.mk ((by rw [hg]; exact (below_size bg_) : w.heap.size ≤ gb155))) (And.intro (Aside0.mk ((by rw [hg]; exact Nat.ne_of_lt (blk_lt (g := gb154) (o := .cells #[.int .i64 a0_0, .slice A0_1 l0_1.length c0_1] 29 (0, 0)) (bk_ BK154)) : gb154 ≠ gb155))) (Aside0.mk ((by rw [hg]; exact Nat.ne_of_gt (blk_lt (g := gb154) (o := .cells #[.int .i64 a0_0, .slice A0_1 l0_1.length c0_1] 29 (0, 0)) (bk_ BK154)) : gb155 ≠ gb154)))))))); clear BK154 HB; obtain ⟨BK154, HB, BK155, GW155, GE155, NB154_155, NB155_154⟩ := n_; clear hb hbox hg))
 go_loopg [9] k (fun kq v9 w' => ∃ (x9_1 : Int), v9 = .int .i64 x9_1 ∧ Aside0 (spec_l10Map.l0 kq l2 a3 x9_1 a0_0 l0_1 a1_0 l1_1 = some r) ∧ Aside0 (kq ≤ k) ∧ Aside0 (w'.heap[gb154]? = some (.cells #[.int .i64 a0_0, (.slice A0_1 l0_1.length c0_1)] 29 (0, 0))) ∧ Aside0 (w'.heap[gb155]? = some (.cells #[.int .i64 a1_0, (.slice A1_1 l1_1.length c1_1)] 29 (0, 0))) ∧ Aside0 (Below w.heap.size w w'))
 case atStart => exact ⟨(0), (by first | rfl | (simp; done) | (simp [*]; done)), H', ⟨Nat.le_refl _⟩, ⟨by (with_reducible repeat (first | refine blk_drewN ?_ _ | refine blk_drew ?_ | refine blk_alloc ?_ _)); exact BK154.out⟩, ⟨by (with_reducible repeat (first | refine blk_drewN ?_ _ | refine blk_drew ?_ | refine blk_alloc ?_ _)); exact BK155.out⟩, ⟨by repeat (first | (with_reducible first | exact HB.out | apply below_alloc | apply pw_below_drewN | apply below_drew1 | refine below_set ?_ GE154.out | refine below_set ?_ GE155.out) | exact HB.out)⟩⟩
 case round =>
  clear H'
  try clear c1
  try clear c2
  try clear p2
  try clear c5
  obtain ⟨x9_1, rfl, HA, HK1, BK154, BK155, HB⟩ := hrel
  cases gk with
  | zero => exact absurd HA.out (by simp [spec_l10Map.l0])
  | succ k1 =>
   have H := HA.out
   clear HA
   simp only [spec_l10Map.l0] at H
   by_cases c7 : x9_1 < (l2.length : Int)
   ·rw [if_pos c7] at H
    have c7b0 : decide (x9_1 < (l2.length : Int)) = true := decide_eq_true c7
    clear c7
    by_cases c8 : 0 ≤ x9_1
    ·rw [if_pos c8] at H
     have c8b0 : decide (0 ≤ x9_1) = true := decide_eq_true c8
     clear c8
     replace H := Option.bind_eq_some_iff.mp H
     obtain ⟨t157, A90, H⟩ := H
     (try dsimp only at H)
     have A9 := Aside0.mk A90
     clear A90
     by_cases c10 : t157 = true
     ·subst c10
      have H1 : (spec_l10Map.l0 k1 l2 a3 (wrap64 (x9_1 + 1)) a0_0 l0_1 a1_0 l1_1) = some r := by rw [if_pos rfl] at H; exact H
      clear H
      have H := H1
      clear H1
      have H' := Aside0.mk H
      clear H
      try go_wp2
      have n_ := And.intro (Aside0.mk (blk_drew BK154.out)) (And.intro (Aside0.mk (blk_drew BK155.out)) (Aside0.mk (below_drew1 HB.out)))
      clear BK154 BK155 HB; obtain ⟨BK154, BK155, HB⟩ := n_
      have p156 : 0 ≤ (x9_1 : Int) := od_
      have q156 : x9_1 < (l2.length : Int) := od_
      obtain ⟨ad156, e156, hx156_0⟩ := Kd.at_int HR2.out x9_1 p156 q156
      have hw156_0 := hx156_0
      cases e156
      replace hx156_0 := (HB.out.cell (World.block_lt_of_cell? w _ hx156_0)).trans hx156_0
      replace p156 := eq_true p156
      replace q156 := eq_true q156
      refine start_ (n := 9) (S := fun w' => w'.cell? ⟨gb155, 0, none⟩ = some (.int .i64 a1_0) ∧ w'.cell? ⟨gb155, 1, none⟩ = some (.slice A1_1 l1_1.length c1_1) ∧ w'.cell? (ad156.add (x9_1).toNat) = some (.int .i64 (rd l2 x9_1))) (ds := []) (bm 9 0) (by kernel_rfl) rfl rfl ⟨(blk_cell BK155.out 0).trans rfl, (blk_cell BK155.out 1).trans rfl, ((HB.out.cell (World.block_lt_of_cell? w _ hw156_0)).trans hw156_0)⟩ (fun hHeld => ?_); refine with_tabW spec_l10Map.tab4 spec_l10Map.bits4 (fun HT_ HW_ => ?_)
      generalize wr.drew = w11 at BK154 BK155 HB hx156_0 hHeld ⊢
      refine pa_ 0 (some 17) (bm 9 1) rfl rfl HT_.out ?_
      refine pa_ 1 (some 18) (bm 9 3) rfl rfl HT_.out ?_
      refine pa_ 2 (some 19) (bm 9 7) rfl rfl HT_.out ?_
      refine pa_ 4 (some 21) (bm 9 23) rfl rfl HT_.out ?_
      refine take_ (i := 3) (N := some 20) (v := ?_) (a' := ?_) (bm 9 31) rfl rfl (take_ofW HT_.out HW_.out (by kernel_rfl)) (fun _ _ _ h => h) (Or.inl ⟨by rfl, ?_⟩) hHeld ?_ ?_
      rotate_left
      ·rintro w' ⟨s0, s1, s2⟩
       go_simp
       with_reducible rfl
      rotate_left
      ·simp only [Act.put, List.setIfInBounds_toArray, List.set_cons_zero, List.set_cons_succ, i64_w, i32_w]
       rfl
      refine take_ (i := 5) (N := some 22) (v := ?_) (a' := ?_) (bm 9 63) rfl rfl (take_ofW HT_.out HW_.out (by kernel_rfl)) (fun _ _ _ h => h) (Or.inl ⟨by rfl, ?_⟩) hHeld ?_ ?_
      rotate_left
      ·rintro w' ⟨s0, s1, s2⟩
       go_simp
       with_reducible rfl
      rotate_left
      ·simp only [Act.put, List.setIfInBounds_toArray, List.set_cons_zero, List.set_cons_succ, i64_w, i32_w]
       rfl
      refine pa_ 6 (some 23) (bm 9 127) rfl rfl HT_.out ?_
      refine one_ (i := 7) (N := some 24) (bm 9 255) rfl rfl (one_of HT_.out (by kernel_rfl)) (by decide) (fun K hK => ?_)
      refine goes_ Try.func89 (by kernel_rfl) rfl #[.int .i64 (rd l2 x9_1), .int .i64 0, .int .i64 (wrap64 (a1_0 - 1))] (by rfl) rfl rfl (by (try simp only [List.map_toArray, List.map_cons, List.map_nil]); first | done | rfl | (simp only [List.length_drop, List.length_take]; rfl)) ?_
      with_reducible refine (spec_l1In.calls (rd l2 x9_1) 0 (wrap64 (a1_0 - 1)) true _ A9.out).mono ?_
      rintro e w' ⟨rfl, ⟨nd, rfl⟩⟩
      refine ⟨_, rfl, ?_⟩
      refine hK.out _ _ ⟨(blk_cell BK155.out 0).trans rfl, (blk_cell BK155.out 1).trans rfl, ((HB.out.cell (World.block_lt_of_cell? w _ hw156_0)).trans hw156_0)⟩ (fun hHeld => ?_)
      clear hK K
      refine norm_ (a' := ?_) ?_ ?_
      rotate_left
      ·show Act.put _ (some 24) _ = _
       simp only [Act.put, List.setIfInBounds_toArray, List.set_cons_zero, List.set_cons_succ, i64_w, i32_w]
       rfl
      refine pa_ 8 (some 25) (bm 9 511) rfl rfl HT_.out ?_
      refine done_ (done_of HT_.out (by kernel_rfl)) ?_
      try go_wp2
      go_roundg k1
      case measure => have := HK1.out; omega
      case rel => exact ⟨(wrap64 (x9_1 + 1)), (by first | rfl | (simp; done) | (simp [*]; done)), H', ⟨by have := HK1.out; omega⟩, ⟨by (with_reducible repeat (first | refine blk_drewN ?_ _ | refine blk_drew ?_ | refine blk_alloc ?_ _)); exact BK154.out⟩, ⟨by (with_reducible repeat (first | refine blk_drewN ?_ _ | refine blk_drew ?_ | refine blk_alloc ?_ _)); exact BK155.out⟩, ⟨by repeat (first | (with_reducible first | exact HB.out | apply below_alloc | apply pw_below_drewN | apply below_drew1 | refine below_set ?_ GE154.out | refine below_set ?_ GE155.out) | exact HB.out)⟩⟩
     ·replace c10 := Bool.eq_false_iff.mpr c10
      subst c10
      have H1 : (some false) = some r := by rw [if_neg (show ¬ (false = true) by decide)] at H; exact H
      clear H
      have H := H1
      clear H1
      obtain rfl := Option.some.inj H
      try go_wp2
      have n_ := And.intro (Aside0.mk (blk_drew BK154.out)) (And.intro (Aside0.mk (blk_drew BK155.out)) (Aside0.mk (below_drew1 HB.out)))
      clear BK154 BK155 HB; obtain ⟨BK154, BK155, HB⟩ := n_
      have p156 : 0 ≤ (x9_1 : Int) := od_
      have q156 : x9_1 < (l2.length : Int) := od_
      obtain ⟨ad156, e156, hx156_0⟩ := Kd.at_int HR2.out x9_1 p156 q156
      have hw156_0 := hx156_0
      cases e156
      replace hx156_0 := (HB.out.cell (World.block_lt_of_cell? w _ hx156_0)).trans hx156_0
      replace p156 := eq_true p156
      replace q156 := eq_true q156
      refine start_ (n := 9) (S := fun w' => w'.cell? ⟨gb155, 0, none⟩ = some (.int .i64 a1_0) ∧ w'.cell? ⟨gb155, 1, none⟩ = some (.slice A1_1 l1_1.length c1_1) ∧ w'.cell? (ad156.add (x9_1).toNat) = some (.int .i64 (rd l2 x9_1))) (ds := []) (bm 9 0) (by kernel_rfl) rfl rfl ⟨(blk_cell BK155.out 0).trans rfl, (blk_cell BK155.out 1).trans rfl, ((HB.out.cell (World.block_lt_of_cell? w _ hw156_0)).trans hw156_0)⟩ (fun hHeld => ?_); refine with_tabW spec_l10Map.tab4 spec_l10Map.bits4 (fun HT_ HW_ => ?_)
      generalize wr.drew = w12 at BK154 BK155 HB hx156_0 hHeld ⊢
      refine pa_ 0 (some 17) (bm 9 1) rfl rfl HT_.out ?_
      refine pa_ 1 (some 18) (bm 9 3) rfl rfl HT_.out ?_
      refine pa_ 2 (some 19) (bm 9 7) rfl rfl HT_.out ?_
      refine pa_ 4 (some 21) (bm 9 23) rfl rfl HT_.out ?_
      refine take_ (i := 3) (N := some 20) (v := ?_) (a' := ?_) (bm 9 31) rfl rfl (take_ofW HT_.out HW_.out (by kernel_rfl)) (fun _ _ _ h => h) (Or.inl ⟨by rfl, ?_⟩) hHeld ?_ ?_
      rotate_left
      ·rintro w' ⟨s0, s1, s2⟩
       go_simp
       with_reducible rfl
      rotate_left
      ·simp only [Act.put, List.setIfInBounds_toArray, List.set_cons_zero, List.set_cons_succ, i64_w, i32_w]
       rfl
      refine take_ (i := 5) (N := some 22) (v := ?_) (a' := ?_) (bm 9 63) rfl rfl (take_ofW HT_.out HW_.out (by kernel_rfl)) (fun _ _ _ h => h) (Or.inl ⟨by rfl, ?_⟩) hHeld ?_ ?_
      rotate_left
      ·rintro w' ⟨s0, s1, s2⟩
       go_simp
       with_reducible rfl
      rotate_left
      ·simp only [Act.put, List.setIfInBounds_toArray, List.set_cons_zero, List.set_cons_succ, i64_w, i32_w]
       rfl
      refine pa_ 6 (some 23) (bm 9 127) rfl rfl HT_.out ?_
      refine one_ (i := 7) (N := some 24) (bm 9 255) rfl rfl (one_of HT_.out (by kernel_rfl)) (by decide) (fun K hK => ?_)
      refine goes_ Try.func89 (by kernel_rfl) rfl #[.int .i64 (rd l2 x9_1), .int .i64 0, .int .i64 (wrap64 (a1_0 - 1))] (by rfl) rfl rfl (by (try simp only [List.map_toArray, List.map_cons, List.map_nil]); first | done | rfl | (simp only [List.length_drop, List.length_take]; rfl)) ?_
      with_reducible refine (spec_l1In.calls (rd l2 x9_1) 0 (wrap64 (a1_0 - 1)) false _ A9.out).mono ?_
      rintro e w' ⟨rfl, ⟨nd, rfl⟩⟩
      refine ⟨_, rfl, ?_⟩
      refine hK.out _ _ ⟨(blk_cell BK155.out 0).trans rfl, (blk_cell BK155.out 1).trans rfl, ((HB.out.cell (World.block_lt_of_cell? w _ hw156_0)).trans hw156_0)⟩ (fun hHeld => ?_)
      clear hK K
      refine norm_ (a' := ?_) ?_ ?_
      rotate_left
      ·show Act.put _ (some 24) _ = _
       simp only [Act.put, List.setIfInBounds_toArray, List.set_cons_zero, List.set_cons_succ, i64_w, i32_w]
       rfl
      refine pa_ 8 (some 25) (bm 9 511) rfl rfl HT_.out ?_
      refine done_ (done_of HT_.out (by kernel_rfl)) ?_
      try go_wp2
      go_ret
      exact ⟨by first | rfl | (simp [errW_none, errW_some] <;> rfl) | (simp [*, errW_none, errW_some] <;> rfl), by repeat (first | (with_reducible first | exact HB.out | apply below_alloc | apply pw_below_drewN | apply below_drew1 | refine below_set ?_ GE154.out | refine below_set ?_ GE155.out) | exact HB.out)⟩
    ·rw [if_neg c8] at H
     exact absurd H (by simp)
   ·rw [if_neg c7] at H
    have c7b0 : decide (x9_1 < (l2.length : Int)) = false := decide_eq_false c7
    clear c7
    by_cases c13 : (l2.length : Int) = a0_0
    ·rw [if_pos c13] at H
     have c13b0 : ((l2.length : Int) == a0_0) = true := beq_iff_eq.mpr c13
     have c13b1 : ((l2.length : Int) != a0_0) = false := bne_eq_false_iff_eq.mpr c13
     clear c13
     have H' := Aside0.mk H
     clear H
     have hnb14 := NB154_155.out
     have hnc14 := NB155_154.out
     have hcz15_0 : wr.cell? ⟨gb154, 0, none⟩ = some (.int .i64 a0_0) := (blk_cell BK154.out 0).trans rfl
     have hcz15_1 : wr.cell? ⟨gb154, 1, none⟩ = some (.slice A0_1 l0_1.length c0_1) := (blk_cell BK154.out 1).trans rfl
     have hfz15_0 := blk_frozen BK154.out 0
     have hfz15_1 := blk_frozen BK154.out 1
     go_wp2
     go_loopg [10] k1 (fun kq v10 w' => ∃ (x10_2 : Int), v10 = .int .i64 x10_2 ∧ Aside0 (spec_l10Map.l1 kq l2 a3 x10_2 a0_0 l0_1 a1_0 l1_1 = some r) ∧ Aside0 (kq ≤ k1) ∧ Aside0 (w'.heap[gb154]? = some (.cells #[.int .i64 a0_0, (.slice A0_1 l0_1.length c0_1)] 29 (0, 0))) ∧ Aside0 (w'.heap[gb155]? = some (.cells #[.int .i64 a1_0, (.slice A1_1 l1_1.length c1_1)] 29 (0, 0))) ∧ Aside0 (Below w.heap.size w w'))
     case atStart => exact ⟨(0), (by first | rfl | (simp; done) | (simp [*]; done)), H', ⟨Nat.le_refl _⟩, ⟨by (with_reducible repeat (first | refine blk_drewN ?_ _ | refine blk_drew ?_ | refine blk_alloc ?_ _)); exact BK154.out⟩, ⟨by (with_reducible repeat (first | refine blk_drewN ?_ _ | refine blk_drew ?_ | refine blk_alloc ?_ _)); exact BK155.out⟩, ⟨by repeat (first | (with_reducible first | exact HB.out | apply below_alloc | apply pw_below_drewN | apply below_drew1 | refine below_set ?_ GE154.out | refine below_set ?_ GE155.out) | exact HB.out)⟩⟩
     case round =>
      clear H'
      try clear c1
      try clear p1
      try clear q1
      try clear hx1
      try clear c2
      try clear p2
      try clear c5
      try clear p6
      try clear c7
      try clear c7b0
      try clear c8
      try clear c8b0
      try clear c10
      try clear c13
      try clear c13b0
      try clear c13b1
      try clear c14
      try clear p15
      try clear q15
      try clear hx15
      try clear hcz15_0
      try clear hcz15_1
      try clear hfz15_0
      try clear hfz15_1
      try clear hx156_0
      try clear p156
      try clear p2
      try clear q156
      obtain ⟨x10_2, rfl, HA, HK2, BK154, BK155, HB⟩ := hrel
      cases gk with
      | zero => exact absurd HA.out (by simp [spec_l10Map.l1])
      | succ k2 =>
       have H := HA.out
       clear HA
       simp only [spec_l10Map.l1] at H
       by_cases c16 : x10_2 < (l0_1.length : Int)
       ·rw [if_pos c16] at H
        have c16b0 : decide (x10_2 < (l0_1.length : Int)) = true := decide_eq_true c16
        clear c16
        by_cases c17 : 0 ≤ x10_2
        ·rw [if_pos c17] at H
         have c17b0 : decide (0 ≤ x10_2) = true := decide_eq_true c17
         clear c17
         by_cases c18 : 0 ≤ ((rd_T78 l0_1 x10_2).f0)
         ·rw [if_pos c18] at H
          have c18b0 : decide (0 ≤ ((rd_T78 l0_1 x10_2).f0)) = true := decide_eq_true c18
          clear c18
          by_cases c19 : ((rd_T78 l0_1 x10_2).f0) < (l2.length : Int)
          ·rw [if_pos c19] at H
           have c19b0 : decide (((rd_T78 l0_1 x10_2).f0) < (l2.length : Int)) = true := decide_eq_true c19
           clear c19
           by_cases c20 : 0 ≤ ((rd_T78 l0_1 x10_2).f1)
           ·rw [if_pos c20] at H
            have c20b0 : decide (0 ≤ ((rd_T78 l0_1 x10_2).f1)) = true := decide_eq_true c20
            clear c20
            by_cases c21 : ((rd_T78 l0_1 x10_2).f1) < (l2.length : Int)
            ·rw [if_pos c21] at H
             have c21b0 : decide (((rd_T78 l0_1 x10_2).f1) < (l2.length : Int)) = true := decide_eq_true c21
             clear c21
             replace H := Option.bind_eq_some_iff.mp H
             obtain ⟨t162, A220, H⟩ := H
             (try dsimp only at H)
             have A22 := Aside0.mk A220
             clear A220
             by_cases c23 : t162 = true
             ·subst c23
              have H1 : (spec_l10Map.l1 k2 l2 a3 (wrap64 (x10_2 + 1)) a0_0 l0_1 a1_0 l1_1) = some r := by rw [if_pos rfl] at H; exact H
              clear H
              have H := H1
              clear H1
              have H' := Aside0.mk H
              clear H
              have hnb24 := NB154_155.out
              have hnc24 := NB155_154.out
              have hcz25_0 : wr.cell? ⟨gb154, 0, none⟩ = some (.int .i64 a0_0) := (blk_cell BK154.out 0).trans rfl
              have hcz25_1 : wr.cell? ⟨gb154, 1, none⟩ = some (.slice A0_1 l0_1.length c0_1) := (blk_cell BK154.out 1).trans rfl
              have hfz25_0 := blk_frozen BK154.out 0
              have hfz25_1 := blk_frozen BK154.out 1
              try go_wp2
              have n_ := And.intro (Aside0.mk (blk_drew BK154.out)) (And.intro (Aside0.mk (blk_drew BK155.out)) (Aside0.mk (below_drew1 HB.out)))
              clear BK154 BK155 HB; obtain ⟨BK154, BK155, HB⟩ := n_
              have p158 : 0 ≤ (x10_2 : Int) := od_
              have q158 : x10_2 < (l0_1.length : Int) := od_
              obtain ⟨ad158, e158, hx158_0, hx158_1⟩ := at_T78 HR0_1.out x10_2 p158 q158
              have hw158_1 := hx158_1
              have hw158_0 := hx158_0
              cases e158
              replace hx158_0 := (HB.out.cell (World.block_lt_of_cell? w _ hx158_0)).trans hx158_0
              replace hx158_1 := (HB.out.cell (World.block_lt_of_cell? w _ hx158_1)).trans hx158_1
              replace p158 := eq_true p158
              replace q158 := eq_true q158
              have p159 : 0 ≤ (((rd_T78 l0_1 x10_2).f0) : Int) := od_
              have q159 : ((rd_T78 l0_1 x10_2).f0) < (l2.length : Int) := od_
              obtain ⟨ad159, e159, hx159_0⟩ := Kd.at_int HR2.out ((rd_T78 l0_1 x10_2).f0) p159 q159
              have hw159_0 := hx159_0
              cases e159
              replace hx159_0 := (HB.out.cell (World.block_lt_of_cell? w _ hx159_0)).trans hx159_0
              replace p159 := eq_true p159
              replace q159 := eq_true q159
              have p160 : 0 ≤ (x10_2 : Int) := od_
              have q160 : x10_2 < (l0_1.length : Int) := od_
              obtain ⟨ad160, e160, hx160_0, hx160_1⟩ := at_T78 HR0_1.out x10_2 p160 q160
              have hw160_1 := hx160_1
              have hw160_0 := hx160_0
              obtain rfl : ad158 = ad160 := (by injection e160)
              replace hx160_0 := (HB.out.cell (World.block_lt_of_cell? w _ hx160_0)).trans hx160_0
              replace hx160_1 := (HB.out.cell (World.block_lt_of_cell? w _ hx160_1)).trans hx160_1
              replace p160 := eq_true p160
              replace q160 := eq_true q160
              have p161 : 0 ≤ (((rd_T78 l0_1 x10_2).f1) : Int) := od_
              have q161 : ((rd_T78 l0_1 x10_2).f1) < (l2.length : Int) := od_
              obtain ⟨ad161, e161, hx161_0⟩ := Kd.at_int HR2.out ((rd_T78 l0_1 x10_2).f1) p161 q161
              have hw161_0 := hx161_0
              obtain rfl : ad159 = ad161 := (by injection e161)
              replace hx161_0 := (HB.out.cell (World.block_lt_of_cell? w _ hx161_0)).trans hx161_0
              replace p161 := eq_true p161
              replace q161 := eq_true q161
              refine start_ (n := 22) (S := fun w' => w'.cell? ⟨gb155, 0, none⟩ = some (.int .i64 a1_0) ∧ w'.cell? ⟨gb155, 1, none⟩ = some (.slice A1_1 l1_1.length c1_1) ∧ w'.cell? ⟨gb154, 0, none⟩ = some (.int .i64 a0_0) ∧ w'.cell? ⟨gb154, 1, none⟩ = some (.slice (some ad158) l0_1.length c0_1) ∧ w'.cell? (ad158.add ((x10_2).toNat * 2)) = some (.int .i64 ((rd_T78 l0_1 x10_2).f0)) ∧ w'.cell? ⟨(ad158.add ((x10_2).toNat * 2)).block, (ad158.add ((x10_2).toNat * 2)).off + 1, none⟩ = some (.int .i64 ((rd_T78 l0_1 x10_2).f1)) ∧ w'.cell? (ad159.add (((rd_T78 l0_1 x10_2).f0)).toNat) = some (.int .i64 (rd l2 ((rd_T78 l0_1 x10_2).f0))) ∧ w'.cell? (ad158.add ((x10_2).toNat * 2)) = some (.int .i64 ((rd_T78 l0_1 x10_2).f0)) ∧ w'.cell? ⟨(ad158.add ((x10_2).toNat * 2)).block, (ad158.add ((x10_2).toNat * 2)).off + 1, none⟩ = some (.int .i64 ((rd_T78 l0_1 x10_2).f1)) ∧ w'.cell? (ad159.add (((rd_T78 l0_1 x10_2).f1)).toNat) = some (.int .i64 (rd l2 ((rd_T78 l0_1 x10_2).f1)))) (ds := []) (bm 22 0) (by kernel_rfl) rfl rfl ⟨(blk_cell BK155.out 0).trans rfl, (blk_cell BK155.out 1).trans rfl, (blk_cell BK154.out 0).trans rfl, (blk_cell BK154.out 1).trans rfl, ((HB.out.cell (World.block_lt_of_cell? w _ hw158_0)).trans hw158_0), ((HB.out.cell (World.block_lt_of_cell? w _ hw158_1)).trans hw158_1), ((HB.out.cell (World.block_lt_of_cell? w _ hw159_0)).trans hw159_0), ((HB.out.cell (World.block_lt_of_cell? w _ hw160_0)).trans hw160_0), ((HB.out.cell (World.block_lt_of_cell? w _ hw160_1)).trans hw160_1), ((HB.out.cell (World.block_lt_of_cell? w _ hw161_0)).trans hw161_0)⟩ (fun hHeld => ?_); refine with_tabW spec_l10Map.tab11 spec_l10Map.bits11 (fun HT_ HW_ => ?_)
              generalize wr.drew = w26 at BK154 BK155 HB hx158_0 hx158_1 hx159_0 hx160_0 hx160_1 hx161_0 hHeld ⊢
              refine pa_ 1 (some 39) (bm 22 2) rfl rfl HT_.out ?_
              refine pa_ 2 (some 40) (bm 22 6) rfl rfl HT_.out ?_
              refine pa_ 4 (some 42) (bm 22 22) rfl rfl HT_.out ?_
              refine pa_ 10 (some 48) (bm 22 1046) rfl rfl HT_.out ?_
              refine pa_ 11 (some 49) (bm 22 3094) rfl rfl HT_.out ?_
              refine pa_ 13 (some 51) (bm 22 11286) rfl rfl HT_.out ?_
              refine pa_ 19 (some 57) (bm 22 535574) rfl rfl HT_.out ?_
              refine take_ (i := 0) (N := some 38) (v := ?_) (a' := ?_) (bm 22 535575) rfl rfl (take_ofW HT_.out HW_.out (by kernel_rfl)) (fun _ _ _ h => h) (Or.inl ⟨by rfl, ?_⟩) hHeld ?_ ?_
              rotate_left
              ·rintro w' ⟨s0, s1, s2, s3, s4, s5, s6, s7, s8, s9⟩
               go_simp
               with_reducible rfl
              rotate_left
              ·simp only [Act.put, List.setIfInBounds_toArray, List.set_cons_zero, List.set_cons_succ, i64_w, i32_w]
               rfl
              refine take_ (i := 3) (N := some 41) (v := ?_) (a' := ?_) (bm 22 535583) rfl rfl (take_ofW HT_.out HW_.out (by kernel_rfl)) (fun _ _ _ h => h) (Or.inl ⟨by rfl, ?_⟩) hHeld ?_ ?_
              rotate_left
              ·rintro w' ⟨s0, s1, s2, s3, s4, s5, s6, s7, s8, s9⟩
               go_simp
               with_reducible rfl
              rotate_left
              ·simp only [Act.put, List.setIfInBounds_toArray, List.set_cons_zero, List.set_cons_succ, i64_w, i32_w]
               rfl
              refine pa_ 5 (some 43) (bm 22 535615) rfl rfl HT_.out ?_
              refine pa_ 6 (some 44) (bm 22 535679) rfl rfl HT_.out ?_
              refine take_ (i := 7) (N := some 45) (v := ?_) (a' := ?_) (bm 22 535807) rfl rfl (take_ofW HT_.out HW_.out (by kernel_rfl)) (fun _ _ _ h => h) (Or.inl ⟨by rfl, ?_⟩) hHeld ?_ ?_
              rotate_left
              ·rintro w' ⟨s0, s1, s2, s3, s4, s5, s6, s7, s8, s9⟩
               go_simp
               with_reducible rfl
              rotate_left
              ·simp only [Act.put, List.setIfInBounds_toArray, List.set_cons_zero, List.set_cons_succ, i64_w, i32_w]
               rfl
              refine pa_ 8 (some 46) (bm 22 536063) rfl rfl HT_.out ?_
              refine take_ (i := 9) (N := some 47) (v := ?_) (a' := ?_) (bm 22 536575) rfl rfl (take_ofW HT_.out HW_.out (by kernel_rfl)) (fun _ _ _ h => h) (Or.inl ⟨by rfl, ?_⟩) hHeld ?_ ?_
              rotate_left
              ·rintro w' ⟨s0, s1, s2, s3, s4, s5, s6, s7, s8, s9⟩
               go_simp
               with_reducible rfl
              rotate_left
              ·simp only [Act.put, List.setIfInBounds_toArray, List.set_cons_zero, List.set_cons_succ, i64_w, i32_w]
               rfl
              refine take_ (i := 12) (N := some 50) (v := ?_) (a' := ?_) (bm 22 540671) rfl rfl (take_ofW HT_.out HW_.out (by kernel_rfl)) (fun _ _ _ h => h) (Or.inl ⟨by rfl, ?_⟩) hHeld ?_ ?_
              rotate_left
              ·rintro w' ⟨s0, s1, s2, s3, s4, s5, s6, s7, s8, s9⟩
               go_simp
               with_reducible rfl
              rotate_left
              ·simp only [Act.put, List.setIfInBounds_toArray, List.set_cons_zero, List.set_cons_succ, i64_w, i32_w]
               rfl
              refine pa_ 14 (some 52) (bm 22 557055) rfl rfl HT_.out ?_
              refine pa_ 15 (some 53) (bm 22 589823) rfl rfl HT_.out ?_
              refine take_ (i := 16) (N := some 54) (v := ?_) (a' := ?_) (bm 22 655359) rfl rfl (take_ofW HT_.out HW_.out (by kernel_rfl)) (fun _ _ _ h => h) (Or.inl ⟨by rfl, ?_⟩) hHeld ?_ ?_
              rotate_left
              ·rintro w' ⟨s0, s1, s2, s3, s4, s5, s6, s7, s8, s9⟩
               go_simp
               with_reducible rfl
              rotate_left
              ·simp only [Act.put, List.setIfInBounds_toArray, List.set_cons_zero, List.set_cons_succ, i64_w, i32_w]
               rfl
              refine pa_ 17 (some 55) (bm 22 786431) rfl rfl HT_.out ?_
              refine take_ (i := 18) (N := some 56) (v := ?_) (a' := ?_) (bm 22 1048575) rfl rfl (take_ofW HT_.out HW_.out (by kernel_rfl)) (fun _ _ _ h => h) (Or.inl ⟨by rfl, ?_⟩) hHeld ?_ ?_
              rotate_left
              ·rintro w' ⟨s0, s1, s2, s3, s4, s5, s6, s7, s8, s9⟩
               go_simp
               with_reducible rfl
              rotate_left
              ·simp only [Act.put, List.setIfInBounds_toArray, List.set_cons_zero, List.set_cons_succ, i64_w, i32_w]
               rfl
              refine one_ (i := 20) (N := some 58) (bm 22 2097151) rfl rfl (one_of HT_.out (by kernel_rfl)) (by decide) (fun K hK => ?_)
              refine goes_ Try.func101 (by kernel_rfl) rfl #[.agg #[.int .i64 a1_0, .slice A1_1 l1_1.length c1_1], .int .i64 (rd l2 ((rd_T78 l0_1 x10_2).f0)), .int .i64 (rd l2 ((rd_T78 l0_1 x10_2).f1)), .bool a3] (by rfl) rfl rfl (by (try simp only [List.map_toArray, List.map_cons, List.map_nil]); first | done | rfl | (simp only [List.length_drop, List.length_take]; rfl)) ?_
              with_reducible refine (spec_l10Fits.calls k2 a1_0 _ _ l1_1 (rd l2 ((rd_T78 l0_1 x10_2).f0)) (rd l2 ((rd_T78 l0_1 x10_2).f1)) a3 true _ ?side1 ?side2 A22.out).mono ?_
              (case side1 => exact cb_ HR1_1)
              (case side2 => exact HC1_1.out)
              rintro e w27 ⟨rfl, hb⟩
              refine ⟨_, rfl, ?_⟩
              have n_ := And.intro (Aside0.mk (blk_below (g := gb154) (o := .cells #[.int .i64 a0_0, .slice (some ad158) l0_1.length c0_1] 29 (0, 0)) (bk_ BK154) hb)) (And.intro (Aside0.mk (blk_below (g := gb155) (o := .cells #[.int .i64 a1_0, .slice A1_1 l1_1.length c1_1] 29 (0, 0)) (bk_ BK155) hb)) (Aside0.mk (below_step bg_ hb)))
              clear BK154 BK155 HB; obtain ⟨BK154, BK155, HB⟩ := n_
              (try clear hb)
              (try clear hb2)
              (try clear hk)
              (try clear hi)
              refine hK.out _ _ ⟨(blk_cell BK155.out 0).trans rfl, (blk_cell BK155.out 1).trans rfl, (blk_cell BK154.out 0).trans rfl, (blk_cell BK154.out 1).trans rfl, ((HB.out.cell (World.block_lt_of_cell? w _ hw158_0)).trans hw158_0), ((HB.out.cell (World.block_lt_of_cell? w _ hw158_1)).trans hw158_1), ((HB.out.cell (World.block_lt_of_cell? w _ hw159_0)).trans hw159_0), ((HB.out.cell (World.block_lt_of_cell? w _ hw160_0)).trans hw160_0), ((HB.out.cell (World.block_lt_of_cell? w _ hw160_1)).trans hw160_1), ((HB.out.cell (World.block_lt_of_cell? w _ hw161_0)).trans hw161_0)⟩ (fun hHeld => ?_)
              clear hK K
              refine norm_ (a' := ?_) ?_ ?_
              rotate_left
              ·show Act.put _ (some 58) _ = _
               simp only [Act.put, List.setIfInBounds_toArray, List.set_cons_zero, List.set_cons_succ, i64_w, i32_w]
               rfl
              refine pa_ 21 (some 59) (bm 22 4194303) rfl rfl HT_.out ?_
              refine done_ (done_of HT_.out (by kernel_rfl)) ?_
              try go_wp2
              go_roundg k2
              case measure => have := HK1.out; have := HK2.out; omega
              case rel => exact ⟨(wrap64 (x10_2 + 1)), (by first | rfl | (simp; done) | (simp [*]; done)), H', ⟨by have := HK1.out; have := HK2.out; omega⟩, ⟨by (with_reducible repeat (first | refine blk_drewN ?_ _ | refine blk_drew ?_ | refine blk_alloc ?_ _)); exact BK154.out⟩, ⟨by (with_reducible repeat (first | refine blk_drewN ?_ _ | refine blk_drew ?_ | refine blk_alloc ?_ _)); exact BK155.out⟩, ⟨by repeat (first | (with_reducible first | exact HB.out | apply below_alloc | apply pw_below_drewN | apply below_drew1 | refine below_set ?_ GE154.out | refine below_set ?_ GE155.out) | exact HB.out)⟩⟩
             ·replace c23 := Bool.eq_false_iff.mpr c23
              subst c23
              have H1 : (some false) = some r := by rw [if_neg (show ¬ (false = true) by decide)] at H; exact H
              clear H
              have H := H1
              clear H1
              obtain rfl := Option.some.inj H
              have hnb28 := NB154_155.out
              have hnc28 := NB155_154.out
              have hcz29_0 : wr.cell? ⟨gb154, 0, none⟩ = some (.int .i64 a0_0) := (blk_cell BK154.out 0).trans rfl
              have hcz29_1 : wr.cell? ⟨gb154, 1, none⟩ = some (.slice A0_1 l0_1.length c0_1) := (blk_cell BK154.out 1).trans rfl
              have hfz29_0 := blk_frozen BK154.out 0
              have hfz29_1 := blk_frozen BK154.out 1
              try go_wp2
              have n_ := And.intro (Aside0.mk (blk_drew BK154.out)) (And.intro (Aside0.mk (blk_drew BK155.out)) (Aside0.mk (below_drew1 HB.out)))
              clear BK154 BK155 HB; obtain ⟨BK154, BK155, HB⟩ := n_
              have p158 : 0 ≤ (x10_2 : Int) := od_
              have q158 : x10_2 < (l0_1.length : Int) := od_
              obtain ⟨ad158, e158, hx158_0, hx158_1⟩ := at_T78 HR0_1.out x10_2 p158 q158
              have hw158_1 := hx158_1
              have hw158_0 := hx158_0
              cases e158
              replace hx158_0 := (HB.out.cell (World.block_lt_of_cell? w _ hx158_0)).trans hx158_0
              replace hx158_1 := (HB.out.cell (World.block_lt_of_cell? w _ hx158_1)).trans hx158_1
              replace p158 := eq_true p158
              replace q158 := eq_true q158
              have p159 : 0 ≤ (((rd_T78 l0_1 x10_2).f0) : Int) := od_
              have q159 : ((rd_T78 l0_1 x10_2).f0) < (l2.length : Int) := od_
              obtain ⟨ad159, e159, hx159_0⟩ := Kd.at_int HR2.out ((rd_T78 l0_1 x10_2).f0) p159 q159
              have hw159_0 := hx159_0
              cases e159
              replace hx159_0 := (HB.out.cell (World.block_lt_of_cell? w _ hx159_0)).trans hx159_0
              replace p159 := eq_true p159
              replace q159 := eq_true q159
              have p160 : 0 ≤ (x10_2 : Int) := od_
              have q160 : x10_2 < (l0_1.length : Int) := od_
              obtain ⟨ad160, e160, hx160_0, hx160_1⟩ := at_T78 HR0_1.out x10_2 p160 q160
              have hw160_1 := hx160_1
              have hw160_0 := hx160_0
              obtain rfl : ad158 = ad160 := (by injection e160)
              replace hx160_0 := (HB.out.cell (World.block_lt_of_cell? w _ hx160_0)).trans hx160_0
              replace hx160_1 := (HB.out.cell (World.block_lt_of_cell? w _ hx160_1)).trans hx160_1
              replace p160 := eq_true p160
              replace q160 := eq_true q160
              have p161 : 0 ≤ (((rd_T78 l0_1 x10_2).f1) : Int) := od_
              have q161 : ((rd_T78 l0_1 x10_2).f1) < (l2.length : Int) := od_
              obtain ⟨ad161, e161, hx161_0⟩ := Kd.at_int HR2.out ((rd_T78 l0_1 x10_2).f1) p161 q161
              have hw161_0 := hx161_0
              obtain rfl : ad159 = ad161 := (by injection e161)
              replace hx161_0 := (HB.out.cell (World.block_lt_of_cell? w _ hx161_0)).trans hx161_0
              replace p161 := eq_true p161
              replace q161 := eq_true q161
              refine start_ (n := 22) (S := fun w' => w'.cell? ⟨gb155, 0, none⟩ = some (.int .i64 a1_0) ∧ w'.cell? ⟨gb155, 1, none⟩ = some (.slice A1_1 l1_1.length c1_1) ∧ w'.cell? ⟨gb154, 0, none⟩ = some (.int .i64 a0_0) ∧ w'.cell? ⟨gb154, 1, none⟩ = some (.slice (some ad158) l0_1.length c0_1) ∧ w'.cell? (ad158.add ((x10_2).toNat * 2)) = some (.int .i64 ((rd_T78 l0_1 x10_2).f0)) ∧ w'.cell? ⟨(ad158.add ((x10_2).toNat * 2)).block, (ad158.add ((x10_2).toNat * 2)).off + 1, none⟩ = some (.int .i64 ((rd_T78 l0_1 x10_2).f1)) ∧ w'.cell? (ad159.add (((rd_T78 l0_1 x10_2).f0)).toNat) = some (.int .i64 (rd l2 ((rd_T78 l0_1 x10_2).f0))) ∧ w'.cell? (ad158.add ((x10_2).toNat * 2)) = some (.int .i64 ((rd_T78 l0_1 x10_2).f0)) ∧ w'.cell? ⟨(ad158.add ((x10_2).toNat * 2)).block, (ad158.add ((x10_2).toNat * 2)).off + 1, none⟩ = some (.int .i64 ((rd_T78 l0_1 x10_2).f1)) ∧ w'.cell? (ad159.add (((rd_T78 l0_1 x10_2).f1)).toNat) = some (.int .i64 (rd l2 ((rd_T78 l0_1 x10_2).f1)))) (ds := []) (bm 22 0) (by kernel_rfl) rfl rfl ⟨(blk_cell BK155.out 0).trans rfl, (blk_cell BK155.out 1).trans rfl, (blk_cell BK154.out 0).trans rfl, (blk_cell BK154.out 1).trans rfl, ((HB.out.cell (World.block_lt_of_cell? w _ hw158_0)).trans hw158_0), ((HB.out.cell (World.block_lt_of_cell? w _ hw158_1)).trans hw158_1), ((HB.out.cell (World.block_lt_of_cell? w _ hw159_0)).trans hw159_0), ((HB.out.cell (World.block_lt_of_cell? w _ hw160_0)).trans hw160_0), ((HB.out.cell (World.block_lt_of_cell? w _ hw160_1)).trans hw160_1), ((HB.out.cell (World.block_lt_of_cell? w _ hw161_0)).trans hw161_0)⟩ (fun hHeld => ?_); refine with_tabW spec_l10Map.tab11 spec_l10Map.bits11 (fun HT_ HW_ => ?_)
              generalize wr.drew = w30 at BK154 BK155 HB hx158_0 hx158_1 hx159_0 hx160_0 hx160_1 hx161_0 hHeld ⊢
              refine pa_ 1 (some 39) (bm 22 2) rfl rfl HT_.out ?_
              refine pa_ 2 (some 40) (bm 22 6) rfl rfl HT_.out ?_
              refine pa_ 4 (some 42) (bm 22 22) rfl rfl HT_.out ?_
              refine pa_ 10 (some 48) (bm 22 1046) rfl rfl HT_.out ?_
              refine pa_ 11 (some 49) (bm 22 3094) rfl rfl HT_.out ?_
              refine pa_ 13 (some 51) (bm 22 11286) rfl rfl HT_.out ?_
              refine pa_ 19 (some 57) (bm 22 535574) rfl rfl HT_.out ?_
              refine take_ (i := 0) (N := some 38) (v := ?_) (a' := ?_) (bm 22 535575) rfl rfl (take_ofW HT_.out HW_.out (by kernel_rfl)) (fun _ _ _ h => h) (Or.inl ⟨by rfl, ?_⟩) hHeld ?_ ?_
              rotate_left
              ·rintro w' ⟨s0, s1, s2, s3, s4, s5, s6, s7, s8, s9⟩
               go_simp
               with_reducible rfl
              rotate_left
              ·simp only [Act.put, List.setIfInBounds_toArray, List.set_cons_zero, List.set_cons_succ, i64_w, i32_w]
               rfl
              refine take_ (i := 3) (N := some 41) (v := ?_) (a' := ?_) (bm 22 535583) rfl rfl (take_ofW HT_.out HW_.out (by kernel_rfl)) (fun _ _ _ h => h) (Or.inl ⟨by rfl, ?_⟩) hHeld ?_ ?_
              rotate_left
              ·rintro w' ⟨s0, s1, s2, s3, s4, s5, s6, s7, s8, s9⟩
               go_simp
               with_reducible rfl
              rotate_left
              ·simp only [Act.put, List.setIfInBounds_toArray, List.set_cons_zero, List.set_cons_succ, i64_w, i32_w]
               rfl
              refine pa_ 5 (some 43) (bm 22 535615) rfl rfl HT_.out ?_
              refine pa_ 6 (some 44) (bm 22 535679) rfl rfl HT_.out ?_
              refine take_ (i := 7) (N := some 45) (v := ?_) (a' := ?_) (bm 22 535807) rfl rfl (take_ofW HT_.out HW_.out (by kernel_rfl)) (fun _ _ _ h => h) (Or.inl ⟨by rfl, ?_⟩) hHeld ?_ ?_
              rotate_left
              ·rintro w' ⟨s0, s1, s2, s3, s4, s5, s6, s7, s8, s9⟩
               go_simp
               with_reducible rfl
              rotate_left
              ·simp only [Act.put, List.setIfInBounds_toArray, List.set_cons_zero, List.set_cons_succ, i64_w, i32_w]
               rfl
              refine pa_ 8 (some 46) (bm 22 536063) rfl rfl HT_.out ?_
              refine take_ (i := 9) (N := some 47) (v := ?_) (a' := ?_) (bm 22 536575) rfl rfl (take_ofW HT_.out HW_.out (by kernel_rfl)) (fun _ _ _ h => h) (Or.inl ⟨by rfl, ?_⟩) hHeld ?_ ?_
              rotate_left
              ·rintro w' ⟨s0, s1, s2, s3, s4, s5, s6, s7, s8, s9⟩
               go_simp
               with_reducible rfl
              rotate_left
              ·simp only [Act.put, List.setIfInBounds_toArray, List.set_cons_zero, List.set_cons_succ, i64_w, i32_w]
               rfl
              refine take_ (i := 12) (N := some 50) (v := ?_) (a' := ?_) (bm 22 540671) rfl rfl (take_ofW HT_.out HW_.out (by kernel_rfl)) (fun _ _ _ h => h) (Or.inl ⟨by rfl, ?_⟩) hHeld ?_ ?_
              rotate_left
              ·rintro w' ⟨s0, s1, s2, s3, s4, s5, s6, s7, s8, s9⟩
               go_simp
               with_reducible rfl
              rotate_left
              ·simp only [Act.put, List.setIfInBounds_toArray, List.set_cons_zero, List.set_cons_succ, i64_w, i32_w]
               rfl
              refine pa_ 14 (some 52) (bm 22 557055) rfl rfl HT_.out ?_
              refine pa_ 15 (some 53) (bm 22 589823) rfl rfl HT_.out ?_
              refine take_ (i := 16) (N := some 54) (v := ?_) (a' := ?_) (bm 22 655359) rfl rfl (take_ofW HT_.out HW_.out (by kernel_rfl)) (fun _ _ _ h => h) (Or.inl ⟨by rfl, ?_⟩) hHeld ?_ ?_
              rotate_left
              ·rintro w' ⟨s0, s1, s2, s3, s4, s5, s6, s7, s8, s9⟩
               go_simp
               with_reducible rfl
              rotate_left
              ·simp only [Act.put, List.setIfInBounds_toArray, List.set_cons_zero, List.set_cons_succ, i64_w, i32_w]
               rfl
              refine pa_ 17 (some 55) (bm 22 786431) rfl rfl HT_.out ?_
              refine take_ (i := 18) (N := some 56) (v := ?_) (a' := ?_) (bm 22 1048575) rfl rfl (take_ofW HT_.out HW_.out (by kernel_rfl)) (fun _ _ _ h => h) (Or.inl ⟨by rfl, ?_⟩) hHeld ?_ ?_
              rotate_left
              ·rintro w' ⟨s0, s1, s2, s3, s4, s5, s6, s7, s8, s9⟩
               go_simp
               with_reducible rfl
              rotate_left
              ·simp only [Act.put, List.setIfInBounds_toArray, List.set_cons_zero, List.set_cons_succ, i64_w, i32_w]
               rfl
              refine one_ (i := 20) (N := some 58) (bm 22 2097151) rfl rfl (one_of HT_.out (by kernel_rfl)) (by decide) (fun K hK => ?_)
              refine goes_ Try.func101 (by kernel_rfl) rfl #[.agg #[.int .i64 a1_0, .slice A1_1 l1_1.length c1_1], .int .i64 (rd l2 ((rd_T78 l0_1 x10_2).f0)), .int .i64 (rd l2 ((rd_T78 l0_1 x10_2).f1)), .bool a3] (by rfl) rfl rfl (by (try simp only [List.map_toArray, List.map_cons, List.map_nil]); first | done | rfl | (simp only [List.length_drop, List.length_take]; rfl)) ?_
              with_reducible refine (spec_l10Fits.calls k2 a1_0 _ _ l1_1 (rd l2 ((rd_T78 l0_1 x10_2).f0)) (rd l2 ((rd_T78 l0_1 x10_2).f1)) a3 false _ ?side1 ?side2 A22.out).mono ?_
              (case side1 => exact cb_ HR1_1)
              (case side2 => exact HC1_1.out)
              rintro e w31 ⟨rfl, hb⟩
              refine ⟨_, rfl, ?_⟩
              have n_ := And.intro (Aside0.mk (blk_below (g := gb154) (o := .cells #[.int .i64 a0_0, .slice (some ad158) l0_1.length c0_1] 29 (0, 0)) (bk_ BK154) hb)) (And.intro (Aside0.mk (blk_below (g := gb155) (o := .cells #[.int .i64 a1_0, .slice A1_1 l1_1.length c1_1] 29 (0, 0)) (bk_ BK155) hb)) (Aside0.mk (below_step bg_ hb)))
              clear BK154 BK155 HB; obtain ⟨BK154, BK155, HB⟩ := n_
              (try clear hb)
              (try clear hb2)
              (try clear hk)
              (try clear hi)
              refine hK.out _ _ ⟨(blk_cell BK155.out 0).trans rfl, (blk_cell BK155.out 1).trans rfl, (blk_cell BK154.out 0).trans rfl, (blk_cell BK154.out 1).trans rfl, ((HB.out.cell (World.block_lt_of_cell? w _ hw158_0)).trans hw158_0), ((HB.out.cell (World.block_lt_of_cell? w _ hw158_1)).trans hw158_1), ((HB.out.cell (World.block_lt_of_cell? w _ hw159_0)).trans hw159_0), ((HB.out.cell (World.block_lt_of_cell? w _ hw160_0)).trans hw160_0), ((HB.out.cell (World.block_lt_of_cell? w _ hw160_1)).trans hw160_1), ((HB.out.cell (World.block_lt_of_cell? w _ hw161_0)).trans hw161_0)⟩ (fun hHeld => ?_)
              clear hK K
              refine norm_ (a' := ?_) ?_ ?_
              rotate_left
              ·show Act.put _ (some 58) _ = _
               simp only [Act.put, List.setIfInBounds_toArray, List.set_cons_zero, List.set_cons_succ, i64_w, i32_w]
               rfl
              refine pa_ 21 (some 59) (bm 22 4194303) rfl rfl HT_.out ?_
              refine done_ (done_of HT_.out (by kernel_rfl)) ?_
              try go_wp2
              go_ret
              exact ⟨by first | rfl | (simp [errW_none, errW_some] <;> rfl) | (simp [*, errW_none, errW_some] <;> rfl), by repeat (first | (with_reducible first | exact HB.out | apply below_alloc | apply pw_below_drewN | apply below_drew1 | refine below_set ?_ GE154.out | refine below_set ?_ GE155.out) | exact HB.out)⟩
            ·rw [if_neg c21] at H
             exact absurd H (by simp)
           ·rw [if_neg c20] at H
            exact absurd H (by simp)
          ·rw [if_neg c19] at H
           exact absurd H (by simp)
         ·rw [if_neg c18] at H
          exact absurd H (by simp)
        ·rw [if_neg c17] at H
         exact absurd H (by simp)
       ·rw [if_neg c16] at H
        have c16b0 : decide (x10_2 < (l0_1.length : Int)) = false := decide_eq_false c16
        clear c16
        obtain rfl := Option.some.inj H
        have hnb32 := NB154_155.out
        have hnc32 := NB155_154.out
        have hcz33_0 : wr.cell? ⟨gb154, 0, none⟩ = some (.int .i64 a0_0) := (blk_cell BK154.out 0).trans rfl
        have hcz33_1 : wr.cell? ⟨gb154, 1, none⟩ = some (.slice A0_1 l0_1.length c0_1) := (blk_cell BK154.out 1).trans rfl
        have hfz33_0 := blk_frozen BK154.out 0
        have hfz33_1 := blk_frozen BK154.out 1
        go_wp2
        go_ret
        exact ⟨by first | rfl | (simp [errW_none, errW_some] <;> rfl) | (simp [*, errW_none, errW_some] <;> rfl), by repeat (first | (with_reducible first | exact HB.out | apply below_alloc | apply pw_below_drewN | apply below_drew1 | refine below_set ?_ GE154.out | refine below_set ?_ GE155.out) | exact HB.out)⟩
    ·rw [if_neg c13] at H
     have c13b0 : ((l2.length : Int) == a0_0) = false := beq_eq_false_iff_ne.mpr c13
     have c13b1 : ((l2.length : Int) != a0_0) = true := bne_iff_ne.mpr c13
     obtain rfl := Option.some.inj H
     have hnb34 := NB154_155.out
     have hnc34 := NB155_154.out
     have hcz35_0 : wr.cell? ⟨gb154, 0, none⟩ = some (.int .i64 a0_0) := (blk_cell BK154.out 0).trans rfl
     have hcz35_1 : wr.cell? ⟨gb154, 1, none⟩ = some (.slice A0_1 l0_1.length c0_1) := (blk_cell BK154.out 1).trans rfl
     have hfz35_0 := blk_frozen BK154.out 0
     have hfz35_1 := blk_frozen BK154.out 1
     go_wp2
     go_ret
     exact ⟨by first | rfl | (simp [errW_none, errW_some] <;> rfl) | (simp [*, errW_none, errW_some] <;> rfl), by repeat (first | (with_reducible first | exact HB.out | apply below_alloc | apply pw_below_drewN | apply below_drew1 | refine below_set ?_ GE154.out | refine below_set ?_ GE155.out) | exact HB.out)⟩

end Go.Proofs.Ytiiaadgibkpaaaa.PFnExactAfterMap
