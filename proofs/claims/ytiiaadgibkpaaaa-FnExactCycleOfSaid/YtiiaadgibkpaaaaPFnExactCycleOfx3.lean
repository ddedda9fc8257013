-- written by wip/tools of this repo out of the translation (a turned copy of the kit's print): checked by Lean alone
import Derived.Test.YtiiaadgibkpaaaaPFnExactCycleOfx0
import Derived.Test.YtiiaadgibkpaaaaPFnExactCycleOfx2
namespace Go.Proofs.Ytiiaadgibkpaaaa.PFnExactCycleOf
open Go.RowKit Go.Proofs.YtiiaadgibkpaaaaW.PrintWords Go.Proofs.YtiiaadgibkpaaaaW.PrintLast Go.Proofs.YtiiaadgibkpaaaaW.PrintMore
attribute [local go_sem] max2_int min2_int max_two min_two max_three min_three max_four min_four   -- for this text's walks alone
set_option linter.unusedVariables false
set_option linter.unusedSimpArgs false

/-! ### slices_insertionSortCmpFunc_2_int_impl_comparePairs: function 164 -/
mutual
def slices_insertionSortCmpFunc_2_int_impl_comparePairs.l0 : Nat → List (S78) → Int → Int → Int → Option ((List (S78)))
 | 0, _, _, _, _ => none
 | k + 1, x0, x1, x2, x8 => if x8 < x2 then (slices_insertionSortCmpFunc_2_int_impl_comparePairs.l1 k x0 x1 x2 x8 x8) else (some x0)
def slices_insertionSortCmpFunc_2_int_impl_comparePairs.l1 : Nat → List (S78) → Int → Int → Int → Int → Option ((List (S78)))
 | 0, _, _, _, _, _ => none
 | k + 1, x0, x1, x2, x8, x9 => if x9 > x1 then (if 0 ≤ x9 then (if x9 < (x0.length : Int) then (if 0 ≤ (wrap64 (x9 - 1)) then (if (wrap64 (x9 - 1)) < (x0.length : Int) then ((impl_comparePairs.f k ((rd_T78 x0 x9).f0) ((rd_T78 x0 x9).f1) ((rd_T78 x0 (wrap64 (x9 - 1))).f0) ((rd_T78 x0 (wrap64 (x9 - 1))).f1)).bind fun t146 => (if t146 < 0 then (slices_insertionSortCmpFunc_2_int_impl_comparePairs.l1 k ((x0.set (x9 : Int).toNat (⟨(rd_T78 x0 (wrap64 (x9 - 1))).f0, (rd_T78 x0 (wrap64 (x9 - 1))).f1⟩ : S78)).set ((wrap64 (x9 - 1)) : Int).toNat (⟨(rd_T78 x0 x9).f0, (rd_T78 x0 x9).f1⟩ : S78)) x1 x2 x8 (wrap64 (x9 - 1))) else (slices_insertionSortCmpFunc_2_int_impl_comparePairs.l0 k x0 x1 x2 (wrap64 (x8 + 1))))) else (none)) else (none)) else (none)) else (none)) else (slices_insertionSortCmpFunc_2_int_impl_comparePairs.l0 k x0 x1 x2 (wrap64 (x8 + 1)))
end
def slices_insertionSortCmpFunc_2_int_impl_comparePairs.f (k : Nat) (l0 : List (S78)) (a1 : Int) (a2 : Int)  : Option ((List (S78))) := slices_insertionSortCmpFunc_2_int_impl_comparePairs.l0 k l0 a1 a2 (wrap64 (a1 + 1))
def slices_insertionSortCmpFunc_2_int_impl_comparePairs.T4 : Bool × List (List Nat × List Nat) := (true, [([], []), ([], []), ([0, 1], [0, 1]), ([2], [2]), ([3], [3]), ([3], [3]), ([3], [3]), ([5, 6, 3], [3, 5, 6]), ([7, 3], [3, 7]), ([3], [3]), ([3], [3]), ([10, 3], [3, 10]), ([9, 11, 3], [3, 9, 11]), ([12, 3], [3, 12]), ([4, 8, 13, 3, 3], [3, 4, 8, 13]), ([14, 3], [3, 14]), ([3, 15], [3, 15])])
def slices_insertionSortCmpFunc_2_int_impl_comparePairs.B4 : List Nat := [0, 0, 3, 7, 15, 15, 15, 111, 239, 15, 15, 1039, 3599, 7695, 16383, 32767, 65535]
theorem slices_insertionSortCmpFunc_2_int_impl_comparePairs.tab4 : rtab .any (opsOf Try.f164 4) = slices_insertionSortCmpFunc_2_int_impl_comparePairs.T4 := by kernel_rfl
theorem slices_insertionSortCmpFunc_2_int_impl_comparePairs.bits4 : waitsOk slices_insertionSortCmpFunc_2_int_impl_comparePairs.T4.2 slices_insertionSortCmpFunc_2_int_impl_comparePairs.B4 = true := by kernel_rfl
def slices_insertionSortCmpFunc_2_int_impl_comparePairs.T6 : Bool × List (List Nat × List Nat) := (true, [([], []), ([], []), ([], []), ([], []), ([3], [3]), ([], []), ([], []), ([6], [6]), ([5, 7], [5, 7]), ([8], [8]), ([], []), ([], []), ([10, 11], [10, 11]), ([12], [12]), ([0, 1, 0, 1, 5, 6, 7, 8, 9, 13], [0, 1]), ([14, 9, 0, 1, 5, 6, 7, 8, 9, 13], [9, 14]), ([2, 4, 0, 1, 2, 3, 4, 5, 6, 7, 8, 9, 10, 11, 12, 13, 14, 15], [2, 4]), ([16, 13, 15, 0, 1, 2, 3, 4, 5, 6, 7, 8, 9, 10, 11, 12, 13, 14, 15], [13, 16])])
def slices_insertionSortCmpFunc_2_int_impl_comparePairs.B6 : List Nat := [0, 0, 0, 0, 8, 0, 0, 64, 224, 480, 0, 0, 3072, 7168, 16355, 32739, 65535, 131071]
theorem slices_insertionSortCmpFunc_2_int_impl_comparePairs.tab6 : rtab .any (opsOf Try.f164 6) = slices_insertionSortCmpFunc_2_int_impl_comparePairs.T6 := by kernel_rfl
theorem slices_insertionSortCmpFunc_2_int_impl_comparePairs.bits6 : waitsOk slices_insertionSortCmpFunc_2_int_impl_comparePairs.T6.2 slices_insertionSortCmpFunc_2_int_impl_comparePairs.B6 = true := by kernel_rfl
set_option maxHeartbeats 8000000 in
set_option maxRecDepth 100000 in
theorem slices_insertionSortCmpFunc_2_int_impl_comparePairs.calls (k : Nat) (P0_ : Nat → Prop) (u9000_ : Value) (l0 : List (S78)) (a1 : Int) (a2 : Int)  (r : List (S78)) (w0 w : World) (hB : Below w0.heap.size w0 w) (ho0 : Kd.R k78 78 w w0.heap.size P0_ u9000_ l0) (h : slices_insertionSortCmpFunc_2_int_impl_comparePairs.f k l0 a1 a2 = some r) :
  Calls Try.prog 164 #[u9000_, .int .i64 a1, .int .i64 a2, .func (.func 137) #[] #[]] w fun e w' => e = .returned (.tuple #[]) ∧ Kd.R k78 78 w' w0.heap.size (fun k_ => (P0_ k_ ∨ w.heap.size ≤ k_)) u9000_ r ∧ Below w0.heap.size w0 w' ∧ Kept w w' (fun k_ => P0_ k_) := by
 have hu78 := Try.underlying78
 have HO0 := Aside0.mk (show Kd.R k78 78 w w0.heap.size (fun k_ => (P0_ k_ ∨ w.heap.size ≤ k_)) u9000_ l0 from Kd.R_mono ho0 (fun k_ hk => (.inl hk)))
 have HK := Aside0.mk (Kept.refl w (fun k_ => P0_ k_))
 have HW0 := Aside0.mk hB.size
 have HB := Aside0.mk hB
 clear hB
 have H : (slices_insertionSortCmpFunc_2_int_impl_comparePairs.l0 k l0 a1 a2 (wrap64 (a1 + 1))) = some r := h
 clear h
 have H' := Aside0.mk H
 clear H
 go_enter Try.func164, Try.ntmps164
 go_wp2
 go_loopg [8] k (fun kq v8 w' => ∃ (x0_1 : List (S78)) (x8_1 : Int), v8 = .int .i64 x8_1 ∧ Aside0 (slices_insertionSortCmpFunc_2_int_impl_comparePairs.l0 kq x0_1 a1 a2 x8_1 = some r) ∧ Aside0 (kq ≤ k) ∧ Aside0 (Kd.R k78 78 w' w0.heap.size (fun k_ => (P0_ k_ ∨ w.heap.size ≤ k_)) u9000_ x0_1) ∧ Aside0 (Kept w w' (fun k_ => P0_ k_)) ∧ Aside0 (Below w0.heap.size w0 w'))
 case atStart => exact ⟨(l0), (wrap64 (a1 + 1)), (by first | rfl | (simp; done) | (simp [*]; done)), H', ⟨Nat.le_refl _⟩, ⟨by (with_reducible repeat (first | apply Kd.R_alloc | apply Kd.R_drewN | apply Kd.R_drew)); exact HO0.out⟩, ⟨by repeat (first | (with_reducible first | exact HK.out | apply Kept.alloc | apply Kept.drewN | apply Kept.drew) | exact HK.out)⟩, ⟨by repeat (first | (with_reducible first | exact HB.out | apply below_alloc | apply pw_below_drewN | apply below_drew1) | exact HB.out)⟩⟩
 case round =>
  clear H'
  try clear c1
  try clear p2
  obtain ⟨x0_1, x8_1, rfl, HA, HK1, HO_0, HK, HB⟩ := hrel
  cases gk with
  | zero => exact absurd HA.out (by simp [slices_insertionSortCmpFunc_2_int_impl_comparePairs.l0])
  | succ k1 =>
   have H := HA.out
   clear HA
   simp only [slices_insertionSortCmpFunc_2_int_impl_comparePairs.l0] at H
   by_cases c5 : x8_1 < a2
   ·rw [if_pos c5] at H
    have c5b0 : decide (x8_1 < a2) = true := decide_eq_true c5
    clear c5
    have H' := Aside0.mk H
    clear H
    go_wp2
    go_loopg [9] k1 (fun kq v9 w' => ∃ (x0_2 : List (S78)) (x9_2 : Int), v9 = .int .i64 x9_2 ∧ Aside0 (slices_insertionSortCmpFunc_2_int_impl_comparePairs.l1 kq x0_2 a1 a2 x8_1 x9_2 = some r) ∧ Aside0 (kq ≤ k1) ∧ Aside0 (Kd.R k78 78 w' w0.heap.size (fun k_ => (P0_ k_ ∨ w.heap.size ≤ k_)) u9000_ x0_2) ∧ Aside0 (Kept w w' (fun k_ => P0_ k_)) ∧ Aside0 (Below w0.heap.size w0 w'))
    case atStart => exact ⟨(x0_1), (x8_1), (by first | rfl | (simp; done) | (simp [*]; done)), H', ⟨Nat.le_refl _⟩, ⟨by (with_reducible repeat (first | apply Kd.R_alloc | apply Kd.R_drewN | apply Kd.R_drew)); exact HO_0.out⟩, ⟨by repeat (first | (with_reducible first | exact HK.out | apply Kept.alloc | apply Kept.drewN | apply Kept.drew) | exact HK.out)⟩, ⟨by repeat (first | (with_reducible first | exact HB.out | apply below_alloc | apply pw_below_drewN | apply below_drew1) | exact HB.out)⟩⟩
    case round =>
     clear H'
     try clear c1
     try clear p2
     try clear c5
     try clear c5b0
     try clear p2
     obtain ⟨x0_2, x9_2, rfl, HA, HK2, HO_0, HK, HB⟩ := hrel
     cases gk with
     | zero => exact absurd HA.out (by simp [slices_insertionSortCmpFunc_2_int_impl_comparePairs.l1])
     | succ k2 =>
      have H := HA.out
      clear HA
      simp only [slices_insertionSortCmpFunc_2_int_impl_comparePairs.l1] at H
      by_cases c6 : x9_2 > a1
      ·rw [if_pos c6] at H
       have c6b0 : decide (a1 < x9_2) = true := decide_eq_true c6
       clear c6
       by_cases c7 : 0 ≤ x9_2
       ·rw [if_pos c7] at H
        have c7b0 : decide (0 ≤ x9_2) = true := decide_eq_true c7
        clear c7
        by_cases c8 : x9_2 < (x0_2.length : Int)
        ·rw [if_pos c8] at H
         have c8b0 : decide (x9_2 < (x0_2.length : Int)) = true := decide_eq_true c8
         clear c8
         obtain ⟨ji9, hji9⟩ : ∃ j_ : Int, (wrap64 (x9_2 - 1)) = j_ := ⟨_, rfl⟩
         replace H : (if 0 ≤ (ji9) then (if (ji9) < (x0_2.length : Int) then ((impl_comparePairs.f k2 ((rd_T78 x0_2 x9_2).f0) ((rd_T78 x0_2 x9_2).f1) ((rd_T78 x0_2 (ji9)).f0) ((rd_T78 x0_2 (ji9)).f1)).bind fun t146 => (if t146 < 0 then (slices_insertionSortCmpFunc_2_int_impl_comparePairs.l1 k2 ((x0_2.set (x9_2 : Int).toNat (⟨(rd_T78 x0_2 (ji9)).f0, (rd_T78 x0_2 (ji9)).f1⟩ : S78)).set ((ji9) : Int).toNat (⟨(rd_T78 x0_2 x9_2).f0, (rd_T78 x0_2 x9_2).f1⟩ : S78)) a1 a2 x8_1 ji9) else (slices_insertionSortCmpFunc_2_int_impl_comparePairs.l0 k2 x0_2 a1 a2 (wrap64 (x8_1 + 1))))) else (none)) else (none)) = some r := by first | (rw [hji9] at H; exact H) | (simp only [hji9] at H ⊢; exact H)
         have hji9w : (IntKind.i64.wrap (x9_2 - 1)) = ji9 := (i64_w _).trans hji9
         by_cases c10 : 0 ≤ (ji9)
         ·rw [if_pos c10] at H
          have c10b0 : decide (0 ≤ (ji9)) = true := decide_eq_true c10
          clear c10
          (try have hjnx9_2_ji9 : (x9_2.toNat = ji9.toNat) = False := by (have h1_ := of_decide_eq_true c10b0; have h2_ := hji9; have h3_ := of_decide_eq_true c7b0; unfold wrap64 at h2_; exact eq_false (by omega)))
          (try have hjmx9_2_ji9 : (x9_2.toNat * 2 = ji9.toNat * 2) = False := by (have h1_ := of_decide_eq_true c10b0; have h2_ := hji9; have h3_ := of_decide_eq_true c7b0; unfold wrap64 at h2_; exact eq_false (by omega)))
          (try have hjnji9_x9_2 : (ji9.toNat = x9_2.toNat) = False := by (have h1_ := of_decide_eq_true c10b0; have h2_ := hji9; have h3_ := of_decide_eq_true c7b0; unfold wrap64 at h2_; exact eq_false (by omega)))
          (try have hjmji9_x9_2 : (ji9.toNat * 2 = x9_2.toNat * 2) = False := by (have h1_ := of_decide_eq_true c10b0; have h2_ := hji9; have h3_ := of_decide_eq_true c7b0; unfold wrap64 at h2_; exact eq_false (by omega)))
          by_cases c11 : (ji9) < (x0_2.length : Int)
          ·rw [if_pos c11] at H
           have c11b0 : decide ((ji9) < (x0_2.length : Int)) = true := decide_eq_true c11
           clear c11
           replace H := Option.bind_eq_some_iff.mp H
           obtain ⟨t146, A120, H⟩ := H
           replace H : (if t146 < 0 then (slices_insertionSortCmpFunc_2_int_impl_comparePairs.l1 k2 ((x0_2.set (x9_2 : Int).toNat (⟨(rd_T78 x0_2 (ji9)).f0, (rd_T78 x0_2 (ji9)).f1⟩ : S78)).set ((ji9) : Int).toNat (⟨(rd_T78 x0_2 x9_2).f0, (rd_T78 x0_2 x9_2).f1⟩ : S78)) a1 a2 x8_1 ji9) else (slices_insertionSortCmpFunc_2_int_impl_comparePairs.l0 k2 x0_2 a1 a2 (wrap64 (x8_1 + 1)))) = some r := H
           have A12 := Aside0.mk A120
           clear A120
           by_cases c13 : t146 < 0
           ·rw [if_pos c13] at H
            have c13b0 : decide (t146 < 0) = true := decide_eq_true c13
            clear c13
            obtain ⟨y149, hy149⟩ : ∃ y_ : List (S78), y_ = (x0_2.set (x9_2 : Int).toNat (⟨(rd_T78 x0_2 (ji9)).f0, (rd_T78 x0_2 (ji9)).f1⟩ : S78)) := ⟨_, rfl⟩
            replace H : (slices_insertionSortCmpFunc_2_int_impl_comparePairs.l1 k2 (y149.set ((ji9) : Int).toNat (⟨(rd_T78 x0_2 x9_2).f0, (rd_T78 x0_2 x9_2).f1⟩ : S78)) a1 a2 x8_1 ji9) = some r := by first | (rw [hy149]; with_reducible exact H) | (have H2_ := (Option.bind_some _ _).symm.trans H; rw [hy149]; with_reducible exact H2_) | (have H2_ := (Option.bind_some _ _).symm.trans H; with_reducible exact H2_) | with_reducible exact H | (rw [hy149]; exact H) | exact H
            have Ny149 := Aside0.mk hy149
            clear hy149
            obtain ⟨y150, hy150⟩ : ∃ y_ : List (S78), y_ = (y149.set ((ji9) : Int).toNat (⟨(rd_T78 x0_2 x9_2).f0, (rd_T78 x0_2 x9_2).f1⟩ : S78)) := ⟨_, rfl⟩
            replace H : (slices_insertionSortCmpFunc_2_int_impl_comparePairs.l1 k2 y150 a1 a2 x8_1 ji9) = some r := by first | (rw [hy150]; with_reducible exact H) | (have H2_ := (Option.bind_some _ _).symm.trans H; rw [hy150]; with_reducible exact H2_) | (have H2_ := (Option.bind_some _ _).symm.trans H; with_reducible exact H2_) | with_reducible exact H | (rw [hy150]; exact H) | exact H
            have Ny150 := Aside0.mk hy150
            clear hy150
            have H' := Aside0.mk H
            clear H
            try go_wp2
            have n0_ := Aside0.mk (Kd.R_drew HO_0.out)
            have n1_ := Aside0.mk (Kept.drew HK.out)
            have n2_ := Aside0.mk (below_drew1 HB.out)
            clear HO_0
            clear HK
            clear HB
            have HO_0 := n0_
            have HK := n1_
            have HB := n2_
            clear n0_ n1_ n2_
            obtain ⟨Ao17, co17, eo17⟩ := Kd.R_slice HO_0.out
            (first | subst eo17 | (injection eo17 with f1_ f2_ f3_; have f4_ := f1_.symm; have f5_ := f3_.symm; clear f1_ f2_ f3_; subst f4_; subst f5_))
            have p144 : 0 ≤ (x9_2 : Int) := od_
            have q144 : x9_2 < (x0_2.length : Int) := od_
            obtain ⟨ad144, e144, hx144_0, hx144_1⟩ := at_T78 (Kd.R_reads' HO_0.out).2.2 x9_2 p144 q144
            cases e144
            replace p144 := eq_true p144
            replace q144 := eq_true q144
            have p145 : 0 ≤ ((ji9) : Int) := od_
            have q145 : (ji9) < (x0_2.length : Int) := od_
            obtain ⟨ad145, e145, hx145_0, hx145_1⟩ := at_T78 (Kd.R_reads' HO_0.out).2.2 (ji9) p145 q145
            obtain rfl : ad144 = ad145 := (by injection e145)
            replace p145 := eq_true p145
            replace q145 := eq_true q145
            refine start_ (n := 17) (S := fun w' => w'.cell? (ad144.add ((x9_2).toNat * 2)) = some (.int .i64 ((rd_T78 x0_2 x9_2).f0)) ∧ w'.cell? ⟨(ad144.add ((x9_2).toNat * 2)).block, (ad144.add ((x9_2).toNat * 2)).off + 1, none⟩ = some (.int .i64 ((rd_T78 x0_2 x9_2).f1)) ∧ w'.cell? (ad144.add (((ji9)).toNat * 2)) = some (.int .i64 ((rd_T78 x0_2 (ji9)).f0)) ∧ w'.cell? ⟨(ad144.add (((ji9)).toNat * 2)).block, (ad144.add (((ji9)).toNat * 2)).off + 1, none⟩ = some (.int .i64 ((rd_T78 x0_2 (ji9)).f1))) (ds := []) (bm 17 0) (by kernel_rfl) rfl rfl ⟨hx144_0, hx144_1, hx145_0, hx145_1⟩ (fun hHeld => ?_); refine with_tabW slices_insertionSortCmpFunc_2_int_impl_comparePairs.tab4 slices_insertionSortCmpFunc_2_int_impl_comparePairs.bits4 (fun HT_ HW_ => ?_)
            generalize wr.drew = w16 at HO_0 HK HB hx144_0 hx144_1 hx145_0 hx145_1 hHeld ⊢
            refine pa_ 0 (some 18) (bm 17 1) rfl rfl HT_.out ?_
            refine pa_ 1 (some 19) (bm 17 3) rfl rfl HT_.out ?_
            refine pa_ 2 (some 20) (bm 17 7) rfl rfl HT_.out ?_
            refine pa_ 3 (some 21) (bm 17 15) rfl rfl HT_.out ?_
            refine pa_ 4 (some 22) (bm 17 31) rfl rfl HT_.out ?_
            refine pa_ 5 (some 23) (bm 17 63) rfl rfl HT_.out ?_
            refine pa_ 6 (some 24) (bm 17 127) rfl rfl HT_.out ?_
            refine pa_ 7 (some 25) (bm 17 255) rfl rfl HT_.out ?_
            refine pa_ 9 (some 27) (bm 17 767) rfl rfl HT_.out ?_
            refine pa_ 10 (some 28) (bm 17 1791) rfl rfl HT_.out ?_
            refine pa_ 11 (some 29) (bm 17 3839) rfl rfl HT_.out ?_
            refine pa_ 12 (some 30) (bm 17 7935) rfl rfl HT_.out ?_
            refine take_ (i := 8) (N := some 26) (v := ?_) (a' := ?_) (bm 17 8191) rfl rfl (take_ofW HT_.out HW_.out (by kernel_rfl)) (fun _ _ _ h => h) (Or.inl ⟨by rfl, ?_⟩) hHeld ?_ ?_
            rotate_left
            ·rintro w' ⟨s0, s1, s2, s3⟩
             go_simp
             with_reducible rfl
            rotate_left
            ·simp only [Act.put, List.setIfInBounds_toArray, List.set_cons_zero, List.set_cons_succ, i64_w, i32_w]
             rfl
            refine take_ (i := 13) (N := some 31) (v := ?_) (a' := ?_) (bm 17 16383) rfl rfl (take_ofW HT_.out HW_.out (by kernel_rfl)) (fun _ _ _ h => h) (Or.inl ⟨by rfl, ?_⟩) hHeld ?_ ?_
            rotate_left
            ·rintro w' ⟨s0, s1, s2, s3⟩
             go_simp
             with_reducible rfl
            rotate_left
            ·simp only [Act.put, List.setIfInBounds_toArray, List.set_cons_zero, List.set_cons_succ, i64_w, i32_w]
             rfl
            refine one_ (i := 14) (N := some 32) (bm 17 32767) rfl rfl (one_of HT_.out (by kernel_rfl)) (by decide) (fun K hK => ?_)
            refine goesV_ Try.func137 (by kernel_rfl) rfl #[.agg #[.int .i64 ((rd_T78 x0_2 x9_2).f0), .int .i64 ((rd_T78 x0_2 x9_2).f1)], .agg #[.int .i64 ((rd_T78 x0_2 (ji9)).f0), .int .i64 ((rd_T78 x0_2 (ji9)).f1)]] (by rfl) rfl rfl rfl (by (try simp only [List.map_toArray, List.map_cons, List.map_nil]); first | done | (simp only [hji9]; rfl) | rfl | (simp only [List.length_drop, List.length_take]; rfl)) ?_
            with_reducible refine (impl_comparePairs.calls k2 ((rd_T78 x0_2 x9_2).f0) ((rd_T78 x0_2 x9_2).f1) ((rd_T78 x0_2 (ji9)).f0) ((rd_T78 x0_2 (ji9)).f1) t146 _ A12.out).mono ?_
            rintro e w18 ⟨rfl, hb⟩
            have HS0_ := (hb.cell (World.block_lt_of_cell? _ _ (hHeld.1))).trans (hHeld.1)
            have HS1_ := (hb.cell (World.block_lt_of_cell? _ _ (hHeld.2.1))).trans (hHeld.2.1)
            have HS2_ := (hb.cell (World.block_lt_of_cell? _ _ (hHeld.2.2.1))).trans (hHeld.2.2.1)
            have HS3_ := (hb.cell (World.block_lt_of_cell? _ _ (hHeld.2.2.2))).trans (hHeld.2.2.2)
            refine ⟨_, rfl, ?_⟩
            have n0_ := Aside0.mk (Kd.R_below (by (with_reducible repeat (first | apply Kd.R_alloc | apply Kd.R_drewN | apply Kd.R_drew)); exact HO_0.out) hb)
            have n1_ := Aside0.mk (Kept.below (S := (fun k_ => P0_ k_)) (by repeat (first | (with_reducible first | exact HK.out | apply Kept.alloc | apply Kept.drewN | apply Kept.drew) | exact HK.out)) hb)
            have n2_ := Aside0.mk (below_step bl_ hb)
            clear HO_0
            clear HK
            clear HB
            have HO_0 := n0_
            have HK := n1_
            have HB := n2_
            clear n0_ n1_ n2_
            (try clear hb)
            (try clear hb2)
            (try clear hk)
            (try clear hi)
            refine hK.out _ _ ⟨HS0_, HS1_, HS2_, HS3_⟩ (fun hHeld => ?_)
            clear hK K
            refine norm_ (a' := ?_) ?_ ?_
            rotate_left
            ·show Act.put _ (some 32) _ = _
             simp only [Act.put, List.setIfInBounds_toArray, List.set_cons_zero, List.set_cons_succ, i64_w, i32_w]
             rfl
            refine pa_ 15 (some 33) (bm 17 65535) rfl rfl HT_.out ?_
            refine pa_ 16 (some 34) (bm 17 131071) rfl rfl HT_.out ?_
            refine done_ (done_of HT_.out (by kernel_rfl)) ?_
            try go_wp2
            have n0_ := Aside0.mk (Kd.R_drew HO_0.out)
            have n1_ := Aside0.mk (Kept.drew HK.out)
            have n2_ := Aside0.mk (below_drew1 HB.out)
            clear HO_0
            clear HK
            clear HB
            have HO_0 := n0_
            have HK := n1_
            have HB := n2_
            clear n0_ n1_ n2_
            have p147 : 0 ≤ ((ji9) : Int) := od_
            have q147 : (ji9) < (x0_2.length : Int) := od_
            obtain ⟨ad147, e147, hx147_0, hx147_1⟩ := at_T78 (Kd.R_reads' HO_0.out).2.2 (ji9) p147 q147
            obtain rfl : ad144 = ad147 := (by injection e147)
            replace p147 := eq_true p147
            replace q147 := eq_true q147
            have p148 : 0 ≤ (x9_2 : Int) := od_
            have q148 : x9_2 < (x0_2.length : Int) := od_
            obtain ⟨ad148, e148, hx148_0, hx148_1⟩ := at_T78 (Kd.R_reads' HO_0.out).2.2 x9_2 p148 q148
            obtain rfl : ad144 = ad148 := (by injection e148)
            replace p148 := eq_true p148
            replace q148 := eq_true q148
            have p14 : 0 ≤ (x9_2 : Int) := od_
            have q14 : (x9_2 : Int) < ((x0_2.length : Int) : Int) := od_
            obtain ⟨go14, co14, eo14, gb14, gl14, cl14, HG14⟩ := Kd.R_form HO_0.out (by omega)
            (first | cases eo14 | (injection eo14 with ea_ en_ ec_; (first | subst ea_ | (injection ea_ with ea_; subst ea_)); subst ec_; clear en_))
            have GB14 := Aside0.mk gb14
            have GG14 := Aside0.mk HG14
            clear gb14 gl14 HG14
            have HMgo14 := Aside0.mk (show (P0_ go14 ∨ w.heap.size ≤ go14) from (HO_0.out.1 _ rfl))
            (first | simp only [add_plain] at hx144_0 | skip)
            (first | simp only [add_plain] at hx144_1 | skip)
            (first | simp only [add_plain] at hx145_0 | skip)
            (first | simp only [add_plain] at hx145_1 | skip)
            (first | simp only [add_plain] at hx147_0 | skip)
            (first | simp only [add_plain] at hx147_1 | skip)
            (first | simp only [add_plain] at hx148_0 | skip)
            (first | simp only [add_plain] at hx148_1 | skip)
            obtain ⟨ce14, hcl14, hM14, hcc14, hfr14⟩ := Kd.R_elem HO_0.out z78 (x9_2 : Int) p14 q14
            obtain rfl := k78_openM hM14
            have hx14_0 : World.cell? _ ⟨go14, (x9_2 : Int).toNat * 2, none⟩ = some (.int .i64 ((rd_T78 x0_2 x9_2).f0)) := hcc14 0 _ rfl
            have hx14_1 : World.cell? _ ⟨go14, (x9_2 : Int).toNat * 2 + 1, none⟩ = some (.int .i64 ((rd_T78 x0_2 x9_2).f1)) := hcc14 1 _ rfl
            have hf14_0 : World.frozen? _ ⟨go14, (x9_2 : Int).toNat * 2, none⟩ = false := hfr14 0
            (try rw [World.frozen?_setCells] at hf14_0)
            have hf14_1 : World.frozen? _ ⟨go14, (x9_2 : Int).toNat * 2 + 1, none⟩ = false := hfr14 1
            (try rw [World.frozen?_setCells] at hf14_1)
            clear hcl14 hcc14 hfr14; (try clear hM14)
            replace p14 := eq_true p14
            replace q14 := eq_true q14
            obtain ⟨ce20, hcl20, hM20, hcc20, hfr20⟩ := Kd.R_elem HO_0.out z78 (x9_2 : Int) od_ (by have h_ : (x9_2 : Int) < ((x0_2.length : Int) : Int) := od_; first | exact h_ | (have e_ := (Kd.R_reads' HO_0.out).1; omega) | simpa using h_)
            obtain rfl := k78_openM hM20
            have HP20 := (Kd.R_seg HO_0.out (x9_2 : Int) od_ (by have h_ : (x9_2 : Int) < ((x0_2.length : Int) : Int) := od_; first | exact h_ | (have e_ := (Kd.R_reads' HO_0.out).1; omega) | simpa using h_) (seg := [.int .i64 ((rd_T78 x0_2 (ji9)).f0), .int .i64 ((rd_T78 x0_2 (ji9)).f1)]) (j := 0) hcl20 hcc20 (show 2 ≤ 2 from by decide) (x' := (⟨(rd_T78 x0_2 (ji9)).f0, (rd_T78 x0_2 (ji9)).f1⟩ : S78)) (k78_mkM _ _ _ (⟨(rd_T78 x0_2 (ji9)).f0, (rd_T78 x0_2 (ji9)).f1⟩ : S78) ) (fun _ hk => hk)).1
            rw [← Ny149.out] at HP20
            have HQ20 := Aside0.mk HP20
            clear hcl20 hcc20 hfr20; (try clear hM20; try clear HP20)
            have p15 : 0 ≤ ((ji9) : Int) := od_
            have q15 : ((ji9) : Int) < ((x0_2.length : Int) : Int) := od_
            obtain ⟨ce15, hcl15, hM15, hcc15, hfr15⟩ := Kd.R_elem HQ20.out z78 ((ji9) : Int) p15 q15
            obtain rfl := k78_openM hM15
            have hx15_0 : World.cell? _ ⟨go14, ((ji9) : Int).toNat * 2, none⟩ = some (.int .i64 ((rd_T78 y149 (ji9)).f0)) := hcc15 0 _ rfl
            have hx15_1 : World.cell? _ ⟨go14, ((ji9) : Int).toNat * 2 + 1, none⟩ = some (.int .i64 ((rd_T78 y149 (ji9)).f1)) := hcc15 1 _ rfl
            have hf15_0 : World.frozen? _ ⟨go14, ((ji9) : Int).toNat * 2, none⟩ = false := hfr15 0
            (try rw [World.frozen?_setCells] at hf15_0)
            have hf15_1 : World.frozen? _ ⟨go14, ((ji9) : Int).toNat * 2 + 1, none⟩ = false := hfr15 1
            (try rw [World.frozen?_setCells] at hf15_1)
            clear hcl15 hcc15 hfr15; (try clear hM15)
            replace p15 := eq_true p15
            replace q15 := eq_true q15
            obtain ⟨ce21, hcl21, hM21, hcc21, hfr21⟩ := Kd.R_elem HQ20.out z78 ((ji9) : Int) od_ (by have h_ : ((ji9) : Int) < ((x0_2.length : Int) : Int) := od_; first | exact h_ | (have e_ := (Kd.R_reads' HO_0.out).1; omega) | simpa using h_)
            obtain rfl := k78_openM hM21
            have HP21 := (Kd.R_seg HQ20.out ((ji9) : Int) od_ (by have h_ : ((ji9) : Int) < ((x0_2.length : Int) : Int) := od_; first | exact h_ | (have e_ := (Kd.R_reads' HO_0.out).1; omega) | simpa using h_) (seg := [.int .i64 ((rd_T78 x0_2 x9_2).f0), .int .i64 ((rd_T78 x0_2 x9_2).f1)]) (j := 0) hcl21 hcc21 (show 2 ≤ 2 from by decide) (x' := (⟨(rd_T78 x0_2 x9_2).f0, (rd_T78 x0_2 x9_2).f1⟩ : S78)) (k78_mkM _ _ _ (⟨(rd_T78 x0_2 x9_2).f0, (rd_T78 x0_2 x9_2).f1⟩ : S78) ) (fun _ hk => hk)).1
            rw [← Ny150.out] at HP21
            have HQ21 := Aside0.mk HP21
            clear hcl21 hcc21 hfr21; (try clear hM21; try clear HP21)
            refine start_ (n := 18) (S := fun w' => w'.cell? ⟨go14, (((ji9)).toNat * 2), none⟩ = some (.int .i64 ((rd_T78 x0_2 (ji9)).f0)) ∧ w'.cell? ⟨go14, (((ji9)).toNat * 2) + 1, none⟩ = some (.int .i64 ((rd_T78 x0_2 (ji9)).f1)) ∧ w'.cell? ⟨go14, ((x9_2).toNat * 2), none⟩ = some (.int .i64 ((rd_T78 x0_2 x9_2).f0)) ∧ w'.cell? ⟨go14, ((x9_2).toNat * 2) + 1, none⟩ = some (.int .i64 ((rd_T78 x0_2 x9_2).f1))) (ds := [15, 17]) (bm 18 0) (by kernel_rfl) rfl rfl ⟨hx147_0, hx147_1, hx148_0, hx148_1⟩ (fun hHeld => ?_); refine with_tabW slices_insertionSortCmpFunc_2_int_impl_comparePairs.tab6 slices_insertionSortCmpFunc_2_int_impl_comparePairs.bits6 (fun HT_ HW_ => ?_)
            generalize w18.drew = w19 at HO_0 HK HB GG14 HQ20 HQ21 hf14_0 hf14_1 hf15_0 hf15_1 hx144_0 hx144_1 hx145_0 hx145_1 hx147_0 hx147_1 hx148_0 hx148_1 hx14_0 hx14_1 hx15_0 hx15_1 hHeld ⊢
            refine pa_ 0 (some 37) (bm 18 1) rfl rfl HT_.out ?_
            refine pa_ 1 (some 38) (bm 18 3) rfl rfl HT_.out ?_
            refine pa_ 2 (some 39) (bm 18 7) rfl rfl HT_.out ?_
            refine pa_ 3 (some 40) (bm 18 15) rfl rfl HT_.out ?_
            refine pa_ 4 (some 41) (bm 18 31) rfl rfl HT_.out ?_
            refine pa_ 5 (some 42) (bm 18 63) rfl rfl HT_.out ?_
            refine pa_ 6 (some 43) (bm 18 127) rfl rfl HT_.out ?_
            refine pa_ 7 (some 44) (bm 18 255) rfl rfl HT_.out ?_
            refine pa_ 8 (some 45) (bm 18 511) rfl rfl HT_.out ?_
            refine pa_ 10 (some 47) (bm 18 1535) rfl rfl HT_.out ?_
            refine pa_ 11 (some 48) (bm 18 3583) rfl rfl HT_.out ?_
            refine pa_ 12 (some 49) (bm 18 7679) rfl rfl HT_.out ?_
            refine take_ (i := 9) (N := some 46) (v := ?_) (a' := ?_) (bm 18 8191) rfl rfl (take_ofW HT_.out HW_.out (by kernel_rfl)) (fun _ _ _ h => h) (Or.inl ⟨by rfl, ?_⟩) hHeld ?_ ?_
            rotate_left
            ·rintro w' ⟨s0, s1, s2, s3⟩
             go_simp
             with_reducible rfl
            rotate_left
            ·simp only [Act.put, List.setIfInBounds_toArray, List.set_cons_zero, List.set_cons_succ, i64_w, i32_w]
             rfl
            refine take_ (i := 13) (N := some 50) (v := ?_) (a' := ?_) (bm 18 16383) rfl rfl (take_ofW HT_.out HW_.out (by kernel_rfl)) (fun _ _ _ h => h) (Or.inl ⟨by rfl, ?_⟩) hHeld ?_ ?_
            rotate_left
            ·rintro w' ⟨s0, s1, s2, s3⟩
             go_simp
             with_reducible rfl
            rotate_left
            ·simp only [Act.put, List.setIfInBounds_toArray, List.set_cons_zero, List.set_cons_succ, i64_w, i32_w]
             rfl
            refine pa_ 14 (some 51) (bm 18 32767) rfl rfl HT_.out ?_
            refine last_ (i := 15) (N := none) (bm 18 65535) rfl rfl (one_of HT_.out (by kernel_rfl)) (by decide) (fun K hK => ?_)
            refine skip_ (w1 := ?_) (by rfl) rfl ?_ ?_
            rotate_left
            ·go_simp
             rfl
            refine hK.out _ _ ?_
            clear hK K
            refine pa_ 16 (some 52) (bm 18 131071) rfl rfl HT_.out ?_
            refine last_ (i := 17) (N := none) (bm 18 262143) rfl rfl (one_of HT_.out (by kernel_rfl)) (by decide) (fun K hK => ?_)
            refine skip_ (w1 := ?_) (by rfl) rfl ?_ ?_
            rotate_left
            ·go_simp
             rfl
            refine hK.out _ _ ?_
            clear hK K
            refine done_ (done_of HT_.out (by kernel_rfl)) ?_
            try go_wp2
            go_roundg k2
            case measure => have := HK1.out; have := HK2.out; omega
            case rel => exact ⟨(y150), (ji9), (by first | rfl | (simp; done) | (simp only [← hji9] <;> (first | rfl | simp)) | (simp [*]; done)), H', ⟨by have := HK1.out; have := HK2.out; omega⟩, ⟨by (with_reducible repeat (first | apply Kd.R_alloc | apply Kd.R_drewN | apply Kd.R_drew)); exact HQ21.out⟩, ⟨by repeat (first | (with_reducible first | exact HK.out | apply Kept.alloc | apply Kept.drewN | apply Kept.drew | refine Kept.setCell ?_ HMgo14.out _ | refine Kept.setCell ?_ HMgo14.out _ | refine Kept.setCell ?_ HMgo14.out _ | refine Kept.setCell ?_ HMgo14.out _) | exact HK.out)⟩, ⟨by repeat (first | (with_reducible first | exact HB.out | apply below_alloc | apply pw_below_drewN | apply below_drew1 | refine below_set ?_ GB14.out | refine below_set ?_ GB14.out | refine below_set ?_ GB14.out | refine below_set ?_ GB14.out) | exact HB.out)⟩⟩
           ·rw [if_neg c13] at H
            have c13b0 : decide (t146 < 0) = false := decide_eq_false c13
            clear c13
            have H' := Aside0.mk H
            clear H
            try go_wp2
            have n0_ := Aside0.mk (Kd.R_drew HO_0.out)
            have n1_ := Aside0.mk (Kept.drew HK.out)
            have n2_ := Aside0.mk (below_drew1 HB.out)
            clear HO_0
            clear HK
            clear HB
            have HO_0 := n0_
            have HK := n1_
            have HB := n2_
            clear n0_ n1_ n2_
            obtain ⟨Ao23, co23, eo23⟩ := Kd.R_slice HO_0.out
            (first | subst eo23 | (injection eo23 with f1_ f2_ f3_; have f4_ := f1_.symm; have f5_ := f3_.symm; clear f1_ f2_ f3_; subst f4_; subst f5_))
            have p144 : 0 ≤ (x9_2 : Int) := od_
            have q144 : x9_2 < (x0_2.length : Int) := od_
            obtain ⟨ad144, e144, hx144_0, hx144_1⟩ := at_T78 (Kd.R_reads' HO_0.out).2.2 x9_2 p144 q144
            cases e144
            replace p144 := eq_true p144
            replace q144 := eq_true q144
            have p145 : 0 ≤ ((ji9) : Int) := od_
            have q145 : (ji9) < (x0_2.length : Int) := od_
            obtain ⟨ad145, e145, hx145_0, hx145_1⟩ := at_T78 (Kd.R_reads' HO_0.out).2.2 (ji9) p145 q145
            obtain rfl : ad144 = ad145 := (by injection e145)
            replace p145 := eq_true p145
            replace q145 := eq_true q145
            refine start_ (n := 17) (S := fun w' => w'.cell? (ad144.add ((x9_2).toNat * 2)) = some (.int .i64 ((rd_T78 x0_2 x9_2).f0)) ∧ w'.cell? ⟨(ad144.add ((x9_2).toNat * 2)).block, (ad144.add ((x9_2).toNat * 2)).off + 1, none⟩ = some (.int .i64 ((rd_T78 x0_2 x9_2).f1)) ∧ w'.cell? (ad144.add (((ji9)).toNat * 2)) = some (.int .i64 ((rd_T78 x0_2 (ji9)).f0)) ∧ w'.cell? ⟨(ad144.add (((ji9)).toNat * 2)).block, (ad144.add (((ji9)).toNat * 2)).off + 1, none⟩ = some (.int .i64 ((rd_T78 x0_2 (ji9)).f1))) (ds := []) (bm 17 0) (by kernel_rfl) rfl rfl ⟨hx144_0, hx144_1, hx145_0, hx145_1⟩ (fun hHeld => ?_); refine with_tabW slices_insertionSortCmpFunc_2_int_impl_comparePairs.tab4 slices_insertionSortCmpFunc_2_int_impl_comparePairs.bits4 (fun HT_ HW_ => ?_)
            generalize wr.drew = w22 at HO_0 HK HB hx144_0 hx144_1 hx145_0 hx145_1 hHeld ⊢
            refine pa_ 0 (some 18) (bm 17 1) rfl rfl HT_.out ?_
            refine pa_ 1 (some 19) (bm 17 3) rfl rfl HT_.out ?_
            refine pa_ 2 (some 20) (bm 17 7) rfl rfl HT_.out ?_
            refine pa_ 3 (some 21) (bm 17 15) rfl rfl HT_.out ?_
            refine pa_ 4 (some 22) (bm 17 31) rfl rfl HT_.out ?_
            refine pa_ 5 (some 23) (bm 17 63) rfl rfl HT_.out ?_
            refine pa_ 6 (some 24) (bm 17 127) rfl rfl HT_.out ?_
            refine pa_ 7 (some 25) (bm 17 255) rfl rfl HT_.out ?_
            refine pa_ 9 (some 27) (bm 17 767) rfl rfl HT_.out ?_
            refine pa_ 10 (some 28) (bm 17 1791) rfl rfl HT_.out ?_
            refine pa_ 11 (some 29) (bm 17 3839) rfl rfl HT_.out ?_
            refine pa_ 12 (some 30) (bm 17 7935) rfl rfl HT_.out ?_
            refine take_ (i := 8) (N := some 26) (v := ?_) (a' := ?_) (bm 17 8191) rfl rfl (take_ofW HT_.out HW_.out (by kernel_rfl)) (fun _ _ _ h => h) (Or.inl ⟨by rfl, ?_⟩) hHeld ?_ ?_
            rotate_left
            ·rintro w' ⟨s0, s1, s2, s3⟩
             go_simp
             with_reducible rfl
            rotate_left
            ·simp only [Act.put, List.setIfInBounds_toArray, List.set_cons_zero, List.set_cons_succ, i64_w, i32_w]
             rfl
            refine take_ (i := 13) (N := some 31) (v := ?_) (a' := ?_) (bm 17 16383) rfl rfl (take_ofW HT_.out HW_.out (by kernel_rfl)) (fun _ _ _ h => h) (Or.inl ⟨by rfl, ?_⟩) hHeld ?_ ?_
            rotate_left
            ·rintro w' ⟨s0, s1, s2, s3⟩
             go_simp
             with_reducible rfl
            rotate_left
            ·simp only [Act.put, List.setIfInBounds_toArray, List.set_cons_zero, List.set_cons_succ, i64_w, i32_w]
             rfl
            refine one_ (i := 14) (N := some 32) (bm 17 32767) rfl rfl (one_of HT_.out (by kernel_rfl)) (by decide) (fun K hK => ?_)
            refine goesV_ Try.func137 (by kernel_rfl) rfl #[.agg #[.int .i64 ((rd_T78 x0_2 x9_2).f0), .int .i64 ((rd_T78 x0_2 x9_2).f1)], .agg #[.int .i64 ((rd_T78 x0_2 (ji9)).f0), .int .i64 ((rd_T78 x0_2 (ji9)).f1)]] (by rfl) rfl rfl rfl (by (try simp only [List.map_toArray, List.map_cons, List.map_nil]); first | done | (simp only [hji9]; rfl) | rfl | (simp only [List.length_drop, List.length_take]; rfl)) ?_
            with_reducible refine (impl_comparePairs.calls k2 ((rd_T78 x0_2 x9_2).f0) ((rd_T78 x0_2 x9_2).f1) ((rd_T78 x0_2 (ji9)).f0) ((rd_T78 x0_2 (ji9)).f1) t146 _ A12.out).mono ?_
            rintro e w24 ⟨rfl, hb⟩
            have HS0_ := (hb.cell (World.block_lt_of_cell? _ _ (hHeld.1))).trans (hHeld.1)
            have HS1_ := (hb.cell (World.block_lt_of_cell? _ _ (hHeld.2.1))).trans (hHeld.2.1)
            have HS2_ := (hb.cell (World.block_lt_of_cell? _ _ (hHeld.2.2.1))).trans (hHeld.2.2.1)
            have HS3_ := (hb.cell (World.block_lt_of_cell? _ _ (hHeld.2.2.2))).trans (hHeld.2.2.2)
            refine ⟨_, rfl, ?_⟩
            have n0_ := Aside0.mk (Kd.R_below (by (with_reducible repeat (first | apply Kd.R_alloc | apply Kd.R_drewN | apply Kd.R_drew)); exact HO_0.out) hb)
            have n1_ := Aside0.mk (Kept.below (S := (fun k_ => P0_ k_)) (by repeat (first | (with_reducible first | exact HK.out | apply Kept.alloc | apply Kept.drewN | apply Kept.drew) | exact HK.out)) hb)
            have n2_ := Aside0.mk (below_step bl_ hb)
            clear HO_0
            clear HK
            clear HB
            have HO_0 := n0_
            have HK := n1_
            have HB := n2_
            clear n0_ n1_ n2_
            (try clear hb)
            (try clear hb2)
            (try clear hk)
            (try clear hi)
            refine hK.out _ _ ⟨HS0_, HS1_, HS2_, HS3_⟩ (fun hHeld => ?_)
            clear hK K
            refine norm_ (a' := ?_) ?_ ?_
            rotate_left
            ·show Act.put _ (some 32) _ = _
             simp only [Act.put, List.setIfInBounds_toArray, List.set_cons_zero, List.set_cons_succ, i64_w, i32_w]
             rfl
            refine pa_ 15 (some 33) (bm 17 65535) rfl rfl HT_.out ?_
            refine pa_ 16 (some 34) (bm 17 131071) rfl rfl HT_.out ?_
            refine done_ (done_of HT_.out (by kernel_rfl)) ?_
            try go_wp2
            go_roundg k2
            case measure => have := HK1.out; have := HK2.out; omega
            case rel => exact ⟨(x0_2), (wrap64 (x8_1 + 1)), (by first | rfl | (simp; done) | (simp [*]; done)), H', ⟨by have := HK1.out; have := HK2.out; omega⟩, ⟨by (with_reducible repeat (first | apply Kd.R_alloc | apply Kd.R_drewN | apply Kd.R_drew)); exact HO_0.out⟩, ⟨by repeat (first | (with_reducible first | exact HK.out | apply Kept.alloc | apply Kept.drewN | apply Kept.drew) | exact HK.out)⟩, ⟨by repeat (first | (with_reducible first | exact HB.out | apply below_alloc | apply pw_below_drewN | apply below_drew1) | exact HB.out)⟩⟩
          ·rw [if_neg c11] at H
           exact absurd H (by simp)
         ·rw [if_neg c10] at H
          exact absurd H (by simp)
        ·rw [if_neg c8] at H
         exact absurd H (by simp)
       ·rw [if_neg c7] at H
        exact absurd H (by simp)
      ·rw [if_neg c6] at H
       have c6b0 : decide (a1 < x9_2) = false := decide_eq_false c6
       clear c6
       have H' := Aside0.mk H
       clear H
       try go_wp2
       have n0_ := Aside0.mk (Kd.R_drew HO_0.out)
       have n1_ := Aside0.mk (Kept.drew HK.out)
       have n2_ := Aside0.mk (below_drew1 HB.out)
       clear HO_0
       clear HK
       clear HB
       have HO_0 := n0_
       have HK := n1_
       have HB := n2_
       clear n0_ n1_ n2_
       refine start_ (n := 17) (S := fun w' => True) (ds := []) (bm 17 0) (by kernel_rfl) rfl rfl trivial (fun hHeld => ?_); refine with_tabW slices_insertionSortCmpFunc_2_int_impl_comparePairs.tab4 slices_insertionSortCmpFunc_2_int_impl_comparePairs.bits4 (fun HT_ HW_ => ?_)
       generalize wr.drew = w25 at HO_0 HK HB hHeld ⊢
       refine pa_ 0 (some 18) (bm 17 1) rfl rfl HT_.out ?_
       refine pa_ 1 (some 19) (bm 17 3) rfl rfl HT_.out ?_
       refine pa_ 2 (some 20) (bm 17 7) rfl rfl HT_.out ?_
       refine pa_ 3 (some 21) (bm 17 15) rfl rfl HT_.out ?_
       refine pu_ 4 (some 22) (bm 17 31) rfl rfl HT_.out ?_
       refine pu_ 5 (some 23) (bm 17 63) rfl rfl HT_.out ?_
       refine pu_ 6 (some 24) (bm 17 127) rfl rfl HT_.out ?_
       refine pu_ 7 (some 25) (bm 17 255) rfl rfl HT_.out ?_
       refine pu_ 8 (some 26) (bm 17 511) rfl rfl HT_.out ?_
       refine pu_ 9 (some 27) (bm 17 1023) rfl rfl HT_.out ?_
       refine pu_ 10 (some 28) (bm 17 2047) rfl rfl HT_.out ?_
       refine pu_ 11 (some 29) (bm 17 4095) rfl rfl HT_.out ?_
       refine pu_ 12 (some 30) (bm 17 8191) rfl rfl HT_.out ?_
       refine pu_ 13 (some 31) (bm 17 16383) rfl rfl HT_.out ?_
       refine pu_ 14 (some 32) (bm 17 32767) rfl rfl HT_.out ?_
       refine pu_ 15 (some 33) (bm 17 65535) rfl rfl HT_.out ?_
       refine pa_ 16 (some 34) (bm 17 131071) rfl rfl HT_.out ?_
       refine done_ (done_of HT_.out (by kernel_rfl)) ?_
       try go_wp2
       go_roundg k2
       case measure => have := HK1.out; have := HK2.out; omega
       case rel => exact ⟨(x0_2), (wrap64 (x8_1 + 1)), (by first | rfl | (simp; done) | (simp [*]; done)), H', ⟨by have := HK1.out; have := HK2.out; omega⟩, ⟨by (with_reducible repeat (first | apply Kd.R_alloc | apply Kd.R_drewN | apply Kd.R_drew)); exact HO_0.out⟩, ⟨by repeat (first | (with_reducible first | exact HK.out | apply Kept.alloc | apply Kept.drewN | apply Kept.drew) | exact HK.out)⟩, ⟨by repeat (first | (with_reducible first | exact HB.out | apply below_alloc | apply pw_below_drewN | apply below_drew1) | exact HB.out)⟩⟩
   ·rw [if_neg c5] at H
    have c5b0 : decide (x8_1 < a2) = false := decide_eq_false c5
    clear c5
    obtain rfl := Option.some.inj H
    go_wp2
    first | go_end0 | ((try simp only [Exit.inBlock, Exit.then]); refine bodyPost_ret (results_none rfl _ _ _) rfl ?_)
    exact ⟨by first | rfl | (simp [errW_none, errW_some] <;> rfl) | (simp [*, errW_none, errW_some] <;> rfl), by (with_reducible repeat (first | apply Kd.R_alloc | apply Kd.R_drewN | apply Kd.R_drew)); exact HO_0.out, by repeat (first | (with_reducible first | exact HB.out | apply below_alloc | apply pw_below_drewN | apply below_drew1) | exact HB.out), by repeat (first | (with_reducible first | exact HK.out | apply Kept.alloc | apply Kept.drewN | apply Kept.drew) | exact HK.out)⟩

end Go.Proofs.Ytiiaadgibkpaaaa.PFnExactCycleOf
