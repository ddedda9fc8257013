-- written by wip/tools of this repo out of the translation (a turned copy of the kit's print): checked by Lean alone
import Derived.Test.YtiiaadgibkpaaaaPFnExactIsCostProofx0
import Derived.Test.YtiiaadgibkpaaaaPFnExactIsCostProofx12
import Derived.Test.YtiiaadgibkpaaaaPFnExactIsCostProofx13
import Derived.Test.YtiiaadgibkpaaaaPFnExactIsCostProofx14
namespace Go.Proofs.Ytiiaadgibkpaaaa.PFnExactIsCostProof
open Go.RowKit Go.Proofs.YtiiaadgibkpaaaaW.PrintWords Go.Proofs.YtiiaadgibkpaaaaW.PrintLast Go.Proofs.YtiiaadgibkpaaaaW.PrintMore
attribute [local go_sem] max2_int min2_int max_two min_two max_three min_three max_four min_four   -- for this text's walks alone
set_option linter.unusedVariables false
set_option linter.unusedSimpArgs false

/-! ### impl_IsWay: function 130 -/
def impl_IsWay.l0 : Nat → List Int → List Int → Int → Int → List (List Int) → List (S78) → Option (Bool × Bool)
 | 0, _, _, _, _, _, _ => none
 | k + 1, x1, x11, x12, x13, x288000, x288001 => if x13 < x12 then (if 0 ≤ x13 then (if x13 < (x11.length : Int) then ((impl_Space_isPlace.f x288000 x288001 (rd x11 x13)).bind fun t290 => (if t290 = true then (if x13 > 0 then (if 0 ≤ (wrap64 (x13 - 1)) then (if (wrap64 (x13 - 1)) < (x1.length : Int) then ((impl_Space_isStep.f k x288000 x288001 (rd x1 (wrap64 (x13 - 1))) (rd x11 x13)).bind fun t292 => (if t292 = true then (impl_IsWay.l0 k x1 x11 x12 (wrap64 (x13 + 1)) x288000 x288001) else (some (false, true)))) else (none)) else (none)) else (impl_IsWay.l0 k x1 x11 x12 (wrap64 (x13 + 1)) x288000 x288001)) else (some (false, true)))) else (none)) else (none)) else (some (decide ((x1.length : Int) > 0), true))
def impl_IsWay.f (k : Nat) (l0_0 : List (List Int)) (l0_1 : List (S78)) (l1 : List Int) : Option (Bool × Bool) := (impl_IsSpace.f k l0_0 l0_1).bind fun t288 => (if t288 = true then (impl_IsWay.l0 k l1 l1 (l1.length : Int) 0 l0_0 l0_1) else (some (false, false)))
def impl_IsWay.T6 : Bool × List (List Nat × List Nat) := (true, [([], []), ([], []), ([0, 1], [0, 1]), ([2], [2]), ([3, 2], [3]), ([4], [4]), ([5, 4], [4, 5]), ([6, 4, 4], [4, 6]), ([7], [7]), ([7], [7]), ([7], [7]), ([10, 7], [7, 10]), ([9, 11, 7], [7, 9, 11]), ([12, 7], [7, 12]), ([7], [7]), ([8, 13, 14, 7, 7], [7, 8, 13, 14]), ([15, 7], [7, 15]), ([7, 16, 4], [4, 7, 16]), ([4, 17], [4, 17])])
def impl_IsWay.B6 : List Nat := [0, 0, 3, 7, 15, 31, 63, 127, 255, 255, 255, 1279, 3839, 7935, 255, 32767, 65535, 131071, 262143]
theorem impl_IsWay.tab6 : rtab .any (opsOf Try.f130 6) = impl_IsWay.T6 := by kernel_rfl
theorem impl_IsWay.bits6 : waitsOk impl_IsWay.T6.2 impl_IsWay.B6 = true := by kernel_rfl
set_option maxHeartbeats 8000000 in
set_option maxRecDepth 100000 in
theorem impl_IsWay.calls (k : Nat) (A0_0 : Option Addr) (c0_0 : Nat) (l0_0 : List (List Int)) (A0_1 : Option Addr) (c0_1 : Nat) (l0_1 : List (S78)) (A1 : Option Addr) (c1 : Nat) (l1 : List Int) (r1 : Bool) (r2 : Bool) (w : World) (hr0_0 : Kd.C (Kd.slice 3 (Kd.int .i64)) w A0_0 l0_0.length l0_0) (hc0_0 : l0_0.length ≤ c0_0) (hr0_1 : Kd.C k78 w A0_1 l0_1.length l0_1) (hc0_1 : l0_1.length ≤ c0_1) (hr1 : Kd.C (Kd.int .i64) w A1 l1.length l1) (hc1 : l1.length ≤ c1) (h : impl_IsWay.f k l0_0 l0_1 l1 = some (r1, r2)) :
  Calls Try.prog 130 #[.agg #[.slice A0_0 l0_0.length c0_0, .slice A0_1 l0_1.length c0_1], .slice A1 l1.length c1] w fun e w' => e = .returned (.tuple #[.bool r1, .bool r2]) ∧ Below w.heap.size w w' := by
 have hu55 := Try.underlying55
 have HR0_0 := Aside0.mk hr0_0
 have HC0_0 := Aside0.mk hc0_0
 clear hr0_0 hc0_0
 have HR0_1 := Aside0.mk hr0_1
 have HC0_1 := Aside0.mk hc0_1
 clear hr0_1 hc0_1
 have HR1 := Aside0.mk hr1
 have HC1 := Aside0.mk hc1
 clear hr1 hc1
 have HB := Aside0.mk (Below.refl w.heap.size w)
 have H : ((impl_IsSpace.f k l0_0 l0_1).bind fun t288 => (if t288 = true then (impl_IsWay.l0 k l1 l1 (l1.length : Int) 0 l0_0 l0_1) else (some (false, false)))) = some (r1, r2) := h
 clear h
 replace H := Option.bind_eq_some_iff.mp H
 obtain ⟨t288, A30, H⟩ := H
 replace H : (if t288 = true then (impl_IsWay.l0 k l1 l1 (l1.length : Int) 0 l0_0 l0_1) else (some (false, false))) = some (r1, r2) := H
 have A3 := Aside0.mk A30
 clear A30
 by_cases c4 : t288 = true
 ·subst c4
  have H1 : (impl_IsWay.l0 k l1 l1 (l1.length : Int) 0 l0_0 l0_1) = some (r1, r2) := by rw [if_pos rfl] at H; exact H
  clear H
  have H := H1
  clear H1
  have H' := Aside0.mk H
  clear H
  go_enter Try.func130, Try.ntmps130
  go_wp2_with (first | ((with_reducible refine gate_dst (N := 2) rfl ?_); refine box_event ?hg (N := 2) ?hd (cs := #[.slice A0_0 l0_0.length c0_0, .slice A0_1 l0_1.length c0_1]) (t := 55) ?hr ?_; (case hd => rfl); (case hg => rfl); (case hr => first | (go_simp; done) | (go_simp; rfl)); intro gb287 hg w5 hbox hb; have n0_ := Aside0.mk (below_step bl_ hb); have n1_ := Aside0.mk (hbox); have n2_ := Aside0.mk ((by rw [hg]; exact (below_size bl_) : w.heap.size ≤ gb287)); have n3_ := Aside0.mk ((by rw [hg]; exact (below_size bl_) : w.heap.size ≤ gb287)); clear HB; have HB := n0_; have BK287 := n1_; have GW287 := n2_; have GE287 := n3_; clear n0_ n1_ n2_ n3_; clear hb hbox hg; have hcz6_0 : w5.cell? ⟨gb287, 0, none⟩ = some (.slice A0_0 l0_0.length c0_0) := (blk_cell BK287.out 0).trans rfl; have hcz6_1 : w5.cell? ⟨gb287, 1, none⟩ = some (.slice A0_1 l0_1.length c0_1) := (blk_cell BK287.out 1).trans rfl; have hfz6_0 := blk_frozen BK287.out 0; have hfz6_1 := blk_frozen BK287.out 1) | ((with_reducible refine gate_callee (f := 125) rfl ?_); refine gL_ (some 9) Try.func125 #[.agg #[.slice A0_0 l0_0.length c0_0, .slice A0_1 l0_1.length c0_1]] ?_ rfl rfl; (with_reducible refine (impl_IsSpace.calls k _ _ l0_0 _ _ l0_1 true _ ?side1 ?side2 ?side3 ?side4 A3.out).mono ?_); (case side1 => exact cb_ HR0_0); (case side2 => exact HC0_0.out); (case side3 => exact cb_ HR0_1); (case side4 => exact HC0_1.out); rintro e w7 ⟨rfl, hb⟩; refine ⟨_, rfl, ?_⟩; have n0_ := Aside0.mk (blk_below (g := gb287) (o := .cells #[.slice A0_0 l0_0.length c0_0, .slice A0_1 l0_1.length c0_1] 55 (0, 0)) (by (with_reducible repeat (first | refine blk_drewN ?_ _ | refine blk_drew ?_ | refine blk_alloc ?_ _)); exact BK287.out) hb); have n1_ := Aside0.mk (below_step (by repeat (first | (with_reducible first | exact HB.out | apply below_alloc | apply pw_below_drewN | apply below_drew1 | refine below_set ?_ GE287.out) | exact HB.out)) hb); clear BK287; clear HB; have BK287 := n0_; have HB := n1_; clear n0_ n1_; (try clear hb); (try clear hb2); (try clear hk); (try clear hi)))
  go_loopg [13] k (fun kq v13 w' => ∃ (x13_1 : Int), v13 = .int .i64 x13_1 ∧ Aside0 (impl_IsWay.l0 kq l1 l1 (l1.length : Int) x13_1 l0_0 l0_1 = some (r1, r2)) ∧ Aside0 (kq ≤ k) ∧ Aside0 (w'.heap[gb287]? = some (.cells #[(.slice A0_0 l0_0.length c0_0), (.slice A0_1 l0_1.length c0_1)] 55 (0, 0))) ∧ Aside0 (Below w.heap.size w w'))
  case atStart => exact ⟨(0), (by first | rfl | (simp; done) | (simp [*]; done)), H', ⟨Nat.le_refl _⟩, ⟨by (with_reducible repeat (first | refine blk_drewN ?_ _ | refine blk_drew ?_ | refine blk_alloc ?_ _)); exact BK287.out⟩, ⟨by repeat (first | (with_reducible first | exact HB.out | apply below_alloc | apply pw_below_drewN | apply below_drew1 | refine below_set ?_ GE287.out) | exact HB.out)⟩⟩
  case round =>
   clear H'
   try clear c1
   try clear p2
   try clear c4
   try clear hcz6_0
   try clear hcz6_1
   try clear hfz6_0
   try clear hfz6_1
   obtain ⟨x13_1, rfl, HA, HK1, BK287, HB⟩ := hrel
   cases gk with
   | zero => exact absurd HA.out (by simp [impl_IsWay.l0])
   | succ k1 =>
    have H := HA.out
    clear HA
    simp only [impl_IsWay.l0] at H
    by_cases c8 : x13_1 < (l1.length : Int)
    ·rw [if_pos c8] at H
     have c8b0 : decide (x13_1 < (l1.length : Int)) = true := decide_eq_true c8
     clear c8
     by_cases c9 : 0 ≤ x13_1
     ·rw [if_pos c9] at H
      have c9b0 : decide (0 ≤ x13_1) = true := decide_eq_true c9
      clear c9
      by_cases c10 : x13_1 < (l1.length : Int)
      ·rw [if_pos c10] at H
       have c10b0 : decide (x13_1 < (l1.length : Int)) = true := decide_eq_true c10
       clear c10
       replace H := Option.bind_eq_some_iff.mp H
       obtain ⟨t290, A110, H⟩ := H
       replace H : (if t290 = true then (if x13_1 > 0 then (if 0 ≤ (wrap64 (x13_1 - 1)) then (if (wrap64 (x13_1 - 1)) < (l1.length : Int) then ((impl_Space_isStep.f k1 l0_0 l0_1 (rd l1 (wrap64 (x13_1 - 1))) (rd l1 x13_1)).bind fun t292 => (if t292 = true then (impl_IsWay.l0 k1 l1 l1 (l1.length : Int) (wrap64 (x13_1 + 1)) l0_0 l0_1) else (some (false, true)))) else (none)) else (none)) else (impl_IsWay.l0 k1 l1 l1 (l1.length : Int) (wrap64 (x13_1 + 1)) l0_0 l0_1)) else (some (false, true))) = some (r1, r2) := H
       have A11 := Aside0.mk A110
       clear A110
       by_cases c12 : t290 = true
       ·subst c12
        have H1 : (if x13_1 > 0 then (if 0 ≤ (wrap64 (x13_1 - 1)) then (if (wrap64 (x13_1 - 1)) < (l1.length : Int) then ((impl_Space_isStep.f k1 l0_0 l0_1 (rd l1 (wrap64 (x13_1 - 1))) (rd l1 x13_1)).bind fun t292 => (if t292 = true then (impl_IsWay.l0 k1 l1 l1 (l1.length : Int) (wrap64 (x13_1 + 1)) l0_0 l0_1) else (some (false, true)))) else (none)) else (none)) else (impl_IsWay.l0 k1 l1 l1 (l1.length : Int) (wrap64 (x13_1 + 1)) l0_0 l0_1)) = some (r1, r2) := by rw [if_pos rfl] at H; exact H
        clear H
        have H := H1
        clear H1
        by_cases c13 : x13_1 > 0
        ·rw [if_pos c13] at H
         have c13b0 : decide (0 < x13_1) = true := decide_eq_true c13
         clear c13
         obtain ⟨ji14, hji14⟩ : ∃ j_ : Int, (wrap64 (x13_1 - 1)) = j_ := ⟨_, rfl⟩
         replace H : (if 0 ≤ (ji14) then (if (ji14) < (l1.length : Int) then ((impl_Space_isStep.f k1 l0_0 l0_1 (rd l1 (ji14)) (rd l1 x13_1)).bind fun t292 => (if t292 = true then (impl_IsWay.l0 k1 l1 l1 (l1.length : Int) (wrap64 (x13_1 + 1)) l0_0 l0_1) else (some (false, true)))) else (none)) else (none)) = some (r1, r2) := by first | (rw [hji14] at H; exact H) | (simp only [hji14] at H ⊢; exact H)
         (try rw [hji14] at A11)
         have hji14w : (IntKind.i64.wrap (x13_1 - 1)) = ji14 := (i64_w _).trans hji14
         by_cases c15 : 0 ≤ (ji14)
         ·rw [if_pos c15] at H
          have c15b0 : decide (0 ≤ (ji14)) = true := decide_eq_true c15
          clear c15
          by_cases c16 : (ji14) < (l1.length : Int)
          ·rw [if_pos c16] at H
           have c16b0 : decide ((ji14) < (l1.length : Int)) = true := decide_eq_true c16
           clear c16
           replace H := Option.bind_eq_some_iff.mp H
           obtain ⟨t292, A170, H⟩ := H
           replace H : (if t292 = true then (impl_IsWay.l0 k1 l1 l1 (l1.length : Int) (wrap64 (x13_1 + 1)) l0_0 l0_1) else (some (false, true))) = some (r1, r2) := H
           have A17 := Aside0.mk A170
           clear A170
           by_cases c18 : t292 = true
           ·subst c18
            have H1 : (impl_IsWay.l0 k1 l1 l1 (l1.length : Int) (wrap64 (x13_1 + 1)) l0_0 l0_1) = some (r1, r2) := by rw [if_pos rfl] at H; exact H
            clear H
            have H := H1
            clear H1
            have H' := Aside0.mk H
            clear H
            have p289 : 0 ≤ (x13_1 : Int) := od_
            have q289 : x13_1 < (l1.length : Int) := od_
            obtain ⟨ad289, e289, hx289_0⟩ := Kd.at_int HR1.out x13_1 p289 q289
            cases e289
            replace hx289_0 := (HB.out.cell (World.block_lt_of_cell? w _ hx289_0)).trans hx289_0
            replace p289 := eq_true p289
            replace q289 := eq_true q289
            try go_wp2
            have n0_ := Aside0.mk (blk_drew BK287.out)
            have n1_ := Aside0.mk (below_drew1 HB.out)
            clear BK287
            clear HB
            have BK287 := n0_
            have HB := n1_
            clear n0_ n1_
            have p291 : 0 ≤ ((ji14) : Int) := od_
            have q291 : (ji14) < (l1.length : Int) := od_
            obtain ⟨ad291, e291, hx291_0⟩ := Kd.at_int HR1.out (ji14) p291 q291
            have hw291_0 := hx291_0
            obtain rfl : ad289 = ad291 := (by injection e291)
            replace hx291_0 := (HB.out.cell (World.block_lt_of_cell? w _ hx291_0)).trans hx291_0
            replace p291 := eq_true p291
            replace q291 := eq_true q291
            refine start_ (n := 19) (S := fun w' => w'.cell? ⟨gb287, 0, none⟩ = some (.slice A0_0 l0_0.length c0_0) ∧ w'.cell? ⟨gb287, 1, none⟩ = some (.slice A0_1 l0_1.length c0_1) ∧ w'.cell? (ad289.add ((ji14)).toNat) = some (.int .i64 (rd l1 (ji14)))) (ds := []) (bm 19 0) (by kernel_rfl) rfl rfl ⟨(blk_cell BK287.out 0).trans rfl, (blk_cell BK287.out 1).trans rfl, ((HB.out.cell (World.block_lt_of_cell? w _ hw291_0)).trans hw291_0)⟩ (fun hHeld => ?_); refine with_tabW impl_IsWay.tab6 impl_IsWay.bits6 (fun HT_ HW_ => ?_)
            generalize wr.drew = w19 at BK287 HB hx291_0 hHeld ⊢
            refine pa_ 1 (some 19) (bm 19 2) rfl rfl HT_.out ?_
            refine take_ (i := 0) (N := some 18) (v := ?_) (a' := ?_) (bm 19 3) rfl rfl (take_ofW HT_.out HW_.out (by kernel_rfl)) (fun _ _ _ h => h) (Or.inl ⟨by rfl, ?_⟩) hHeld ?_ ?_
            rotate_left
            ·rintro w' ⟨s0, s1, s2⟩
             go_simp
             with_reducible rfl
            rotate_left
            ·simp only [Act.put, List.setIfInBounds_toArray, List.set_cons_zero, List.set_cons_succ, i64_w, i32_w]
             rfl
            refine one_ (i := 2) (N := some 20) (bm 19 7) rfl rfl (one_of HT_.out (by kernel_rfl)) (by decide) (fun K hK => ?_)
            refine goes_ Try.func151 (by kernel_rfl) rfl #[.agg #[.slice A0_0 l0_0.length c0_0, .slice A0_1 l0_1.length c0_1], .int .i64 (rd l1 x13_1)] (by rfl) rfl rfl (by (try simp only [List.map_toArray, List.map_cons, List.map_nil]); first | done | rfl | (simp only [List.length_drop, List.length_take]; rfl)) ?_
            with_reducible refine (impl_Space_isPlace.calls _ _ l0_0 _ _ l0_1 (rd l1 x13_1) true _ ?side1 ?side2 ?side3 ?side4 A11.out).mono ?_
            (case side1 => exact cb_ HR0_0)
            (case side2 => exact HC0_0.out)
            (case side3 => exact cb_ HR0_1)
            (case side4 => exact HC0_1.out)
            rintro e w20 ⟨rfl, hb⟩
            refine ⟨_, rfl, ?_⟩
            have n0_ := Aside0.mk (blk_below (g := gb287) (o := .cells #[.slice A0_0 l0_0.length c0_0, .slice A0_1 l0_1.length c0_1] 55 (0, 0)) (by (with_reducible repeat (first | refine blk_drewN ?_ _ | refine blk_drew ?_ | refine blk_alloc ?_ _)); exact BK287.out) hb)
            have n1_ := Aside0.mk (below_step (by repeat (first | (with_reducible first | exact HB.out | apply below_alloc | apply pw_below_drewN | apply below_drew1 | refine below_set ?_ GE287.out) | exact HB.out)) hb)
            clear BK287
            clear HB
            have BK287 := n0_
            have HB := n1_
            clear n0_ n1_
            (try clear hb)
            (try clear hb2)
            (try clear hk)
            (try clear hi)
            refine hK.out _ _ ⟨(blk_cell BK287.out 0).trans rfl, (blk_cell BK287.out 1).trans rfl, ((HB.out.cell (World.block_lt_of_cell? w _ hw291_0)).trans hw291_0)⟩ (fun hHeld => ?_)
            clear hK K
            refine norm_ (a' := ?_) ?_ ?_
            rotate_left
            ·show Act.put _ (some 20) _ = _
             simp only [Act.put, List.setIfInBounds_toArray, List.set_cons_zero, List.set_cons_succ, i64_w, i32_w]
             rfl
            refine pa_ 3 (some 21) (bm 19 15) rfl rfl HT_.out ?_
            refine pa_ 4 (some 22) (bm 19 31) rfl rfl HT_.out ?_
            refine pa_ 5 (some 23) (bm 19 63) rfl rfl HT_.out ?_
            refine pa_ 6 (some 24) (bm 19 127) rfl rfl HT_.out ?_
            refine pa_ 7 (some 25) (bm 19 255) rfl rfl HT_.out ?_
            refine pa_ 9 (some 27) (bm 19 767) rfl rfl HT_.out ?_
            refine pa_ 10 (some 28) (bm 19 1791) rfl rfl HT_.out ?_
            refine pa_ 11 (some 29) (bm 19 3839) rfl rfl HT_.out ?_
            refine pa_ 12 (some 30) (bm 19 7935) rfl rfl HT_.out ?_
            refine pa_ 14 (some 32) (bm 19 24319) rfl rfl HT_.out ?_
            refine take_ (i := 8) (N := some 26) (v := ?_) (a' := ?_) (bm 19 24575) rfl rfl (take_ofW HT_.out HW_.out (by kernel_rfl)) (fun _ _ _ h => h) (Or.inl ⟨by rfl, ?_⟩) hHeld ?_ ?_
            rotate_left
            ·rintro w' ⟨s0, s1, s2⟩
             go_simp
             with_reducible rfl
            rotate_left
            ·simp only [Act.put, List.setIfInBounds_toArray, List.set_cons_zero, List.set_cons_succ, i64_w, i32_w]
             rfl
            refine take_ (i := 13) (N := some 31) (v := ?_) (a' := ?_) (bm 19 32767) rfl rfl (take_ofW HT_.out HW_.out (by kernel_rfl)) (fun _ _ _ h => h) (Or.inl ⟨by rfl, ?_⟩) hHeld ?_ ?_
            rotate_left
            ·rintro w' ⟨s0, s1, s2⟩
             go_simp
             with_reducible rfl
            rotate_left
            ·simp only [Act.put, List.setIfInBounds_toArray, List.set_cons_zero, List.set_cons_succ, i64_w, i32_w]
             rfl
            refine one_ (i := 15) (N := some 33) (bm 19 65535) rfl rfl (one_of HT_.out (by kernel_rfl)) (by decide) (fun K hK => ?_)
            refine goes_ Try.func152 (by kernel_rfl) rfl #[.agg #[.slice A0_0 l0_0.length c0_0, .slice A0_1 l0_1.length c0_1], .int .i64 (rd l1 (ji14)), .int .i64 (rd l1 x13_1)] (by rfl) rfl rfl (by (try simp only [List.map_toArray, List.map_cons, List.map_nil]); first | done | (simp only [hji14]; rfl) | rfl | (simp only [List.length_drop, List.length_take]; rfl)) ?_
            with_reducible refine (impl_Space_isStep.calls k1 _ _ l0_0 _ _ l0_1 (rd l1 (ji14)) (rd l1 x13_1) true _ ?side1 ?side2 ?side3 ?side4 A17.out).mono ?_
            (case side1 => exact cb_ HR0_0)
            (case side2 => exact HC0_0.out)
            (case side3 => exact cb_ HR0_1)
            (case side4 => exact HC0_1.out)
            rintro e w21 ⟨rfl, hb⟩
            refine ⟨_, rfl, ?_⟩
            have n0_ := Aside0.mk (blk_below (g := gb287) (o := .cells #[.slice A0_0 l0_0.length c0_0, .slice A0_1 l0_1.length c0_1] 55 (0, 0)) (by (with_reducible repeat (first | refine blk_drewN ?_ _ | refine blk_drew ?_ | refine blk_alloc ?_ _)); exact BK287.out) hb)
            have n1_ := Aside0.mk (below_step (by repeat (first | (with_reducible first | exact HB.out | apply below_alloc | apply pw_below_drewN | apply below_drew1 | refine below_set ?_ GE287.out) | exact HB.out)) hb)
            clear BK287
            clear HB
            have BK287 := n0_
            have HB := n1_
            clear n0_ n1_
            (try clear hb)
            (try clear hb2)
            (try clear hk)
            (try clear hi)
            refine hK.out _ _ ⟨(blk_cell BK287.out 0).trans rfl, (blk_cell BK287.out 1).trans rfl, ((HB.out.cell (World.block_lt_of_cell? w _ hw291_0)).trans hw291_0)⟩ (fun hHeld => ?_)
            clear hK K
            refine norm_ (a' := ?_) ?_ ?_
            rotate_left
            ·show Act.put _ (some 33) _ = _
             simp only [Act.put, List.setIfInBounds_toArray, List.set_cons_zero, List.set_cons_succ, i64_w, i32_w]
             rfl
            refine pa_ 16 (some 34) (bm 19 131071) rfl rfl HT_.out ?_
            refine pa_ 17 (some 35) (bm 19 262143) rfl rfl HT_.out ?_
            refine pa_ 18 (some 36) (bm 19 524287) rfl rfl HT_.out ?_
            refine done_ (done_of HT_.out (by kernel_rfl)) ?_
            try go_wp2
            go_roundg k1
            case measure => have := HK1.out; omega
            case rel => exact ⟨(wrap64 (x13_1 + 1)), (by first | rfl | (simp; done) | (simp [*]; done)), H', ⟨by have := HK1.out; omega⟩, ⟨by (with_reducible repeat (first | refine blk_drewN ?_ _ | refine blk_drew ?_ | refine blk_alloc ?_ _)); exact BK287.out⟩, ⟨by repeat (first | (with_reducible first | exact HB.out | apply below_alloc | apply pw_below_drewN | apply below_drew1 | refine below_set ?_ GE287.out) | exact HB.out)⟩⟩
           ·replace c18 := Bool.eq_false_iff.mpr c18
            subst c18
            have H1 : (some (false, true)) = some (r1, r2) := by rw [if_neg (show ¬ (false = true) by decide)] at H; exact H
            clear H
            have H := H1
            clear H1
            simp only [Option.some.injEq, Prod.mk.injEq] at H
            obtain ⟨rfl, rfl⟩ := H
            have p289 : 0 ≤ (x13_1 : Int) := od_
            have q289 : x13_1 < (l1.length : Int) := od_
            obtain ⟨ad289, e289, hx289_0⟩ := Kd.at_int HR1.out x13_1 p289 q289
            cases e289
            replace hx289_0 := (HB.out.cell (World.block_lt_of_cell? w _ hx289_0)).trans hx289_0
            replace p289 := eq_true p289
            replace q289 := eq_true q289
            try go_wp2
            have n0_ := Aside0.mk (blk_drew BK287.out)
            have n1_ := Aside0.mk (below_drew1 HB.out)
            clear BK287
            clear HB
            have BK287 := n0_
            have HB := n1_
            clear n0_ n1_
            have p291 : 0 ≤ ((ji14) : Int) := od_
            have q291 : (ji14) < (l1.length : Int) := od_
            obtain ⟨ad291, e291, hx291_0⟩ := Kd.at_int HR1.out (ji14) p291 q291
            have hw291_0 := hx291_0
            obtain rfl : ad289 = ad291 := (by injection e291)
            replace hx291_0 := (HB.out.cell (World.block_lt_of_cell? w _ hx291_0)).trans hx291_0
            replace p291 := eq_true p291
            replace q291 := eq_true q291
            refine start_ (n := 19) (S := fun w' => w'.cell? ⟨gb287, 0, none⟩ = some (.slice A0_0 l0_0.length c0_0) ∧ w'.cell? ⟨gb287, 1, none⟩ = some (.slice A0_1 l0_1.length c0_1) ∧ w'.cell? (ad289.add ((ji14)).toNat) = some (.int .i64 (rd l1 (ji14)))) (ds := []) (bm 19 0) (by kernel_rfl) rfl rfl ⟨(blk_cell BK287.out 0).trans rfl, (blk_cell BK287.out 1).trans rfl, ((HB.out.cell (World.block_lt_of_cell? w _ hw291_0)).trans hw291_0)⟩ (fun hHeld => ?_); refine with_tabW impl_IsWay.tab6 impl_IsWay.bits6 (fun HT_ HW_ => ?_)
            generalize wr.drew = w22 at BK287 HB hx291_0 hHeld ⊢
            refine pa_ 1 (some 19) (bm 19 2) rfl rfl HT_.out ?_
            refine take_ (i := 0) (N := some 18) (v := ?_) (a' := ?_) (bm 19 3) rfl rfl (take_ofW HT_.out HW_.out (by kernel_rfl)) (fun _ _ _ h => h) (Or.inl ⟨by rfl, ?_⟩) hHeld ?_ ?_
            rotate_left
            ·rintro w' ⟨s0, s1, s2⟩
             go_simp
             with_reducible rfl
            rotate_left
            ·simp only [Act.put, List.setIfInBounds_toArray, List.set_cons_zero, List.set_cons_succ, i64_w, i32_w]
             rfl
            refine one_ (i := 2) (N := some 20) (bm 19 7) rfl rfl (one_of HT_.out (by kernel_rfl)) (by decide) (fun K hK => ?_)
            refine goes_ Try.func151 (by kernel_rfl) rfl #[.agg #[.slice A0_0 l0_0.length c0_0, .slice A0_1 l0_1.length c0_1], .int .i64 (rd l1 x13_1)] (by rfl) rfl rfl (by (try simp only [List.map_toArray, List.map_cons, List.map_nil]); first | done | rfl | (simp only [List.length_drop, List.length_take]; rfl)) ?_
            with_reducible refine (impl_Space_isPlace.calls _ _ l0_0 _ _ l0_1 (rd l1 x13_1) true _ ?side1 ?side2 ?side3 ?side4 A11.out).mono ?_
            (case side1 => exact cb_ HR0_0)
            (case side2 => exact HC0_0.out)
            (case side3 => exact cb_ HR0_1)
            (case side4 => exact HC0_1.out)
            rintro e w23 ⟨rfl, hb⟩
            refine ⟨_, rfl, ?_⟩
            have n0_ := Aside0.mk (blk_below (g := gb287) (o := .cells #[.slice A0_0 l0_0.length c0_0, .slice A0_1 l0_1.length c0_1] 55 (0, 0)) (by (with_reducible repeat (first | refine blk_drewN ?_ _ | refine blk_drew ?_ | refine blk_alloc ?_ _)); exact BK287.out) hb)
            have n1_ := Aside0.mk (below_step (by repeat (first | (with_reducible first | exact HB.out | apply below_alloc | apply pw_below_drewN | apply below_drew1 | refine below_set ?_ GE287.out) | exact HB.out)) hb)
            clear BK287
            clear HB
            have BK287 := n0_
            have HB := n1_
            clear n0_ n1_
            (try clear hb)
            (try clear hb2)
            (try clear hk)
            (try clear hi)
            refine hK.out _ _ ⟨(blk_cell BK287.out 0).trans rfl, (blk_cell BK287.out 1).trans rfl, ((HB.out.cell (World.block_lt_of_cell? w _ hw291_0)).trans hw291_0)⟩ (fun hHeld => ?_)
            clear hK K
            refine norm_ (a' := ?_) ?_ ?_
            rotate_left
            ·show Act.put _ (some 20) _ = _
             simp only [Act.put, List.setIfInBounds_toArray, List.set_cons_zero, List.set_cons_succ, i64_w, i32_w]
             rfl
            refine pa_ 3 (some 21) (bm 19 15) rfl rfl HT_.out ?_
            refine pa_ 4 (some 22) (bm 19 31) rfl rfl HT_.out ?_
            refine pa_ 5 (some 23) (bm 19 63) rfl rfl HT_.out ?_
            refine pa_ 6 (some 24) (bm 19 127) rfl rfl HT_.out ?_
            refine pa_ 7 (some 25) (bm 19 255) rfl rfl HT_.out ?_
            refine pa_ 9 (some 27) (bm 19 767) rfl rfl HT_.out ?_
            refine pa_ 10 (some 28) (bm 19 1791) rfl rfl HT_.out ?_
            refine pa_ 11 (some 29) (bm 19 3839) rfl rfl HT_.out ?_
            refine pa_ 12 (some 30) (bm 19 7935) rfl rfl HT_.out ?_
            refine pa_ 14 (some 32) (bm 19 24319) rfl rfl HT_.out ?_
            refine take_ (i := 8) (N := some 26) (v := ?_) (a' := ?_) (bm 19 24575) rfl rfl (take_ofW HT_.out HW_.out (by kernel_rfl)) (fun _ _ _ h => h) (Or.inl ⟨by rfl, ?_⟩) hHeld ?_ ?_
            rotate_left
            ·rintro w' ⟨s0, s1, s2⟩
             go_simp
             with_reducible rfl
            rotate_left
            ·simp only [Act.put, List.setIfInBounds_toArray, List.set_cons_zero, List.set_cons_succ, i64_w, i32_w]
             rfl
            refine take_ (i := 13) (N := some 31) (v := ?_) (a' := ?_) (bm 19 32767) rfl rfl (take_ofW HT_.out HW_.out (by kernel_rfl)) (fun _ _ _ h => h) (Or.inl ⟨by rfl, ?_⟩) hHeld ?_ ?_
            rotate_left
            ·rintro w' ⟨s0, s1, s2⟩
             go_simp
             with_reducible rfl
            rotate_left
            ·simp only [Act.put, List.setIfInBounds_toArray, List.set_cons_zero, List.set_cons_succ, i64_w, i32_w]
             rfl
            refine one_ (i := 15) (N := some 33) (bm 19 65535) rfl rfl (one_of HT_.out (by kernel_rfl)) (by decide) (fun K hK => ?_)
            refine goes_ Try.func152 (by kernel_rfl) rfl #[.agg #[.slice A0_0 l0_0.length c0_0, .slice A0_1 l0_1.length c0_1], .int .i64 (rd l1 (ji14)), .int .i64 (rd l1 x13_1)] (by rfl) rfl rfl (by (try simp only [List.map_toArray, List.map_cons, List.map_nil]); first | done | (simp only [hji14]; rfl) | rfl | (simp only [List.length_drop, List.length_take]; rfl)) ?_
            with_reducible refine (impl_Space_isStep.calls k1 _ _ l0_0 _ _ l0_1 (rd l1 (ji14)) (rd l1 x13_1) false _ ?side1 ?side2 ?side3 ?side4 A17.out).mono ?_
            (case side1 => exact cb_ HR0_0)
            (case side2 => exact HC0_0.out)
            (case side3 => exact cb_ HR0_1)
            (case side4 => exact HC0_1.out)
            rintro e w24 ⟨rfl, hb⟩
            refine ⟨_, rfl, ?_⟩
            have n0_ := Aside0.mk (blk_below (g := gb287) (o := .cells #[.slice A0_0 l0_0.length c0_0, .slice A0_1 l0_1.length c0_1] 55 (0, 0)) (by (with_reducible repeat (first | refine blk_drewN ?_ _ | refine blk_drew ?_ | refine blk_alloc ?_ _)); exact BK287.out) hb)
            have n1_ := Aside0.mk (below_step (by repeat (first | (with_reducible first | exact HB.out | apply below_alloc | apply pw_below_drewN | apply below_drew1 | refine below_set ?_ GE287.out) | exact HB.out)) hb)
            clear BK287
            clear HB
            have BK287 := n0_
            have HB := n1_
            clear n0_ n1_
            (try clear hb)
            (try clear hb2)
            (try clear hk)
            (try clear hi)
            refine hK.out _ _ ⟨(blk_cell BK287.out 0).trans rfl, (blk_cell BK287.out 1).trans rfl, ((HB.out.cell (World.block_lt_of_cell? w _ hw291_0)).trans hw291_0)⟩ (fun hHeld => ?_)
            clear hK K
            refine norm_ (a' := ?_) ?_ ?_
            rotate_left
            ·show Act.put _ (some 33) _ = _
             simp only [Act.put, List.setIfInBounds_toArray, List.set_cons_zero, List.set_cons_succ, i64_w, i32_w]
             rfl
            refine pa_ 16 (some 34) (bm 19 131071) rfl rfl HT_.out ?_
            refine pa_ 17 (some 35) (bm 19 262143) rfl rfl HT_.out ?_
            refine pa_ 18 (some 36) (bm 19 524287) rfl rfl HT_.out ?_
            refine done_ (done_of HT_.out (by kernel_rfl)) ?_
            try go_wp2
            go_ret2
            exact ⟨by first | rfl | (simp [errW_none, errW_some] <;> rfl) | (simp only [← hji14]; first | rfl | (simp [errW_none, errW_some] <;> rfl)) | (simp [*, errW_none, errW_some] <;> rfl), by repeat (first | (with_reducible first | exact HB.out | apply below_alloc | apply pw_below_drewN | apply below_drew1 | refine below_set ?_ GE287.out) | exact HB.out)⟩
          ·rw [if_neg c16] at H
           exact absurd H (by simp)
         ·rw [if_neg c15] at H
          exact absurd H (by simp)
        ·rw [if_neg c13] at H
         have c13b0 : decide (0 < x13_1) = false := decide_eq_false c13
         clear c13
         have H' := Aside0.mk H
         clear H
         have p289 : 0 ≤ (x13_1 : Int) := od_
         have q289 : x13_1 < (l1.length : Int) := od_
         obtain ⟨ad289, e289, hx289_0⟩ := Kd.at_int HR1.out x13_1 p289 q289
         cases e289
         replace hx289_0 := (HB.out.cell (World.block_lt_of_cell? w _ hx289_0)).trans hx289_0
         replace p289 := eq_true p289
         replace q289 := eq_true q289
         try go_wp2
         have n0_ := Aside0.mk (blk_drew BK287.out)
         have n1_ := Aside0.mk (below_drew1 HB.out)
         clear BK287
         clear HB
         have BK287 := n0_
         have HB := n1_
         clear n0_ n1_
         refine start_ (n := 19) (S := fun w' => w'.cell? ⟨gb287, 0, none⟩ = some (.slice A0_0 l0_0.length c0_0) ∧ w'.cell? ⟨gb287, 1, none⟩ = some (.slice A0_1 l0_1.length c0_1)) (ds := []) (bm 19 0) (by kernel_rfl) rfl rfl ⟨(blk_cell BK287.out 0).trans rfl, (blk_cell BK287.out 1).trans rfl⟩ (fun hHeld => ?_); refine with_tabW impl_IsWay.tab6 impl_IsWay.bits6 (fun HT_ HW_ => ?_)
         generalize wr.drew = w25 at BK287 HB hHeld ⊢
         refine pa_ 1 (some 19) (bm 19 2) rfl rfl HT_.out ?_
         refine take_ (i := 0) (N := some 18) (v := ?_) (a' := ?_) (bm 19 3) rfl rfl (take_ofW HT_.out HW_.out (by kernel_rfl)) (fun _ _ _ h => h) (Or.inl ⟨by rfl, ?_⟩) hHeld ?_ ?_
         rotate_left
         ·rintro w' ⟨s0, s1⟩
          go_simp
          with_reducible rfl
         rotate_left
         ·simp only [Act.put, List.setIfInBounds_toArray, List.set_cons_zero, List.set_cons_succ, i64_w, i32_w]
          rfl
         refine one_ (i := 2) (N := some 20) (bm 19 7) rfl rfl (one_of HT_.out (by kernel_rfl)) (by decide) (fun K hK => ?_)
         refine goes_ Try.func151 (by kernel_rfl) rfl #[.agg #[.slice A0_0 l0_0.length c0_0, .slice A0_1 l0_1.length c0_1], .int .i64 (rd l1 x13_1)] (by rfl) rfl rfl (by (try simp only [List.map_toArray, List.map_cons, List.map_nil]); first | done | rfl | (simp only [List.length_drop, List.length_take]; rfl)) ?_
         with_reducible refine (impl_Space_isPlace.calls _ _ l0_0 _ _ l0_1 (rd l1 x13_1) true _ ?side1 ?side2 ?side3 ?side4 A11.out).mono ?_
         (case side1 => exact cb_ HR0_0)
         (case side2 => exact HC0_0.out)
         (case side3 => exact cb_ HR0_1)
         (case side4 => exact HC0_1.out)
         rintro e w26 ⟨rfl, hb⟩
         refine ⟨_, rfl, ?_⟩
         have n0_ := Aside0.mk (blk_below (g := gb287) (o := .cells #[.slice A0_0 l0_0.length c0_0, .slice A0_1 l0_1.length c0_1] 55 (0, 0)) (by (with_reducible repeat (first | refine blk_drewN ?_ _ | refine blk_drew ?_ | refine blk_alloc ?_ _)); exact BK287.out) hb)
         have n1_ := Aside0.mk (below_step (by repeat (first | (with_reducible first | exact HB.out | apply below_alloc | apply pw_below_drewN | apply below_drew1 | refine below_set ?_ GE287.out) | exact HB.out)) hb)
         clear BK287
         clear HB
         have BK287 := n0_
         have HB := n1_
         clear n0_ n1_
         (try clear hb)
         (try clear hb2)
         (try clear hk)
         (try clear hi)
         refine hK.out _ _ ⟨(blk_cell BK287.out 0).trans rfl, (blk_cell BK287.out 1).trans rfl⟩ (fun hHeld => ?_)
         clear hK K
         refine norm_ (a' := ?_) ?_ ?_
         rotate_left
         ·show Act.put _ (some 20) _ = _
          simp only [Act.put, List.setIfInBounds_toArray, List.set_cons_zero, List.set_cons_succ, i64_w, i32_w]
          rfl
         refine pa_ 3 (some 21) (bm 19 15) rfl rfl HT_.out ?_
         refine pa_ 4 (some 22) (bm 19 31) rfl rfl HT_.out ?_
         refine pa_ 5 (some 23) (bm 19 63) rfl rfl HT_.out ?_
         refine pa_ 6 (some 24) (bm 19 127) rfl rfl HT_.out ?_
         refine pa_ 7 (some 25) (bm 19 255) rfl rfl HT_.out ?_
         refine pu_ 8 (some 26) (bm 19 511) rfl rfl HT_.out ?_
         refine pu_ 9 (some 27) (bm 19 1023) rfl rfl HT_.out ?_
         refine pu_ 10 (some 28) (bm 19 2047) rfl rfl HT_.out ?_
         refine pu_ 11 (some 29) (bm 19 4095) rfl rfl HT_.out ?_
         refine pu_ 12 (some 30) (bm 19 8191) rfl rfl HT_.out ?_
         refine pu_ 13 (some 31) (bm 19 16383) rfl rfl HT_.out ?_
         refine pu_ 14 (some 32) (bm 19 32767) rfl rfl HT_.out ?_
         refine pu_ 15 (some 33) (bm 19 65535) rfl rfl HT_.out ?_
         refine pu_ 16 (some 34) (bm 19 131071) rfl rfl HT_.out ?_
         refine pa_ 17 (some 35) (bm 19 262143) rfl rfl HT_.out ?_
         refine pa_ 18 (some 36) (bm 19 524287) rfl rfl HT_.out ?_
         refine done_ (done_of HT_.out (by kernel_rfl)) ?_
         try go_wp2
         go_roundg k1
         case measure => have := HK1.out; omega
         case rel => exact ⟨(wrap64 (x13_1 + 1)), (by first | rfl | (simp; done) | (simp [*]; done)), H', ⟨by have := HK1.out; omega⟩, ⟨by (with_reducible repeat (first | refine blk_drewN ?_ _ | refine blk_drew ?_ | refine blk_alloc ?_ _)); exact BK287.out⟩, ⟨by repeat (first | (with_reducible first | exact HB.out | apply below_alloc | apply pw_below_drewN | apply below_drew1 | refine below_set ?_ GE287.out) | exact HB.out)⟩⟩
       ·replace c12 := Bool.eq_false_iff.mpr c12
        subst c12
        have H1 : (some (false, true)) = some (r1, r2) := by rw [if_neg (show ¬ (false = true) by decide)] at H; exact H
        clear H
        have H := H1
        clear H1
        simp only [Option.some.injEq, Prod.mk.injEq] at H
        obtain ⟨rfl, rfl⟩ := H
        have p289 : 0 ≤ (x13_1 : Int) := od_
        have q289 : x13_1 < (l1.length : Int) := od_
        obtain ⟨ad289, e289, hx289_0⟩ := Kd.at_int HR1.out x13_1 p289 q289
        cases e289
        replace hx289_0 := (HB.out.cell (World.block_lt_of_cell? w _ hx289_0)).trans hx289_0
        replace p289 := eq_true p289
        replace q289 := eq_true q289
        try go_wp2
        have n0_ := Aside0.mk (blk_drew BK287.out)
        have n1_ := Aside0.mk (below_drew1 HB.out)
        clear BK287
        clear HB
        have BK287 := n0_
        have HB := n1_
        clear n0_ n1_
        refine start_ (n := 19) (S := fun w' => w'.cell? ⟨gb287, 0, none⟩ = some (.slice A0_0 l0_0.length c0_0) ∧ w'.cell? ⟨gb287, 1, none⟩ = some (.slice A0_1 l0_1.length c0_1)) (ds := []) (bm 19 0) (by kernel_rfl) rfl rfl ⟨(blk_cell BK287.out 0).trans rfl, (blk_cell BK287.out 1).trans rfl⟩ (fun hHeld => ?_); refine with_tabW impl_IsWay.tab6 impl_IsWay.bits6 (fun HT_ HW_ => ?_)
        generalize wr.drew = w27 at BK287 HB hHeld ⊢
        refine pa_ 1 (some 19) (bm 19 2) rfl rfl HT_.out ?_
        refine take_ (i := 0) (N := some 18) (v := ?_) (a' := ?_) (bm 19 3) rfl rfl (take_ofW HT_.out HW_.out (by kernel_rfl)) (fun _ _ _ h => h) (Or.inl ⟨by rfl, ?_⟩) hHeld ?_ ?_
        rotate_left
        ·rintro w' ⟨s0, s1⟩
         go_simp
         with_reducible rfl
        rotate_left
        ·simp only [Act.put, List.setIfInBounds_toArray, List.set_cons_zero, List.set_cons_succ, i64_w, i32_w]
         rfl
        refine one_ (i := 2) (N := some 20) (bm 19 7) rfl rfl (one_of HT_.out (by kernel_rfl)) (by decide) (fun K hK => ?_)
        refine goes_ Try.func151 (by kernel_rfl) rfl #[.agg #[.slice A0_0 l0_0.length c0_0, .slice A0_1 l0_1.length c0_1], .int .i64 (rd l1 x13_1)] (by rfl) rfl rfl (by (try simp only [List.map_toArray, List.map_cons, List.map_nil]); first | done | rfl | (simp only [List.length_drop, List.length_take]; rfl)) ?_
        with_reducible refine (impl_Space_isPlace.calls _ _ l0_0 _ _ l0_1 (rd l1 x13_1) false _ ?side1 ?side2 ?side3 ?side4 A11.out).mono ?_
        (case side1 => exact cb_ HR0_0)
        (case side2 => exact HC0_0.out)
        (case side3 => exact cb_ HR0_1)
        (case side4 => exact HC0_1.out)
        rintro e w28 ⟨rfl, hb⟩
        refine ⟨_, rfl, ?_⟩
        have n0_ := Aside0.mk (blk_below (g := gb287) (o := .cells #[.slice A0_0 l0_0.length c0_0, .slice A0_1 l0_1.length c0_1] 55 (0, 0)) (by (with_reducible repeat (first | refine blk_drewN ?_ _ | refine blk_drew ?_ | refine blk_alloc ?_ _)); exact BK287.out) hb)
        have n1_ := Aside0.mk (below_step (by repeat (first | (with_reducible first | exact HB.out | apply below_alloc | apply pw_below_drewN | apply below_drew1 | refine below_set ?_ GE287.out) | exact HB.out)) hb)
        clear BK287
        clear HB
        have BK287 := n0_
        have HB := n1_
        clear n0_ n1_
        (try clear hb)
        (try clear hb2)
        (try clear hk)
        (try clear hi)
        refine hK.out _ _ ⟨(blk_cell BK287.out 0).trans rfl, (blk_cell BK287.out 1).trans rfl⟩ (fun hHeld => ?_)
        clear hK K
        refine norm_ (a' := ?_) ?_ ?_
        rotate_left
        ·show Act.put _ (some 20) _ = _
         simp only [Act.put, List.setIfInBounds_toArray, List.set_cons_zero, List.set_cons_succ, i64_w, i32_w]
         rfl
        refine pa_ 3 (some 21) (bm 19 15) rfl rfl HT_.out ?_
        refine pa_ 4 (some 22) (bm 19 31) rfl rfl HT_.out ?_
        refine pu_ 5 (some 23) (bm 19 63) rfl rfl HT_.out ?_
        refine pu_ 6 (some 24) (bm 19 127) rfl rfl HT_.out ?_
        refine pu_ 7 (some 25) (bm 19 255) rfl rfl HT_.out ?_
        refine pu_ 8 (some 26) (bm 19 511) rfl rfl HT_.out ?_
        refine pu_ 9 (some 27) (bm 19 1023) rfl rfl HT_.out ?_
        refine pu_ 10 (some 28) (bm 19 2047) rfl rfl HT_.out ?_
        refine pu_ 11 (some 29) (bm 19 4095) rfl rfl HT_.out ?_
        refine pu_ 12 (some 30) (bm 19 8191) rfl rfl HT_.out ?_
        refine pu_ 13 (some 31) (bm 19 16383) rfl rfl HT_.out ?_
        refine pu_ 14 (some 32) (bm 19 32767) rfl rfl HT_.out ?_
        refine pu_ 15 (some 33) (bm 19 65535) rfl rfl HT_.out ?_
        refine pu_ 16 (some 34) (bm 19 131071) rfl rfl HT_.out ?_
        refine pu_ 17 (some 35) (bm 19 262143) rfl rfl HT_.out ?_
        refine pa_ 18 (some 36) (bm 19 524287) rfl rfl HT_.out ?_
        refine done_ (done_of HT_.out (by kernel_rfl)) ?_
        try go_wp2
        go_ret2
        exact ⟨by first | rfl | (simp [errW_none, errW_some] <;> rfl) | (simp [*, errW_none, errW_some] <;> rfl), by repeat (first | (with_reducible first | exact HB.out | apply below_alloc | apply pw_below_drewN | apply below_drew1 | refine below_set ?_ GE287.out) | exact HB.out)⟩
      ·rw [if_neg c10] at H
       exact absurd H (by simp)
     ·rw [if_neg c9] at H
      exact absurd H (by simp)
    ·rw [if_neg c8] at H
     have c8b0 : decide (x13_1 < (l1.length : Int)) = false := decide_eq_false c8
     clear c8
     simp only [Option.some.injEq, Prod.mk.injEq] at H
     obtain ⟨rfl, rfl⟩ := H
     go_wp2
     go_ret2
     exact ⟨by first | rfl | (simp [errW_none, errW_some] <;> rfl) | (simp [*, errW_none, errW_some] <;> rfl), by repeat (first | (with_reducible first | exact HB.out | apply below_alloc | apply pw_below_drewN | apply below_drew1 | refine below_set ?_ GE287.out) | exact HB.out)⟩
 ·replace c4 := Bool.eq_false_iff.mpr c4
  subst c4
  have H1 : (some (false, false)) = some (r1, r2) := by rw [if_neg (show ¬ (false = true) by decide)] at H; exact H
  clear H
  have H := H1
  clear H1
  simp only [Option.some.injEq, Prod.mk.injEq] at H
  obtain ⟨rfl, rfl⟩ := H
  go_enter Try.func130, Try.ntmps130
  go_wp2_with (first | ((with_reducible refine gate_dst (N := 2) rfl ?_); refine box_event ?hg (N := 2) ?hd (cs := #[.slice A0_0 l0_0.length c0_0, .slice A0_1 l0_1.length c0_1]) (t := 55) ?hr ?_; (case hd => rfl); (case hg => rfl); (case hr => first | (go_simp; done) | (go_simp; rfl)); intro gb287 hg w29 hbox hb; have n0_ := Aside0.mk (below_step bl_ hb); have n1_ := Aside0.mk (hbox); have n2_ := Aside0.mk ((by rw [hg]; exact (below_size bl_) : w.heap.size ≤ gb287)); have n3_ := Aside0.mk ((by rw [hg]; exact (below_size bl_) : w.heap.size ≤ gb287)); clear HB; have HB := n0_; have BK287 := n1_; have GW287 := n2_; have GE287 := n3_; clear n0_ n1_ n2_ n3_; clear hb hbox hg; have hcz30_0 : w29.cell? ⟨gb287, 0, none⟩ = some (.slice A0_0 l0_0.length c0_0) := (blk_cell BK287.out 0).trans rfl; have hcz30_1 : w29.cell? ⟨gb287, 1, none⟩ = some (.slice A0_1 l0_1.length c0_1) := (blk_cell BK287.out 1).trans rfl; have hfz30_0 := blk_frozen BK287.out 0; have hfz30_1 := blk_frozen BK287.out 1) | ((with_reducible refine gate_callee (f := 125) rfl ?_); refine gL_ (some 9) Try.func125 #[.agg #[.slice A0_0 l0_0.length c0_0, .slice A0_1 l0_1.length c0_1]] ?_ rfl rfl; (with_reducible refine (impl_IsSpace.calls k _ _ l0_0 _ _ l0_1 false _ ?side1 ?side2 ?side3 ?side4 A3.out).mono ?_); (case side1 => exact cb_ HR0_0); (case side2 => exact HC0_0.out); (case side3 => exact cb_ HR0_1); (case side4 => exact HC0_1.out); rintro e w31 ⟨rfl, hb⟩; refine ⟨_, rfl, ?_⟩; have n0_ := Aside0.mk (blk_below (g := gb287) (o := .cells #[.slice A0_0 l0_0.length c0_0, .slice A0_1 l0_1.length c0_1] 55 (0, 0)) (by (with_reducible repeat (first | refine blk_drewN ?_ _ | refine blk_drew ?_ | refine blk_alloc ?_ _)); exact BK287.out) hb); have n1_ := Aside0.mk (below_step (by repeat (first | (with_reducible first | exact HB.out | apply below_alloc | apply pw_below_drewN | apply below_drew1 | refine below_set ?_ GE287.out) | exact HB.out)) hb); clear BK287; clear HB; have BK287 := n0_; have HB := n1_; clear n0_ n1_; (try clear hb); (try clear hb2); (try clear hk); (try clear hi)))
  go_ret2
  exact ⟨by first | rfl | (simp [errW_none, errW_some] <;> rfl) | (simp [*, errW_none, errW_some] <;> rfl), by repeat (first | (with_reducible first | exact HB.out | apply below_alloc | apply pw_below_drewN | apply below_drew1 | refine below_set ?_ GE287.out) | exact HB.out)⟩

end Go.Proofs.Ytiiaadgibkpaaaa.PFnExactIsCostProof
