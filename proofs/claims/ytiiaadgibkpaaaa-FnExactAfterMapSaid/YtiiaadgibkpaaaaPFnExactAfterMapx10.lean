-- written by wip/tools of this repo out of the translation (a turned copy of the kit's print): checked by Lean alone
import Derived.Test.YtiiaadgibkpaaaaPFnExactAfterMapx0
import Derived.Test.YtiiaadgibkpaaaaPFnExactAfterMapx9
namespace Go.Proofs.Ytiiaadgibkpaaaa.PFnExactAfterMap
open Go.RowKit Go.Proofs.YtiiaadgibkpaaaaW.PrintWords Go.Proofs.YtiiaadgibkpaaaaW.PrintLast Go.Proofs.YtiiaadgibkpaaaaW.PrintMore
attribute [local go_sem] max2_int min2_int max_two min_two max_three min_three max_four min_four   -- for this text's walks alone
set_option linter.unusedVariables false
set_option linter.unusedSimpArgs false

/-! ### slices_IndexFunc_2_int_2_int_impl_isMap_2: function 139 -/
def slices_IndexFunc_2_int_2_int_impl_isMap_2.l0 : Nat → List (S78) → Int → Int → Int → List (S78) → List Int → Bool → Option (Int)
 | 0, _, _, _, _, _, _, _ => none
 | k + 1, x0, x7, x8, x219000, x219001, x220000, x221000 => if x8 < x7 then (if 0 ≤ x8 then (if x8 < (x0.length : Int) then ((impl_isMap_2.f k ((rd_T78 x0 x8).f0) ((rd_T78 x0 x8).f1) x219000 x219001 x220000 x221000).bind fun t222 => (if t222 = true then (some x8) else (slices_IndexFunc_2_int_2_int_impl_isMap_2.l0 k x0 x7 (wrap64 (x8 + 1)) x219000 x219001 x220000 x221000))) else (none)) else (none)) else (some (-1))
def slices_IndexFunc_2_int_2_int_impl_isMap_2.f (k : Nat) (l0 : List (S78)) (a218_0 : Int) (l218_1 : List (S78)) (l219_0 : List Int) (a220_0 : Bool) : Option (Int) := slices_IndexFunc_2_int_2_int_impl_isMap_2.l0 k l0 (l0.length : Int) 0 a218_0 l218_1 l219_0 a220_0
set_option maxHeartbeats 8000000 in
set_option maxRecDepth 100000 in
theorem slices_IndexFunc_2_int_2_int_impl_isMap_2.calls (k : Nat) (A0 : Option Addr) (c0 : Nat) (l0 : List (S78)) (gb218 : Nat) (a218_0 : Int) (A218_1 : Option Addr) (c218_1 : Nat) (l218_1 : List (S78)) (gb219 : Nat) (A219_0 : Option Addr) (c219_0 : Nat) (l219_0 : List Int) (gb220 : Nat) (a220_0 : Bool) (r : Int) (w : World) (hr0 : Kd.C k78 w A0 l0.length l0) (hc0 : l0.length ≤ c0) (hbk218 : w.heap[gb218]? = some (.cells #[.int .i64 a218_0, .slice A218_1 l218_1.length c218_1] 29 (0, 0))) (hr218_1 : Kd.C k78 w A218_1 l218_1.length l218_1) (hc218_1 : l218_1.length ≤ c218_1) (hbk219 : w.heap[gb219]? = some (.cells #[.slice A219_0 l219_0.length c219_0] 25 (0, 0))) (hr219_0 : Kd.C (Kd.int .i64) w A219_0 l219_0.length l219_0) (hc219_0 : l219_0.length ≤ c219_0) (hbk220 : w.heap[gb220]? = some (.cells #[.bool a220_0] 4 (0, 0))) (h : slices_IndexFunc_2_int_2_int_impl_isMap_2.f k l0 a218_0 l218_1 l219_0 a220_0 = some r) :
  Calls Try.prog 139 #[.slice A0 l0.length c0, .func (.func 106) #[] #[.pointer (some ⟨gb218, 0, none⟩), .pointer (some ⟨gb219, 0, none⟩), .pointer (some ⟨gb220, 0, none⟩)]] w fun e w' => e = .returned (.int .i64 r) ∧ Below w.heap.size w w' := by
 have hu78 := Try.underlying78
 have HR0 := Aside0.mk hr0
 have HC0 := Aside0.mk hc0
 clear hr0 hc0
 have BK218 := Aside0.mk hbk218
 clear hbk218
 have HR218_1 := Aside0.mk hr218_1
 have HC218_1 := Aside0.mk hc218_1
 clear hr218_1 hc218_1
 have BK219 := Aside0.mk hbk219
 clear hbk219
 have HR219_0 := Aside0.mk hr219_0
 have HC219_0 := Aside0.mk hc219_0
 clear hr219_0 hc219_0
 have BK220 := Aside0.mk hbk220
 clear hbk220
 have HB := Aside0.mk (Below.refl w.heap.size w)
 have H : (slices_IndexFunc_2_int_2_int_impl_isMap_2.l0 k l0 (l0.length : Int) 0 a218_0 l218_1 l219_0 a220_0) = some r := h
 clear h
 have H' := Aside0.mk H
 clear H
 go_enter Try.func139, Try.ntmps139
 go_wp2
 go_loopg [8] k (fun kq v8 w' => ∃ (x8_1 : Int), v8 = .int .i64 x8_1 ∧ Aside0 (slices_IndexFunc_2_int_2_int_impl_isMap_2.l0 kq l0 (l0.length : Int) x8_1 a218_0 l218_1 l219_0 a220_0 = some r) ∧ Aside0 (kq ≤ k) ∧ Aside0 (w'.heap[gb218]? = some (.cells #[.int .i64 a218_0, (.slice A218_1 l218_1.length c218_1)] 29 (0, 0))) ∧ Aside0 (w'.heap[gb219]? = some (.cells #[(.slice A219_0 l219_0.length c219_0)] 25 (0, 0))) ∧ Aside0 (w'.heap[gb220]? = some (.cells #[.bool a220_0] 4 (0, 0))) ∧ Aside0 (Below w.heap.size w w'))
 case atStart => exact ⟨(0), (by first | rfl | (simp; done) | (simp [*]; done)), H', ⟨Nat.le_refl _⟩, ⟨by (with_reducible repeat (first | refine blk_drewN ?_ _ | refine blk_drew ?_ | refine blk_alloc ?_ _)); exact BK218.out⟩, ⟨by (with_reducible repeat (first | refine blk_drewN ?_ _ | refine blk_drew ?_ | refine blk_alloc ?_ _)); exact BK219.out⟩, ⟨by (with_reducible repeat (first | refine blk_drewN ?_ _ | refine blk_drew ?_ | refine blk_alloc ?_ _)); exact BK220.out⟩, ⟨by repeat (first | (with_reducible first | exact HB.out | apply below_alloc | apply pw_below_drewN | apply below_drew1 | refine below_set ?_ GE218.out | refine below_set ?_ GE219.out | refine below_set ?_ GE220.out) | exact HB.out)⟩⟩
 case round =>
  clear H'
  try clear c1
  try clear c2
  try clear p2
  obtain ⟨x8_1, rfl, HA, HK1, BK218, BK219, BK220, HB⟩ := hrel
  cases gk with
  | zero => exact absurd HA.out (by simp [slices_IndexFunc_2_int_2_int_impl_isMap_2.l0])
  | succ k1 =>
   have H := HA.out
   clear HA
   simp only [slices_IndexFunc_2_int_2_int_impl_isMap_2.l0] at H
   by_cases c3 : x8_1 < (l0.length : Int)
   ·rw [if_pos c3] at H
    have c3b0 : decide (x8_1 < (l0.length : Int)) = true := decide_eq_true c3
    clear c3
    by_cases c4 : 0 ≤ x8_1
    ·rw [if_pos c4] at H
     have c4b0 : decide (0 ≤ x8_1) = true := decide_eq_true c4
     clear c4
     by_cases c5 : x8_1 < (l0.length : Int)
     ·rw [if_pos c5] at H
      have c5b0 : decide (x8_1 < (l0.length : Int)) = true := decide_eq_true c5
      clear c5
      replace H := Option.bind_eq_some_iff.mp H
      obtain ⟨t222, A60, H⟩ := H
      (try dsimp only at H)
      have A6 := Aside0.mk A60
      clear A60
      by_cases c7 : t222 = true
      ·subst c7
       have H1 : (some x8_1) = some r := by rw [if_pos rfl] at H; exact H
       clear H
       have H := H1
       clear H1
       obtain rfl := Option.some.inj H
       have p221 : 0 ≤ (x8_1 : Int) := od_
       have q221 : x8_1 < (l0.length : Int) := od_
       obtain ⟨ad221, e221, hx221_0, hx221_1⟩ := at_T78 HR0.out x8_1 p221 q221
       cases e221
       replace hx221_0 := (HB.out.cell (World.block_lt_of_cell? w _ hx221_0)).trans hx221_0
       replace hx221_1 := (HB.out.cell (World.block_lt_of_cell? w _ hx221_1)).trans hx221_1
       replace p221 := eq_true p221
       replace q221 := eq_true q221
       go_wp2_with (first | (go_at_call 106; (with_reducible refine (impl_isMap_2.calls k1 ((rd_T78 l0 x8_1).f0) ((rd_T78 l0 x8_1).f1) gb218 a218_0 A218_1 c218_1 l218_1 gb219 A219_0 c219_0 l219_0 gb220 a220_0 true _ ?side1 ?side2 ?side3 ?side4 ?side5 ?side6 ?side7 A6.out).mono ?_); (case side1 => exact (bk_ BK218)); (case side2 => exact cb_ HR218_1); (case side3 => exact HC218_1.out); (case side4 => exact (bk_ BK219)); (case side5 => exact cb_ HR219_0); (case side6 => exact HC219_0.out); (case side7 => exact (bk_ BK220)); rintro e w8 ⟨rfl, hb⟩; have n_ := And.intro (Aside0.mk (blk_below (g := gb218) (o := .cells #[.int .i64 a218_0, .slice A218_1 l218_1.length c218_1] 29 (0, 0)) (bk_ BK218) hb)) (And.intro (Aside0.mk (blk_below (g := gb219) (o := .cells #[.slice A219_0 l219_0.length c219_0] 25 (0, 0)) (bk_ BK219) hb)) (And.intro (Aside0.mk (blk_below (g := gb220) (o := .cells #[.bool a220_0] 4 (0, 0)) (bk_ BK220) hb)) (Aside0.mk (below_step bg_ hb)))); clear BK218 BK219 BK220 HB; obtain ⟨BK218, BK219, BK220, HB⟩ := n_; (try clear hb); (try clear hb2); (try clear hk); (try clear hi)))
       go_ret
       exact ⟨by first | rfl | (simp [errW_none, errW_some] <;> rfl) | (simp [*, errW_none, errW_some] <;> rfl), by repeat (first | (with_reducible first | exact HB.out | apply below_alloc | apply pw_below_drewN | apply below_drew1 | refine below_set ?_ GE218.out | refine below_set ?_ GE219.out | refine below_set ?_ GE220.out) | exact HB.out)⟩
      ·replace c7 := Bool.eq_false_iff.mpr c7
       subst c7
       have H1 : (slices_IndexFunc_2_int_2_int_impl_isMap_2.l0 k1 l0 (l0.length : Int) (wrap64 (x8_1 + 1)) a218_0 l218_1 l219_0 a220_0) = some r := by rw [if_neg (show ¬ (false = true) by decide)] at H; exact H
       clear H
       have H := H1
       clear H1
       have H' := Aside0.mk H
       clear H
       have p221 : 0 ≤ (x8_1 : Int) := od_
       have q221 : x8_1 < (l0.length : Int) := od_
       obtain ⟨ad221, e221, hx221_0, hx221_1⟩ := at_T78 HR0.out x8_1 p221 q221
       cases e221
       replace hx221_0 := (HB.out.cell (World.block_lt_of_cell? w _ hx221_0)).trans hx221_0
       replace hx221_1 := (HB.out.cell (World.block_lt_of_cell? w _ hx221_1)).trans hx221_1
       replace p221 := eq_true p221
       replace q221 := eq_true q221
       go_wp2_with (first | (go_at_call 106; (with_reducible refine (impl_isMap_2.calls k1 ((rd_T78 l0 x8_1).f0) ((rd_T78 l0 x8_1).f1) gb218 a218_0 A218_1 c218_1 l218_1 gb219 A219_0 c219_0 l219_0 gb220 a220_0 false _ ?side1 ?side2 ?side3 ?side4 ?side5 ?side6 ?side7 A6.out).mono ?_); (case side1 => exact (bk_ BK218)); (case side2 => exact cb_ HR218_1); (case side3 => exact HC218_1.out); (case side4 => exact (bk_ BK219)); (case side5 => exact cb_ HR219_0); (case side6 => exact HC219_0.out); (case side7 => exact (bk_ BK220)); rintro e w9 ⟨rfl, hb⟩; have n_ := And.intro (Aside0.mk (blk_below (g := gb218) (o := .cells #[.int .i64 a218_0, .slice A218_1 l218_1.length c218_1] 29 (0, 0)) (bk_ BK218) hb)) (And.intro (Aside0.mk (blk_below (g := gb219) (o := .cells #[.slice A219_0 l219_0.length c219_0] 25 (0, 0)) (bk_ BK219) hb)) (And.intro (Aside0.mk (blk_below (g := gb220) (o := .cells #[.bool a220_0] 4 (0, 0)) (bk_ BK220) hb)) (Aside0.mk (below_step bg_ hb)))); clear BK218 BK219 BK220 HB; obtain ⟨BK218, BK219, BK220, HB⟩ := n_; (try clear hb); (try clear hb2); (try clear hk); (try clear hi)))
       go_roundg k1
       case measure => have := HK1.out; omega
       case rel => exact ⟨(wrap64 (x8_1 + 1)), (by first | rfl | (simp; done) | (simp [*]; done)), H', ⟨by have := HK1.out; omega⟩, ⟨by (with_reducible repeat (first | refine blk_drewN ?_ _ | refine blk_drew ?_ | refine blk_alloc ?_ _)); exact BK218.out⟩, ⟨by (with_reducible repeat (first | refine blk_drewN ?_ _ | refine blk_drew ?_ | refine blk_alloc ?_ _)); exact BK219.out⟩, ⟨by (with_reducible repeat (first | refine blk_drewN ?_ _ | refine blk_drew ?_ | refine blk_alloc ?_ _)); exact BK220.out⟩, ⟨by repeat (first | (with_reducible first | exact HB.out | apply below_alloc | apply pw_below_drewN | apply below_drew1 | refine below_set ?_ GE218.out | refine below_set ?_ GE219.out | refine below_set ?_ GE220.out) | exact HB.out)⟩⟩
     ·rw [if_neg c5] at H
      exact absurd H (by simp)
    ·rw [if_neg c4] at H
     exact absurd H (by simp)
   ·rw [if_neg c3] at H
    have c3b0 : decide (x8_1 < (l0.length : Int)) = false := decide_eq_false c3
    clear c3
    obtain rfl := Option.some.inj H
    go_wp2
    go_ret
    exact ⟨by first | rfl | (simp [errW_none, errW_some] <;> rfl) | (simp [*, errW_none, errW_some] <;> rfl), by repeat (first | (with_reducible first | exact HB.out | apply below_alloc | apply pw_below_drewN | apply below_drew1 | refine below_set ?_ GE218.out | refine below_set ?_ GE219.out | refine below_set ?_ GE220.out) | exact HB.out)⟩

/-! ### slices_ContainsFunc_2_int_2_int_impl_isMap_2: function 105 -/
def slices_ContainsFunc_2_int_2_int_impl_isMap_2.f (k : Nat) (l0 : List (S78)) (a223_0 : Int) (l223_1 : List (S78)) (l224_0 : List Int) (a225_0 : Bool) : Option (Bool) := (slices_IndexFunc_2_int_2_int_impl_isMap_2.f k l0 a223_0 l223_1 l224_0 a225_0).bind fun t226 => (some (decide (t226 ≥ 0)))
set_option maxHeartbeats 8000000 in
set_option maxRecDepth 100000 in
theorem slices_ContainsFunc_2_int_2_int_impl_isMap_2.calls (k : Nat) (A0 : Option Addr) (c0 : Nat) (l0 : List (S78)) (gb223 : Nat) (a223_0 : Int) (A223_1 : Option Addr) (c223_1 : Nat) (l223_1 : List (S78)) (gb224 : Nat) (A224_0 : Option Addr) (c224_0 : Nat) (l224_0 : List Int) (gb225 : Nat) (a225_0 : Bool) (r : Bool) (w : World) (hr0 : Kd.C k78 w A0 l0.length l0) (hc0 : l0.length ≤ c0) (hbk223 : w.heap[gb223]? = some (.cells #[.int .i64 a223_0, .slice A223_1 l223_1.length c223_1] 29 (0, 0))) (hr223_1 : Kd.C k78 w A223_1 l223_1.length l223_1) (hc223_1 : l223_1.length ≤ c223_1) (hbk224 : w.heap[gb224]? = some (.cells #[.slice A224_0 l224_0.length c224_0] 25 (0, 0))) (hr224_0 : Kd.C (Kd.int .i64) w A224_0 l224_0.length l224_0) (hc224_0 : l224_0.length ≤ c224_0) (hbk225 : w.heap[gb225]? = some (.cells #[.bool a225_0] 4 (0, 0))) (h : slices_ContainsFunc_2_int_2_int_impl_isMap_2.f k l0 a223_0 l223_1 l224_0 a225_0 = some r) :
  Calls Try.prog 105 #[.slice A0 l0.length c0, .func (.func 106) #[] #[.pointer (some ⟨gb223, 0, none⟩), .pointer (some ⟨gb224, 0, none⟩), .pointer (some ⟨gb225, 0, none⟩)]] w fun e w' => e = .returned (.bool r) ∧ Below w.heap.size w w' := by
 have HR0 := Aside0.mk hr0
 have HC0 := Aside0.mk hc0
 clear hr0 hc0
 have BK223 := Aside0.mk hbk223
 clear hbk223
 have HR223_1 := Aside0.mk hr223_1
 have HC223_1 := Aside0.mk hc223_1
 clear hr223_1 hc223_1
 have BK224 := Aside0.mk hbk224
 clear hbk224
 have HR224_0 := Aside0.mk hr224_0
 have HC224_0 := Aside0.mk hc224_0
 clear hr224_0 hc224_0
 have BK225 := Aside0.mk hbk225
 clear hbk225
 have HB := Aside0.mk (Below.refl w.heap.size w)
 have H : ((slices_IndexFunc_2_int_2_int_impl_isMap_2.f k l0 a223_0 l223_1 l224_0 a225_0).bind fun t226 => (some (decide (t226 ≥ 0)))) = some r := h
 clear h
 replace H := Option.bind_eq_some_iff.mp H
 obtain ⟨t226, A30, H⟩ := H
 (try dsimp only at H)
 have A3 := Aside0.mk A30
 clear A30
 obtain rfl := Option.some.inj H
 go_enter Try.func105, Try.ntmps105
 go_wp2_with (first | ((with_reducible refine gate_callee (f := 139) rfl ?_); refine gL_ (some 7) Try.func139 #[.slice A0 l0.length c0, .func (.func 106) #[] #[.pointer (some ⟨gb223, 0, none⟩), .pointer (some ⟨gb224, 0, none⟩), .pointer (some ⟨gb225, 0, none⟩)]] ?_ rfl rfl; (with_reducible refine (slices_IndexFunc_2_int_2_int_impl_isMap_2.calls k _ _ l0 gb223 a223_0 A223_1 c223_1 l223_1 gb224 A224_0 c224_0 l224_0 gb225 a225_0 t226 _ ?side1 ?side2 ?side3 ?side4 ?side5 ?side6 ?side7 ?side8 ?side9 A3.out).mono ?_); (case side1 => repeat (first | exact HR0.out | (with_reducible refine Kd.C_alloc ?_ _) | (with_reducible refine Kd.C_drewN ?_ _) | (with_reducible refine Kd.C_drew ?_))); (case side2 => exact HC0.out); (case side3 => exact (bk_ BK223)); (case side4 => repeat (first | exact HR223_1.out | (with_reducible refine Kd.C_alloc ?_ _) | (with_reducible refine Kd.C_drewN ?_ _) | (with_reducible refine Kd.C_drew ?_))); (case side5 => exact HC223_1.out); (case side6 => exact (bk_ BK224)); (case side7 => repeat (first | exact HR224_0.out | (with_reducible refine Kd.C_alloc ?_ _) | (with_reducible refine Kd.C_drewN ?_ _) | (with_reducible refine Kd.C_drew ?_))); (case side8 => exact HC224_0.out); (case side9 => exact (bk_ BK225)); rintro e w4 ⟨rfl, hb⟩; refine ⟨_, rfl, ?_⟩; have n_ := And.intro (Aside0.mk (blk_below (g := gb223) (o := .cells #[.int .i64 a223_0, .slice A223_1 l223_1.length c223_1] 29 (0, 0)) (bk_ BK223) hb)) (And.intro (Aside0.mk (blk_below (g := gb224) (o := .cells #[.slice A224_0 l224_0.length c224_0] 25 (0, 0)) (bk_ BK224) hb)) (And.intro (Aside0.mk (blk_below (g := gb225) (o := .cells #[.bool a225_0] 4 (0, 0)) (bk_ BK225) hb)) (Aside0.mk (below_step bg_ hb)))); clear BK223 BK224 BK225 HB; obtain ⟨BK223, BK224, BK225, HB⟩ := n_; (try clear hb); (try clear hb2); (try clear hk); (try clear hi)))
 go_ret
 exact ⟨by first | rfl | (simp [errW_none, errW_some] <;> rfl) | (simp [*, errW_none, errW_some] <;> rfl), by repeat (first | (with_reducible first | exact HB.out | apply below_alloc | apply pw_below_drewN | apply below_drew1 | refine below_set ?_ GE223.out | refine below_set ?_ GE224.out | refine below_set ?_ GE225.out) | exact HB.out)⟩

/-! ### impl_isMap: function 61 -/
def impl_isMap.f (k : Nat) (a0_0 : Int) (l0_1 : List (S78)) (a1_0 : Int) (l1_1 : List (S78)) (l2 : List Int) (a3 : Bool) : Option (Bool) := if (l2.length : Int) = a0_0 then ((slices_ContainsFunc_int_int_impl_isMap_1.f k l2 a1_0 l1_1).bind fun t231 => (if t231 = true then (some false) else ((slices_ContainsFunc_2_int_2_int_impl_isMap_2.f k l0_1 a1_0 l1_1 l2 a3).bind fun t232 => (some (!t232))))) else (some false)
set_option maxHeartbeats 8000000 in
set_option maxRecDepth 100000 in
theorem impl_isMap.calls (k : Nat) (a0_0 : Int) (A0_1 : Option Addr) (c0_1 : Nat) (l0_1 : List (S78)) (a1_0 : Int) (A1_1 : Option Addr) (c1_1 : Nat) (l1_1 : List (S78)) (A2 : Option Addr) (c2 : Nat) (l2 : List Int) (a3 : Bool) (r : Bool) (w : World) (hr0_1 : Kd.C k78 w A0_1 l0_1.length l0_1) (hc0_1 : l0_1.length ≤ c0_1) (hr1_1 : Kd.C k78 w A1_1 l1_1.length l1_1) (hc1_1 : l1_1.length ≤ c1_1) (hr2 : Kd.C (Kd.int .i64) w A2 l2.length l2) (hc2 : l2.length ≤ c2) (h : impl_isMap.f k a0_0 l0_1 a1_0 l1_1 l2 a3 = some r) :
  Calls Try.prog 61 #[.agg #[.int .i64 a0_0, .slice A0_1 l0_1.length c0_1], .agg #[.int .i64 a1_0, .slice A1_1 l1_1.length c1_1], .slice A2 l2.length c2, .bool a3] w fun e w' => e = .returned (.bool r) ∧ Below w.heap.size w w' := by
 have hu29 := Try.underlying29
 have HR0_1 := Aside0.mk hr0_1
 have HC0_1 := Aside0.mk hc0_1
 clear hr0_1 hc0_1
 have HR1_1 := Aside0.mk hr1_1
 have HC1_1 := Aside0.mk hc1_1
 clear hr1_1 hc1_1
 have HR2 := Aside0.mk hr2
 have HC2 := Aside0.mk hc2
 clear hr2 hc2
 have HB := Aside0.mk (Below.refl w.heap.size w)
 have H : (if (l2.length : Int) = a0_0 then ((slices_ContainsFunc_int_int_impl_isMap_1.f k l2 a1_0 l1_1).bind fun t231 => (if t231 = true then (some false) else ((slices_ContainsFunc_2_int_2_int_impl_isMap_2.f k l0_1 a1_0 l1_1 l2 a3).bind fun t232 => (some (!t232))))) else (some false)) = some r := h
 clear h
 by_cases c5 : (l2.length : Int) = a0_0
 ·rw [if_pos c5] at H
  have c5b0 : ((l2.length : Int) == a0_0) = true := beq_iff_eq.mpr c5
  have c5b1 : ((l2.length : Int) != a0_0) = false := bne_eq_false_iff_eq.mpr c5
  clear c5
  replace H := Option.bind_eq_some_iff.mp H
  obtain ⟨t231, A60, H⟩ := H
  (try dsimp only at H)
  have A6 := Aside0.mk A60
  clear A60
  by_cases c7 : t231 = true
  ·subst c7
   have H1 : (some false) = some r := by rw [if_pos rfl] at H; exact H
   clear H
   have H := H1
   clear H1
   obtain rfl := Option.some.inj H
   go_enter Try.func61, Try.ntmps61
   go_wp2_with (first | ((with_reducible refine gate_dst (N := 4) rfl ?_); refine box_event ?hg (N := 4) ?hd (cs := #[.int .i64 a0_0, .slice A0_1 l0_1.length c0_1]) (t := 29) ?hr ?_; (case hd => rfl); (case hg => rfl); (case hr => first | (go_simp; done) | (go_simp; rfl)); intro gb227 hg w8 hbox hb; have n_ := And.intro (Aside0.mk (below_step bl_ hb)) (And.intro (Aside0.mk (hbox)) (And.intro (Aside0.mk ((by rw [hg]; exact (below_size bl_) : w.heap.size ≤ gb227))) (Aside0.mk ((by rw [hg]; exact (below_size bl_) : w.heap.size ≤ gb227))))); clear HB; obtain ⟨HB, BK227, GW227, GE227⟩ := n_; clear hb hbox hg) | ((with_reducible refine gate_dst (N := 5) rfl ?_); refine box_event ?hg (N := 5) ?hd (cs := #[.int .i64 a1_0, .slice A1_1 l1_1.length c1_1]) (t := 29) ?hr ?_; (case hd => rfl); (case hg => rfl); (case hr => first | (go_simp; done) | (go_simp; rfl)); intro gb228 hg w9 hbox hb; have n_ := And.intro (Aside0.mk (blk_below (g := gb227) (o := .cells #[.int .i64 a0_0, .slice A0_1 l0_1.length c0_1] 29 (0, 0)) (bk_ BK227) hb)) (And.intro (Aside0.mk (below_step bg_ hb)) (And.intro (Aside0.mk (hbox)) (And.intro (Aside0.mk ((by rw [hg]; exact (below_size bg_) : w.heap.size ≤ gb228))) (And.intro (Aside0.mk ((by rw [hg]; exact (below_size bg_) : w.heap.size ≤ gb228))) (And.intro (Aside0.mk ((by rw [hg]; exact Nat.ne_of_lt (blk_lt (g := gb227) (o := .cells #[.int .i64 a0_0, .slice A0_1 l0_1.length c0_1] 29 (0, 0)) (bk_ BK227)) : gb227 ≠ gb228))) (Aside0.mk ((by rw [hg]; exact Nat.ne_of_gt (blk_lt (g := gb227) (o := .cells #[.int .i64 a0_0, .slice A0_1 l0_1.length c0_1] 29 (0, 0)) (bk_ BK227)) : gb228 ≠ gb227)))))))); clear BK227 HB; obtain ⟨BK227, HB, BK228, GW228, GE228, NB227_228, NB228_227⟩ := n_; clear hb hbox hg) | ((with_reducible refine gate_dst (N := 6) rfl ?_); refine box_event ?hg (N := 6) ?hd (cs := #[.slice A2 l2.length c2]) (t := 25) ?hr ?_; (case hd => rfl); (case hg => rfl); (case hr => first | (go_simp; done) | (go_simp; rfl)); intro gb229 hg w10 hbox hb; have n_ := And.intro (Aside0.mk (blk_below (g := gb227) (o := .cells #[.int .i64 a0_0, .slice A0_1 l0_1.length c0_1] 29 (0, 0)) (bk_ BK227) hb)) (And.intro (Aside0.mk (blk_below (g := gb228) (o := .cells #[.int .i64 a1_0, .slice A1_1 l1_1.length c1_1] 29 (0, 0)) (bk_ BK228) hb)) (And.intro (Aside0.mk (below_step bg_ hb)) (And.intro (Aside0.mk (hbox)) (And.intro (Aside0.mk ((by rw [hg]; exact (below_size bg_) : w.heap.size ≤ gb229))) (And.intro (Aside0.mk ((by rw [hg]; exact (below_size bg_) : w.heap.size ≤ gb229))) (And.intro (Aside0.mk ((by rw [hg]; exact Nat.ne_of_lt (blk_lt (g := gb227) (o := .cells #[.int .i64 a0_0, .slice A0_1 l0_1.length c0_1] 29 (0, 0)) (bk_ BK227)) : gb227 ≠ gb229))) (And.intro (Aside0.mk ((by rw [hg]; exact Nat.ne_of_gt (blk_lt (g := gb227) (o := .cells #[.int .i64 a0_0, .slice A0_1 l0_1.length c0_1] 29 (0, 0)) (bk_ BK227)) : gb229 ≠ gb227))) (And.intro (Aside0.mk ((by rw [hg]; exact Nat.ne_of_lt (blk_lt (g := gb228) (o := .cells #[.int .i64 a1_0, .slice A1_1 l1_1.length c1_1] 29 (0, 0)) (bk_ BK228)) : gb228 ≠ gb229))) (Aside0.mk ((by rw [hg]; exact Nat.ne_of_gt (blk_lt (g := gb228) (o := .cells #[.int .i64 a1_0, .slice A1_1 l1_1.length c1_1] 29 (0, 0)) (bk_ BK228)) : gb229 ≠ gb228))))))))))); clear BK227 BK228 HB; obtain ⟨BK227, BK228, HB, BK229, GW229, GE229, NB227_229, NB229_227, NB228_229, NB229_228⟩ := n_; clear hb hbox hg) | ((with_reducible refine gate_dst (N := 7) rfl ?_); refine box_event ?hg (N := 7) ?hd (cs := #[.bool a3]) (t := 4) ?hr ?_; (case hd => rfl); (case hg => rfl); (case hr => first | (go_simp; done) | (go_simp; rfl)); intro gb230 hg w11 hbox hb; have n_ := And.intro (Aside0.mk (blk_below (g := gb227) (o := .cells #[.int .i64 a0_0, .slice A0_1 l0_1.length c0_1] 29 (0, 0)) (bk_ BK227) hb)) (And.intro (Aside0.mk (blk_below (g := gb228) (o := .cells #[.int .i64 a1_0, .slice A1_1 l1_1.length c1_1] 29 (0, 0)) (bk_ BK228) hb)) (And.intro (Aside0.mk (blk_below (g := gb229) (o := .cells #[.slice A2 l2.length c2] 25 (0, 0)) (bk_ BK229) hb)) (And.intro (Aside0.mk (below_step bg_ hb)) (And.intro (Aside0.mk (hbox)) (And.intro (Aside0.mk ((by rw [hg]; exact (below_size bg_) : w.heap.size ≤ gb230))) (And.intro (Aside0.mk ((by rw [hg]; exact (below_size bg_) : w.heap.size ≤ gb230))) (And.intro (Aside0.mk ((by rw [hg]; exact Nat.ne_of_lt (blk_lt (g := gb227) (o := .cells #[.int .i64 a0_0, .slice A0_1 l0_1.length c0_1] 29 (0, 0)) (bk_ BK227)) : gb227 ≠ gb230))) (And.intro (Aside0.mk ((by rw [hg]; exact Nat.ne_of_gt (blk_lt (g := gb227) (o := .cells #[.int .i64 a0_0, .slice A0_1 l0_1.length c0_1] 29 (0, 0)) (bk_ BK227)) : gb230 ≠ gb227))) (And.intro (Aside0.mk ((by rw [hg]; exact Nat.ne_of_lt (blk_lt (g := gb228) (o := .cells #[.int .i64 a1_0, .slice A1_1 l1_1.length c1_1] 29 (0, 0)) (bk_ BK228)) : gb228 ≠ gb230))) (And.intro (Aside0.mk ((by rw [hg]; exact Nat.ne_of_gt (blk_lt (g := gb228) (o := .cells #[.int .i64 a1_0, .slice A1_1 l1_1.length c1_1] 29 (0, 0)) (bk_ BK228)) : gb230 ≠ gb228))) (And.intro (Aside0.mk ((by rw [hg]; exact Nat.ne_of_lt (blk_lt (g := gb229) (o := .cells #[.slice A2 l2.length c2] 25 (0, 0)) (bk_ BK229)) : gb229 ≠ gb230))) (Aside0.mk ((by rw [hg]; exact Nat.ne_of_gt (blk_lt (g := gb229) (o := .cells #[.slice A2 l2.length c2] 25 (0, 0)) (bk_ BK229)) : gb230 ≠ gb229)))))))))))))); clear BK227 BK228 BK229 HB; obtain ⟨BK227, BK228, BK229, HB, BK230, GW230, GE230, NB227_230, NB230_227, NB228_230, NB230_228, NB229_230, NB230_229⟩ := n_; clear hb hbox hg; have hnb12 := NB229_227.out; have hnc12 := NB227_229.out; have hnb13 := NB229_228.out; have hnc13 := NB228_229.out; have hnb14 := NB229_230.out; have hnc14 := NB230_229.out; have hcz15_0 : w11.cell? ⟨gb229, 0, none⟩ = some (.slice A2 l2.length c2) := (blk_cell BK229.out 0).trans rfl; have hfz15_0 := blk_frozen BK229.out 0; have hnb16 := NB227_228.out; have hnc16 := NB228_227.out; have hnb17 := NB227_230.out; have hnc17 := NB230_227.out; have hcz18_0 : w11.cell? ⟨gb227, 0, none⟩ = some (.int .i64 a0_0) := (blk_cell BK227.out 0).trans rfl; have hcz18_1 : w11.cell? ⟨gb227, 1, none⟩ = some (.slice A0_1 l0_1.length c0_1) := (blk_cell BK227.out 1).trans rfl; have hfz18_0 := blk_frozen BK227.out 0; have hfz18_1 := blk_frozen BK227.out 1) | (go_at_call 103; (with_reducible refine (slices_ContainsFunc_int_int_impl_isMap_1.calls k _ _ l2 gb228 a1_0 A1_1 c1_1 l1_1 true _ ?side1 ?side2 ?side3 ?side4 ?side5 A6.out).mono ?_); (case side1 => exact cb_ HR2); (case side2 => exact HC2.out); (case side3 => exact (bk_ BK228)); (case side4 => exact cb_ HR1_1); (case side5 => exact HC1_1.out); rintro e w' ⟨rfl, ⟨nd, rfl⟩⟩))
   go_ret
   exact ⟨by first | rfl | (simp [errW_none, errW_some] <;> rfl) | (simp [*, errW_none, errW_some] <;> rfl), by repeat (first | (with_reducible first | exact HB.out | apply below_alloc | apply pw_below_drewN | apply below_drew1 | refine below_set ?_ GE227.out | refine below_set ?_ GE228.out | refine below_set ?_ GE229.out | refine below_set ?_ GE230.out) | exact HB.out)⟩
  ·replace c7 := Bool.eq_false_iff.mpr c7
   subst c7
   have H1 : ((slices_ContainsFunc_2_int_2_int_impl_isMap_2.f k l0_1 a1_0 l1_1 l2 a3).bind fun t232 => (some (!t232))) = some r := by rw [if_neg (show ¬ (false = true) by decide)] at H; exact H
   clear H
   have H := H1
   clear H1
   replace H := Option.bind_eq_some_iff.mp H
   obtain ⟨t232, A190, H⟩ := H
   (try dsimp only at H)
   have A19 := Aside0.mk A190
   clear A190
   obtain rfl := Option.some.inj H
   go_enter Try.func61, Try.ntmps61
   go_wp2_with (first | ((with_reducible refine gate_dst (N := 4) rfl ?_); refine box_event ?hg (N := 4) ?hd (cs := #[.int .i64 a0_0, .slice A0_1 l0_1.length c0_1]) (t := 29) ?hr ?_; (case hd => rfl); (case hg => rfl); (case hr => first | (go_simp; done) | (go_simp; rfl)); intro gb227 hg w20 hbox hb; have n_ := And.intro (Aside0.mk (below_step bl_ hb)) (And.intro (Aside0.mk (hbox)) (And.intro (Aside0.mk ((by rw [hg]; exact (below_size bl_) : w.heap.size ≤ gb227))) (Aside0.mk ((by rw [hg]; exact (below_size bl_) : w.heap.size ≤ gb227))))); clear HB; obtain ⟨HB, BK227, GW227, GE227⟩ := n_; clear hb hbox hg) | ((with_reducible refine gate_dst (N := 5) rfl ?_); refine box_event ?hg (N := 5) ?hd (cs := #[.int .i64 a1_0, .slice A1_1 l1_1.length c1_1]) (t := 29) ?hr ?_; (case hd => rfl); (case hg => rfl); (case hr => first | (go_simp; done) | (go_simp; rfl)); intro gb228 hg w21 hbox hb; have n_ := And.intro (Aside0.mk (blk_below (g := gb227) (o := .cells #[.int .i64 a0_0, .slice A0_1 l0_1.length c0_1] 29 (0, 0)) (bk_ BK227) hb)) (And.intro (Aside0.mk (below_step bg_ hb)) (And.intro (Aside0.mk (hbox)) (And.intro (Aside0.mk ((by rw [hg]; exact (below_size bg_) : w.heap.size ≤ gb228))) (And.intro (Aside0.mk ((by rw [hg]; exact (below_size bg_) : w.heap.size ≤ gb228))) (And.intro (Aside0.mk ((by rw [hg]; exact Nat.ne_of_lt (blk_lt (g := gb227) (o := .cells #[.int .i64 a0_0, .slice A0_1 l0_1.length c0_1] 29 (0, 0)) (bk_ BK227)) : gb227 ≠ gb228))) (Aside0.mk ((by rw [hg]; exact Nat.ne_of_gt (blk_lt (g := gb227) (o := .cells #[.int .i64 a0_0, .slice A0_1 l0_1.length c0_1] 29 (0, 0)) (bk_ BK227)) : gb228 ≠ gb227)))))))); clear BK227 HB; obtain ⟨BK227, HB, BK228, GW228, GE228, NB227_228, NB228_227⟩ := n_; clear hb hbox hg) | ((with_reducible refine gate_dst (N := 6) rfl ?_); refine box_event ?hg (N := 6) ?hd (cs := #[.slice A2 l2.length c2]) (t := 25) ?hr ?_; (case hd => rfl); (case hg => rfl); (case hr => first | (go_simp; done) | (go_simp; rfl)); intro gb229 hg w22 hbox hb; have n_ := And.intro (Aside0.mk (blk_below (g := gb227) (o := .cells #[.int .i64 a0_0, .slice A0_1 l0_1.length c0_1] 29 (0, 0)) (bk_ BK227) hb)) (And.intro (Aside0.mk (blk_below (g := gb228) (o := .cells #[.int .i64 a1_0, .slice A1_1 l1_1.length c1_1] 29 (0, 0)) (bk_ BK228) hb)) (And.intro (Aside0.mk (below_step bg_ hb)) (And.intro (Aside0.mk (hbox)) (And.intro (Aside0.mk ((by rw [hg]; exact (below_size bg_) : w.heap.size ≤ gb229))) (And.intro (Aside0.mk ((by rw [hg]; exact (below_size bg_) : w.heap.size ≤ gb229))) (And.intro (Aside0.mk ((by rw [hg]; exact Nat.ne_of_lt (blk_lt (g := gb227) (o := .cells #[.int .i64 a0_0, .slice A0_1 l0_1.length c0_1] 29 (0, 0)) (bk_ BK227)) : gb227 ≠ gb229))) (And.intro (Aside0.mk ((by rw [hg]; exact Nat.ne_of_gt (blk_lt (g := gb227) (o := .cells #[.int .i64 a0_0, .slice A0_1 l0_1.length c0_1] 29 (0, 0)) (bk_ BK227)) : gb229 ≠ gb227))) (And.intro (Aside0.mk ((by rw [hg]; exact Nat.ne_of_lt (blk_lt (g := gb228) (o := .cells #[.int .i64 a1_0, .slice A1_1 l1_1.length c1_1] 29 (0, 0)) (bk_ BK228)) : gb228 ≠ gb229))) (Aside0.mk ((by rw [hg]; exact Nat.ne_of_gt (blk_lt (g := gb228) (o := .cells #[.int .i64 a1_0, .slice A1_1 l1_1.length c1_1] 29 (0, 0)) (bk_ BK228)) : gb229 ≠ gb228))))))))))); clear BK227 BK228 HB; obtain ⟨BK227, BK228, HB, BK229, GW229, GE229, NB227_229, NB229_227, NB228_229, NB229_228⟩ := n_; clear hb hbox hg) | ((with_reducible refine gate_dst (N := 7) rfl ?_); refine box_event ?hg (N := 7) ?hd (cs := #[.bool a3]) (t := 4) ?hr ?_; (case hd => rfl); (case hg => rfl); (case hr => first | (go_simp; done) | (go_simp; rfl)); intro gb230 hg w23 hbox hb; have n_ := And.intro (Aside0.mk (blk_below (g := gb227) (o := .cells #[.int .i64 a0_0, .slice A0_1 l0_1.length c0_1] 29 (0, 0)) (bk_ BK227) hb)) (And.intro (Aside0.mk (blk_below (g := gb228) (o := .cells #[.int .i64 a1_0, .slice A1_1 l1_1.length c1_1] 29 (0, 0)) (bk_ BK228) hb)) (And.intro (Aside0.mk (blk_below (g := gb229) (o := .cells #[.slice A2 l2.length c2] 25 (0, 0)) (bk_ BK229) hb)) (And.intro (Aside0.mk (below_step bg_ hb)) (And.intro (Aside0.mk (hbox)) (And.intro (Aside0.mk ((by rw [hg]; exact (below_size bg_) : w.heap.size ≤ gb230))) (And.intro (Aside0.mk ((by rw [hg]; exact (below_size bg_) : w.heap.size ≤ gb230))) (And.intro (Aside0.mk ((by rw [hg]; exact Nat.ne_of_lt (blk_lt (g := gb227) (o := .cells #[.int .i64 a0_0, .slice A0_1 l0_1.length c0_1] 29 (0, 0)) (bk_ BK227)) : gb227 ≠ gb230))) (And.intro (Aside0.mk ((by rw [hg]; exact Nat.ne_of_gt (blk_lt (g := gb227) (o := .cells #[.int .i64 a0_0, .slice A0_1 l0_1.length c0_1] 29 (0, 0)) (bk_ BK227)) : gb230 ≠ gb227))) (And.intro (Aside0.mk ((by rw [hg]; exact Nat.ne_of_lt (blk_lt (g := gb228) (o := .cells #[.int .i64 a1_0, .slice A1_1 l1_1.length c1_1] 29 (0, 0)) (bk_ BK228)) : gb228 ≠ gb230))) (And.intro (Aside0.mk ((by rw [hg]; exact Nat.ne_of_gt (blk_lt (g := gb228) (o := .cells #[.int .i64 a1_0, .slice A1_1 l1_1.length c1_1] 29 (0, 0)) (bk_ BK228)) : gb230 ≠ gb228))) (And.intro (Aside0.mk ((by rw [hg]; exact Nat.ne_of_lt (blk_lt (g := gb229) (o := .cells #[.slice A2 l2.length c2] 25 (0, 0)) (bk_ BK229)) : gb229 ≠ gb230))) (Aside0.mk ((by rw [hg]; exact Nat.ne_of_gt (blk_lt (g := gb229) (o := .cells #[.slice A2 l2.length c2] 25 (0, 0)) (bk_ BK229)) : gb230 ≠ gb229)))))))))))))); clear BK227 BK228 BK229 HB; obtain ⟨BK227, BK228, BK229, HB, BK230, GW230, GE230, NB227_230, NB230_227, NB228_230, NB230_228, NB229_230, NB230_229⟩ := n_; clear hb hbox hg; have hnb24 := NB229_227.out; have hnc24 := NB227_229.out; have hnb25 := NB229_228.out; have hnc25 := NB228_229.out; have hnb26 := NB229_230.out; have hnc26 := NB230_229.out; have hcz27_0 : w23.cell? ⟨gb229, 0, none⟩ = some (.slice A2 l2.length c2) := (blk_cell BK229.out 0).trans rfl; have hfz27_0 := blk_frozen BK229.out 0; have hnb28 := NB227_228.out; have hnc28 := NB228_227.out; have hnb29 := NB227_230.out; have hnc29 := NB230_227.out; have hcz30_0 : w23.cell? ⟨gb227, 0, none⟩ = some (.int .i64 a0_0) := (blk_cell BK227.out 0).trans rfl; have hcz30_1 : w23.cell? ⟨gb227, 1, none⟩ = some (.slice A0_1 l0_1.length c0_1) := (blk_cell BK227.out 1).trans rfl; have hfz30_0 := blk_frozen BK227.out 0; have hfz30_1 := blk_frozen BK227.out 1) | (go_at_call 103; (with_reducible refine (slices_ContainsFunc_int_int_impl_isMap_1.calls k _ _ l2 gb228 a1_0 A1_1 c1_1 l1_1 false _ ?side1 ?side2 ?side3 ?side4 ?side5 A6.out).mono ?_); (case side1 => exact cb_ HR2); (case side2 => exact HC2.out); (case side3 => exact (bk_ BK228)); (case side4 => exact cb_ HR1_1); (case side5 => exact HC1_1.out); rintro e w' ⟨rfl, ⟨nd, rfl⟩⟩) | ((with_reducible refine gate_callee (f := 105) rfl ?_); refine gL_ (some 22) Try.func105 #[.slice A0_1 l0_1.length c0_1, .func (.func 106) #[] #[.pointer (some ⟨gb228, 0, none⟩), .pointer (some ⟨gb229, 0, none⟩), .pointer (some ⟨gb230, 0, none⟩)]] ?_ rfl rfl; (with_reducible refine (slices_ContainsFunc_2_int_2_int_impl_isMap_2.calls k _ _ l0_1 gb228 a1_0 A1_1 c1_1 l1_1 gb229 A2 c2 l2 gb230 a3 t232 _ ?side1 ?side2 ?side3 ?side4 ?side5 ?side6 ?side7 ?side8 ?side9 A19.out).mono ?_); (case side1 => repeat (first | exact (Kd.C_below HR0_1.out bg_) | (with_reducible refine Kd.C_alloc ?_ _) | (with_reducible refine Kd.C_drewN ?_ _) | (with_reducible refine Kd.C_drew ?_))); (case side2 => exact HC0_1.out); (case side3 => exact (bk_ BK228)); (case side4 => repeat (first | exact (Kd.C_below HR1_1.out bg_) | (with_reducible refine Kd.C_alloc ?_ _) | (with_reducible refine Kd.C_drewN ?_ _) | (with_reducible refine Kd.C_drew ?_))); (case side5 => exact HC1_1.out); (case side6 => exact (bk_ BK229)); (case side7 => repeat (first | exact (Kd.C_below HR2.out bg_) | (with_reducible refine Kd.C_alloc ?_ _) | (with_reducible refine Kd.C_drewN ?_ _) | (with_reducible refine Kd.C_drew ?_))); (case side8 => exact HC2.out); (case side9 => exact (bk_ BK230)); rintro e w31 ⟨rfl, hb⟩; refine ⟨_, rfl, ?_⟩; have n_ := And.intro (Aside0.mk (blk_below (g := gb227) (o := .cells #[.int .i64 a0_0, .slice A0_1 l0_1.length c0_1] 29 (0, 0)) (bk_ BK227) hb)) (And.intro (Aside0.mk (blk_below (g := gb228) (o := .cells #[.int .i64 a1_0, .slice A1_1 l1_1.length c1_1] 29 (0, 0)) (bk_ BK228) hb)) (And.intro (Aside0.mk (blk_below (g := gb229) (o := .cells #[.slice A2 l2.length c2] 25 (0, 0)) (bk_ BK229) hb)) (And.intro (Aside0.mk (blk_below (g := gb230) (o := .cells #[.bool a3] 4 (0, 0)) (bk_ BK230) hb)) (Aside0.mk (below_step bg_ hb))))); clear BK227 BK228 BK229 BK230 HB; obtain ⟨BK227, BK228, BK229, BK230, HB⟩ := n_; (try clear hb); (try clear hb2); (try clear hk); (try clear hi)))
   go_ret
   exact ⟨by first | rfl | (simp [errW_none, errW_some] <;> rfl) | (simp [*, errW_none, errW_some] <;> rfl), by repeat (first | (with_reducible first | exact HB.out | apply below_alloc | apply pw_below_drewN | apply below_drew1 | refine below_set ?_ GE227.out | refine below_set ?_ GE228.out | refine below_set ?_ GE229.out | refine below_set ?_ GE230.out) | exact HB.out)⟩
 ·rw [if_neg c5] at H
  have c5b0 : ((l2.length : Int) == a0_0) = false := beq_eq_false_iff_ne.mpr c5
  have c5b1 : ((l2.length : Int) != a0_0) = true := bne_iff_ne.mpr c5
  obtain rfl := Option.some.inj H
  go_enter Try.func61, Try.ntmps61
  go_wp2_with (first | ((with_reducible refine gate_dst (N := 4) rfl ?_); refine box_event ?hg (N := 4) ?hd (cs := #[.int .i64 a0_0, .slice A0_1 l0_1.length c0_1]) (t := 29) ?hr ?_; (case hd => rfl); (case hg => rfl); (case hr => first | (go_simp; done) | (go_simp; rfl)); intro gb227 hg w32 hbox hb; have n_ := And.intro (Aside0.mk (below_step bl_ hb)) (And.intro (Aside0.mk (hbox)) (And.intro (Aside0.mk ((by rw [hg]; exact (below_size bl_) : w.heap.size ≤ gb227))) (Aside0.mk ((by rw [hg]; exact (below_size bl_) : w.heap.size ≤ gb227))))); clear HB; obtain ⟨HB, BK227, GW227, GE227⟩ := n_; clear hb hbox hg) | ((with_reducible refine gate_dst (N := 5) rfl ?_); refine box_event ?hg (N := 5) ?hd (cs := #[.int .i64 a1_0, .slice A1_1 l1_1.length c1_1]) (t := 29) ?hr ?_; (case hd => rfl); (case hg => rfl); (case hr => first | (go_simp; done) | (go_simp; rfl)); intro gb228 hg w33 hbox hb; have n_ := And.intro (Aside0.mk (blk_below (g := gb227) (o := .cells #[.int .i64 a0_0, .slice A0_1 l0_1.length c0_1] 29 (0, 0)) (bk_ BK227) hb)) (And.intro (Aside0.mk (below_step bg_ hb)) (And.intro (Aside0.mk (hbox)) (And.intro (Aside0.mk ((by rw [hg]; exact (below_size bg_) : w.heap.size ≤ gb228))) (And.intro (Aside0.mk ((by rw [hg]; exact (below_size bg_) : w.heap.size ≤ gb228))) (And.intro (Aside0.mk ((by rw [hg]; exact Nat.ne_of_lt (blk_lt (g := gb227) (o := .cells #[.int .i64 a0_0, .slice A0_1 l0_1.length c0_1] 29 (0, 0)) (bk_ BK227)) : gb227 ≠ gb228))) (Aside0.mk ((by rw [hg]; exact Nat.ne_of_gt (blk_lt (g := gb227) (o := .cells #[.int .i64 a0_0, .slice A0_1 l0_1.length c0_1] 29 (0, 0)) (bk_ BK227)) : gb228 ≠ gb227)))))))); clear BK227 HB; obtain ⟨BK227, HB, BK228, GW228, GE228, NB227_228, NB228_227⟩ := n_; clear hb hbox hg) | ((with_reducible refine gate_dst (N := 6) rfl ?_); refine box_event ?hg (N := 6) ?hd (cs := #[.slice A2 l2.length c2]) (t := 25) ?hr ?_; (case hd => rfl); (case hg => rfl); (case hr => first | (go_simp; done) | (go_simp; rfl)); intro gb229 hg w34 hbox hb; have n_ := And.intro (Aside0.mk (blk_below (g := gb227) (o := .cells #[.int .i64 a0_0, .slice A0_1 l0_1.length c0_1] 29 (0, 0)) (bk_ BK227) hb)) (And.intro (Aside0.mk (blk_below (g := gb228) (o := .cells #[.int .i64 a1_0, .slice A1_1 l1_1.length c1_1] 29 (0, 0)) (bk_ BK228) hb)) (And.intro (Aside0.mk (below_step bg_ hb)) (And.intro (Aside0.mk (hbox)) (And.intro (Aside0.mk ((by rw [hg]; exact (below_size bg_) : w.heap.size ≤ gb229))) (And.intro (Aside0.mk ((by rw [hg]; exact (below_size bg_) : w.heap.size ≤ gb229))) (And.intro (Aside0.mk ((by rw [hg]; exact Nat.ne_of_lt (blk_lt (g := gb227) (o := .cells #[.int .i64 a0_0, .slice A0_1 l0_1.length c0_1] 29 (0, 0)) (bk_ BK227)) : gb227 ≠ gb229))) (And.intro (Aside0.mk ((by rw [hg]; exact Nat.ne_of_gt (blk_lt (g := gb227) (o := .cells #[.int .i64 a0_0, .slice A0_1 l0_1.length c0_1] 29 (0, 0)) (bk_ BK227)) : gb229 ≠ gb227))) (And.intro (Aside0.mk ((by rw [hg]; exact Nat.ne_of_lt (blk_lt (g := gb228) (o := .cells #[.int .i64 a1_0, .slice A1_1 l1_1.length c1_1] 29 (0, 0)) (bk_ BK228)) : gb228 ≠ gb229))) (Aside0.mk ((by rw [hg]; exact Nat.ne_of_gt (blk_lt (g := gb228) (o := .cells #[.int .i64 a1_0, .slice A1_1 l1_1.length c1_1] 29 (0, 0)) (bk_ BK228)) : gb229 ≠ gb228))))))))))); clear BK227 BK228 HB; obtain ⟨BK227, BK228, HB, BK229, GW229, GE229, NB227_229, NB229_227, NB228_229, NB229_228⟩ := n_; clear hb hbox hg) | ((with_reducible refine gate_dst (N := 7) rfl ?_); refine box_event ?hg (N := 7) ?hd (cs := #[.bool a3]) (t := 4) ?hr ?_; (case hd => rfl); (case hg => rfl); (case hr => first | (go_simp; done) | (go_simp; rfl)); intro gb230 hg w35 hbox hb; have n_ := And.intro (Aside0.mk (blk_below (g := gb227) (o := .cells #[.int .i64 a0_0, .slice A0_1 l0_1.length c0_1] 29 (0, 0)) (bk_ BK227) hb)) (And.intro (Aside0.mk (blk_below (g := gb228) (o := .cells #[.int .i64 a1_0, .slice A1_1 l1_1.length c1_1] 29 (0, 0)) (bk_ BK228) hb)) (And.intro (Aside0.mk (blk_below (g := gb229) (o := .cells #[.slice A2 l2.length c2] 25 (0, 0)) (bk_ BK229) hb)) (And.intro (Aside0.mk (below_step bg_ hb)) (And.intro (Aside0.mk (hbox)) (And.intro (Aside0.mk ((by rw [hg]; exact (below_size bg_) : w.heap.size ≤ gb230))) (And.intro (Aside0.mk ((by rw [hg]; exact (below_size bg_) : w.heap.size ≤ gb230))) (And.intro (Aside0.mk ((by rw [hg]; exact Nat.ne_of_lt (blk_lt (g := gb227) (o := .cells #[.int .i64 a0_0, .slice A0_1 l0_1.length c0_1] 29 (0, 0)) (bk_ BK227)) : gb227 ≠ gb230))) (And.intro (Aside0.mk ((by rw [hg]; exact Nat.ne_of_gt (blk_lt (g := gb227) (o := .cells #[.int .i64 a0_0, .slice A0_1 l0_1.length c0_1] 29 (0, 0)) (bk_ BK227)) : gb230 ≠ gb227))) (And.intro (Aside0.mk ((by rw [hg]; exact Nat.ne_of_lt (blk_lt (g := gb228) (o := .cells #[.int .i64 a1_0, .slice A1_1 l1_1.length c1_1] 29 (0, 0)) (bk_ BK228)) : gb228 ≠ gb230))) (And.intro (Aside0.mk ((by rw [hg]; exact Nat.ne_of_gt (blk_lt (g := gb228) (o := .cells #[.int .i64 a1_0, .slice A1_1 l1_1.length c1_1] 29 (0, 0)) (bk_ BK228)) : gb230 ≠ gb228))) (And.intro (Aside0.mk ((by rw [hg]; exact Nat.ne_of_lt (blk_lt (g := gb229) (o := .cells #[.slice A2 l2.length c2] 25 (0, 0)) (bk_ BK229)) : gb229 ≠ gb230))) (Aside0.mk ((by rw [hg]; exact Nat.ne_of_gt (blk_lt (g := gb229) (o := .cells #[.slice A2 l2.length c2] 25 (0, 0)) (bk_ BK229)) : gb230 ≠ gb229)))))))))))))); clear BK227 BK228 BK229 HB; obtain ⟨BK227, BK228, BK229, HB, BK230, GW230, GE230, NB227_230, NB230_227, NB228_230, NB230_228, NB229_230, NB230_229⟩ := n_; clear hb hbox hg; have hnb36 := NB229_227.out; have hnc36 := NB227_229.out; have hnb37 := NB229_228.out; have hnc37 := NB228_229.out; have hnb38 := NB229_230.out; have hnc38 := NB230_229.out; have hcz39_0 : w35.cell? ⟨gb229, 0, none⟩ = some (.slice A2 l2.length c2) := (blk_cell BK229.out 0).trans rfl; have hfz39_0 := blk_frozen BK229.out 0; have hnb40 := NB227_228.out; have hnc40 := NB228_227.out; have hnb41 := NB227_230.out; have hnc41 := NB230_227.out; have hcz42_0 : w35.cell? ⟨gb227, 0, none⟩ = some (.int .i64 a0_0) := (blk_cell BK227.out 0).trans rfl; have hcz42_1 : w35.cell? ⟨gb227, 1, none⟩ = some (.slice A0_1 l0_1.length c0_1) := (blk_cell BK227.out 1).trans rfl; have hfz42_0 := blk_frozen BK227.out 0; have hfz42_1 := blk_frozen BK227.out 1))
  go_ret
  exact ⟨by first | rfl | (simp [errW_none, errW_some] <;> rfl) | (simp [*, errW_none, errW_some] <;> rfl), by repeat (first | (with_reducible first | exact HB.out | apply below_alloc | apply pw_below_drewN | apply below_drew1 | refine below_set ?_ GE227.out | refine below_set ?_ GE228.out | refine below_set ?_ GE229.out | refine below_set ?_ GE230.out) | exact HB.out)⟩

/-! ### impl_AfterMap: function 25 -/
mutual
def impl_AfterMap.j0 : Nat → List Int → List Int → Bool → Option (List Int × Bool)
 | 0, _, _, _ => none
 | k + 1, x3, x4, x42 => if x42 = true then (some (([] : List Int), false)) else (impl_AfterMap.l0 k x4 (([] : List Int)) x3 (x3.length : Int) 0)
def impl_AfterMap.l0 : Nat → List Int → List Int → List Int → Int → Int → Option (List Int × Bool)
 | 0, _, _, _, _, _ => none
 | k + 1, x4, x14, x44, x45, x46 => if x46 < x45 then (if 0 ≤ x46 then (if x46 < (x44.length : Int) then (if 0 ≤ (rd x44 x46) then (if (rd x44 x46) < (x4.length : Int) then (if x14.length < 17592186044416 then (impl_AfterMap.l0 k x4 (x14 ++ [rd x4 (rd x44 x46)]) x44 x45 (wrap64 (x46 + 1))) else (none)) else (none)) else (none)) else (none)) else (none)) else (some (x14, true))
end
def impl_AfterMap.f (k : Nat) (a0_0 : Int) (l0_1 : List (S78)) (a1_0 : Int) (l1_1 : List (S78)) (a2_0 : Int) (l2_1 : List (S78)) (l3 : List Int) (l4 : List Int) (a5 : Bool) : Option (List Int × Bool) := (impl_isMapCase.f k a0_0 l0_1 a1_0 l1_1).bind fun t236 => (if t236 = true then ((impl_isMapCase.f k a1_0 l1_1 a2_0 l2_1).bind fun t237 => (if t237 = true then ((impl_isMap.f k a0_0 l0_1 a1_0 l1_1 l3 a5).bind fun t238 => (if t238 = true then ((impl_isMap.f k a1_0 l1_1 a2_0 l2_1 l4 a5).bind fun t239 => (impl_AfterMap.j0 k l3 l4 (!t239))) else (impl_AfterMap.j0 k l3 l4 true))) else (impl_AfterMap.j0 k l3 l4 true))) else (impl_AfterMap.j0 k l3 l4 true))
set_option maxHeartbeats 8000000 in
set_option maxRecDepth 100000 in
theorem impl_AfterMap.calls (k : Nat) (a0_0 : Int) (A0_1 : Option Addr) (c0_1 : Nat) (l0_1 : List (S78)) (a1_0 : Int) (A1_1 : Option Addr) (c1_1 : Nat) (l1_1 : List (S78)) (a2_0 : Int) (A2_1 : Option Addr) (c2_1 : Nat) (l2_1 : List (S78)) (A3 : Option Addr) (c3 : Nat) (l3 : List Int) (A4 : Option Addr) (c4 : Nat) (l4 : List Int) (a5 : Bool) (r1 : List Int) (r2 : Bool) (w : World) (hr0_1 : Kd.C k78 w A0_1 l0_1.length l0_1) (hc0_1 : l0_1.length ≤ c0_1) (hr1_1 : Kd.C k78 w A1_1 l1_1.length l1_1) (hc1_1 : l1_1.length ≤ c1_1) (hr2_1 : Kd.C k78 w A2_1 l2_1.length l2_1) (hc2_1 : l2_1.length ≤ c2_1) (hr3 : Kd.C (Kd.int .i64) w A3 l3.length l3) (hc3 : l3.length ≤ c3) (hr4 : Kd.C (Kd.int .i64) w A4 l4.length l4) (hc4 : l4.length ≤ c4) (h : impl_AfterMap.f k a0_0 l0_1 a1_0 l1_1 a2_0 l2_1 l3 l4 a5 = some (r1, r2)) :
  Calls Try.prog 25 #[.agg #[.int .i64 a0_0, .slice A0_1 l0_1.length c0_1], .agg #[.int .i64 a1_0, .slice A1_1 l1_1.length c1_1], .agg #[.int .i64 a2_0, .slice A2_1 l2_1.length c2_1], .slice A3 l3.length c3, .slice A4 l4.length c4, .bool a5] w fun e w' => ∃ v0_ : Value, e = .returned (.tuple #[v0_, .bool r2]) ∧ Kd.R (Kd.int .i64) 3 w' w.heap.size (fun _ => True) v0_ r1 ∧ Below w.heap.size w w' := by
 have hu29 := Try.underlying29
 have HR0_1 := Aside0.mk hr0_1
 have HC0_1 := Aside0.mk hc0_1
 clear hr0_1 hc0_1
 have HR1_1 := Aside0.mk hr1_1
 have HC1_1 := Aside0.mk hc1_1
 clear hr1_1 hc1_1
 have HR2_1 := Aside0.mk hr2_1
 have HC2_1 := Aside0.mk hc2_1
 clear hr2_1 hc2_1
 have HR3 := Aside0.mk hr3
 have HC3 := Aside0.mk hc3
 clear hr3 hc3
 have HR4 := Aside0.mk hr4
 have HC4 := Aside0.mk hc4
 clear hr4 hc4
 have HB := Aside0.mk (Below.refl w.heap.size w)
 have H : ((impl_isMapCase.f k a0_0 l0_1 a1_0 l1_1).bind fun t236 => (if t236 = true then ((impl_isMapCase.f k a1_0 l1_1 a2_0 l2_1).bind fun t237 => (if t237 = true then ((impl_isMap.f k a0_0 l0_1 a1_0 l1_1 l3 a5).bind fun t238 => (if t238 = true then ((impl_isMap.f k a1_0 l1_1 a2_0 l2_1 l4 a5).bind fun t239 => (impl_AfterMap.j0 k l3 l4 (!t239))) else (impl_AfterMap.j0 k l3 l4 true))) else (impl_AfterMap.j0 k l3 l4 true))) else (impl_AfterMap.j0 k l3 l4 true))) = some (r1, r2) := h
 clear h
 have HC7 := Aside0.mk H
 clear H
 go_enter Try.func25, Try.ntmps25
 go_upto_region 1 with (first | ((with_reducible refine gate_dst (N := 6) rfl ?_); refine box_event ?hg (N := 6) ?hd (cs := #[.int .i64 a0_0, .slice A0_1 l0_1.length c0_1]) (t := 29) ?hr ?_; (case hd => rfl); (case hg => rfl); (case hr => first | (go_simp; done) | (go_simp; rfl)); intro gb233 hg w8 hbox hb; have n_ := And.intro (Aside0.mk (below_step bl_ hb)) (And.intro (Aside0.mk (hbox)) (And.intro (Aside0.mk ((by rw [hg]; exact (below_size bl_) : w.heap.size ≤ gb233))) (Aside0.mk ((by rw [hg]; exact (below_size bl_) : w.heap.size ≤ gb233))))); clear HB; obtain ⟨HB, BK233, GW233, GE233⟩ := n_; clear hb hbox hg) | ((with_reducible refine gate_dst (N := 7) rfl ?_); refine box_event ?hg (N := 7) ?hd (cs := #[.int .i64 a1_0, .slice A1_1 l1_1.length c1_1]) (t := 29) ?hr ?_; (case hd => rfl); (case hg => rfl); (case hr => first | (go_simp; done) | (go_simp; rfl)); intro gb234 hg w9 hbox hb; have n_ := And.intro (Aside0.mk (blk_below (g := gb233) (o := .cells #[.int .i64 a0_0, .slice A0_1 l0_1.length c0_1] 29 (0, 0)) (bk_ BK233) hb)) (And.intro (Aside0.mk (below_step bg_ hb)) (And.intro (Aside0.mk (hbox)) (And.intro (Aside0.mk ((by rw [hg]; exact (below_size bg_) : w.heap.size ≤ gb234))) (And.intro (Aside0.mk ((by rw [hg]; exact (below_size bg_) : w.heap.size ≤ gb234))) (And.intro (Aside0.mk ((by rw [hg]; exact Nat.ne_of_lt (blk_lt (g := gb233) (o := .cells #[.int .i64 a0_0, .slice A0_1 l0_1.length c0_1] 29 (0, 0)) (bk_ BK233)) : gb233 ≠ gb234))) (Aside0.mk ((by rw [hg]; exact Nat.ne_of_gt (blk_lt (g := gb233) (o := .cells #[.int .i64 a0_0, .slice A0_1 l0_1.length c0_1] 29 (0, 0)) (bk_ BK233)) : gb234 ≠ gb233)))))))); clear BK233 HB; obtain ⟨BK233, HB, BK234, GW234, GE234, NB233_234, NB234_233⟩ := n_; clear hb hbox hg) | ((with_reducible refine gate_dst (N := 8) rfl ?_); refine box_event ?hg (N := 8) ?hd (cs := #[.int .i64 a2_0, .slice A2_1 l2_1.length c2_1]) (t := 29) ?hr ?_; (case hd => rfl); (case hg => rfl); (case hr => first | (go_simp; done) | (go_simp; rfl)); intro gb235 hg w10 hbox hb; have n_ := And.intro (Aside0.mk (blk_below (g := gb233) (o := .cells #[.int .i64 a0_0, .slice A0_1 l0_1.length c0_1] 29 (0, 0)) (bk_ BK233) hb)) (And.intro (Aside0.mk (blk_below (g := gb234) (o := .cells #[.int .i64 a1_0, .slice A1_1 l1_1.length c1_1] 29 (0, 0)) (bk_ BK234) hb)) (And.intro (Aside0.mk (below_step bg_ hb)) (And.intro (Aside0.mk (hbox)) (And.intro (Aside0.mk ((by rw [hg]; exact (below_size bg_) : w.heap.size ≤ gb235))) (And.intro (Aside0.mk ((by rw [hg]; exact (below_size bg_) : w.heap.size ≤ gb235))) (And.intro (Aside0.mk ((by rw [hg]; exact Nat.ne_of_lt (blk_lt (g := gb233) (o := .cells #[.int .i64 a0_0, .slice A0_1 l0_1.length c0_1] 29 (0, 0)) (bk_ BK233)) : gb233 ≠ gb235))) (And.intro (Aside0.mk ((by rw [hg]; exact Nat.ne_of_gt (blk_lt (g := gb233) (o := .cells #[.int .i64 a0_0, .slice A0_1 l0_1.length c0_1] 29 (0, 0)) (bk_ BK233)) : gb235 ≠ gb233))) (And.intro (Aside0.mk ((by rw [hg]; exact Nat.ne_of_lt (blk_lt (g := gb234) (o := .cells #[.int .i64 a1_0, .slice A1_1 l1_1.length c1_1] 29 (0, 0)) (bk_ BK234)) : gb234 ≠ gb235))) (Aside0.mk ((by rw [hg]; exact Nat.ne_of_gt (blk_lt (g := gb234) (o := .cells #[.int .i64 a1_0, .slice A1_1 l1_1.length c1_1] 29 (0, 0)) (bk_ BK234)) : gb235 ≠ gb234))))))))))); clear BK233 BK234 HB; obtain ⟨BK233, BK234, HB, BK235, GW235, GE235, NB233_235, NB235_233, NB234_235, NB235_234⟩ := n_; clear hb hbox hg))
 (try simp only [Act.put, List.setIfInBounds_toArray, List.set_cons_zero, List.set_cons_succ])
 go_cut [42] (fun v42 wc => ∃ (kq : Nat) (x42_6 : Bool), v42 = .bool x42_6 ∧ Aside0 (impl_AfterMap.j0 kq l3 l4 x42_6 = some (r1, r2)) ∧ Aside0 (kq ≤ k) ∧ Aside0 (wc.heap[gb233]? = some (.cells #[.int .i64 a0_0, (.slice A0_1 l0_1.length c0_1)] 29 (0, 0))) ∧ Aside0 (wc.heap[gb234]? = some (.cells #[.int .i64 a1_0, (.slice A1_1 l1_1.length c1_1)] 29 (0, 0))) ∧ Aside0 (wc.heap[gb235]? = some (.cells #[.int .i64 a2_0, (.slice A2_1 l2_1.length c2_1)] 29 (0, 0))) ∧ Aside0 (Below w.heap.size w wc))
 case first =>
  have H := HC7.out
  clear HC7
  replace H := Option.bind_eq_some_iff.mp H
  obtain ⟨t236, A110, H⟩ := H
  (try dsimp only at H)
  have A11 := Aside0.mk A110
  clear A110
  by_cases c12 : t236 = true
  ·subst c12
   have H1 : ((impl_isMapCase.f k a1_0 l1_1 a2_0 l2_1).bind fun t237 => (if t237 = true then ((impl_isMap.f k a0_0 l0_1 a1_0 l1_1 l3 a5).bind fun t238 => (if t238 = true then ((impl_isMap.f k a1_0 l1_1 a2_0 l2_1 l4 a5).bind fun t239 => (impl_AfterMap.j0 k l3 l4 (!t239))) else (impl_AfterMap.j0 k l3 l4 true))) else (impl_AfterMap.j0 k l3 l4 true))) = some (r1, r2) := by rw [if_pos rfl] at H; exact H
   clear H
   have H := H1
   clear H1
   replace H := Option.bind_eq_some_iff.mp H
   obtain ⟨t237, A130, H⟩ := H
   (try dsimp only at H)
   have A13 := Aside0.mk A130
   clear A130
   by_cases c14 : t237 = true
   ·subst c14
    have H1 : ((impl_isMap.f k a0_0 l0_1 a1_0 l1_1 l3 a5).bind fun t238 => (if t238 = true then ((impl_isMap.f k a1_0 l1_1 a2_0 l2_1 l4 a5).bind fun t239 => (impl_AfterMap.j0 k l3 l4 (!t239))) else (impl_AfterMap.j0 k l3 l4 true))) = some (r1, r2) := by rw [if_pos rfl] at H; exact H
    clear H
    have H := H1
    clear H1
    replace H := Option.bind_eq_some_iff.mp H
    obtain ⟨t238, A150, H⟩ := H
    (try dsimp only at H)
    have A15 := Aside0.mk A150
    clear A150
    by_cases c16 : t238 = true
    ·subst c16
     have H1 : ((impl_isMap.f k a1_0 l1_1 a2_0 l2_1 l4 a5).bind fun t239 => (impl_AfterMap.j0 k l3 l4 (!t239))) = some (r1, r2) := by rw [if_pos rfl] at H; exact H
     clear H
     have H := H1
     clear H1
     replace H := Option.bind_eq_some_iff.mp H
     obtain ⟨t239, A170, H⟩ := H
     (try dsimp only at H)
     have A17 := Aside0.mk A170
     clear A170
     have H' := Aside0.mk H
     clear H
     have hnb18 := NB233_234.out
     have hnc18 := NB234_233.out
     have hnb19 := NB233_235.out
     have hnc19 := NB235_233.out
     have hcz20_0 : w10.cell? ⟨gb233, 0, none⟩ = some (.int .i64 a0_0) := (blk_cell BK233.out 0).trans rfl
     have hcz20_1 : w10.cell? ⟨gb233, 1, none⟩ = some (.slice A0_1 l0_1.length c0_1) := (blk_cell BK233.out 1).trans rfl
     have hfz20_0 := blk_frozen BK233.out 0
     have hfz20_1 := blk_frozen BK233.out 1
     have hnb21 := NB234_235.out
     have hnc21 := NB235_234.out
     have hcz22_0 : w10.cell? ⟨gb234, 0, none⟩ = some (.int .i64 a1_0) := (blk_cell BK234.out 0).trans rfl
     have hcz22_1 : w10.cell? ⟨gb234, 1, none⟩ = some (.slice A1_1 l1_1.length c1_1) := (blk_cell BK234.out 1).trans rfl
     have hfz22_0 := blk_frozen BK234.out 0
     have hfz22_1 := blk_frozen BK234.out 1
     go_wp2_with (first | ((with_reducible refine gate_callee (f := 60) rfl ?_); refine gL_ (some 19) Try.func60 #[.agg #[.int .i64 a0_0, .slice A0_1 l0_1.length c0_1], .agg #[.int .i64 a1_0, .slice A1_1 l1_1.length c1_1]] ?_ rfl rfl; (with_reducible refine (impl_isMapCase.calls k a0_0 _ _ l0_1 a1_0 _ _ l1_1 true _ ?side1 ?side2 ?side3 ?side4 A11.out).mono ?_); (case side1 => exact cb_ HR0_1); (case side2 => exact HC0_1.out); (case side3 => exact cb_ HR1_1); (case side4 => exact HC1_1.out); rintro e w23 ⟨rfl, hb⟩; refine ⟨_, rfl, ?_⟩; have n_ := And.intro (Aside0.mk (blk_below (g := gb233) (o := .cells #[.int .i64 a0_0, .slice A0_1 l0_1.length c0_1] 29 (0, 0)) (bk_ BK233) hb)) (And.intro (Aside0.mk (blk_below (g := gb234) (o := .cells #[.int .i64 a1_0, .slice A1_1 l1_1.length c1_1] 29 (0, 0)) (bk_ BK234) hb)) (And.intro (Aside0.mk (blk_below (g := gb235) (o := .cells #[.int .i64 a2_0, .slice A2_1 l2_1.length c2_1] 29 (0, 0)) (bk_ BK235) hb)) (Aside0.mk (below_step bg_ hb)))); clear BK233 BK234 BK235 HB; obtain ⟨BK233, BK234, BK235, HB⟩ := n_; (try clear hb); (try clear hb2); (try clear hk); (try clear hi); have hcz24_0 : w23.cell? ⟨gb234, 0, none⟩ = some (.int .i64 a1_0) := (blk_cell BK234.out 0).trans rfl; have hcz24_1 : w23.cell? ⟨gb234, 1, none⟩ = some (.slice A1_1 l1_1.length c1_1) := (blk_cell BK234.out 1).trans rfl; have hfz24_0 := blk_frozen BK234.out 0; have hfz24_1 := blk_frozen BK234.out 1; have hcz25_0 : w23.cell? ⟨gb235, 0, none⟩ = some (.int .i64 a2_0) := (blk_cell BK235.out 0).trans rfl; have hcz25_1 : w23.cell? ⟨gb235, 1, none⟩ = some (.slice A2_1 l2_1.length c2_1) := (blk_cell BK235.out 1).trans rfl; have hfz25_0 := blk_frozen BK235.out 0; have hfz25_1 := blk_frozen BK235.out 1) | (go_at_call 60; (with_reducible refine (impl_isMapCase.calls k a1_0 _ _ l1_1 a2_0 _ _ l2_1 true _ ?side1 ?side2 ?side3 ?side4 A13.out).mono ?_); (case side1 => exact cb_ HR1_1); (case side2 => exact HC1_1.out); (case side3 => exact cb_ HR2_1); (case side4 => exact HC2_1.out); rintro e w26 ⟨rfl, hb⟩; have n_ := And.intro (Aside0.mk (blk_below (g := gb233) (o := .cells #[.int .i64 a0_0, .slice A0_1 l0_1.length c0_1] 29 (0, 0)) (bk_ BK233) hb)) (And.intro (Aside0.mk (blk_below (g := gb234) (o := .cells #[.int .i64 a1_0, .slice A1_1 l1_1.length c1_1] 29 (0, 0)) (bk_ BK234) hb)) (And.intro (Aside0.mk (blk_below (g := gb235) (o := .cells #[.int .i64 a2_0, .slice A2_1 l2_1.length c2_1] 29 (0, 0)) (bk_ BK235) hb)) (Aside0.mk (below_step bg_ hb)))); clear BK233 BK234 BK235 HB; obtain ⟨BK233, BK234, BK235, HB⟩ := n_; (try clear hb); (try clear hb2); (try clear hk); (try clear hi); have hcz27_0 : w26.cell? ⟨gb233, 0, none⟩ = some (.int .i64 a0_0) := (blk_cell BK233.out 0).trans rfl; have hcz27_1 : w26.cell? ⟨gb233, 1, none⟩ = some (.slice A0_1 l0_1.length c0_1) := (blk_cell BK233.out 1).trans rfl; have hfz27_0 := blk_frozen BK233.out 0; have hfz27_1 := blk_frozen BK233.out 1; have hcz28_0 : w26.cell? ⟨gb234, 0, none⟩ = some (.int .i64 a1_0) := (blk_cell BK234.out 0).trans rfl; have hcz28_1 : w26.cell? ⟨gb234, 1, none⟩ = some (.slice A1_1 l1_1.length c1_1) := (blk_cell BK234.out 1).trans rfl; have hfz28_0 := blk_frozen BK234.out 0; have hfz28_1 := blk_frozen BK234.out 1) | (go_at_call 61; (with_reducible refine (impl_isMap.calls k a0_0 _ _ l0_1 a1_0 _ _ l1_1 _ _ l3 a5 true _ ?side1 ?side2 ?side3 ?side4 ?side5 ?side6 A15.out).mono ?_); (case side1 => exact cb_ HR0_1); (case side2 => exact HC0_1.out); (case side3 => exact cb_ HR1_1); (case side4 => exact HC1_1.out); (case side5 => exact cb_ HR3); (case side6 => exact HC3.out); rintro e w29 ⟨rfl, hb⟩; have n_ := And.intro (Aside0.mk (blk_below (g := gb233) (o := .cells #[.int .i64 a0_0, .slice A0_1 l0_1.length c0_1] 29 (0, 0)) (bk_ BK233) hb)) (And.intro (Aside0.mk (blk_below (g := gb234) (o := .cells #[.int .i64 a1_0, .slice A1_1 l1_1.length c1_1] 29 (0, 0)) (bk_ BK234) hb)) (And.intro (Aside0.mk (blk_below (g := gb235) (o := .cells #[.int .i64 a2_0, .slice A2_1 l2_1.length c2_1] 29 (0, 0)) (bk_ BK235) hb)) (Aside0.mk (below_step bg_ hb)))); clear BK233 BK234 BK235 HB; obtain ⟨BK233, BK234, BK235, HB⟩ := n_; (try clear hb); (try clear hb2); (try clear hk); (try clear hi); have hcz30_0 : w29.cell? ⟨gb234, 0, none⟩ = some (.int .i64 a1_0) := (blk_cell BK234.out 0).trans rfl; have hcz30_1 : w29.cell? ⟨gb234, 1, none⟩ = some (.slice A1_1 l1_1.length c1_1) := (blk_cell BK234.out 1).trans rfl; have hfz30_0 := blk_frozen BK234.out 0; have hfz30_1 := blk_frozen BK234.out 1; have hcz31_0 : w29.cell? ⟨gb235, 0, none⟩ = some (.int .i64 a2_0) := (blk_cell BK235.out 0).trans rfl; have hcz31_1 : w29.cell? ⟨gb235, 1, none⟩ = some (.slice A2_1 l2_1.length c2_1) := (blk_cell BK235.out 1).trans rfl; have hfz31_0 := blk_frozen BK235.out 0; have hfz31_1 := blk_frozen BK235.out 1) | (go_at_call 61; (with_reducible refine (impl_isMap.calls k a1_0 _ _ l1_1 a2_0 _ _ l2_1 _ _ l4 a5 t239 _ ?side1 ?side2 ?side3 ?side4 ?side5 ?side6 A17.out).mono ?_); (case side1 => exact cb_ HR1_1); (case side2 => exact HC1_1.out); (case side3 => exact cb_ HR2_1); (case side4 => exact HC2_1.out); (case side5 => exact cb_ HR4); (case side6 => exact HC4.out); rintro e w32 ⟨rfl, hb⟩; have n_ := And.intro (Aside0.mk (blk_below (g := gb233) (o := .cells #[.int .i64 a0_0, .slice A0_1 l0_1.length c0_1] 29 (0, 0)) (bk_ BK233) hb)) (And.intro (Aside0.mk (blk_below (g := gb234) (o := .cells #[.int .i64 a1_0, .slice A1_1 l1_1.length c1_1] 29 (0, 0)) (bk_ BK234) hb)) (And.intro (Aside0.mk (blk_below (g := gb235) (o := .cells #[.int .i64 a2_0, .slice A2_1 l2_1.length c2_1] 29 (0, 0)) (bk_ BK235) hb)) (Aside0.mk (below_step bg_ hb)))); clear BK233 BK234 BK235 HB; obtain ⟨BK233, BK234, BK235, HB⟩ := n_; (try clear hb); (try clear hb2); (try clear hk); (try clear hi)))
     go_meet
     case rel => exact ⟨_, (!t239), (by first | rfl | (simp; done) | (simp [*]; done)), H', ⟨by first | omega | exact Nat.le_refl _⟩, ⟨by (with_reducible repeat (first | refine blk_drewN ?_ _ | refine blk_drew ?_ | refine blk_alloc ?_ _)); exact BK233.out⟩, ⟨by (with_reducible repeat (first | refine blk_drewN ?_ _ | refine blk_drew ?_ | refine blk_alloc ?_ _)); exact BK234.out⟩, ⟨by (with_reducible repeat (first | refine blk_drewN ?_ _ | refine blk_drew ?_ | refine blk_alloc ?_ _)); exact BK235.out⟩, ⟨by repeat (first | (with_reducible first | exact HB.out | apply below_alloc | apply pw_below_drewN | apply below_drew1 | refine below_set ?_ GE233.out | refine below_set ?_ GE234.out | refine below_set ?_ GE235.out) | exact HB.out)⟩⟩
    ·replace c16 := Bool.eq_false_iff.mpr c16
     subst c16
     have H1 : (impl_AfterMap.j0 k l3 l4 true) = some (r1, r2) := by rw [if_neg (show ¬ (false = true) by decide)] at H; exact H
     clear H
     have H := H1
     clear H1
     have H' := Aside0.mk H
     clear H
     have hnb33 := NB233_234.out
     have hnc33 := NB234_233.out
     have hnb34 := NB233_235.out
     have hnc34 := NB235_233.out
     have hcz35_0 : w10.cell? ⟨gb233, 0, none⟩ = some (.int .i64 a0_0) := (blk_cell BK233.out 0).trans rfl
     have hcz35_1 : w10.cell? ⟨gb233, 1, none⟩ = some (.slice A0_1 l0_1.length c0_1) := (blk_cell BK233.out 1).trans rfl
     have hfz35_0 := blk_frozen BK233.out 0
     have hfz35_1 := blk_frozen BK233.out 1
     have hnb36 := NB234_235.out
     have hnc36 := NB235_234.out
     have hcz37_0 : w10.cell? ⟨gb234, 0, none⟩ = some (.int .i64 a1_0) := (blk_cell BK234.out 0).trans rfl
     have hcz37_1 : w10.cell? ⟨gb234, 1, none⟩ = some (.slice A1_1 l1_1.length c1_1) := (blk_cell BK234.out 1).trans rfl
     have hfz37_0 := blk_frozen BK234.out 0
     have hfz37_1 := blk_frozen BK234.out 1
     go_wp2_with (first | ((with_reducible refine gate_callee (f := 60) rfl ?_); refine gL_ (some 19) Try.func60 #[.agg #[.int .i64 a0_0, .slice A0_1 l0_1.length c0_1], .agg #[.int .i64 a1_0, .slice A1_1 l1_1.length c1_1]] ?_ rfl rfl; (with_reducible refine (impl_isMapCase.calls k a0_0 _ _ l0_1 a1_0 _ _ l1_1 true _ ?side1 ?side2 ?side3 ?side4 A11.out).mono ?_); (case side1 => exact cb_ HR0_1); (case side2 => exact HC0_1.out); (case side3 => exact cb_ HR1_1); (case side4 => exact HC1_1.out); rintro e w38 ⟨rfl, hb⟩; refine ⟨_, rfl, ?_⟩; have n_ := And.intro (Aside0.mk (blk_below (g := gb233) (o := .cells #[.int .i64 a0_0, .slice A0_1 l0_1.length c0_1] 29 (0, 0)) (bk_ BK233) hb)) (And.intro (Aside0.mk (blk_below (g := gb234) (o := .cells #[.int .i64 a1_0, .slice A1_1 l1_1.length c1_1] 29 (0, 0)) (bk_ BK234) hb)) (And.intro (Aside0.mk (blk_below (g := gb235) (o := .cells #[.int .i64 a2_0, .slice A2_1 l2_1.length c2_1] 29 (0, 0)) (bk_ BK235) hb)) (Aside0.mk (below_step bg_ hb)))); clear BK233 BK234 BK235 HB; obtain ⟨BK233, BK234, BK235, HB⟩ := n_; (try clear hb); (try clear hb2); (try clear hk); (try clear hi); have hcz39_0 : w38.cell? ⟨gb234, 0, none⟩ = some (.int .i64 a1_0) := (blk_cell BK234.out 0).trans rfl; have hcz39_1 : w38.cell? ⟨gb234, 1, none⟩ = some (.slice A1_1 l1_1.length c1_1) := (blk_cell BK234.out 1).trans rfl; have hfz39_0 := blk_frozen BK234.out 0; have hfz39_1 := blk_frozen BK234.out 1; have hcz40_0 : w38.cell? ⟨gb235, 0, none⟩ = some (.int .i64 a2_0) := (blk_cell BK235.out 0).trans rfl; have hcz40_1 : w38.cell? ⟨gb235, 1, none⟩ = some (.slice A2_1 l2_1.length c2_1) := (blk_cell BK235.out 1).trans rfl; have hfz40_0 := blk_frozen BK235.out 0; have hfz40_1 := blk_frozen BK235.out 1) | (go_at_call 60; (with_reducible refine (impl_isMapCase.calls k a1_0 _ _ l1_1 a2_0 _ _ l2_1 true _ ?side1 ?side2 ?side3 ?side4 A13.out).mono ?_); (case side1 => exact cb_ HR1_1); (case side2 => exact HC1_1.out); (case side3 => exact cb_ HR2_1); (case side4 => exact HC2_1.out); rintro e w41 ⟨rfl, hb⟩; have n_ := And.intro (Aside0.mk (blk_below (g := gb233) (o := .cells #[.int .i64 a0_0, .slice A0_1 l0_1.length c0_1] 29 (0, 0)) (bk_ BK233) hb)) (And.intro (Aside0.mk (blk_below (g := gb234) (o := .cells #[.int .i64 a1_0, .slice A1_1 l1_1.length c1_1] 29 (0, 0)) (bk_ BK234) hb)) (And.intro (Aside0.mk (blk_below (g := gb235) (o := .cells #[.int .i64 a2_0, .slice A2_1 l2_1.length c2_1] 29 (0, 0)) (bk_ BK235) hb)) (Aside0.mk (below_step bg_ hb)))); clear BK233 BK234 BK235 HB; obtain ⟨BK233, BK234, BK235, HB⟩ := n_; (try clear hb); (try clear hb2); (try clear hk); (try clear hi); have hcz42_0 : w41.cell? ⟨gb233, 0, none⟩ = some (.int .i64 a0_0) := (blk_cell BK233.out 0).trans rfl; have hcz42_1 : w41.cell? ⟨gb233, 1, none⟩ = some (.slice A0_1 l0_1.length c0_1) := (blk_cell BK233.out 1).trans rfl; have hfz42_0 := blk_frozen BK233.out 0; have hfz42_1 := blk_frozen BK233.out 1; have hcz43_0 : w41.cell? ⟨gb234, 0, none⟩ = some (.int .i64 a1_0) := (blk_cell BK234.out 0).trans rfl; have hcz43_1 : w41.cell? ⟨gb234, 1, none⟩ = some (.slice A1_1 l1_1.length c1_1) := (blk_cell BK234.out 1).trans rfl; have hfz43_0 := blk_frozen BK234.out 0; have hfz43_1 := blk_frozen BK234.out 1) | (go_at_call 61; (with_reducible refine (impl_isMap.calls k a0_0 _ _ l0_1 a1_0 _ _ l1_1 _ _ l3 a5 false _ ?side1 ?side2 ?side3 ?side4 ?side5 ?side6 A15.out).mono ?_); (case side1 => exact cb_ HR0_1); (case side2 => exact HC0_1.out); (case side3 => exact cb_ HR1_1); (case side4 => exact HC1_1.out); (case side5 => exact cb_ HR3); (case side6 => exact HC3.out); rintro e w44 ⟨rfl, hb⟩; have n_ := And.intro (Aside0.mk (blk_below (g := gb233) (o := .cells #[.int .i64 a0_0, .slice A0_1 l0_1.length c0_1] 29 (0, 0)) (bk_ BK233) hb)) (And.intro (Aside0.mk (blk_below (g := gb234) (o := .cells #[.int .i64 a1_0, .slice A1_1 l1_1.length c1_1] 29 (0, 0)) (bk_ BK234) hb)) (And.intro (Aside0.mk (blk_below (g := gb235) (o := .cells #[.int .i64 a2_0, .slice A2_1 l2_1.length c2_1] 29 (0, 0)) (bk_ BK235) hb)) (Aside0.mk (below_step bg_ hb)))); clear BK233 BK234 BK235 HB; obtain ⟨BK233, BK234, BK235, HB⟩ := n_; (try clear hb); (try clear hb2); (try clear hk); (try clear hi)))
     go_meet
     case rel => exact ⟨_, (true), (by first | rfl | (simp; done) | (simp [*]; done)), H', ⟨by first | omega | exact Nat.le_refl _⟩, ⟨by (with_reducible repeat (first | refine blk_drewN ?_ _ | refine blk_drew ?_ | refine blk_alloc ?_ _)); exact BK233.out⟩, ⟨by (with_reducible repeat (first | refine blk_drewN ?_ _ | refine blk_drew ?_ | refine blk_alloc ?_ _)); exact BK234.out⟩, ⟨by (with_reducible repeat (first | refine blk_drewN ?_ _ | refine blk_drew ?_ | refine blk_alloc ?_ _)); exact BK235.out⟩, ⟨by repeat (first | (with_reducible first | exact HB.out | apply below_alloc | apply pw_below_drewN | apply below_drew1 | refine below_set ?_ GE233.out | refine below_set ?_ GE234.out | refine below_set ?_ GE235.out) | exact HB.out)⟩⟩
   ·replace c14 := Bool.eq_false_iff.mpr c14
    subst c14
    have H1 : (impl_AfterMap.j0 k l3 l4 true) = some (r1, r2) := by rw [if_neg (show ¬ (false = true) by decide)] at H; exact H
    clear H
    have H := H1
    clear H1
    have H' := Aside0.mk H
    clear H
    have hnb45 := NB233_234.out
    have hnc45 := NB234_233.out
    have hnb46 := NB233_235.out
    have hnc46 := NB235_233.out
    have hcz47_0 : w10.cell? ⟨gb233, 0, none⟩ = some (.int .i64 a0_0) := (blk_cell BK233.out 0).trans rfl
    have hcz47_1 : w10.cell? ⟨gb233, 1, none⟩ = some (.slice A0_1 l0_1.length c0_1) := (blk_cell BK233.out 1).trans rfl
    have hfz47_0 := blk_frozen BK233.out 0
    have hfz47_1 := blk_frozen BK233.out 1
    have hnb48 := NB234_235.out
    have hnc48 := NB235_234.out
    have hcz49_0 : w10.cell? ⟨gb234, 0, none⟩ = some (.int .i64 a1_0) := (blk_cell BK234.out 0).trans rfl
    have hcz49_1 : w10.cell? ⟨gb234, 1, none⟩ = some (.slice A1_1 l1_1.length c1_1) := (blk_cell BK234.out 1).trans rfl
    have hfz49_0 := blk_frozen BK234.out 0
    have hfz49_1 := blk_frozen BK234.out 1
    go_wp2_with (first | ((with_reducible refine gate_callee (f := 60) rfl ?_); refine gL_ (some 19) Try.func60 #[.agg #[.int .i64 a0_0, .slice A0_1 l0_1.length c0_1], .agg #[.int .i64 a1_0, .slice A1_1 l1_1.length c1_1]] ?_ rfl rfl; (with_reducible refine (impl_isMapCase.calls k a0_0 _ _ l0_1 a1_0 _ _ l1_1 true _ ?side1 ?side2 ?side3 ?side4 A11.out).mono ?_); (case side1 => exact cb_ HR0_1); (case side2 => exact HC0_1.out); (case side3 => exact cb_ HR1_1); (case side4 => exact HC1_1.out); rintro e w50 ⟨rfl, hb⟩; refine ⟨_, rfl, ?_⟩; have n_ := And.intro (Aside0.mk (blk_below (g := gb233) (o := .cells #[.int .i64 a0_0, .slice A0_1 l0_1.length c0_1] 29 (0, 0)) (bk_ BK233) hb)) (And.intro (Aside0.mk (blk_below (g := gb234) (o := .cells #[.int .i64 a1_0, .slice A1_1 l1_1.length c1_1] 29 (0, 0)) (bk_ BK234) hb)) (And.intro (Aside0.mk (blk_below (g := gb235) (o := .cells #[.int .i64 a2_0, .slice A2_1 l2_1.length c2_1] 29 (0, 0)) (bk_ BK235) hb)) (Aside0.mk (below_step bg_ hb)))); clear BK233 BK234 BK235 HB; obtain ⟨BK233, BK234, BK235, HB⟩ := n_; (try clear hb); (try clear hb2); (try clear hk); (try clear hi); have hcz51_0 : w50.cell? ⟨gb234, 0, none⟩ = some (.int .i64 a1_0) := (blk_cell BK234.out 0).trans rfl; have hcz51_1 : w50.cell? ⟨gb234, 1, none⟩ = some (.slice A1_1 l1_1.length c1_1) := (blk_cell BK234.out 1).trans rfl; have hfz51_0 := blk_frozen BK234.out 0; have hfz51_1 := blk_frozen BK234.out 1; have hcz52_0 : w50.cell? ⟨gb235, 0, none⟩ = some (.int .i64 a2_0) := (blk_cell BK235.out 0).trans rfl; have hcz52_1 : w50.cell? ⟨gb235, 1, none⟩ = some (.slice A2_1 l2_1.length c2_1) := (blk_cell BK235.out 1).trans rfl; have hfz52_0 := blk_frozen BK235.out 0; have hfz52_1 := blk_frozen BK235.out 1) | (go_at_call 60; (with_reducible refine (impl_isMapCase.calls k a1_0 _ _ l1_1 a2_0 _ _ l2_1 false _ ?side1 ?side2 ?side3 ?side4 A13.out).mono ?_); (case side1 => exact cb_ HR1_1); (case side2 => exact HC1_1.out); (case side3 => exact cb_ HR2_1); (case side4 => exact HC2_1.out); rintro e w53 ⟨rfl, hb⟩; have n_ := And.intro (Aside0.mk (blk_below (g := gb233) (o := .cells #[.int .i64 a0_0, .slice A0_1 l0_1.length c0_1] 29 (0, 0)) (bk_ BK233) hb)) (And.intro (Aside0.mk (blk_below (g := gb234) (o := .cells #[.int .i64 a1_0, .slice A1_1 l1_1.length c1_1] 29 (0, 0)) (bk_ BK234) hb)) (And.intro (Aside0.mk (blk_below (g := gb235) (o := .cells #[.int .i64 a2_0, .slice A2_1 l2_1.length c2_1] 29 (0, 0)) (bk_ BK235) hb)) (Aside0.mk (below_step bg_ hb)))); clear BK233 BK234 BK235 HB; obtain ⟨BK233, BK234, BK235, HB⟩ := n_; (try clear hb); (try clear hb2); (try clear hk); (try clear hi)))
    go_meet
    case rel => exact ⟨_, (true), (by first | rfl | (simp; done) | (simp [*]; done)), H', ⟨by first | omega | exact Nat.le_refl _⟩, ⟨by (with_reducible repeat (first | refine blk_drewN ?_ _ | refine blk_drew ?_ | refine blk_alloc ?_ _)); exact BK233.out⟩, ⟨by (with_reducible repeat (first | refine blk_drewN ?_ _ | refine blk_drew ?_ | refine blk_alloc ?_ _)); exact BK234.out⟩, ⟨by (with_reducible repeat (first | refine blk_drewN ?_ _ | refine blk_drew ?_ | refine blk_alloc ?_ _)); exact BK235.out⟩, ⟨by repeat (first | (with_reducible first | exact HB.out | apply below_alloc | apply pw_below_drewN | apply below_drew1 | refine below_set ?_ GE233.out | refine below_set ?_ GE234.out | refine below_set ?_ GE235.out) | exact HB.out)⟩⟩
  ·replace c12 := Bool.eq_false_iff.mpr c12
   subst c12
   have H1 : (impl_AfterMap.j0 k l3 l4 true) = some (r1, r2) := by rw [if_neg (show ¬ (false = true) by decide)] at H; exact H
   clear H
   have H := H1
   clear H1
   have H' := Aside0.mk H
   clear H
   have hnb54 := NB233_234.out
   have hnc54 := NB234_233.out
   have hnb55 := NB233_235.out
   have hnc55 := NB235_233.out
   have hcz56_0 : w10.cell? ⟨gb233, 0, none⟩ = some (.int .i64 a0_0) := (blk_cell BK233.out 0).trans rfl
   have hcz56_1 : w10.cell? ⟨gb233, 1, none⟩ = some (.slice A0_1 l0_1.length c0_1) := (blk_cell BK233.out 1).trans rfl
   have hfz56_0 := blk_frozen BK233.out 0
   have hfz56_1 := blk_frozen BK233.out 1
   have hnb57 := NB234_235.out
   have hnc57 := NB235_234.out
   have hcz58_0 : w10.cell? ⟨gb234, 0, none⟩ = some (.int .i64 a1_0) := (blk_cell BK234.out 0).trans rfl
   have hcz58_1 : w10.cell? ⟨gb234, 1, none⟩ = some (.slice A1_1 l1_1.length c1_1) := (blk_cell BK234.out 1).trans rfl
   have hfz58_0 := blk_frozen BK234.out 0
   have hfz58_1 := blk_frozen BK234.out 1
   go_wp2_with (first | ((with_reducible refine gate_callee (f := 60) rfl ?_); refine gL_ (some 19) Try.func60 #[.agg #[.int .i64 a0_0, .slice A0_1 l0_1.length c0_1], .agg #[.int .i64 a1_0, .slice A1_1 l1_1.length c1_1]] ?_ rfl rfl; (with_reducible refine (impl_isMapCase.calls k a0_0 _ _ l0_1 a1_0 _ _ l1_1 false _ ?side1 ?side2 ?side3 ?side4 A11.out).mono ?_); (case side1 => exact cb_ HR0_1); (case side2 => exact HC0_1.out); (case side3 => exact cb_ HR1_1); (case side4 => exact HC1_1.out); rintro e w59 ⟨rfl, hb⟩; refine ⟨_, rfl, ?_⟩; have n_ := And.intro (Aside0.mk (blk_below (g := gb233) (o := .cells #[.int .i64 a0_0, .slice A0_1 l0_1.length c0_1] 29 (0, 0)) (bk_ BK233) hb)) (And.intro (Aside0.mk (blk_below (g := gb234) (o := .cells #[.int .i64 a1_0, .slice A1_1 l1_1.length c1_1] 29 (0, 0)) (bk_ BK234) hb)) (And.intro (Aside0.mk (blk_below (g := gb235) (o := .cells #[.int .i64 a2_0, .slice A2_1 l2_1.length c2_1] 29 (0, 0)) (bk_ BK235) hb)) (Aside0.mk (below_step bg_ hb)))); clear BK233 BK234 BK235 HB; obtain ⟨BK233, BK234, BK235, HB⟩ := n_; (try clear hb); (try clear hb2); (try clear hk); (try clear hi)))
   go_meet
   case rel => exact ⟨_, (true), (by first | rfl | (simp; done) | (simp [*]; done)), H', ⟨by first | omega | exact Nat.le_refl _⟩, ⟨by (with_reducible repeat (first | refine blk_drewN ?_ _ | refine blk_drew ?_ | refine blk_alloc ?_ _)); exact BK233.out⟩, ⟨by (with_reducible repeat (first | refine blk_drewN ?_ _ | refine blk_drew ?_ | refine blk_alloc ?_ _)); exact BK234.out⟩, ⟨by (with_reducible repeat (first | refine blk_drewN ?_ _ | refine blk_drew ?_ | refine blk_alloc ?_ _)); exact BK235.out⟩, ⟨by repeat (first | (with_reducible first | exact HB.out | apply below_alloc | apply pw_below_drewN | apply below_drew1 | refine below_set ?_ GE233.out | refine below_set ?_ GE234.out | refine below_set ?_ GE235.out) | exact HB.out)⟩⟩
 clear HC7
 try clear c1
 try clear c2
 try clear p2
 try clear c3
 try clear c4
 try clear c5
 try clear c6
 try clear c12
 try clear c14
 try clear c16
 try clear c18
 try clear c19
 try clear c21
 try clear c25
 try clear c33
 try clear c34
 try clear c36
 try clear c45
 try clear c46
 try clear c48
 try clear c54
 try clear c55
 try clear c57
 try clear hcz20_0
 try clear hcz20_1
 try clear hcz22_0
 try clear hcz22_1
 try clear hcz24_0
 try clear hcz24_1
 try clear hcz25_0
 try clear hcz25_1
 try clear hcz27_0
 try clear hcz27_1
 try clear hcz28_0
 try clear hcz28_1
 try clear hcz30_0
 try clear hcz30_1
 try clear hcz31_0
 try clear hcz31_1
 try clear hcz35_0
 try clear hcz35_1
 try clear hcz37_0
 try clear hcz37_1
 try clear hcz39_0
 try clear hcz39_1
 try clear hcz40_0
 try clear hcz40_1
 try clear hcz42_0
 try clear hcz42_1
 try clear hcz43_0
 try clear hcz43_1
 try clear hcz47_0
 try clear hcz47_1
 try clear hcz49_0
 try clear hcz49_1
 try clear hcz51_0
 try clear hcz51_1
 try clear hcz52_0
 try clear hcz52_1
 try clear hcz56_0
 try clear hcz56_1
 try clear hcz58_0
 try clear hcz58_1
 try clear hfz20_0
 try clear hfz20_1
 try clear hfz22_0
 try clear hfz22_1
 try clear hfz24_0
 try clear hfz24_1
 try clear hfz25_0
 try clear hfz25_1
 try clear hfz27_0
 try clear hfz27_1
 try clear hfz28_0
 try clear hfz28_1
 try clear hfz30_0
 try clear hfz30_1
 try clear hfz31_0
 try clear hfz31_1
 try clear hfz35_0
 try clear hfz35_1
 try clear hfz37_0
 try clear hfz37_1
 try clear hfz39_0
 try clear hfz39_1
 try clear hfz40_0
 try clear hfz40_1
 try clear hfz42_0
 try clear hfz42_1
 try clear hfz43_0
 try clear hfz43_1
 try clear hfz47_0
 try clear hfz47_1
 try clear hfz49_0
 try clear hfz49_1
 try clear hfz51_0
 try clear hfz51_1
 try clear hfz52_0
 try clear hfz52_1
 try clear hfz56_0
 try clear hfz56_1
 try clear hfz58_0
 try clear hfz58_1
 obtain ⟨kq, x42_6, rfl, HA, HJ6, BK233, BK234, BK235, HB⟩ := hcut
 cases kq with
 | zero => exact absurd HA.out (by simp [impl_AfterMap.j0])
 | succ kj6 =>
  have H := HA.out
  clear HA
  simp only [impl_AfterMap.j0] at H
  by_cases c60 : x42_6 = true
  ·subst c60
   have H1 : (some (([] : List Int), false)) = some (r1, r2) := by rw [if_pos rfl] at H; exact H
   clear H
   have H := H1
   clear H1
   simp only [Option.some.injEq, Prod.mk.injEq] at H
   obtain ⟨rfl, rfl⟩ := H
   go_wp2
   go_ret2
   exact ⟨_, by first | rfl | (simp [errW_none, errW_some] <;> rfl) | (simp [*, errW_none, errW_some] <;> rfl), by first | exact Kd.R_nil _ _ _ _ _ | exact Kd.N_nil _ _ _ _ _ | exact Kd.V_nil _ _ _ _ _ | exact Kd.Q_nil _ _ _ _ _ | exact Kd.S_nil _ _ _ _ _, by repeat (first | (with_reducible first | exact HB.out | apply below_alloc | apply pw_below_drewN | apply below_drew1 | refine below_set ?_ GE233.out | refine below_set ?_ GE234.out | refine below_set ?_ GE235.out) | exact HB.out)⟩
  ·replace c60 := Bool.eq_false_iff.mpr c60
   subst c60
   have H1 : (impl_AfterMap.l0 kj6 l4 (([] : List Int)) l3 (l3.length : Int) 0) = some (r1, r2) := by rw [if_neg (show ¬ (false = true) by decide)] at H; exact H
   clear H
   have H := H1
   clear H1
   obtain ⟨y240, hy240⟩ : ∃ y_ : List Int, y_ = (([] : List Int)) := ⟨_, rfl⟩
   replace H : (impl_AfterMap.l0 kj6 l4 y240 l3 (l3.length : Int) 0) = some (r1, r2) := by first | (rw [hy240]; with_reducible exact H) | (have H2_ := (Option.bind_some _ _).symm.trans H; rw [hy240]; with_reducible exact H2_) | (have H2_ := (Option.bind_some _ _).symm.trans H; with_reducible exact H2_) | with_reducible exact H | (rw [hy240]; exact H) | exact H
   have Ny240 := Aside0.mk hy240
   clear hy240
   have H' := Aside0.mk H
   clear H
   go_wp2_with (first | ((with_reducible refine gate_dst (N := 43) rfl ?_); refine Kd.R_lit (Kd.int .i64) _ 3 ?hg (N := 43) ?hd (xs := ([] : List Int)) (inner := []) (ok := fun _ => True) (okp := fun _ => True) ?hr ?hp (fun _ hk => hk) trivial (Below.refl _ _) (Nat.le_refl _) (by simp) ?_; (case hd => rfl); (case hg => rfl); (case hr => first | (go_simp; done) | (go_simp; rfl)); (case hp => exact (Reps.none _ _)); intro v241 w61 ho62 hb hg_ hnew_; clear hg_ hnew_; (first | rw [← Ny240.out] at ho62 | (simp only [Int.reduceToNat] at ho62; rw [← Ny240.out] at ho62)); have n_ := And.intro (Aside0.mk (Kd.R_lower ho62 (below_size bg_))) (And.intro (Aside0.mk (blk_below (g := gb233) (o := .cells #[.int .i64 a0_0, .slice A0_1 l0_1.length c0_1] 29 (0, 0)) (bk_ BK233) hb)) (And.intro (Aside0.mk (blk_below (g := gb234) (o := .cells #[.int .i64 a1_0, .slice A1_1 l1_1.length c1_1] 29 (0, 0)) (bk_ BK234) hb)) (And.intro (Aside0.mk (blk_below (g := gb235) (o := .cells #[.int .i64 a2_0, .slice A2_1 l2_1.length c2_1] 29 (0, 0)) (bk_ BK235) hb)) (Aside0.mk (below_step bg_ hb))))); clear BK233 BK234 BK235 HB; obtain ⟨HO242, BK233, BK234, BK235, HB⟩ := n_; clear hb ho62))
   go_loopg [14, 46] kj6 (fun kq v14 v46 w' => ∃ (x14_2 : List Int) (x46_2 : Int), v46 = .int .i64 x46_2 ∧ Aside0 (impl_AfterMap.l0 kq l4 x14_2 l3 (l3.length : Int) x46_2 = some (r1, r2)) ∧ Aside0 (kq ≤ kj6) ∧ Aside0 (Kd.R (Kd.int .i64) 3 w' w.heap.size (fun _ => True) v14 x14_2) ∧ Aside0 (w'.heap[gb233]? = some (.cells #[.int .i64 a0_0, (.slice A0_1 l0_1.length c0_1)] 29 (0, 0))) ∧ Aside0 (w'.heap[gb234]? = some (.cells #[.int .i64 a1_0, (.slice A1_1 l1_1.length c1_1)] 29 (0, 0))) ∧ Aside0 (w'.heap[gb235]? = some (.cells #[.int .i64 a2_0, (.slice A2_1 l2_1.length c2_1)] 29 (0, 0))) ∧ Aside0 (Below w.heap.size w w'))
   case atStart => exact ⟨(y240), (0), (by first | rfl | (simp; done) | (simp [*]; done)), H', ⟨Nat.le_refl _⟩, ⟨by (with_reducible repeat (first | apply Kd.R_alloc | apply Kd.R_drewN | apply Kd.R_drew)); exact HO242.out⟩, ⟨by (with_reducible repeat (first | refine blk_drewN ?_ _ | refine blk_drew ?_ | refine blk_alloc ?_ _)); exact BK233.out⟩, ⟨by (with_reducible repeat (first | refine blk_drewN ?_ _ | refine blk_drew ?_ | refine blk_alloc ?_ _)); exact BK234.out⟩, ⟨by (with_reducible repeat (first | refine blk_drewN ?_ _ | refine blk_drew ?_ | refine blk_alloc ?_ _)); exact BK235.out⟩, ⟨by repeat (first | (with_reducible first | exact HB.out | apply below_alloc | apply pw_below_drewN | apply below_drew1 | refine below_set ?_ GE233.out | refine below_set ?_ GE234.out | refine below_set ?_ GE235.out) | exact HB.out)⟩⟩
   case round =>
    clear H'
    try clear c1
    try clear c2
    try clear p2
    try clear c3
    try clear c4
    try clear c5
    try clear c6
    try clear c12
    try clear c14
    try clear c16
    try clear c18
    try clear c19
    try clear c21
    try clear c25
    try clear c33
    try clear c34
    try clear c36
    try clear c45
    try clear c46
    try clear c48
    try clear c54
    try clear c55
    try clear c57
    try clear c60
    try clear hcz20_0
    try clear hcz20_1
    try clear hcz22_0
    try clear hcz22_1
    try clear hcz24_0
    try clear hcz24_1
    try clear hcz25_0
    try clear hcz25_1
    try clear hcz27_0
    try clear hcz27_1
    try clear hcz28_0
    try clear hcz28_1
    try clear hcz30_0
    try clear hcz30_1
    try clear hcz31_0
    try clear hcz31_1
    try clear hcz35_0
    try clear hcz35_1
    try clear hcz37_0
    try clear hcz37_1
    try clear hcz39_0
    try clear hcz39_1
    try clear hcz40_0
    try clear hcz40_1
    try clear hcz42_0
    try clear hcz42_1
    try clear hcz43_0
    try clear hcz43_1
    try clear hcz47_0
    try clear hcz47_1
    try clear hcz49_0
    try clear hcz49_1
    try clear hcz51_0
    try clear hcz51_1
    try clear hcz52_0
    try clear hcz52_1
    try clear hcz56_0
    try clear hcz56_1
    try clear hcz58_0
    try clear hcz58_1
    try clear hfz20_0
    try clear hfz20_1
    try clear hfz22_0
    try clear hfz22_1
    try clear hfz24_0
    try clear hfz24_1
    try clear hfz25_0
    try clear hfz25_1
    try clear hfz27_0
    try clear hfz27_1
    try clear hfz28_0
    try clear hfz28_1
    try clear hfz30_0
    try clear hfz30_1
    try clear hfz31_0
    try clear hfz31_1
    try clear hfz35_0
    try clear hfz35_1
    try clear hfz37_0
    try clear hfz37_1
    try clear hfz39_0
    try clear hfz39_1
    try clear hfz40_0
    try clear hfz40_1
    try clear hfz42_0
    try clear hfz42_1
    try clear hfz43_0
    try clear hfz43_1
    try clear hfz47_0
    try clear hfz47_1
    try clear hfz49_0
    try clear hfz49_1
    try clear hfz51_0
    try clear hfz51_1
    try clear hfz52_0
    try clear hfz52_1
    try clear hfz56_0
    try clear hfz56_1
    try clear hfz58_0
    try clear hfz58_1
    try clear p2
    obtain ⟨x14_2, x46_2, rfl, HA, HK2, HO_14, BK233, BK234, BK235, HB⟩ := hrel
    cases gk with
    | zero => exact absurd HA.out (by simp [impl_AfterMap.l0])
    | succ k2 =>
     have H := HA.out
     clear HA
     simp only [impl_AfterMap.l0] at H
     by_cases c63 : x46_2 < (l3.length : Int)
     ·rw [if_pos c63] at H
      have c63b0 : decide (x46_2 < (l3.length : Int)) = true := decide_eq_true c63
      clear c63
      by_cases c64 : 0 ≤ x46_2
      ·rw [if_pos c64] at H
       have c64b0 : decide (0 ≤ x46_2) = true := decide_eq_true c64
       clear c64
       by_cases c65 : x46_2 < (l3.length : Int)
       ·rw [if_pos c65] at H
        have c65b0 : decide (x46_2 < (l3.length : Int)) = true := decide_eq_true c65
        clear c65
        by_cases c66 : 0 ≤ (rd l3 x46_2)
        ·rw [if_pos c66] at H
         have c66b0 : decide (0 ≤ (rd l3 x46_2)) = true := decide_eq_true c66
         clear c66
         by_cases c67 : (rd l3 x46_2) < (l4.length : Int)
         ·rw [if_pos c67] at H
          have c67b0 : decide ((rd l3 x46_2) < (l4.length : Int)) = true := decide_eq_true c67
          clear c67
          by_cases c68 : x14_2.length < 17592186044416
          ·rw [if_pos c68] at H
           have LMc68 := Aside0.mk c68
           clear c68
           obtain ⟨y245, hy245⟩ : ∃ y_ : List Int, y_ = (x14_2 ++ [rd l4 (rd l3 x46_2)]) := ⟨_, rfl⟩
           replace H : (impl_AfterMap.l0 k2 l4 y245 l3 (l3.length : Int) (wrap64 (x46_2 + 1))) = some (r1, r2) := by first | (rw [hy245]; with_reducible exact H) | (have H2_ := (Option.bind_some _ _).symm.trans H; rw [hy245]; with_reducible exact H2_) | (have H2_ := (Option.bind_some _ _).symm.trans H; with_reducible exact H2_) | with_reducible exact H | (rw [hy245]; exact H) | exact H
           have Ny245 := Aside0.mk hy245
           clear hy245
           have H' := Aside0.mk H
           clear H
           have p243 : 0 ≤ (x46_2 : Int) := od_
           have q243 : x46_2 < (l3.length : Int) := od_
           obtain ⟨ad243, e243, hx243_0⟩ := Kd.at_int HR3.out x46_2 p243 q243
           cases e243
           replace hx243_0 := (HB.out.cell (World.block_lt_of_cell? w _ hx243_0)).trans hx243_0
           replace p243 := eq_true p243
           replace q243 := eq_true q243
           have p244 : 0 ≤ ((rd l3 x46_2) : Int) := od_
           have q244 : (rd l3 x46_2) < (l4.length : Int) := od_
           obtain ⟨ad244, e244, hx244_0⟩ := Kd.at_int HR4.out (rd l3 x46_2) p244 q244
           cases e244
           replace hx244_0 := (HB.out.cell (World.block_lt_of_cell? w _ hx244_0)).trans hx244_0
           replace p244 := eq_true p244
           replace q244 := eq_true q244
           go_wp2_with (first | ((with_reducible refine gate_builtin (b := .append) (xs := #[.tmp 50, .tmp 55]) rfl ?_); at_builtin; refine Kd.R_append (Kd.int .i64) (w0 := w) w.heap.size rfl (.tmp 50) (.tmp 55) 25 3 (.int .i64 0) 8 rfl Try.underlying25 info3 rfl (by decide) (by omega) u14 x14_2 (rd l4 (rd l3 x46_2)) [.int .i64 (rd l4 (rd l3 x46_2))] (fun _ => True) (fun _ => False) rfl rfl ?aP (fun _ hk => hk.elim) ?aF ?aO ?aB ?aS ?aL ?_; (case aP => exact rfl); (case aB => exact bg_); (case aF => exact (fun _ _ => trivial)); (case aO => exact (rk_ HO_14)); (case aS => exact (below_size bg_)); (case aL => have := LMc68.out; omega); intro v246 w69 ho hb hg hat; rw [← Ny245.out] at ho; have n_ := And.intro (Aside0.mk (blk_grown (g := gb233) (o := .cells #[.int .i64 a0_0, .slice A0_1 l0_1.length c0_1] 29 (0, 0)) (bk_ BK233) hg (Kd.R_ne HO_14.out BK233.out (by decide)))) (And.intro (Aside0.mk (blk_grown (g := gb234) (o := .cells #[.int .i64 a1_0, .slice A1_1 l1_1.length c1_1] 29 (0, 0)) (bk_ BK234) hg (Kd.R_ne HO_14.out BK234.out (by decide)))) (And.intro (Aside0.mk (blk_grown (g := gb235) (o := .cells #[.int .i64 a2_0, .slice A2_1 l2_1.length c2_1] 29 (0, 0)) (bk_ BK235) hg (Kd.R_ne HO_14.out BK235.out (by decide)))) (And.intro (Aside0.mk (hb)) (Aside0.mk (ho))))); clear BK233 BK234 BK235 HB HO_14; obtain ⟨BK233, BK234, BK235, HB, HO247⟩ := n_; clear ho hb hg hat))
           go_roundg k2
           case measure => have := HJ6.out; have := HK2.out; omega
           case rel => exact ⟨(y245), (wrap64 (x46_2 + 1)), (by first | rfl | (simp; done) | (simp [*]; done)), H', ⟨by have := HJ6.out; have := HK2.out; omega⟩, ⟨by (with_reducible repeat (first | apply Kd.R_alloc | apply Kd.R_drewN | apply Kd.R_drew)); exact HO247.out⟩, ⟨by (with_reducible repeat (first | refine blk_drewN ?_ _ | refine blk_drew ?_ | refine blk_alloc ?_ _)); exact BK233.out⟩, ⟨by (with_reducible repeat (first | refine blk_drewN ?_ _ | refine blk_drew ?_ | refine blk_alloc ?_ _)); exact BK234.out⟩, ⟨by (with_reducible repeat (first | refine blk_drewN ?_ _ | refine blk_drew ?_ | refine blk_alloc ?_ _)); exact BK235.out⟩, ⟨by repeat (first | (with_reducible first | exact HB.out | apply below_alloc | apply pw_below_drewN | apply below_drew1 | refine below_set ?_ GE233.out | refine below_set ?_ GE234.out | refine below_set ?_ GE235.out) | exact HB.out)⟩⟩
          ·rw [if_neg c68] at H
           exact absurd H (by simp)
         ·rw [if_neg c67] at H
          exact absurd H (by simp)
        ·rw [if_neg c66] at H
         exact absurd H (by simp)
       ·rw [if_neg c65] at H
        exact absurd H (by simp)
      ·rw [if_neg c64] at H
       exact absurd H (by simp)
     ·rw [if_neg c63] at H
      have c63b0 : decide (x46_2 < (l3.length : Int)) = false := decide_eq_false c63
      clear c63
      simp only [Option.some.injEq, Prod.mk.injEq] at H
      obtain ⟨rfl, rfl⟩ := H
      go_wp2
      go_ret2
      exact ⟨_, by first | rfl | (simp [errW_none, errW_some] <;> rfl) | (simp [*, errW_none, errW_some] <;> rfl), by (with_reducible repeat (first | apply Kd.R_alloc | apply Kd.R_drewN | apply Kd.R_drew)); exact HO_14.out, by repeat (first | (with_reducible first | exact HB.out | apply below_alloc | apply pw_below_drewN | apply below_drew1 | refine below_set ?_ GE233.out | refine below_set ?_ GE234.out | refine below_set ?_ GE235.out) | exact HB.out)⟩

/-! ### laws_markIntA2S: function 34 -/
mutual
def laws_markIntA2S.l0 : Nat → List (S78) → Int → Int → Option (Int × (List (S78)))
 | 0, _, _, _ => none
 | k + 1, x0, x1, x5 => if x5 < (x0.length : Int) then (laws_markIntA2S.l1 k x0 x1 x5 0) else (some (x1, x0))
def laws_markIntA2S.l1 : Nat → List (S78) → Int → Int → Int → Option (Int × (List (S78)))
 | 0, _, _, _, _ => none
 | k + 1, x0, x1, x5, x6 => if x6 < 2 then (if 0 ≤ x5 then (if x5 < (x0.length : Int) then (if x6 = 0 then (laws_markIntA2S.l1 k (x0.set (x5 : Int).toNat (⟨x1, (rd_T78 x0 x5).f1⟩ : S78)) (wrap64 (x1 + 1)) x5 (wrap64 (x6 + 1))) else (if x6 = 1 then (laws_markIntA2S.l1 k (x0.set (x5 : Int).toNat (⟨(rd_T78 x0 x5).f0, x1⟩ : S78)) (wrap64 (x1 + 1)) x5 (wrap64 (x6 + 1))) else (none))) else (none)) else (none)) else (laws_markIntA2S.l0 k x0 x1 (wrap64 (x5 + 1)))
end
def laws_markIntA2S.f (k : Nat) (l0 : List (S78)) (a1 : Int) : Option (Int × (List (S78))) := laws_markIntA2S.l0 k l0 a1 0
set_option maxHeartbeats 8000000 in
set_option maxRecDepth 100000 in
theorem laws_markIntA2S.calls (k : Nat) (P0_ : Nat → Prop) (u9000_ : Value) (l0 : List (S78)) (a1 : Int) (r1 : Int) (r2 : List (S78)) (w0 w : World) (hB : Below w0.heap.size w0 w) (ho0 : Kd.R k78 78 w w0.heap.size P0_ u9000_ l0) (h : laws_markIntA2S.f k l0 a1 = some (r1, r2)) :
  Calls Try.prog 34 #[u9000_, .int .i64 a1] w fun e w' => e = .returned (.int .i64 r1) ∧ Kd.R k78 78 w' w0.heap.size (fun k_ => (P0_ k_ ∨ w.heap.size ≤ k_)) u9000_ r2 ∧ Below w0.heap.size w0 w' ∧ Kept w w' (fun k_ => P0_ k_) := by
 have HO0 := Aside0.mk (show Kd.R k78 78 w w0.heap.size (fun k_ => (P0_ k_ ∨ w.heap.size ≤ k_)) u9000_ l0 from Kd.R_mono ho0 (fun k_ hk => (.inl hk)))
 have HK := Aside0.mk (Kept.refl w (fun k_ => P0_ k_))
 have HW0 := Aside0.mk hB.size
 have HB := Aside0.mk hB
 clear hB
 have H : (laws_markIntA2S.l0 k l0 a1 0) = some (r1, r2) := h
 clear h
 have H' := Aside0.mk H
 clear H
 go_enter Try.func34, Try.ntmps34
 go_wp2
 go_loopg [1, 5] k (fun kq v1 v5 w' => ∃ (x0_1 : List (S78)) (x1_1 : Int) (x5_1 : Int), v1 = .int .i64 x1_1 ∧ v5 = .int .i64 x5_1 ∧ Aside0 (laws_markIntA2S.l0 kq x0_1 x1_1 x5_1 = some (r1, r2)) ∧ Aside0 (kq ≤ k) ∧ Aside0 (Kd.R k78 78 w' w0.heap.size (fun k_ => (P0_ k_ ∨ w.heap.size ≤ k_)) u9000_ x0_1) ∧ Aside0 (Kept w w' (fun k_ => P0_ k_)) ∧ Aside0 (Below w0.heap.size w0 w'))
 case atStart => exact ⟨(l0), (a1), (0), (by first | rfl | (simp; done) | (simp [*]; done)), (by first | rfl | (simp; done) | (simp [*]; done)), H', ⟨Nat.le_refl _⟩, ⟨by (with_reducible repeat (first | apply Kd.R_alloc | apply Kd.R_drewN | apply Kd.R_drew)); exact HO0.out⟩, ⟨by repeat (first | (with_reducible first | exact HK.out | apply Kept.alloc | apply Kept.drewN | apply Kept.drew) | exact HK.out)⟩, ⟨by repeat (first | (with_reducible first | exact HB.out | apply below_alloc | apply pw_below_drewN | apply below_drew1) | exact HB.out)⟩⟩
 case round =>
  clear H'
  try clear p2
  obtain ⟨x0_1, x1_1, x5_1, rfl, rfl, HA, HK1, HO_0, HK, HB⟩ := hrel
  cases gk with
  | zero => exact absurd HA.out (by simp [laws_markIntA2S.l0])
  | succ k1 =>
   have H := HA.out
   clear HA
   simp only [laws_markIntA2S.l0] at H
   by_cases c3 : x5_1 < (x0_1.length : Int)
   ·rw [if_pos c3] at H
    have c3b0 : decide (x5_1 < (x0_1.length : Int)) = true := decide_eq_true c3
    clear c3
    have H' := Aside0.mk H
    clear H
    obtain ⟨Ao4, co4, eo4⟩ := Kd.R_slice HO_0.out
    subst eo4
    go_wp2
    go_loopg [1, 6] k1 (fun kq v1 v6 w' => ∃ (x0_2 : List (S78)) (x1_2 : Int) (x6_2 : Int), v1 = .int .i64 x1_2 ∧ v6 = .int .i64 x6_2 ∧ Aside0 (laws_markIntA2S.l1 kq x0_2 x1_2 x5_1 x6_2 = some (r1, r2)) ∧ Aside0 (kq ≤ k1) ∧ Aside0 (Kd.R k78 78 w' w0.heap.size (fun k_ => (P0_ k_ ∨ w.heap.size ≤ k_)) (.slice Ao4 x0_1.length co4) x0_2) ∧ Aside0 (Kept w w' (fun k_ => P0_ k_)) ∧ Aside0 (Below w0.heap.size w0 w'))
    case atStart => exact ⟨(x0_1), (x1_1), (0), (by first | rfl | (simp; done) | (simp [*]; done)), (by first | rfl | (simp; done) | (simp [*]; done)), H', ⟨Nat.le_refl _⟩, ⟨by (with_reducible repeat (first | apply Kd.R_alloc | apply Kd.R_drewN | apply Kd.R_drew)); exact HO_0.out⟩, ⟨by repeat (first | (with_reducible first | exact HK.out | apply Kept.alloc | apply Kept.drewN | apply Kept.drew) | exact HK.out)⟩, ⟨by repeat (first | (with_reducible first | exact HB.out | apply below_alloc | apply pw_below_drewN | apply below_drew1) | exact HB.out)⟩⟩
    case round =>
     clear H'
     try clear p2
     try clear c3
     try clear c3b0
     try clear p2
     obtain ⟨x0_2, x1_2, x6_2, rfl, rfl, HA, HK2, HO_0, HK, HB⟩ := hrel
     have hl0_2 := (Kd.R_reads' HO_0.out).1
     rw [hl0_2] at HO_0
     (try simp only [hl0_2])
     cases gk with
     | zero => exact absurd HA.out (by simp [laws_markIntA2S.l1])
     | succ k2 =>
      have H := HA.out
      clear HA
      simp only [laws_markIntA2S.l1] at H
      by_cases c5 : x6_2 < 2
      ·rw [if_pos c5] at H
       have c5b0 : decide (x6_2 < 2) = true := decide_eq_true c5
       clear c5
       by_cases c6 : 0 ≤ x5_1
       ·rw [if_pos c6] at H
        have c6b0 : decide (0 ≤ x5_1) = true := decide_eq_true c6
        clear c6
        by_cases c7 : x5_1 < (x0_2.length : Int)
        ·rw [if_pos c7] at H
         have c7b0 : decide (x5_1 < (x0_2.length : Int)) = true := decide_eq_true c7
         clear c7
         by_cases c9 : x6_2 = 0
         ·rw [if_pos c9] at H
          have c9b0 : (x6_2 == 0) = true := beq_iff_eq.mpr c9
          have c9b1 : (x6_2 != 0) = false := bne_eq_false_iff_eq.mpr c9
          clear c9
          obtain ⟨y248, hy248⟩ : ∃ y_ : List (S78), y_ = (x0_2.set (x5_1 : Int).toNat (⟨x1_2, (rd_T78 x0_2 x5_1).f1⟩ : S78)) := ⟨_, rfl⟩
          replace H : (laws_markIntA2S.l1 k2 y248 (wrap64 (x1_2 + 1)) x5_1 (wrap64 (x6_2 + 1))) = some (r1, r2) := by first | (rw [hy248]; with_reducible exact H) | (have H2_ := (Option.bind_some _ _).symm.trans H; rw [hy248]; with_reducible exact H2_) | (have H2_ := (Option.bind_some _ _).symm.trans H; with_reducible exact H2_) | with_reducible exact H | (rw [hy248]; exact H) | exact H
          have Ny248 := Aside0.mk hy248
          clear hy248
          have H' := Aside0.mk H
          clear H
          have p8 : 0 ≤ (x5_1 : Int) := od_
          have q8 : (x5_1 : Int) < ((x0_2.length : Int) : Int) := od_
          obtain ⟨go8, co8, eo8, gb8, gl8, cl8, HG8⟩ := Kd.R_form HO_0.out (by omega)
          (first | cases eo8 | (injection eo8 with ea_ en_ ec_; (first | subst ea_ | (injection ea_ with ea_; subst ea_)); subst ec_; clear en_))
          have GB8 := Aside0.mk gb8
          have GG8 := Aside0.mk HG8
          clear gb8 gl8 HG8
          have HMgo8 := Aside0.mk (show (P0_ go8 ∨ w.heap.size ≤ go8) from (HO_0.out.1 _ rfl))
          obtain ⟨ce8, hcl8, hM8, hcc8, hfr8⟩ := Kd.R_elem HO_0.out z78 (x5_1 : Int) p8 q8
          obtain rfl := k78_openM hM8
          have hx8_0 : wr.cell? ⟨go8, (x5_1 : Int).toNat * 2, none⟩ = some (.int .i64 ((rd_T78 x0_2 x5_1).f0)) := hcc8 0 _ rfl
          have hx8_1 : wr.cell? ⟨go8, (x5_1 : Int).toNat * 2 + 1, none⟩ = some (.int .i64 ((rd_T78 x0_2 x5_1).f1)) := hcc8 1 _ rfl
          have hf8_0 : wr.frozen? ⟨go8, (x5_1 : Int).toNat * 2, none⟩ = false := hfr8 0
          have hf8_1 : wr.frozen? ⟨go8, (x5_1 : Int).toNat * 2 + 1, none⟩ = false := hfr8 1
          clear hcl8 hcc8 hfr8; (try clear hM8)
          replace p8 := eq_true p8
          replace q8 := eq_true q8
          have hix10 : ∀ (p_ : Addr) (W_ : World), (Instr.indexAt 78 (.pointer (some p_)) (.int .i64 x6_2)).run Try.prog W_ = .ok (.pointer (some (p_.add 0))) W_ := fun p_ W_ => by rw [show (x6_2 : Int) = 0 from beq_iff_eq.mp (by first | (with_reducible assumption) | assumption)]; go_simp
          have HX11 := Aside0.mk (show Kd.R k78 78 wr w0.heap.size (fun k_ => (P0_ k_ ∨ w.heap.size ≤ k_)) (.slice (some ⟨go8, 0, none⟩) x0_2.length co4) x0_2 from (rk_ HO_0))
          obtain ⟨ce11, hcl11, hM11, hcc11, hfr11⟩ := Kd.R_elem HX11.out z78 (x5_1 : Int) od_ (by have h_ : (x5_1 : Int) < ((x0_2.length : Int) : Int) := od_; first | exact h_ | (have e_ := (Kd.R_reads' HO_0.out).1; omega) | simpa using h_)
          obtain rfl := k78_openM hM11
          have HP11 := Kd.R_seg HX11.out (x5_1 : Int) od_ (by have h_ : (x5_1 : Int) < ((x0_2.length : Int) : Int) := od_; first | exact h_ | (have e_ := (Kd.R_reads' HO_0.out).1; omega) | simpa using h_) (seg := [.int .i64 x1_2]) (j := 0) hcl11 hcc11 (show 1 ≤ 2 from by decide) (x' := (⟨x1_2, (rd_T78 x0_2 x5_1).f1⟩ : S78)) (k78_mkM _ _ _ (⟨x1_2, (rd_T78 x0_2 x5_1).f1⟩ : S78) ) (fun _ hk => hk)
          have hx11_0 := hcc11 0 _ rfl
          (try simp only [show (k78).sz = 2 from rfl, Nat.mul_one, Nat.add_zero] at hx11_0)
          have hf11_0 := hfr11 0
          (try simp only [show (k78).sz = 2 from rfl, Nat.mul_one, Nat.add_zero] at hf11_0)
          clear hcl11 hcc11 hfr11; (try clear hM11)
          go_wp2_with (first | ((with_reducible refine gate_store (t := 3) (p := 22) rfl ?_); refine store_event (t := 3) (p := 22) (v := ?vo_w12) (w1 := (wr.setCell ⟨go8, (x5_1 : Int).toNat * 2, none⟩ (.int .i64 x1_2))) ?hg ?ho ?hn ?hr ?_; (case ho => rfl); (case hg => rfl); (case hn => rfl); (case hr => first | (go_simp; done) | (go_simp; rfl)); intro w12 hw; have hg : wr.grownBy w12 (some go8) := (by rw [hw]; exact HP11.2); have hp_ : Kd.R k78 78 w12 w0.heap.size (fun k_ => (P0_ k_ ∨ w.heap.size ≤ k_)) (.slice (some ⟨go8, 0, none⟩) x0_2.length co4) y248 := (by rw [hw, Ny248.out]; exact HP11.1); clear HP11; have n_ := And.intro (Aside0.mk (hp_)) (And.intro (Aside0.mk ((by rw [hw]; exact below_set (HB.out) GB8.out : Below w0.heap.size w0 w12))) (Aside0.mk (Kept.of_grown (S := (fun k_ => P0_ k_)) hg (by repeat (first | (with_reducible first | exact HK.out | apply Kept.alloc | apply Kept.drewN | apply Kept.drew) | exact HK.out)) (fun k_ e_ => (HO_0.out.1 k_ e_))))); clear HO_0 HB HK; obtain ⟨HO_0, HB, HK⟩ := n_; clear hg hw hp_))
          (try simp only [← hl0_2])
          go_roundg k2
          case measure => have := HK1.out; have := HK2.out; omega
          case rel => exact ⟨(y248), (wrap64 (x1_2 + 1)), (wrap64 (x6_2 + 1)), (by first | rfl | (simp; done) | (simp [*]; done)), (by first | rfl | (simp; done) | (simp [*]; done)), H', ⟨by have := HK1.out; have := HK2.out; omega⟩, ⟨by (try simp only [hl0_2]); (with_reducible repeat (first | apply Kd.R_alloc | apply Kd.R_drewN | apply Kd.R_drew)); exact HO_0.out⟩, ⟨by repeat (first | (with_reducible first | exact HK.out | apply Kept.alloc | apply Kept.drewN | apply Kept.drew) | exact HK.out)⟩, ⟨by repeat (first | (with_reducible first | exact HB.out | apply below_alloc | apply pw_below_drewN | apply below_drew1) | exact HB.out)⟩⟩
         ·rw [if_neg c9] at H
          have c9b0 : (x6_2 == 0) = false := beq_eq_false_iff_ne.mpr c9
          have c9b1 : (x6_2 != 0) = true := bne_iff_ne.mpr c9
          by_cases c13 : x6_2 = 1
          ·rw [if_pos c13] at H
           have c13b0 : (x6_2 == 1) = true := beq_iff_eq.mpr c13
           have c13b1 : (x6_2 != 1) = false := bne_eq_false_iff_eq.mpr c13
           clear c13
           obtain ⟨y249, hy249⟩ : ∃ y_ : List (S78), y_ = (x0_2.set (x5_1 : Int).toNat (⟨(rd_T78 x0_2 x5_1).f0, x1_2⟩ : S78)) := ⟨_, rfl⟩
           replace H : (laws_markIntA2S.l1 k2 y249 (wrap64 (x1_2 + 1)) x5_1 (wrap64 (x6_2 + 1))) = some (r1, r2) := by first | (rw [hy249]; with_reducible exact H) | (have H2_ := (Option.bind_some _ _).symm.trans H; rw [hy249]; with_reducible exact H2_) | (have H2_ := (Option.bind_some _ _).symm.trans H; with_reducible exact H2_) | with_reducible exact H | (rw [hy249]; exact H) | exact H
           have Ny249 := Aside0.mk hy249
           clear hy249
           have H' := Aside0.mk H
           clear H
           have p8 : 0 ≤ (x5_1 : Int) := od_
           have q8 : (x5_1 : Int) < ((x0_2.length : Int) : Int) := od_
           obtain ⟨go8, co8, eo8, gb8, gl8, cl8, HG8⟩ := Kd.R_form HO_0.out (by omega)
           (first | cases eo8 | (injection eo8 with ea_ en_ ec_; (first | subst ea_ | (injection ea_ with ea_; subst ea_)); subst ec_; clear en_))
           have GB8 := Aside0.mk gb8
           have GG8 := Aside0.mk HG8
           clear gb8 gl8 HG8
           have HMgo8 := Aside0.mk (show (P0_ go8 ∨ w.heap.size ≤ go8) from (HO_0.out.1 _ rfl))
           obtain ⟨ce8, hcl8, hM8, hcc8, hfr8⟩ := Kd.R_elem HO_0.out z78 (x5_1 : Int) p8 q8
           obtain rfl := k78_openM hM8
           have hx8_0 : wr.cell? ⟨go8, (x5_1 : Int).toNat * 2, none⟩ = some (.int .i64 ((rd_T78 x0_2 x5_1).f0)) := hcc8 0 _ rfl
           have hx8_1 : wr.cell? ⟨go8, (x5_1 : Int).toNat * 2 + 1, none⟩ = some (.int .i64 ((rd_T78 x0_2 x5_1).f1)) := hcc8 1 _ rfl
           have hf8_0 : wr.frozen? ⟨go8, (x5_1 : Int).toNat * 2, none⟩ = false := hfr8 0
           have hf8_1 : wr.frozen? ⟨go8, (x5_1 : Int).toNat * 2 + 1, none⟩ = false := hfr8 1
           clear hcl8 hcc8 hfr8; (try clear hM8)
           replace p8 := eq_true p8
           replace q8 := eq_true q8
           have hix14 : ∀ (p_ : Addr) (W_ : World), (Instr.indexAt 78 (.pointer (some p_)) (.int .i64 x6_2)).run Try.prog W_ = .ok (.pointer (some (p_.add 1))) W_ := fun p_ W_ => by rw [show (x6_2 : Int) = 1 from beq_iff_eq.mp (by first | (with_reducible assumption) | assumption)]; go_simp
           have HX15 := Aside0.mk (show Kd.R k78 78 wr w0.heap.size (fun k_ => (P0_ k_ ∨ w.heap.size ≤ k_)) (.slice (some ⟨go8, 0, none⟩) x0_2.length co4) x0_2 from (rk_ HO_0))
           obtain ⟨ce15, hcl15, hM15, hcc15, hfr15⟩ := Kd.R_elem HX15.out z78 (x5_1 : Int) od_ (by have h_ : (x5_1 : Int) < ((x0_2.length : Int) : Int) := od_; first | exact h_ | (have e_ := (Kd.R_reads' HO_0.out).1; omega) | simpa using h_)
           obtain rfl := k78_openM hM15
           have HP15 := Kd.R_seg HX15.out (x5_1 : Int) od_ (by have h_ : (x5_1 : Int) < ((x0_2.length : Int) : Int) := od_; first | exact h_ | (have e_ := (Kd.R_reads' HO_0.out).1; omega) | simpa using h_) (seg := [.int .i64 x1_2]) (j := 1) hcl15 hcc15 (show 2 ≤ 2 from by decide) (x' := (⟨(rd_T78 x0_2 x5_1).f0, x1_2⟩ : S78)) (k78_mkM _ _ _ (⟨(rd_T78 x0_2 x5_1).f0, x1_2⟩ : S78) ) (fun _ hk => hk)
           have hx15_1 := hcc15 1 _ rfl
           (try simp only [show (k78).sz = 2 from rfl, Nat.mul_one, Nat.add_zero] at hx15_1)
           have hf15_1 := hfr15 1
           (try simp only [show (k78).sz = 2 from rfl, Nat.mul_one, Nat.add_zero] at hf15_1)
           clear hcl15 hcc15 hfr15; (try clear hM15)
           go_wp2_with (first | ((with_reducible refine gate_store (t := 3) (p := 22) rfl ?_); refine store_event (t := 3) (p := 22) (v := ?vo_w16) (w1 := (wr.setCell ⟨go8, (x5_1 : Int).toNat * 2 + 1, none⟩ (.int .i64 x1_2))) ?hg ?ho ?hn ?hr ?_; (case ho => rfl); (case hg => rfl); (case hn => rfl); (case hr => first | (go_simp; done) | (go_simp; rfl)); intro w16 hw; have hg : wr.grownBy w16 (some go8) := (by rw [hw]; exact HP15.2); have hp_ : Kd.R k78 78 w16 w0.heap.size (fun k_ => (P0_ k_ ∨ w.heap.size ≤ k_)) (.slice (some ⟨go8, 0, none⟩) x0_2.length co4) y249 := (by rw [hw, Ny249.out]; exact HP15.1); clear HP15; have n_ := And.intro (Aside0.mk (hp_)) (And.intro (Aside0.mk ((by rw [hw]; exact below_set (HB.out) GB8.out : Below w0.heap.size w0 w16))) (Aside0.mk (Kept.of_grown (S := (fun k_ => P0_ k_)) hg (by repeat (first | (with_reducible first | exact HK.out | apply Kept.alloc | apply Kept.drewN | apply Kept.drew) | exact HK.out)) (fun k_ e_ => (HO_0.out.1 k_ e_))))); clear HO_0 HB HK; obtain ⟨HO_0, HB, HK⟩ := n_; clear hg hw hp_))
           (try simp only [← hl0_2])
           go_roundg k2
           case measure => have := HK1.out; have := HK2.out; omega
           case rel => exact ⟨(y249), (wrap64 (x1_2 + 1)), (wrap64 (x6_2 + 1)), (by first | rfl | (simp; done) | (simp [*]; done)), (by first | rfl | (simp; done) | (simp [*]; done)), H', ⟨by have := HK1.out; have := HK2.out; omega⟩, ⟨by (try simp only [hl0_2]); (with_reducible repeat (first | apply Kd.R_alloc | apply Kd.R_drewN | apply Kd.R_drew)); exact HO_0.out⟩, ⟨by repeat (first | (with_reducible first | exact HK.out | apply Kept.alloc | apply Kept.drewN | apply Kept.drew) | exact HK.out)⟩, ⟨by repeat (first | (with_reducible first | exact HB.out | apply below_alloc | apply pw_below_drewN | apply below_drew1) | exact HB.out)⟩⟩
          ·rw [if_neg c13] at H
           exact absurd H (by simp)
        ·rw [if_neg c7] at H
         exact absurd H (by simp)
       ·rw [if_neg c6] at H
        exact absurd H (by simp)
      ·rw [if_neg c5] at H
       have c5b0 : decide (x6_2 < 2) = false := decide_eq_false c5
       clear c5
       have H' := Aside0.mk H
       clear H
       go_wp2
       (try simp only [← hl0_2])
       go_roundg k2
       case measure => have := HK1.out; have := HK2.out; omega
       case rel => exact ⟨(x0_2), (x1_2), (wrap64 (x5_1 + 1)), (by first | rfl | (simp; done) | (simp [*]; done)), (by first | rfl | (simp; done) | (simp [*]; done)), H', ⟨by have := HK1.out; have := HK2.out; omega⟩, ⟨by (try simp only [hl0_2]); (with_reducible repeat (first | apply Kd.R_alloc | apply Kd.R_drewN | apply Kd.R_drew)); exact HO_0.out⟩, ⟨by repeat (first | (with_reducible first | exact HK.out | apply Kept.alloc | apply Kept.drewN | apply Kept.drew) | exact HK.out)⟩, ⟨by repeat (first | (with_reducible first | exact HB.out | apply below_alloc | apply pw_below_drewN | apply below_drew1) | exact HB.out)⟩⟩
   ·rw [if_neg c3] at H
    have c3b0 : decide (x5_1 < (x0_1.length : Int)) = false := decide_eq_false c3
    clear c3
    simp only [Option.some.injEq, Prod.mk.injEq] at H
    obtain ⟨rfl, rfl⟩ := H
    obtain ⟨Ao17, co17, eo17⟩ := Kd.R_slice HO_0.out
    subst eo17
    go_wp2
    go_ret
    exact ⟨by first | rfl | (simp [errW_none, errW_some] <;> rfl) | (simp [*, errW_none, errW_some] <;> rfl), by (with_reducible repeat (first | apply Kd.R_alloc | apply Kd.R_drewN | apply Kd.R_drew)); exact HO_0.out, by repeat (first | (with_reducible first | exact HB.out | apply below_alloc | apply pw_below_drewN | apply below_drew1) | exact HB.out), by repeat (first | (with_reducible first | exact HK.out | apply Kept.alloc | apply Kept.drewN | apply Kept.drew) | exact HK.out)⟩

end Go.Proofs.Ytiiaadgibkpaaaa.PFnExactAfterMap
