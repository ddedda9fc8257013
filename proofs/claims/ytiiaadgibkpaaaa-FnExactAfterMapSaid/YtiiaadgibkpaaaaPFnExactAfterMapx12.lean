-- written by wip/tools of this repo out of the translation (a turned copy of the kit's print): checked by Lean alone
import Derived.Test.YtiiaadgibkpaaaaPFnExactAfterMapx0
import Derived.Test.YtiiaadgibkpaaaaPFnExactAfterMapx2
import Derived.Test.YtiiaadgibkpaaaaPFnExactAfterMapx3
import Derived.Test.YtiiaadgibkpaaaaPFnExactAfterMapx7
import Derived.Test.YtiiaadgibkpaaaaPFnExactAfterMapx10
import Derived.Test.YtiiaadgibkpaaaaPFnExactAfterMapx11
namespace Go.Proofs.Ytiiaadgibkpaaaa.PFnExactAfterMap
open Go.RowKit Go.Proofs.YtiiaadgibkpaaaaW.PrintWords Go.Proofs.YtiiaadgibkpaaaaW.PrintLast Go.Proofs.YtiiaadgibkpaaaaW.PrintMore
attribute [local go_sem] max2_int min2_int max_two min_two max_three min_three max_four min_four   -- for this text's walks alone
set_option linter.unusedVariables false
set_option linter.unusedSimpArgs false

/-! ### laws_FnExactAfterMap: function 5 -/
mutual
def laws_FnExactAfterMap.j0 : Nat → List Int → List Int → Bool → Int → List (S78) → Int → List (S78) → Int → List (S78) → Option (Bool)
 | 0, _, _, _, _, _, _, _, _, _ => none
 | k + 1, x3, x4, x5, x256000, x256001, x257000, x257001, x258000, x258001 => if (x4.length : Int) > 1048576 then (some true) else (laws_FnExactAfterMap.j1 k x3 x4 x5 x256000 x256001 x257000 x257001 x258000 x258001)
def laws_FnExactAfterMap.j1 : Nat → List Int → List Int → Bool → Int → List (S78) → Int → List (S78) → Int → List (S78) → Option (Bool)
 | 0, _, _, _, _, _, _, _, _, _ => none
 | k + 1, x3, x4, x5, x256000, x256001, x257000, x257001, x258000, x258001 => (laws_szGraph.f x256000 x256001 1048576).bind fun t258 => (if t258 < 0 then (some true) else (laws_FnExactAfterMap.j2 k x3 x4 x5 t258 x256000 x256001 x257000 x257001 x258000 x258001))
def laws_FnExactAfterMap.j2 : Nat → List Int → List Int → Bool → Int → Int → List (S78) → Int → List (S78) → Int → List (S78) → Option (Bool)
 | 0, _, _, _, _, _, _, _, _, _, _ => none
 | k + 1, x3, x4, x5, x13, x256000, x256001, x257000, x257001, x258000, x258001 => (laws_szGraph.f x257000 x257001 x13).bind fun t259 => (if t259 < 0 then (some true) else (laws_FnExactAfterMap.j3 k x3 x4 x5 t259 x256000 x256001 x257000 x257001 x258000 x258001))
def laws_FnExactAfterMap.j3 : Nat → List Int → List Int → Bool → Int → Int → List (S78) → Int → List (S78) → Int → List (S78) → Option (Bool)
 | 0, _, _, _, _, _, _, _, _, _, _ => none
 | k + 1, x3, x4, x5, x13, x256000, x256001, x257000, x257001, x258000, x258001 => (laws_szGraph.f x258000 x258001 x13).bind fun t260 => (if t260 < 0 then (some true) else (laws_FnExactAfterMap.j4 k x3 x4 x5 x256000 x256001 x257000 x257001 x258000 x258001))
def laws_FnExactAfterMap.j4 : Nat → List Int → List Int → Bool → Int → List (S78) → Int → List (S78) → Int → List (S78) → Option (Bool)
 | 0, _, _, _, _, _, _, _, _, _ => none
 | k + 1, x3, x4, x5, x256000, x256001, x257000, x257001, x258000, x258001 => (laws_toGraph.f k x256000 x256001).bind fun bt261 => ((laws_toGraph.f k x257000 x257001).bind fun bt265 => ((laws_toGraph.f k x258000 x258001).bind fun bt269 => ((laws_toIntS.f k x3).bind fun t273 => ((laws_toIntS.f k x4).bind fun t276 => ((spec_AfterMap.f k bt261.1 bt261.2 bt265.1 bt265.2 bt269.1 bt269.2 t273 t276 x5).bind fun bt279 => ((laws_toGraph.f k x256000 x256001).bind fun bt283 => ((laws_toGraph.f k x257000 x257001).bind fun bt288 => ((laws_toGraph.f k x258000 x258001).bind fun bt293 => ((laws_toIntS.f k x3).bind fun t298 => ((laws_toIntS.f k x4).bind fun t301 => ((impl_AfterMap.f k bt283.1 bt283.2 bt288.1 bt288.2 bt293.1 bt293.2 t298 t301 x5).bind fun bt304 => ((laws_eqIntS.f k bt304.1 bt279.1).bind fun t308 => (if t308 = true then (laws_FnExactAfterMap.j5 k x3 x4 x5 bt279.1 bt279.2 t298 t301 bt304.1 bt304.2 (bt304.2 != bt279.2) x256000 x256001 x257000 x257001 x258000 x258001 bt283.1 bt283.2 bt288.1 bt288.2 bt293.1 bt293.2) else (laws_FnExactAfterMap.j5 k x3 x4 x5 bt279.1 bt279.2 t298 t301 bt304.1 bt304.2 true x256000 x256001 x257000 x257001 x258000 x258001 bt283.1 bt283.2 bt288.1 bt288.2 bt293.1 bt293.2))))))))))))))
def laws_FnExactAfterMap.j5 : Nat → List Int → List Int → Bool → List Int → Bool → List Int → List Int → List Int → Bool → Bool → Int → List (S78) → Int → List (S78) → Int → List (S78) → Int → List (S78) → Int → List (S78) → Int → List (S78) → Option (Bool)
 | 0, _, _, _, _, _, _, _, _, _, _, _, _, _, _, _, _, _, _, _, _, _, _ => none
 | k + 1, x3, x4, x5, x14, x15, x19, x20, x21, x22, x92, x256000, x256001, x257000, x257001, x258000, x258001, x288000, x288001, x293000, x293001, x298000, x298001 => if x92 = true then (some false) else (laws_FnExactAfterMap.j6 k x3 x4 x5 x14 x15 x19 x20 x21 x22 x256000 x256001 x257000 x257001 x258000 x258001 x288000 x288001 x293000 x293001 x298000 x298001)
def laws_FnExactAfterMap.j6 : Nat → List Int → List Int → Bool → List Int → Bool → List Int → List Int → List Int → Bool → Int → List (S78) → Int → List (S78) → Int → List (S78) → Int → List (S78) → Int → List (S78) → Int → List (S78) → Option (Bool)
 | 0, _, _, _, _, _, _, _, _, _, _, _, _, _, _, _, _, _, _, _, _, _ => none
 | k + 1, x3, x4, x5, x14, x15, x19, x20, x21, x22, x256000, x256001, x257000, x257001, x258000, x258001, x288000, x288001, x293000, x293001, x298000, x298001 => (laws_toGraph.f k x256000 x256001).bind fun bt309 => ((laws_eqGraph.f k x288000 x288001 bt309.1 bt309.2).bind fun t313 => (if t313 = true then (laws_FnExactAfterMap.j7 k x3 x4 x5 x14 x15 x19 x20 x21 x22 x256000 x256001 x257000 x257001 x258000 x258001 x288000 x288001 x293000 x293001 x298000 x298001) else (some false)))
def laws_FnExactAfterMap.j7 : Nat → List Int → List Int → Bool → List Int → Bool → List Int → List Int → List Int → Bool → Int → List (S78) → Int → List (S78) → Int → List (S78) → Int → List (S78) → Int → List (S78) → Int → List (S78) → Option (Bool)
 | 0, _, _, _, _, _, _, _, _, _, _, _, _, _, _, _, _, _, _, _, _, _ => none
 | k + 1, x3, x4, x5, x14, x15, x19, x20, x21, x22, x256000, x256001, x257000, x257001, x258000, x258001, x288000, x288001, x293000, x293001, x298000, x298001 => (laws_toGraph.f k x257000 x257001).bind fun bt314 => ((laws_eqGraph.f k x293000 x293001 bt314.1 bt314.2).bind fun t318 => (if t318 = true then (laws_FnExactAfterMap.j8 k x3 x4 x5 x14 x15 x19 x20 x21 x22 x256000 x256001 x257000 x257001 x258000 x258001 x288000 x288001 x293000 x293001 x298000 x298001) else (some false)))
def laws_FnExactAfterMap.j8 : Nat → List Int → List Int → Bool → List Int → Bool → List Int → List Int → List Int → Bool → Int → List (S78) → Int → List (S78) → Int → List (S78) → Int → List (S78) → Int → List (S78) → Int → List (S78) → Option (Bool)
 | 0, _, _, _, _, _, _, _, _, _, _, _, _, _, _, _, _, _, _, _, _, _ => none
 | k + 1, x3, x4, x5, x14, x15, x19, x20, x21, x22, x256000, x256001, x257000, x257001, x258000, x258001, x288000, x288001, x293000, x293001, x298000, x298001 => (laws_toGraph.f k x258000 x258001).bind fun bt319 => ((laws_eqGraph.f k x298000 x298001 bt319.1 bt319.2).bind fun t323 => (if t323 = true then (laws_FnExactAfterMap.j9 k x3 x4 x5 x14 x15 x19 x20 x21 x22 x256000 x256001 x257000 x257001 x258000 x258001 x288000 x288001 x293000 x293001 x298000 x298001) else (some false)))
def laws_FnExactAfterMap.j9 : Nat → List Int → List Int → Bool → List Int → Bool → List Int → List Int → List Int → Bool → Int → List (S78) → Int → List (S78) → Int → List (S78) → Int → List (S78) → Int → List (S78) → Int → List (S78) → Option (Bool)
 | 0, _, _, _, _, _, _, _, _, _, _, _, _, _, _, _, _, _, _, _, _, _ => none
 | k + 1, x3, x4, x5, x14, x15, x19, x20, x21, x22, x256000, x256001, x257000, x257001, x258000, x258001, x288000, x288001, x293000, x293001, x298000, x298001 => (laws_toIntS.f k x3).bind fun t324 => ((laws_eqIntS.f k x19 t324).bind fun t327 => (if t327 = true then (laws_FnExactAfterMap.j10 k x3 x4 x5 x14 x15 x19 x20 x21 x22 x256000 x256001 x257000 x257001 x258000 x258001 x288000 x288001 x293000 x293001 x298000 x298001) else (some false)))
def laws_FnExactAfterMap.j10 : Nat → List Int → List Int → Bool → List Int → Bool → List Int → List Int → List Int → Bool → Int → List (S78) → Int → List (S78) → Int → List (S78) → Int → List (S78) → Int → List (S78) → Int → List (S78) → Option (Bool)
 | 0, _, _, _, _, _, _, _, _, _, _, _, _, _, _, _, _, _, _, _, _, _ => none
 | k + 1, x3, x4, x5, x14, x15, x19, x20, x21, x22, x256000, x256001, x257000, x257001, x258000, x258001, x288000, x288001, x293000, x293001, x298000, x298001 => (laws_toIntS.f k x4).bind fun t328 => ((laws_eqIntS.f k x20 t328).bind fun t331 => (if t331 = true then (laws_FnExactAfterMap.j11 k x3 x4 x5 x14 x15 x19 x20 x21 x22 x256000 x256001 x257000 x257001 x258000 x258001 x288000 x288001 x293000 x293001 x298000 x298001) else (some false)))
def laws_FnExactAfterMap.j11 : Nat → List Int → List Int → Bool → List Int → Bool → List Int → List Int → List Int → Bool → Int → List (S78) → Int → List (S78) → Int → List (S78) → Int → List (S78) → Int → List (S78) → Int → List (S78) → Option (Bool)
 | 0, _, _, _, _, _, _, _, _, _, _, _, _, _, _, _, _, _, _, _, _, _ => none
 | k + 1, x3, x4, x5, x14, x15, x19, x20, x21, x22, x256000, x256001, x257000, x257001, x258000, x258001, x288000, x288001, x293000, x293001, x298000, x298001 => (laws_markGraph.f k x288000 x288001 1).bind fun bt332 => ((laws_markGraph.f k x293000 x293001 bt332.1).bind fun bt334 => ((laws_markGraph.f k x298000 x298001 bt334.1).bind fun bt336 => ((laws_markIntS.f k x19 bt336.1).bind fun bt338 => ((laws_markIntS.f k x20 bt338.1).bind fun bt340 => (if bt340.1 < 0 then (laws_FnExactAfterMap.j12 k x3 x4 x5 x14 x15 x21 true x256000 x256001 x257000 x257001 x258000 x258001) else ((laws_eqIntS.f k x21 x14).bind fun t342 => (if t342 = true then (laws_FnExactAfterMap.j12 k x3 x4 x5 x14 x15 x21 (x22 != x15) x256000 x256001 x257000 x257001 x258000 x258001) else (laws_FnExactAfterMap.j12 k x3 x4 x5 x14 x15 x21 true x256000 x256001 x257000 x257001 x258000 x258001))))))))
def laws_FnExactAfterMap.j12 : Nat → List Int → List Int → Bool → List Int → Bool → List Int → Bool → Int → List (S78) → Int → List (S78) → Int → List (S78) → Option (Bool)
 | 0, _, _, _, _, _, _, _, _, _, _, _, _, _ => none
 | k + 1, x3, x4, x5, x14, x15, x21, x145, x256000, x256001, x257000, x257001, x258000, x258001 => if x145 = true then (some false) else (laws_FnExactAfterMap.j13 k x3 x4 x5 x14 x15 x21 x256000 x256001 x257000 x257001 x258000 x258001)
def laws_FnExactAfterMap.j13 : Nat → List Int → List Int → Bool → List Int → Bool → List Int → Int → List (S78) → Int → List (S78) → Int → List (S78) → Option (Bool)
 | 0, _, _, _, _, _, _, _, _, _, _, _, _ => none
 | k + 1, x3, x4, x5, x14, x15, x21, x256000, x256001, x257000, x257001, x258000, x258001 => (laws_markIntS.f k x21 1).bind fun bt343 => ((laws_heldIntS.f k bt343.2 1).bind fun t345 => (if t345 < 0 then (some false) else (laws_FnExactAfterMap.j14 k x3 x4 x5 x14 x15 bt343.2 bt343.1 t345 x256000 x256001 x257000 x257001 x258000 x258001)))
def laws_FnExactAfterMap.j14 : Nat → List Int → List Int → Bool → List Int → Bool → List Int → Int → Int → Int → List (S78) → Int → List (S78) → Int → List (S78) → Option (Bool)
 | 0, _, _, _, _, _, _, _, _, _, _, _, _, _, _ => none
 | k + 1, x3, x4, x5, x14, x15, x21, x24, x25, x256000, x256001, x257000, x257001, x258000, x258001 => if x25 = x24 then (laws_FnExactAfterMap.j15 k x3 x4 x5 x14 x15 x21 x24 x256000 x256001 x257000 x257001 x258000 x258001) else (some false)
def laws_FnExactAfterMap.j15 : Nat → List Int → List Int → Bool → List Int → Bool → List Int → Int → Int → List (S78) → Int → List (S78) → Int → List (S78) → Option (Bool)
 | 0, _, _, _, _, _, _, _, _, _, _, _, _, _ => none
 | k + 1, x3, x4, x5, x14, x15, x21, x24, x256000, x256001, x257000, x257001, x258000, x258001 => (laws_toGraph.f k x256000 x256001).bind fun bt346 => ((laws_toGraph.f k x257000 x257001).bind fun bt350 => ((laws_toGraph.f k x258000 x258001).bind fun bt354 => ((laws_toIntS.f k x3).bind fun t358 => ((laws_toIntS.f k x4).bind fun t361 => ((impl_AfterMap.f k bt346.1 bt346.2 bt350.1 bt350.2 bt354.1 bt354.2 t358 t361 x5).bind fun bt364 => ((laws_eqIntS.f k bt364.1 x14).bind fun t368 => (if t368 = true then (laws_FnExactAfterMap.j16 k x21 x24 (bt364.2 != x15)) else (laws_FnExactAfterMap.j16 k x21 x24 true))))))))
def laws_FnExactAfterMap.j16 : Nat → List Int → Int → Bool → Option (Bool)
 | 0, _, _, _ => none
 | k + 1, x21, x24, x180 => if x180 = true then (some false) else (laws_FnExactAfterMap.j17 k x21 x24)
def laws_FnExactAfterMap.j17 : Nat → List Int → Int → Option (Bool)
 | 0, _, _ => none
 | k + 1, x21, x24 => (laws_heldIntS.f k x21 1).bind fun t369 => (if t369 < 0 then (some false) else (if t369 = x24 then (some true) else (some false)))
end
def laws_FnExactAfterMap.f (k : Nat) (a0_0 : Int) (l0_1 : List (S78)) (a1_0 : Int) (l1_1 : List (S78)) (a2_0 : Int) (l2_1 : List (S78)) (l3 : List Int) (l4 : List Int) (a5 : Bool) : Option (Bool) := if (l3.length : Int) > 1048576 then (some true) else (laws_FnExactAfterMap.j0 k l3 l4 a5 a0_0 l0_1 a1_0 l1_1 a2_0 l2_1)
def laws_FnExactAfterMap.T15 : Bool × List (List Nat × List Nat) := (true, [([], []), ([0], [0]), ([], []), ([2, 1], [2]), ([], []), ([4, 3], [4]), ([], []), ([6, 5], [6]), ([], []), ([8, 7], [8]), ([], []), ([1, 3, 5, 7, 9, 10, 9], [1, 3, 5, 7, 9, 10]), ([11], [11]), ([12], [12]), ([12], [12]), ([13, 11, 0, 1, 2, 3, 4, 5, 6, 7, 8, 9, 10, 11, 12, 13], [13]), ([14, 15, 0, 1, 2, 3, 4, 5, 6, 7, 8, 9, 10, 11, 12, 13, 14, 15], [14])])
def laws_FnExactAfterMap.B15 : List Nat := [0, 1, 0, 7, 0, 31, 0, 127, 0, 511, 0, 2047, 4095, 8191, 8191, 16383, 65535]
theorem laws_FnExactAfterMap.tab15 : rtab .any (opsOf Try.f5 15) = laws_FnExactAfterMap.T15 := by kernel_rfl
theorem laws_FnExactAfterMap.bits15 : waitsOk laws_FnExactAfterMap.T15.2 laws_FnExactAfterMap.B15 = true := by kernel_rfl
def laws_FnExactAfterMap.T50 : Bool × List (List Nat × List Nat) := (true, [([], []), ([0], [0]), ([], []), ([2, 1], [2]), ([], []), ([4, 3], [4]), ([], []), ([6, 5], [6]), ([], []), ([8, 7], [8]), ([], []), ([1, 3, 5, 7, 9, 10, 9], [1, 3, 5, 7, 9, 10]), ([11], [11]), ([12], [12]), ([12], [12]), ([13, 11, 0, 1, 2, 3, 4, 5, 6, 7, 8, 9, 10, 11, 12, 13], [13]), ([14, 15, 0, 1, 2, 3, 4, 5, 6, 7, 8, 9, 10, 11, 12, 13, 14, 15], [14])])
def laws_FnExactAfterMap.B50 : List Nat := [0, 1, 0, 7, 0, 31, 0, 127, 0, 511, 0, 2047, 4095, 8191, 8191, 16383, 65535]
theorem laws_FnExactAfterMap.tab50 : rtab .any (opsOf Try.f5 50) = laws_FnExactAfterMap.T50 := by kernel_rfl
theorem laws_FnExactAfterMap.bits50 : waitsOk laws_FnExactAfterMap.T50.2 laws_FnExactAfterMap.B50 = true := by kernel_rfl
set_option maxHeartbeats 8000000 in
set_option maxRecDepth 100000 in
theorem laws_FnExactAfterMap.calls (k : Nat) (a0_0 : Int) (A0_1 : Option Addr) (c0_1 : Nat) (l0_1 : List (S78)) (a1_0 : Int) (A1_1 : Option Addr) (c1_1 : Nat) (l1_1 : List (S78)) (a2_0 : Int) (A2_1 : Option Addr) (c2_1 : Nat) (l2_1 : List (S78)) (A3 : Option Addr) (c3 : Nat) (l3 : List Int) (A4 : Option Addr) (c4 : Nat) (l4 : List Int) (a5 : Bool) (r : Bool) (w : World) (hr0_1 : Kd.C k78 w A0_1 l0_1.length l0_1) (hc0_1 : l0_1.length ≤ c0_1) (hr1_1 : Kd.C k78 w A1_1 l1_1.length l1_1) (hc1_1 : l1_1.length ≤ c1_1) (hr2_1 : Kd.C k78 w A2_1 l2_1.length l2_1) (hc2_1 : l2_1.length ≤ c2_1) (hr3 : Kd.C (Kd.int .i64) w A3 l3.length l3) (hc3 : l3.length ≤ c3) (hr4 : Kd.C (Kd.int .i64) w A4 l4.length l4) (hc4 : l4.length ≤ c4) (h : laws_FnExactAfterMap.f k a0_0 l0_1 a1_0 l1_1 a2_0 l2_1 l3 l4 a5 = some r) :
  Calls Try.prog 5 #[.agg #[.int .i64 a0_0, .slice A0_1 l0_1.length c0_1], .agg #[.int .i64 a1_0, .slice A1_1 l1_1.length c1_1], .agg #[.int .i64 a2_0, .slice A2_1 l2_1.length c2_1], .slice A3 l3.length c3, .slice A4 l4.length c4, .bool a5] w fun e w' => e = .returned (.bool r) ∧ Below w.heap.size w w' := by
 have hu24 := Try.underlying24
 have hu29 := Try.underlying29
 have HR0_1 := Aside0.mk hr0_1
 have HC0_1 := Aside0.mk hc0_1
 clear hr0_1 hc0_1
 have HR1_1 := Aside0.mk hr1_1
 have HC1_1 := Aside0.mk hc1_1
 clear hr1_1 hc1_1
 have HR2_1 := Aside0.mk hr2_1
 have HC2_1 := Aside0.mk hc2_1
 clear hr2_1 hc2_1
 have HR3 := Aside0.mk hr3
 have HC3 := Aside0.mk hc3
 clear hr3 hc3
 have HR4 := Aside0.mk hr4
 have HC4 := Aside0.mk hc4
 clear hr4 hc4
 have HB := Aside0.mk (Below.refl w.heap.size w)
 have H : (if (l3.length : Int) > 1048576 then (some true) else (laws_FnExactAfterMap.j0 k l3 l4 a5 a0_0 l0_1 a1_0 l1_1 a2_0 l2_1)) = some r := h
 clear h
 have HC7 := Aside0.mk H
 clear H
 go_enter Try.func5, Try.ntmps5
 go_upto_if 30 with (first | ((with_reducible refine gate_dst (N := 6) rfl ?_); refine box_event ?hg (N := 6) ?hd (cs := #[.int .i64 a0_0, .slice A0_1 l0_1.length c0_1]) (t := 24) ?hr ?_; (case hd => rfl); (case hg => rfl); (case hr => first | (go_simp; done) | (go_simp; rfl)); intro gb255 hg w8 hbox hb; have n_ := And.intro (Aside0.mk (below_step bl_ hb)) (And.intro (Aside0.mk (hbox)) (And.intro (Aside0.mk ((by rw [hg]; exact (below_size bl_) : w.heap.size ≤ gb255))) (Aside0.mk ((by rw [hg]; exact (below_size bl_) : w.heap.size ≤ gb255))))); clear HB; obtain ⟨HB, BK255, GW255, GE255⟩ := n_; clear hb hbox hg) | ((with_reducible refine gate_dst (N := 7) rfl ?_); refine box_event ?hg (N := 7) ?hd (cs := #[.int .i64 a1_0, .slice A1_1 l1_1.length c1_1]) (t := 24) ?hr ?_; (case hd => rfl); (case hg => rfl); (case hr => first | (go_simp; done) | (go_simp; rfl)); intro gb256 hg w9 hbox hb; have n_ := And.intro (Aside0.mk (blk_below (g := gb255) (o := .cells #[.int .i64 a0_0, .slice A0_1 l0_1.length c0_1] 24 (0, 0)) (bk_ BK255) hb)) (And.intro (Aside0.mk (below_step bg_ hb)) (And.intro (Aside0.mk (hbox)) (And.intro (Aside0.mk ((by rw [hg]; exact (below_size bg_) : w.heap.size ≤ gb256))) (And.intro (Aside0.mk ((by rw [hg]; exact (below_size bg_) : w.heap.size ≤ gb256))) (And.intro (Aside0.mk ((by rw [hg]; exact Nat.ne_of_lt (blk_lt (g := gb255) (o := .cells #[.int .i64 a0_0, .slice A0_1 l0_1.length c0_1] 24 (0, 0)) (bk_ BK255)) : gb255 ≠ gb256))) (Aside0.mk ((by rw [hg]; exact Nat.ne_of_gt (blk_lt (g := gb255) (o := .cells #[.int .i64 a0_0, .slice A0_1 l0_1.length c0_1] 24 (0, 0)) (bk_ BK255)) : gb256 ≠ gb255)))))))); clear BK255 HB; obtain ⟨BK255, HB, BK256, GW256, GE256, NB255_256, NB256_255⟩ := n_; clear hb hbox hg) | ((with_reducible refine gate_dst (N := 8) rfl ?_); refine box_event ?hg (N := 8) ?hd (cs := #[.int .i64 a2_0, .slice A2_1 l2_1.length c2_1]) (t := 24) ?hr ?_; (case hd => rfl); (case hg => rfl); (case hr => first | (go_simp; done) | (go_simp; rfl)); intro gb257 hg w10 hbox hb; have n_ := And.intro (Aside0.mk (blk_below (g := gb255) (o := .cells #[.int .i64 a0_0, .slice A0_1 l0_1.length c0_1] 24 (0, 0)) (bk_ BK255) hb)) (And.intro (Aside0.mk (blk_below (g := gb256) (o := .cells #[.int .i64 a1_0, .slice A1_1 l1_1.length c1_1] 24 (0, 0)) (bk_ BK256) hb)) (And.intro (Aside0.mk (below_step bg_ hb)) (And.intro (Aside0.mk (hbox)) (And.intro (Aside0.mk ((by rw [hg]; exact (below_size bg_) : w.heap.size ≤ gb257))) (And.intro (Aside0.mk ((by rw [hg]; exact (below_size bg_) : w.heap.size ≤ gb257))) (And.intro (Aside0.mk ((by rw [hg]; exact Nat.ne_of_lt (blk_lt (g := gb255) (o := .cells #[.int .i64 a0_0, .slice A0_1 l0_1.length c0_1] 24 (0, 0)) (bk_ BK255)) : gb255 ≠ gb257))) (And.intro (Aside0.mk ((by rw [hg]; exact Nat.ne_of_gt (blk_lt (g := gb255) (o := .cells #[.int .i64 a0_0, .slice A0_1 l0_1.length c0_1] 24 (0, 0)) (bk_ BK255)) : gb257 ≠ gb255))) (And.intro (Aside0.mk ((by rw [hg]; exact Nat.ne_of_lt (blk_lt (g := gb256) (o := .cells #[.int .i64 a1_0, .slice A1_1 l1_1.length c1_1] 24 (0, 0)) (bk_ BK256)) : gb256 ≠ gb257))) (Aside0.mk ((by rw [hg]; exact Nat.ne_of_gt (blk_lt (g := gb256) (o := .cells #[.int .i64 a1_0, .slice A1_1 l1_1.length c1_1] 24 (0, 0)) (bk_ BK256)) : gb257 ≠ gb256))))))))))); clear BK255 BK256 HB; obtain ⟨BK255, BK256, HB, BK257, GW257, GE257, NB255_257, NB257_255, NB256_257, NB257_256⟩ := n_; clear hb hbox hg))
 (try simp only [Act.put, List.setIfInBounds_toArray, List.set_cons_zero, List.set_cons_succ])
 go_cut [] (fun wc => ∃ (kq : Nat), Aside0 (laws_FnExactAfterMap.j0 kq l3 l4 a5 a0_0 l0_1 a1_0 l1_1 a2_0 l2_1 = some r) ∧ Aside0 (kq ≤ k) ∧ Aside0 (wc.heap[gb255]? = some (.cells #[.int .i64 a0_0, (.slice A0_1 l0_1.length c0_1)] 24 (0, 0))) ∧ Aside0 (wc.heap[gb256]? = some (.cells #[.int .i64 a1_0, (.slice A1_1 l1_1.length c1_1)] 24 (0, 0))) ∧ Aside0 (wc.heap[gb257]? = some (.cells #[.int .i64 a2_0, (.slice A2_1 l2_1.length c2_1)] 24 (0, 0))) ∧ Aside0 (Below w.heap.size w wc))
 case first =>
  have H := HC7.out
  clear HC7
  by_cases c11 : (l3.length : Int) > 1048576
  ·rw [if_pos c11] at H
   have c11b0 : decide (1048576 < (l3.length : Int)) = true := decide_eq_true c11
   have c11b1 : decide (1048576 < l3.length) = true := decide_eq_true (by omega)
   clear c11
   (first | rw [c11b0] | (simp only [i64_w, i32_w]; rw [c11b0]) | skip)
   obtain rfl := Option.some.inj H
   go_wp2
   go_ret
   exact ⟨by first | rfl | (simp [errW_none, errW_some] <;> rfl) | (simp [*, errW_none, errW_some] <;> rfl), by repeat (first | (with_reducible first | exact HB.out | apply below_alloc | apply pw_below_drewN | apply below_drew1 | refine below_set ?_ GE255.out | refine below_set ?_ GE256.out | refine below_set ?_ GE257.out) | exact HB.out)⟩
  ·rw [if_neg c11] at H
   have c11b0 : decide (1048576 < (l3.length : Int)) = false := decide_eq_false c11
   have c11b1 : decide (1048576 < l3.length) = false := decide_eq_false (by omega)
   clear c11
   (first | rw [c11b0] | (simp only [i64_w, i32_w]; rw [c11b0]) | skip)
   have H' := Aside0.mk H
   clear H
   go_wp2
   go_meet
   case rel => exact ⟨_, H', ⟨by first | omega | exact Nat.le_refl _⟩, ⟨bk_ BK255⟩, ⟨bk_ BK256⟩, ⟨bk_ BK257⟩, ⟨by repeat (first | (with_reducible first | exact HB.out | apply below_alloc | apply pw_below_drewN | apply below_drew1 | refine below_set ?_ GE255.out | refine below_set ?_ GE256.out | refine below_set ?_ GE257.out) | exact HB.out)⟩⟩
 clear HC7
 try clear c3
 try clear c4
 obtain ⟨kq, HA, HJ6, BK255, BK256, BK257, HB⟩ := hcut
 cases kq
 case zero => exact absurd HA.out (by simp [laws_FnExactAfterMap.j0])
 case' succ kj6 => skip
 as_aux_lemma =>
 have H := HA.out
 clear HA
 simp only [laws_FnExactAfterMap.j0] at H
 have HC12 := Aside0.mk H
 clear H
 go_upto_if 33 with (fail)
 go_cut [] (fun wc => ∃ (kq : Nat), Aside0 (laws_FnExactAfterMap.j1 kq l3 l4 a5 a0_0 l0_1 a1_0 l1_1 a2_0 l2_1 = some r) ∧ Aside0 (kq ≤ kj6) ∧ Aside0 (wc.heap[gb255]? = some (.cells #[.int .i64 a0_0, (.slice A0_1 l0_1.length c0_1)] 24 (0, 0))) ∧ Aside0 (wc.heap[gb256]? = some (.cells #[.int .i64 a1_0, (.slice A1_1 l1_1.length c1_1)] 24 (0, 0))) ∧ Aside0 (wc.heap[gb257]? = some (.cells #[.int .i64 a2_0, (.slice A2_1 l2_1.length c2_1)] 24 (0, 0))) ∧ Aside0 (Below w.heap.size w wc))
 case first =>
  have H := HC12.out
  clear HC12
  by_cases c13 : (l4.length : Int) > 1048576
  ·rw [if_pos c13] at H
   have c13b0 : decide (1048576 < (l4.length : Int)) = true := decide_eq_true c13
   have c13b1 : decide (1048576 < l4.length) = true := decide_eq_true (by omega)
   clear c13
   (first | rw [c13b0] | (simp only [i64_w, i32_w]; rw [c13b0]) | skip)
   obtain rfl := Option.some.inj H
   go_wp2
   go_ret
   exact ⟨by first | rfl | (simp [errW_none, errW_some] <;> rfl) | (simp [*, errW_none, errW_some] <;> rfl), by repeat (first | (with_reducible first | exact HB.out | apply below_alloc | apply pw_below_drewN | apply below_drew1 | refine below_set ?_ GE255.out | refine below_set ?_ GE256.out | refine below_set ?_ GE257.out) | exact HB.out)⟩
  ·rw [if_neg c13] at H
   have c13b0 : decide (1048576 < (l4.length : Int)) = false := decide_eq_false c13
   have c13b1 : decide (1048576 < l4.length) = false := decide_eq_false (by omega)
   clear c13
   (first | rw [c13b0] | (simp only [i64_w, i32_w]; rw [c13b0]) | skip)
   have H' := Aside0.mk H
   clear H
   go_wp2
   go_meet
   case rel => exact ⟨_, H', ⟨by have := HJ6.out; first | omega | exact Nat.le_refl _⟩, ⟨bk_ BK255⟩, ⟨bk_ BK256⟩, ⟨bk_ BK257⟩, ⟨by repeat (first | (with_reducible first | exact HB.out | apply below_alloc | apply pw_below_drewN | apply below_drew1 | refine below_set ?_ GE255.out | refine below_set ?_ GE256.out | refine below_set ?_ GE257.out) | exact HB.out)⟩⟩
 clear HC12
 obtain ⟨kq, HA, HJ11, BK255, BK256, BK257, HB⟩ := hcut
 cases kq
 case zero => exact absurd HA.out (by simp [laws_FnExactAfterMap.j1])
 case' succ kj11 => skip
 as_aux_lemma =>
 have H := HA.out
 clear HA
 simp only [laws_FnExactAfterMap.j1] at H
 replace H := Option.bind_eq_some_iff.mp H
 obtain ⟨t258, A140, H⟩ := H
 (try dsimp only at H)
 have A14 := Aside0.mk A140
 clear A140
 have HC15 := Aside0.mk H
 clear H
 have hnb16 := NB255_256.out
 have hnc16 := NB256_255.out
 have hnb17 := NB255_257.out
 have hnc17 := NB257_255.out
 have hcz18_0 : wc.cell? ⟨gb255, 0, none⟩ = some (.int .i64 a0_0) := (blk_cell BK255.out 0).trans rfl
 have hcz18_1 : wc.cell? ⟨gb255, 1, none⟩ = some (.slice A0_1 l0_1.length c0_1) := (blk_cell BK255.out 1).trans rfl
 have hfz18_0 := blk_frozen BK255.out 0
 have hfz18_1 := blk_frozen BK255.out 1
 go_upto_if 38 with (first | ((with_reducible refine gate_callee (f := 15) rfl ?_); refine gL_ (some 36) Try.func15 #[.agg #[.int .i64 a0_0, .slice A0_1 l0_1.length c0_1], .int .i64 1048576] ?_ rfl rfl; (with_reducible refine (laws_szGraph.calls a0_0 _ _ l0_1 1048576 t258 _ ?side1 ?side2 A14.out).mono ?_); (case side1 => exact cb_ HR0_1); (case side2 => exact HC0_1.out); rintro e w19 ⟨rfl, hb⟩; refine ⟨_, rfl, ?_⟩; have n_ := And.intro (Aside0.mk (blk_below (g := gb255) (o := .cells #[.int .i64 a0_0, .slice A0_1 l0_1.length c0_1] 24 (0, 0)) (bk_ BK255) hb)) (And.intro (Aside0.mk (blk_below (g := gb256) (o := .cells #[.int .i64 a1_0, .slice A1_1 l1_1.length c1_1] 24 (0, 0)) (bk_ BK256) hb)) (And.intro (Aside0.mk (blk_below (g := gb257) (o := .cells #[.int .i64 a2_0, .slice A2_1 l2_1.length c2_1] 24 (0, 0)) (bk_ BK257) hb)) (Aside0.mk (below_step bg_ hb)))); clear BK255 BK256 BK257 HB; obtain ⟨BK255, BK256, BK257, HB⟩ := n_; (try clear hb); (try clear hb2); (try clear hk); (try clear hi)))
 (try simp only [Act.put, List.setIfInBounds_toArray, List.set_cons_zero, List.set_cons_succ])
 go_cut [] (fun wc => ∃ (kq : Nat), Aside0 (laws_FnExactAfterMap.j2 kq l3 l4 a5 t258 a0_0 l0_1 a1_0 l1_1 a2_0 l2_1 = some r) ∧ Aside0 (kq ≤ kj11) ∧ Aside0 (wc.heap[gb255]? = some (.cells #[.int .i64 a0_0, (.slice A0_1 l0_1.length c0_1)] 24 (0, 0))) ∧ Aside0 (wc.heap[gb256]? = some (.cells #[.int .i64 a1_0, (.slice A1_1 l1_1.length c1_1)] 24 (0, 0))) ∧ Aside0 (wc.heap[gb257]? = some (.cells #[.int .i64 a2_0, (.slice A2_1 l2_1.length c2_1)] 24 (0, 0))) ∧ Aside0 (Below w.heap.size w wc))
 case first =>
  have H := HC15.out
  clear HC15
  by_cases c20 : t258 < 0
  ·rw [if_pos c20] at H
   have c20b0 : decide (t258 < 0) = true := decide_eq_true c20
   clear c20
   (first | rw [c20b0] | (simp only [i64_w, i32_w]; rw [c20b0]) | skip)
   obtain rfl := Option.some.inj H
   go_wp2
   go_ret
   exact ⟨by first | rfl | (simp [errW_none, errW_some] <;> rfl) | (simp [*, errW_none, errW_some] <;> rfl), by repeat (first | (with_reducible first | exact HB.out | apply below_alloc | apply pw_below_drewN | apply below_drew1 | refine below_set ?_ GE255.out | refine below_set ?_ GE256.out | refine below_set ?_ GE257.out) | exact HB.out)⟩
  ·rw [if_neg c20] at H
   have c20b0 : decide (t258 < 0) = false := decide_eq_false c20
   clear c20
   (first | rw [c20b0] | (simp only [i64_w, i32_w]; rw [c20b0]) | skip)
   have H' := Aside0.mk H
   clear H
   go_wp2
   go_meet
   case rel => exact ⟨_, H', ⟨by have := HJ6.out; have := HJ11.out; first | omega | exact Nat.le_refl _⟩, ⟨bk_ BK255⟩, ⟨bk_ BK256⟩, ⟨bk_ BK257⟩, ⟨by repeat (first | (with_reducible first | exact HB.out | apply below_alloc | apply pw_below_drewN | apply below_drew1 | refine below_set ?_ GE255.out | refine below_set ?_ GE256.out | refine below_set ?_ GE257.out) | exact HB.out)⟩⟩
 clear HC15
 try clear hcz18_0
 try clear hcz18_1
 try clear hfz18_0
 try clear hfz18_1
 obtain ⟨kq, HA, HJ14, BK255, BK256, BK257, HB⟩ := hcut
 cases kq
 case zero => exact absurd HA.out (by simp [laws_FnExactAfterMap.j2])
 case' succ kj14 => skip
 as_aux_lemma =>
 have H := HA.out
 clear HA
 simp only [laws_FnExactAfterMap.j2] at H
 replace H := Option.bind_eq_some_iff.mp H
 obtain ⟨t259, A210, H⟩ := H
 (try dsimp only at H)
 have A21 := Aside0.mk A210
 clear A210
 have HC22 := Aside0.mk H
 clear H
 have hnb23 := NB256_255.out
 have hnc23 := NB255_256.out
 have hnb24 := NB256_257.out
 have hnc24 := NB257_256.out
 have hcz25_0 : wc.cell? ⟨gb256, 0, none⟩ = some (.int .i64 a1_0) := (blk_cell BK256.out 0).trans rfl
 have hcz25_1 : wc.cell? ⟨gb256, 1, none⟩ = some (.slice A1_1 l1_1.length c1_1) := (blk_cell BK256.out 1).trans rfl
 have hfz25_0 := blk_frozen BK256.out 0
 have hfz25_1 := blk_frozen BK256.out 1
 go_upto_if 43 with (first | ((with_reducible refine gate_callee (f := 15) rfl ?_); refine gL_ (some 41) Try.func15 #[.agg #[.int .i64 a1_0, .slice A1_1 l1_1.length c1_1], .int .i64 t258] ?_ rfl rfl; (with_reducible refine (laws_szGraph.calls a1_0 _ _ l1_1 t258 t259 _ ?side1 ?side2 A21.out).mono ?_); (case side1 => exact cb_ HR1_1); (case side2 => exact HC1_1.out); rintro e w26 ⟨rfl, hb⟩; refine ⟨_, rfl, ?_⟩; have n_ := And.intro (Aside0.mk (blk_below (g := gb255) (o := .cells #[.int .i64 a0_0, .slice A0_1 l0_1.length c0_1] 24 (0, 0)) (bk_ BK255) hb)) (And.intro (Aside0.mk (blk_below (g := gb256) (o := .cells #[.int .i64 a1_0, .slice A1_1 l1_1.length c1_1] 24 (0, 0)) (bk_ BK256) hb)) (And.intro (Aside0.mk (blk_below (g := gb257) (o := .cells #[.int .i64 a2_0, .slice A2_1 l2_1.length c2_1] 24 (0, 0)) (bk_ BK257) hb)) (Aside0.mk (below_step bg_ hb)))); clear BK255 BK256 BK257 HB; obtain ⟨BK255, BK256, BK257, HB⟩ := n_; (try clear hb); (try clear hb2); (try clear hk); (try clear hi)))
 (try simp only [Act.put, List.setIfInBounds_toArray, List.set_cons_zero, List.set_cons_succ])
 go_cut [] (fun wc => ∃ (kq : Nat), Aside0 (laws_FnExactAfterMap.j3 kq l3 l4 a5 t259 a0_0 l0_1 a1_0 l1_1 a2_0 l2_1 = some r) ∧ Aside0 (kq ≤ kj14) ∧ Aside0 (wc.heap[gb255]? = some (.cells #[.int .i64 a0_0, (.slice A0_1 l0_1.length c0_1)] 24 (0, 0))) ∧ Aside0 (wc.heap[gb256]? = some (.cells #[.int .i64 a1_0, (.slice A1_1 l1_1.length c1_1)] 24 (0, 0))) ∧ Aside0 (wc.heap[gb257]? = some (.cells #[.int .i64 a2_0, (.slice A2_1 l2_1.length c2_1)] 24 (0, 0))) ∧ Aside0 (Below w.heap.size w wc))
 case first =>
  have H := HC22.out
  clear HC22
  by_cases c27 : t259 < 0
  ·rw [if_pos c27] at H
   have c27b0 : decide (t259 < 0) = true := decide_eq_true c27
   clear c27
   (first | rw [c27b0] | (simp only [i64_w, i32_w]; rw [c27b0]) | skip)
   obtain rfl := Option.some.inj H
   go_wp2
   go_ret
   exact ⟨by first | rfl | (simp [errW_none, errW_some] <;> rfl) | (simp [*, errW_none, errW_some] <;> rfl), by repeat (first | (with_reducible first | exact HB.out | apply below_alloc | apply pw_below_drewN | apply below_drew1 | refine below_set ?_ GE255.out | refine below_set ?_ GE256.out | refine below_set ?_ GE257.out) | exact HB.out)⟩
  ·rw [if_neg c27] at H
   have c27b0 : decide (t259 < 0) = false := decide_eq_false c27
   clear c27
   (first | rw [c27b0] | (simp only [i64_w, i32_w]; rw [c27b0]) | skip)
   have H' := Aside0.mk H
   clear H
   go_wp2
   go_meet
   case rel => exact ⟨_, H', ⟨by have := HJ6.out; have := HJ11.out; have := HJ14.out; first | omega | exact Nat.le_refl _⟩, ⟨bk_ BK255⟩, ⟨bk_ BK256⟩, ⟨bk_ BK257⟩, ⟨by repeat (first | (with_reducible first | exact HB.out | apply below_alloc | apply pw_below_drewN | apply below_drew1 | refine below_set ?_ GE255.out | refine below_set ?_ GE256.out | refine below_set ?_ GE257.out) | exact HB.out)⟩⟩
 clear HC22
 try clear hcz25_0
 try clear hcz25_1
 try clear hfz25_0
 try clear hfz25_1
 obtain ⟨kq, HA, HJ21, BK255, BK256, BK257, HB⟩ := hcut
 cases kq
 case zero => exact absurd HA.out (by simp [laws_FnExactAfterMap.j3])
 case' succ kj21 => skip
 as_aux_lemma =>
 have H := HA.out
 clear HA
 simp only [laws_FnExactAfterMap.j3] at H
 replace H := Option.bind_eq_some_iff.mp H
 obtain ⟨t260, A280, H⟩ := H
 (try dsimp only at H)
 have A28 := Aside0.mk A280
 clear A280
 have HC29 := Aside0.mk H
 clear H
 have hnb30 := NB257_255.out
 have hnc30 := NB255_257.out
 have hnb31 := NB257_256.out
 have hnc31 := NB256_257.out
 have hcz32_0 : wc.cell? ⟨gb257, 0, none⟩ = some (.int .i64 a2_0) := (blk_cell BK257.out 0).trans rfl
 have hcz32_1 : wc.cell? ⟨gb257, 1, none⟩ = some (.slice A2_1 l2_1.length c2_1) := (blk_cell BK257.out 1).trans rfl
 have hfz32_0 := blk_frozen BK257.out 0
 have hfz32_1 := blk_frozen BK257.out 1
 go_upto_if 48 with (first | ((with_reducible refine gate_callee (f := 15) rfl ?_); refine gL_ (some 46) Try.func15 #[.agg #[.int .i64 a2_0, .slice A2_1 l2_1.length c2_1], .int .i64 t259] ?_ rfl rfl; (with_reducible refine (laws_szGraph.calls a2_0 _ _ l2_1 t259 t260 _ ?side1 ?side2 A28.out).mono ?_); (case side1 => exact cb_ HR2_1); (case side2 => exact HC2_1.out); rintro e w33 ⟨rfl, hb⟩; refine ⟨_, rfl, ?_⟩; have n_ := And.intro (Aside0.mk (blk_below (g := gb255) (o := .cells #[.int .i64 a0_0, .slice A0_1 l0_1.length c0_1] 24 (0, 0)) (bk_ BK255) hb)) (And.intro (Aside0.mk (blk_below (g := gb256) (o := .cells #[.int .i64 a1_0, .slice A1_1 l1_1.length c1_1] 24 (0, 0)) (bk_ BK256) hb)) (And.intro (Aside0.mk (blk_below (g := gb257) (o := .cells #[.int .i64 a2_0, .slice A2_1 l2_1.length c2_1] 24 (0, 0)) (bk_ BK257) hb)) (Aside0.mk (below_step bg_ hb)))); clear BK255 BK256 BK257 HB; obtain ⟨BK255, BK256, BK257, HB⟩ := n_; (try clear hb); (try clear hb2); (try clear hk); (try clear hi)))
 (try simp only [Act.put, List.setIfInBounds_toArray, List.set_cons_zero, List.set_cons_succ])
 go_cut [] (fun wc => ∃ (kq : Nat), Aside0 (laws_FnExactAfterMap.j4 kq l3 l4 a5 a0_0 l0_1 a1_0 l1_1 a2_0 l2_1 = some r) ∧ Aside0 (kq ≤ kj21) ∧ Aside0 (wc.heap[gb255]? = some (.cells #[.int .i64 a0_0, (.slice A0_1 l0_1.length c0_1)] 24 (0, 0))) ∧ Aside0 (wc.heap[gb256]? = some (.cells #[.int .i64 a1_0, (.slice A1_1 l1_1.length c1_1)] 24 (0, 0))) ∧ Aside0 (wc.heap[gb257]? = some (.cells #[.int .i64 a2_0, (.slice A2_1 l2_1.length c2_1)] 24 (0, 0))) ∧ Aside0 (Below w.heap.size w wc))
 case first =>
  have H := HC29.out
  clear HC29
  by_cases c34 : t260 < 0
  ·rw [if_pos c34] at H
   have c34b0 : decide (t260 < 0) = true := decide_eq_true c34
   clear c34
   (first | rw [c34b0] | (simp only [i64_w, i32_w]; rw [c34b0]) | skip)
   obtain rfl := Option.some.inj H
   go_wp2
   go_ret
   exact ⟨by first | rfl | (simp [errW_none, errW_some] <;> rfl) | (simp [*, errW_none, errW_some] <;> rfl), by repeat (first | (with_reducible first | exact HB.out | apply below_alloc | apply pw_below_drewN | apply below_drew1 | refine below_set ?_ GE255.out | refine below_set ?_ GE256.out | refine below_set ?_ GE257.out) | exact HB.out)⟩
  ·rw [if_neg c34] at H
   have c34b0 : decide (t260 < 0) = false := decide_eq_false c34
   clear c34
   (first | rw [c34b0] | (simp only [i64_w, i32_w]; rw [c34b0]) | skip)
   have H' := Aside0.mk H
   clear H
   go_wp2
   go_meet
   case rel => exact ⟨_, H', ⟨by have := HJ6.out; have := HJ11.out; have := HJ14.out; have := HJ21.out; first | omega | exact Nat.le_refl _⟩, ⟨bk_ BK255⟩, ⟨bk_ BK256⟩, ⟨bk_ BK257⟩, ⟨by repeat (first | (with_reducible first | exact HB.out | apply below_alloc | apply pw_below_drewN | apply below_drew1 | refine below_set ?_ GE255.out | refine below_set ?_ GE256.out | refine below_set ?_ GE257.out) | exact HB.out)⟩⟩
 clear HC29
 try clear hcz32_0
 try clear hcz32_1
 try clear hfz32_0
 try clear hfz32_1
 obtain ⟨kq, HA, HJ28, BK255, BK256, BK257, HB⟩ := hcut
 cases kq
 case zero => exact absurd HA.out (by simp [laws_FnExactAfterMap.j4])
 case' succ kj28 => skip
 as_aux_lemma =>
 have H := HA.out
 clear HA
 simp only [laws_FnExactAfterMap.j4] at H
 replace H := Option.bind_eq_some_iff.mp H
 obtain ⟨⟨t261, t262⟩, A350, H⟩ := H
 (try dsimp only at H)
 have A35 := Aside0.mk A350
 clear A350
 replace H := Option.bind_eq_some_iff.mp H
 obtain ⟨⟨t265, t266⟩, A360, H⟩ := H
 (try dsimp only at H)
 have A36 := Aside0.mk A360
 clear A360
 replace H := Option.bind_eq_some_iff.mp H
 obtain ⟨⟨t269, t270⟩, A370, H⟩ := H
 (try dsimp only at H)
 have A37 := Aside0.mk A370
 clear A370
 replace H := Option.bind_eq_some_iff.mp H
 obtain ⟨t273, A380, H⟩ := H
 (try dsimp only at H)
 have A38 := Aside0.mk A380
 clear A380
 replace H := Option.bind_eq_some_iff.mp H
 obtain ⟨t276, A390, H⟩ := H
 (try dsimp only at H)
 have A39 := Aside0.mk A390
 clear A390
 replace H := Option.bind_eq_some_iff.mp H
 obtain ⟨⟨t279, t282⟩, A400, H⟩ := H
 (try dsimp only at H)
 have A40 := Aside0.mk A400
 clear A400
 replace H := Option.bind_eq_some_iff.mp H
 obtain ⟨⟨t283, t284⟩, A410, H⟩ := H
 (try dsimp only at H)
 have A41 := Aside0.mk A410
 clear A410
 replace H := Option.bind_eq_some_iff.mp H
 obtain ⟨⟨t288, t289⟩, A420, H⟩ := H
 (try dsimp only at H)
 have A42 := Aside0.mk A420
 clear A420
 replace H := Option.bind_eq_some_iff.mp H
 obtain ⟨⟨t293, t294⟩, A430, H⟩ := H
 (try dsimp only at H)
 have A43 := Aside0.mk A430
 clear A430
 replace H := Option.bind_eq_some_iff.mp H
 obtain ⟨t298, A440, H⟩ := H
 (try dsimp only at H)
 have A44 := Aside0.mk A440
 clear A440
 replace H := Option.bind_eq_some_iff.mp H
 obtain ⟨t301, A450, H⟩ := H
 (try dsimp only at H)
 have A45 := Aside0.mk A450
 clear A450
 replace H := Option.bind_eq_some_iff.mp H
 obtain ⟨⟨t304, t307⟩, A460, H⟩ := H
 (try dsimp only at H)
 have A46 := Aside0.mk A460
 clear A460
 have HC47 := Aside0.mk H
 clear H
 try go_wp2
 have n_ := And.intro (Aside0.mk (blk_drew BK255.out)) (And.intro (Aside0.mk (blk_drew BK256.out)) (And.intro (Aside0.mk (blk_drew BK257.out)) (Aside0.mk (below_drew1 HB.out))))
 clear BK255 BK256 BK257 HB; obtain ⟨BK255, BK256, BK257, HB⟩ := n_
 refine start_ (n := 17) (S := fun w' => w'.cell? ⟨gb255, 0, none⟩ = some (.int .i64 a0_0) ∧ w'.cell? ⟨gb255, 1, none⟩ = some (.slice A0_1 l0_1.length c0_1) ∧ w'.cell? ⟨gb256, 0, none⟩ = some (.int .i64 a1_0) ∧ w'.cell? ⟨gb256, 1, none⟩ = some (.slice A1_1 l1_1.length c1_1) ∧ w'.cell? ⟨gb257, 0, none⟩ = some (.int .i64 a2_0) ∧ w'.cell? ⟨gb257, 1, none⟩ = some (.slice A2_1 l2_1.length c2_1)) (ds := []) (bm 17 0) (by kernel_rfl) rfl rfl ⟨(blk_cell BK255.out 0).trans rfl, (blk_cell BK255.out 1).trans rfl, (blk_cell BK256.out 0).trans rfl, (blk_cell BK256.out 1).trans rfl, (blk_cell BK257.out 0).trans rfl, (blk_cell BK257.out 1).trans rfl⟩ (fun hHeld => ?_); refine with_tabW laws_FnExactAfterMap.tab15 laws_FnExactAfterMap.bits15 (fun HT_ HW_ => ?_)
 generalize wc.drew = w48 at BK255 BK256 BK257 HB hHeld ⊢
 refine pa_ 6 (some 56) (bm 17 64) rfl rfl HT_.out ?_
 refine pa_ 8 (some 58) (bm 17 320) rfl rfl HT_.out ?_
 refine pa_ 10 (some 60) (bm 17 1344) rfl rfl HT_.out ?_
 refine take_ (i := 0) (N := some 50) (v := ?_) (a' := ?_) (bm 17 1345) rfl rfl (take_ofW HT_.out HW_.out (by kernel_rfl)) (fun _ _ _ h => h) (Or.inl ⟨by rfl, ?_⟩) hHeld ?_ ?_
 rotate_left
 ·rintro w' ⟨s0, s1, s2, s3, s4, s5⟩
  go_simp
  with_reducible rfl
 rotate_left
 ·simp only [Act.put, List.setIfInBounds_toArray, List.set_cons_zero, List.set_cons_succ, i64_w, i32_w]
  rfl
 refine take_ (i := 2) (N := some 52) (v := ?_) (a' := ?_) (bm 17 1349) rfl rfl (take_ofW HT_.out HW_.out (by kernel_rfl)) (fun _ _ _ h => h) (Or.inl ⟨by rfl, ?_⟩) hHeld ?_ ?_
 rotate_left
 ·rintro w' ⟨s0, s1, s2, s3, s4, s5⟩
  go_simp
  with_reducible rfl
 rotate_left
 ·simp only [Act.put, List.setIfInBounds_toArray, List.set_cons_zero, List.set_cons_succ, i64_w, i32_w]
  rfl
 refine take_ (i := 4) (N := some 54) (v := ?_) (a' := ?_) (bm 17 1365) rfl rfl (take_ofW HT_.out HW_.out (by kernel_rfl)) (fun _ _ _ h => h) (Or.inl ⟨by rfl, ?_⟩) hHeld ?_ ?_
 rotate_left
 ·rintro w' ⟨s0, s1, s2, s3, s4, s5⟩
  go_simp
  with_reducible rfl
 rotate_left
 ·simp only [Act.put, List.setIfInBounds_toArray, List.set_cons_zero, List.set_cons_succ, i64_w, i32_w]
  rfl
 refine one_ (i := 1) (N := some 51) (bm 17 1367) rfl rfl (one_of HT_.out (by kernel_rfl)) (by decide) (fun K hK => ?_)
 refine goes_ Try.func17 (by kernel_rfl) rfl #[.agg #[.int .i64 a0_0, .slice A0_1 l0_1.length c0_1]] (by rfl) rfl rfl (by (try simp only [List.map_toArray, List.map_cons, List.map_nil]); first | done | rfl | (simp only [List.length_drop, List.length_take]; rfl)) ?_
 with_reducible refine (laws_toGraph.calls kj28 a0_0 _ _ l0_1 t261 t262 _ ?side1 ?side2 A35.out).mono ?_
 (case side1 => exact cb_ HR0_1)
 (case side2 => exact HC0_1.out)
 rintro e w49 ⟨v263, rfl, ho0, hb⟩
 refine ⟨_, rfl, ?_⟩
 have n_ := And.intro (Aside0.mk (Kd.R_lower ho0 (below_size bg_))) (And.intro (Aside0.mk (blk_below (g := gb255) (o := .cells #[.int .i64 a0_0, .slice A0_1 l0_1.length c0_1] 24 (0, 0)) (bk_ BK255) hb)) (And.intro (Aside0.mk (blk_below (g := gb256) (o := .cells #[.int .i64 a1_0, .slice A1_1 l1_1.length c1_1] 24 (0, 0)) (bk_ BK256) hb)) (And.intro (Aside0.mk (blk_below (g := gb257) (o := .cells #[.int .i64 a2_0, .slice A2_1 l2_1.length c2_1] 24 (0, 0)) (bk_ BK257) hb)) (Aside0.mk (below_step bg_ hb)))))
 clear BK255 BK256 BK257 HB; obtain ⟨HO264, BK255, BK256, BK257, HB⟩ := n_
 (try clear hb)
 (try clear hb2)
 (try clear hk)
 (try clear hi)
 (try clear ho0)
 refine hK.out _ _ ⟨(blk_cell BK255.out 0).trans rfl, (blk_cell BK255.out 1).trans rfl, (blk_cell BK256.out 0).trans rfl, (blk_cell BK256.out 1).trans rfl, (blk_cell BK257.out 0).trans rfl, (blk_cell BK257.out 1).trans rfl⟩ (fun hHeld => ?_)
 clear hK K
 refine norm_ (a' := ?_) ?_ ?_
 rotate_left
 ·show Act.put _ (some 51) _ = _
  simp only [Act.put, List.setIfInBounds_toArray, List.set_cons_zero, List.set_cons_succ, i64_w, i32_w]
  rfl
 refine one_ (i := 3) (N := some 53) (bm 17 1375) rfl rfl (one_of HT_.out (by kernel_rfl)) (by decide) (fun K hK => ?_)
 refine goes_ Try.func17 (by kernel_rfl) rfl #[.agg #[.int .i64 a1_0, .slice A1_1 l1_1.length c1_1]] (by rfl) rfl rfl (by (try simp only [List.map_toArray, List.map_cons, List.map_nil]); first | done | rfl | (simp only [List.length_drop, List.length_take]; rfl)) ?_
 with_reducible refine (laws_toGraph.calls kj28 a1_0 _ _ l1_1 t265 t266 _ ?side1 ?side2 A36.out).mono ?_
 (case side1 => exact cb_ HR1_1)
 (case side2 => exact HC1_1.out)
 rintro e w50 ⟨v267, rfl, ho0, hb⟩
 refine ⟨_, rfl, ?_⟩
 have n_ := And.intro (Aside0.mk (Kd.R_elder' (rk_ HO264) (Kd.R_base ho0) hb)) (And.intro (Aside0.mk (Kd.R_lower (Kd.R_new' ho0 (Kd.R_lt (rk_ HO264))) (below_size bg_))) (And.intro (Aside0.mk (blk_below (g := gb255) (o := .cells #[.int .i64 a0_0, .slice A0_1 l0_1.length c0_1] 24 (0, 0)) (bk_ BK255) hb)) (And.intro (Aside0.mk (blk_below (g := gb256) (o := .cells #[.int .i64 a1_0, .slice A1_1 l1_1.length c1_1] 24 (0, 0)) (bk_ BK256) hb)) (And.intro (Aside0.mk (blk_below (g := gb257) (o := .cells #[.int .i64 a2_0, .slice A2_1 l2_1.length c2_1] 24 (0, 0)) (bk_ BK257) hb)) (Aside0.mk (below_step bg_ hb))))))
 clear HO264 BK255 BK256 BK257 HB; obtain ⟨HO264, HO268, BK255, BK256, BK257, HB⟩ := n_
 (try clear hb)
 (try clear hb2)
 (try clear hk)
 (try clear hi)
 (try clear ho0)
 refine hK.out _ _ ⟨(blk_cell BK255.out 0).trans rfl, (blk_cell BK255.out 1).trans rfl, (blk_cell BK256.out 0).trans rfl, (blk_cell BK256.out 1).trans rfl, (blk_cell BK257.out 0).trans rfl, (blk_cell BK257.out 1).trans rfl⟩ (fun hHeld => ?_)
 clear hK K
 refine norm_ (a' := ?_) ?_ ?_
 rotate_left
 ·show Act.put _ (some 53) _ = _
  simp only [Act.put, List.setIfInBounds_toArray, List.set_cons_zero, List.set_cons_succ, i64_w, i32_w]
  rfl
 refine one_ (i := 5) (N := some 55) (bm 17 1407) rfl rfl (one_of HT_.out (by kernel_rfl)) (by decide) (fun K hK => ?_)
 refine goes_ Try.func17 (by kernel_rfl) rfl #[.agg #[.int .i64 a2_0, .slice A2_1 l2_1.length c2_1]] (by rfl) rfl rfl (by (try simp only [List.map_toArray, List.map_cons, List.map_nil]); first | done | rfl | (simp only [List.length_drop, List.length_take]; rfl)) ?_
 with_reducible refine (laws_toGraph.calls kj28 a2_0 _ _ l2_1 t269 t270 _ ?side1 ?side2 A37.out).mono ?_
 (case side1 => exact cb_ HR2_1)
 (case side2 => exact HC2_1.out)
 rintro e w51 ⟨v271, rfl, ho0, hb⟩
 refine ⟨_, rfl, ?_⟩
 have n_ := And.intro (Aside0.mk (Kd.R_elder' (rk_ HO264) (Kd.R_base ho0) hb)) (And.intro (Aside0.mk (Kd.R_elder' (rk_ HO268) (Kd.R_base ho0) hb)) (And.intro (Aside0.mk (Kd.R_lower (Kd.R_new' (Kd.R_new' ho0 (Kd.R_lt (rk_ HO264))) (Kd.R_lt (rk_ HO268))) (below_size bg_))) (And.intro (Aside0.mk (blk_below (g := gb255) (o := .cells #[.int .i64 a0_0, .slice A0_1 l0_1.length c0_1] 24 (0, 0)) (bk_ BK255) hb)) (And.intro (Aside0.mk (blk_below (g := gb256) (o := .cells #[.int .i64 a1_0, .slice A1_1 l1_1.length c1_1] 24 (0, 0)) (bk_ BK256) hb)) (And.intro (Aside0.mk (blk_below (g := gb257) (o := .cells #[.int .i64 a2_0, .slice A2_1 l2_1.length c2_1] 24 (0, 0)) (bk_ BK257) hb)) (Aside0.mk (below_step bg_ hb)))))))
 clear HO264 HO268 BK255 BK256 BK257 HB; obtain ⟨HO264, HO268, HO272, BK255, BK256, BK257, HB⟩ := n_
 (try clear hb)
 (try clear hb2)
 (try clear hk)
 (try clear hi)
 (try clear ho0)
 refine hK.out _ _ ⟨(blk_cell BK255.out 0).trans rfl, (blk_cell BK255.out 1).trans rfl, (blk_cell BK256.out 0).trans rfl, (blk_cell BK256.out 1).trans rfl, (blk_cell BK257.out 0).trans rfl, (blk_cell BK257.out 1).trans rfl⟩ (fun hHeld => ?_)
 clear hK K
 refine norm_ (a' := ?_) ?_ ?_
 rotate_left
 ·show Act.put _ (some 55) _ = _
  simp only [Act.put, List.setIfInBounds_toArray, List.set_cons_zero, List.set_cons_succ, i64_w, i32_w]
  rfl
 refine one_ (i := 7) (N := some 57) (bm 17 1535) rfl rfl (one_of HT_.out (by kernel_rfl)) (by decide) (fun K hK => ?_)
 refine goes_ Try.func18 (by kernel_rfl) rfl #[.slice A3 l3.length c3] (by rfl) rfl rfl (by (try simp only [List.map_toArray, List.map_cons, List.map_nil]); first | done | rfl | (simp only [List.length_drop, List.length_take]; rfl)) ?_
 with_reducible refine (laws_toIntS.calls kj28 _ _ l3 t273 _ ?side1 ?side2 A38.out).mono ?_
 (case side1 => exact cb_ HR3)
 (case side2 => exact HC3.out)
 rintro e w52 ⟨v274, rfl, ho0, hb⟩
 refine ⟨_, rfl, ?_⟩
 have n_ := And.intro (Aside0.mk (Kd.R_below (rk_ HO264) hb)) (And.intro (Aside0.mk (Kd.R_below (rk_ HO268) hb)) (And.intro (Aside0.mk (Kd.R_below (rk_ HO272) hb)) (And.intro (Aside0.mk (Kd.R_lower ho0 (below_size bg_))) (And.intro (Aside0.mk (blk_below (g := gb255) (o := .cells #[.int .i64 a0_0, .slice A0_1 l0_1.length c0_1] 24 (0, 0)) (bk_ BK255) hb)) (And.intro (Aside0.mk (blk_below (g := gb256) (o := .cells #[.int .i64 a1_0, .slice A1_1 l1_1.length c1_1] 24 (0, 0)) (bk_ BK256) hb)) (And.intro (Aside0.mk (blk_below (g := gb257) (o := .cells #[.int .i64 a2_0, .slice A2_1 l2_1.length c2_1] 24 (0, 0)) (bk_ BK257) hb)) (Aside0.mk (below_step bg_ hb))))))))
 clear HO264 HO268 HO272 BK255 BK256 BK257 HB; obtain ⟨HO264, HO268, HO272, HO275, BK255, BK256, BK257, HB⟩ := n_
 (try clear hb)
 (try clear hb2)
 (try clear hk)
 (try clear hi)
 (try clear ho0)
 refine hK.out _ _ ⟨(blk_cell BK255.out 0).trans rfl, (blk_cell BK255.out 1).trans rfl, (blk_cell BK256.out 0).trans rfl, (blk_cell BK256.out 1).trans rfl, (blk_cell BK257.out 0).trans rfl, (blk_cell BK257.out 1).trans rfl⟩ (fun hHeld => ?_)
 clear hK K
 refine norm_ (a' := ?_) ?_ ?_
 rotate_left
 ·show Act.put _ (some 57) _ = _
  simp only [Act.put, List.setIfInBounds_toArray, List.set_cons_zero, List.set_cons_succ, i64_w, i32_w]
  rfl
 refine one_ (i := 9) (N := some 59) (bm 17 2047) rfl rfl (one_of HT_.out (by kernel_rfl)) (by decide) (fun K hK => ?_)
 refine goes_ Try.func18 (by kernel_rfl) rfl #[.slice A4 l4.length c4] (by rfl) rfl rfl (by (try simp only [List.map_toArray, List.map_cons, List.map_nil]); first | done | rfl | (simp only [List.length_drop, List.length_take]; rfl)) ?_
 with_reducible refine (laws_toIntS.calls kj28 _ _ l4 t276 _ ?side1 ?side2 A39.out).mono ?_
 (case side1 => exact cb_ HR4)
 (case side2 => exact HC4.out)
 rintro e w53 ⟨v277, rfl, ho0, hb⟩
 refine ⟨_, rfl, ?_⟩
 have n_ := And.intro (Aside0.mk (Kd.R_below (rk_ HO264) hb)) (And.intro (Aside0.mk (Kd.R_below (rk_ HO268) hb)) (And.intro (Aside0.mk (Kd.R_below (rk_ HO272) hb)) (And.intro (Aside0.mk (Kd.R_elder' (rk_ HO275) (Kd.R_base ho0) hb)) (And.intro (Aside0.mk (Kd.R_lower (Kd.R_new' ho0 (Kd.R_lt (rk_ HO275))) (below_size bg_))) (And.intro (Aside0.mk (blk_below (g := gb255) (o := .cells #[.int .i64 a0_0, .slice A0_1 l0_1.length c0_1] 24 (0, 0)) (bk_ BK255) hb)) (And.intro (Aside0.mk (blk_below (g := gb256) (o := .cells #[.int .i64 a1_0, .slice A1_1 l1_1.length c1_1] 24 (0, 0)) (bk_ BK256) hb)) (And.intro (Aside0.mk (blk_below (g := gb257) (o := .cells #[.int .i64 a2_0, .slice A2_1 l2_1.length c2_1] 24 (0, 0)) (bk_ BK257) hb)) (Aside0.mk (below_step bg_ hb)))))))))
 clear HO264 HO268 HO272 HO275 BK255 BK256 BK257 HB; obtain ⟨HO264, HO268, HO272, HO275, HO278, BK255, BK256, BK257, HB⟩ := n_
 (try clear hb)
 (try clear hb2)
 (try clear hk)
 (try clear hi)
 (try clear ho0)
 obtain ⟨Ao54, co54, eo54⟩ := Kd.R_slice HO264.out
 (first | subst eo54 | (injection eo54 with f1_ f2_ f3_; have f4_ := f1_.symm; have f5_ := f3_.symm; clear f1_ f2_ f3_; subst f4_; subst f5_))
 obtain ⟨Ao55, co55, eo55⟩ := Kd.R_slice HO268.out
 (first | subst eo55 | (injection eo55 with f1_ f2_ f3_; have f4_ := f1_.symm; have f5_ := f3_.symm; clear f1_ f2_ f3_; subst f4_; subst f5_))
 obtain ⟨Ao56, co56, eo56⟩ := Kd.R_slice HO272.out
 (first | subst eo56 | (injection eo56 with f1_ f2_ f3_; have f4_ := f1_.symm; have f5_ := f3_.symm; clear f1_ f2_ f3_; subst f4_; subst f5_))
 obtain ⟨Ao57, co57, eo57⟩ := Kd.R_slice HO275.out
 (first | subst eo57 | (injection eo57 with f1_ f2_ f3_; have f4_ := f1_.symm; have f5_ := f3_.symm; clear f1_ f2_ f3_; subst f4_; subst f5_))
 obtain ⟨Ao58, co58, eo58⟩ := Kd.R_slice HO278.out
 (first | subst eo58 | (injection eo58 with f1_ f2_ f3_; have f4_ := f1_.symm; have f5_ := f3_.symm; clear f1_ f2_ f3_; subst f4_; subst f5_))
 refine hK.out _ _ ⟨(blk_cell BK255.out 0).trans rfl, (blk_cell BK255.out 1).trans rfl, (blk_cell BK256.out 0).trans rfl, (blk_cell BK256.out 1).trans rfl, (blk_cell BK257.out 0).trans rfl, (blk_cell BK257.out 1).trans rfl⟩ (fun hHeld => ?_)
 clear hK K
 refine norm_ (a' := ?_) ?_ ?_
 rotate_left
 ·show Act.put _ (some 59) _ = _
  simp only [Act.put, List.setIfInBounds_toArray, List.set_cons_zero, List.set_cons_succ, i64_w, i32_w]
  rfl
 refine one_ (i := 11) (N := some 61) (bm 17 4095) rfl rfl (one_of HT_.out (by kernel_rfl)) (by decide) (fun K hK => ?_)
 refine goes_ Try.func24 (by kernel_rfl) rfl #[.agg #[.int .i64 t261, .slice Ao54 t262.length co54], .agg #[.int .i64 t265, .slice Ao55 t266.length co55], .agg #[.int .i64 t269, .slice Ao56 t270.length co56], .slice Ao57 t273.length co57, .slice Ao58 t276.length co58, .bool a5] (by rfl) rfl rfl (by (try simp only [List.map_toArray, List.map_cons, List.map_nil]); first | done | rfl | (simp only [List.length_drop, List.length_take]; rfl)) ?_
 with_reducible refine (spec_AfterMap.calls kj28 t261 _ _ t262 t265 _ _ t266 t269 _ _ t270 _ _ t273 _ _ t276 a5 t279 t282 _ ?side1 ?side2 ?side3 ?side4 ?side5 ?side6 ?side7 ?side8 ?side9 ?side10 A40.out).mono ?_
 (case side1 => repeat (first | exact (Kd.R_reads' HO264.out).2.2 | (with_reducible refine Kd.C_alloc ?_ _) | (with_reducible refine Kd.C_drewN ?_ _) | (with_reducible refine Kd.C_drew ?_)))
 (case side2 => exact (Kd.R_reads' HO264.out).2.1)
 (case side3 => repeat (first | exact (Kd.R_reads' HO268.out).2.2 | (with_reducible refine Kd.C_alloc ?_ _) | (with_reducible refine Kd.C_drewN ?_ _) | (with_reducible refine Kd.C_drew ?_)))
 (case side4 => exact (Kd.R_reads' HO268.out).2.1)
 (case side5 => repeat (first | exact (Kd.R_reads' HO272.out).2.2 | (with_reducible refine Kd.C_alloc ?_ _) | (with_reducible refine Kd.C_drewN ?_ _) | (with_reducible refine Kd.C_drew ?_)))
 (case side6 => exact (Kd.R_reads' HO272.out).2.1)
 (case side7 => repeat (first | exact (Kd.R_reads' HO275.out).2.2 | (with_reducible refine Kd.C_alloc ?_ _) | (with_reducible refine Kd.C_drewN ?_ _) | (with_reducible refine Kd.C_drew ?_)))
 (case side8 => exact (Kd.R_reads' HO275.out).2.1)
 (case side9 => repeat (first | exact (Kd.R_reads' HO278.out).2.2 | (with_reducible refine Kd.C_alloc ?_ _) | (with_reducible refine Kd.C_drewN ?_ _) | (with_reducible refine Kd.C_drew ?_)))
 (case side10 => exact (Kd.R_reads' HO278.out).2.1)
 rintro e w59 ⟨v280, rfl, ho0, hb⟩
 refine ⟨_, rfl, ?_⟩
 have n_ := And.intro (Aside0.mk (Kd.R_below (rk_ HO264) hb)) (And.intro (Aside0.mk (Kd.R_below (rk_ HO268) hb)) (And.intro (Aside0.mk (Kd.R_below (rk_ HO272) hb)) (And.intro (Aside0.mk (Kd.R_elder' (rk_ HO275) (Kd.R_base ho0) hb)) (And.intro (Aside0.mk (Kd.R_elder' (rk_ HO278) (Kd.R_base ho0) hb)) (And.intro (Aside0.mk (Kd.R_lower (Kd.R_new' (Kd.R_new' ho0 (Kd.R_lt (rk_ HO275))) (Kd.R_lt (rk_ HO278))) (below_size bg_))) (And.intro (Aside0.mk (blk_below (g := gb255) (o := .cells #[.int .i64 a0_0, .slice A0_1 l0_1.length c0_1] 24 (0, 0)) (bk_ BK255) hb)) (And.intro (Aside0.mk (blk_below (g := gb256) (o := .cells #[.int .i64 a1_0, .slice A1_1 l1_1.length c1_1] 24 (0, 0)) (bk_ BK256) hb)) (And.intro (Aside0.mk (blk_below (g := gb257) (o := .cells #[.int .i64 a2_0, .slice A2_1 l2_1.length c2_1] 24 (0, 0)) (bk_ BK257) hb)) (Aside0.mk (below_step bg_ hb))))))))))
 clear HO264 HO268 HO272 HO275 HO278 BK255 BK256 BK257 HB; obtain ⟨HO264, HO268, HO272, HO275, HO278, HO281, BK255, BK256, BK257, HB⟩ := n_
 (try clear hb)
 (try clear hb2)
 (try clear hk)
 (try clear hi)
 (try clear ho0)
 refine hK.out _ _ ⟨(blk_cell BK255.out 0).trans rfl, (blk_cell BK255.out 1).trans rfl, (blk_cell BK256.out 0).trans rfl, (blk_cell BK256.out 1).trans rfl, (blk_cell BK257.out 0).trans rfl, (blk_cell BK257.out 1).trans rfl⟩ (fun hHeld => ?_)
 clear hK K
 refine norm_ (a' := ?_) ?_ ?_
 rotate_left
 ·show Act.put _ (some 61) _ = _
  simp only [Act.put, List.setIfInBounds_toArray, List.set_cons_zero, List.set_cons_succ, i64_w, i32_w]
  rfl
 refine pa_ 12 (some 49) (bm 17 8191) rfl rfl HT_.out ?_
 refine pa_ 13 (some 62) (bm 17 16383) rfl rfl HT_.out ?_
 refine pa_ 14 (some 63) (bm 17 32767) rfl rfl HT_.out ?_
 refine pa_ 15 (some 14) (bm 17 65535) rfl rfl HT_.out ?_
 refine pa_ 16 (some 15) (bm 17 131071) rfl rfl HT_.out ?_
 refine done_ (done_of HT_.out (by kernel_rfl)) ?_
 have hnb60 := NB255_256.out
 have hnc60 := NB256_255.out
 have hnb61 := NB255_257.out
 have hnc61 := NB257_255.out
 have hcz62_0 : w59.cell? ⟨gb255, 0, none⟩ = some (.int .i64 a0_0) := (blk_cell BK255.out 0).trans rfl
 have hcz62_1 : w59.cell? ⟨gb255, 1, none⟩ = some (.slice A0_1 l0_1.length c0_1) := (blk_cell BK255.out 1).trans rfl
 have hfz62_0 := blk_frozen BK255.out 0
 have hfz62_1 := blk_frozen BK255.out 1
 go_upto_region 22 with (first | ((with_reducible refine gate_callee (f := 17) rfl ?_); refine gL_ (some 65) Try.func17 #[.agg #[.int .i64 a0_0, .slice A0_1 l0_1.length c0_1]] ?_ rfl rfl; (with_reducible refine (laws_toGraph.calls kj28 a0_0 _ _ l0_1 t283 t284 _ ?side1 ?side2 A41.out).mono ?_); (case side1 => exact cb_ HR0_1); (case side2 => exact HC0_1.out); rintro e w63 ⟨v285, rfl, ho0, hb⟩; refine ⟨_, rfl, ?_⟩; have n_ := And.intro (Aside0.mk (Kd.R_elder' (rk_ HO264) (Kd.R_base ho0) hb)) (And.intro (Aside0.mk (Kd.R_elder' (rk_ HO268) (Kd.R_base ho0) hb)) (And.intro (Aside0.mk (Kd.R_elder' (rk_ HO272) (Kd.R_base ho0) hb)) (And.intro (Aside0.mk (Kd.R_below (rk_ HO275) hb)) (And.intro (Aside0.mk (Kd.R_below (rk_ HO278) hb)) (And.intro (Aside0.mk (Kd.R_below (rk_ HO281) hb)) (And.intro (Aside0.mk (Kd.R_lower (Kd.R_new' (Kd.R_new' (Kd.R_new' ho0 (Kd.R_lt (rk_ HO264))) (Kd.R_lt (rk_ HO268))) (Kd.R_lt (rk_ HO272))) (below_size bg_))) (And.intro (Aside0.mk (blk_below (g := gb255) (o := .cells #[.int .i64 a0_0, .slice A0_1 l0_1.length c0_1] 24 (0, 0)) (bk_ BK255) hb)) (And.intro (Aside0.mk (blk_below (g := gb256) (o := .cells #[.int .i64 a1_0, .slice A1_1 l1_1.length c1_1] 24 (0, 0)) (bk_ BK256) hb)) (And.intro (Aside0.mk (blk_below (g := gb257) (o := .cells #[.int .i64 a2_0, .slice A2_1 l2_1.length c2_1] 24 (0, 0)) (bk_ BK257) hb)) (Aside0.mk (below_step bg_ hb))))))))))); clear HO264 HO268 HO272 HO275 HO278 HO281 BK255 BK256 BK257 HB; obtain ⟨HO264, HO268, HO272, HO275, HO278, HO281, HO286, BK255, BK256, BK257, HB⟩ := n_; (try clear hb); (try clear hb2); (try clear hk); (try clear hi); (try clear ho0)) | ((with_reducible refine gate_dst (N := 16) rfl ?_); refine box_event ?hg (N := 16) ?hd (cs := #[.int .i64 0, .slice none 0 0]) (t := 29) ?hr ?_; (case hd => rfl); (case hg => rfl); (case hr => first | (go_simp; done) | (go_simp; rfl)); intro gb287 hg w64 hbox hb; have n_ := And.intro (Aside0.mk (Kd.R_below (rk_ HO264) hb)) (And.intro (Aside0.mk (Kd.R_below (rk_ HO268) hb)) (And.intro (Aside0.mk (Kd.R_below (rk_ HO272) hb)) (And.intro (Aside0.mk (Kd.R_below (rk_ HO275) hb)) (And.intro (Aside0.mk (Kd.R_below (rk_ HO278) hb)) (And.intro (Aside0.mk (Kd.R_below (rk_ HO281) hb)) (And.intro (Aside0.mk (Kd.R_below (rk_ HO286) hb)) (And.intro (Aside0.mk (blk_below (g := gb255) (o := .cells #[.int .i64 a0_0, .slice A0_1 l0_1.length c0_1] 24 (0, 0)) (bk_ BK255) hb)) (And.intro (Aside0.mk (blk_below (g := gb256) (o := .cells #[.int .i64 a1_0, .slice A1_1 l1_1.length c1_1] 24 (0, 0)) (bk_ BK256) hb)) (And.intro (Aside0.mk (blk_below (g := gb257) (o := .cells #[.int .i64 a2_0, .slice A2_1 l2_1.length c2_1] 24 (0, 0)) (bk_ BK257) hb)) (And.intro (Aside0.mk (below_step bg_ hb)) (And.intro (Aside0.mk (hbox)) (And.intro (Aside0.mk ((by rw [hg]; exact (below_size bg_) : w.heap.size ≤ gb287))) (And.intro (Aside0.mk ((by rw [hg]; exact (below_size bg_) : w.heap.size ≤ gb287))) (And.intro (Aside0.mk ((by rw [hg]; exact Nat.ne_of_lt (blk_lt (g := gb255) (o := .cells #[.int .i64 a0_0, .slice A0_1 l0_1.length c0_1] 24 (0, 0)) (bk_ BK255)) : gb255 ≠ gb287))) (And.intro (Aside0.mk ((by rw [hg]; exact Nat.ne_of_gt (blk_lt (g := gb255) (o := .cells #[.int .i64 a0_0, .slice A0_1 l0_1.length c0_1] 24 (0, 0)) (bk_ BK255)) : gb287 ≠ gb255))) (And.intro (Aside0.mk ((by rw [hg]; exact Nat.ne_of_lt (blk_lt (g := gb256) (o := .cells #[.int .i64 a1_0, .slice A1_1 l1_1.length c1_1] 24 (0, 0)) (bk_ BK256)) : gb256 ≠ gb287))) (And.intro (Aside0.mk ((by rw [hg]; exact Nat.ne_of_gt (blk_lt (g := gb256) (o := .cells #[.int .i64 a1_0, .slice A1_1 l1_1.length c1_1] 24 (0, 0)) (bk_ BK256)) : gb287 ≠ gb256))) (And.intro (Aside0.mk ((by rw [hg]; exact Nat.ne_of_lt (blk_lt (g := gb257) (o := .cells #[.int .i64 a2_0, .slice A2_1 l2_1.length c2_1] 24 (0, 0)) (bk_ BK257)) : gb257 ≠ gb287))) (Aside0.mk ((by rw [hg]; exact Nat.ne_of_gt (blk_lt (g := gb257) (o := .cells #[.int .i64 a2_0, .slice A2_1 l2_1.length c2_1] 24 (0, 0)) (bk_ BK257)) : gb287 ≠ gb257))))))))))))))))))))); clear HO264 HO268 HO272 HO275 HO278 HO281 HO286 BK255 BK256 BK257 HB; obtain ⟨HO264, HO268, HO272, HO275, HO278, HO281, HO286, BK255, BK256, BK257, HB, BK287, GW287, GE287, NB255_287, NB287_255, NB256_287, NB287_256, NB257_287, NB287_257⟩ := n_; clear hb hbox hg; have hnb65 := NB287_255.out; have hnc65 := NB255_287.out; have hnb66 := NB287_256.out; have hnc66 := NB256_287.out; have hnb67 := NB287_257.out; have hnc67 := NB257_287.out; have hcz68_0 : w64.cell? ⟨gb287, 0, none⟩ = some (.int .i64 0) := (blk_cell BK287.out 0).trans rfl; have hcz68_1 : w64.cell? ⟨gb287, 1, none⟩ = some (.slice none 0 0) := (blk_cell BK287.out 1).trans rfl; have hfz68_0 := blk_frozen BK287.out 0; have hfz68_1 := blk_frozen BK287.out 1; obtain ⟨Ao69, co69, eo69⟩ := Kd.R_slice HO286.out; subst eo69; have hnb70 := NB256_257.out; have hnc70 := NB257_256.out; have hcz71_0 : w64.cell? ⟨gb256, 0, none⟩ = some (.int .i64 a1_0) := (blk_cell BK256.out 0).trans rfl; have hcz71_1 : w64.cell? ⟨gb256, 1, none⟩ = some (.slice A1_1 l1_1.length c1_1) := (blk_cell BK256.out 1).trans rfl; have hfz71_0 := blk_frozen BK256.out 0; have hfz71_1 := blk_frozen BK256.out 1) | ((with_reducible refine gate_callee (f := 17) rfl ?_); refine gL_ (some 67) Try.func17 #[.agg #[.int .i64 a1_0, .slice A1_1 l1_1.length c1_1]] ?_ rfl rfl; (with_reducible refine (laws_toGraph.calls kj28 a1_0 _ _ l1_1 t288 t289 _ ?side1 ?side2 A42.out).mono ?_); (case side1 => exact Kd.C_below HR1_1.out bg_); (case side2 => exact HC1_1.out); rintro e w72 ⟨v290, rfl, ho0, hb⟩; refine ⟨_, rfl, ?_⟩; have n_ := And.intro (Aside0.mk (Kd.R_elder' (by (with_reducible repeat (first | apply Kd.R_alloc | apply Kd.R_drewN | apply Kd.R_drew)); exact (Kd.R_mono (Kd.R_far (p := ⟨gb287, 1, none⟩) (Kd.R_far (p := ⟨gb287, 0, none⟩) (Kd.R_types HO264.out BK287.out (by decide)) (fun _ hk => hk.2) (.int .i64 t283)) (fun _ hk => hk.2) (.slice Ao69 t284.length co69)) (fun _ h_ => h_.1))) (Kd.R_base ho0) hb)) (And.intro (Aside0.mk (Kd.R_elder' (by (with_reducible repeat (first | apply Kd.R_alloc | apply Kd.R_drewN | apply Kd.R_drew)); exact (Kd.R_mono (Kd.R_far (p := ⟨gb287, 1, none⟩) (Kd.R_far (p := ⟨gb287, 0, none⟩) (Kd.R_types HO268.out BK287.out (by decide)) (fun _ hk => hk.2) (.int .i64 t283)) (fun _ hk => hk.2) (.slice Ao69 t284.length co69)) (fun _ h_ => h_.1))) (Kd.R_base ho0) hb)) (And.intro (Aside0.mk (Kd.R_elder' (by (with_reducible repeat (first | apply Kd.R_alloc | apply Kd.R_drewN | apply Kd.R_drew)); exact (Kd.R_mono (Kd.R_far (p := ⟨gb287, 1, none⟩) (Kd.R_far (p := ⟨gb287, 0, none⟩) (Kd.R_types HO272.out BK287.out (by decide)) (fun _ hk => hk.2) (.int .i64 t283)) (fun _ hk => hk.2) (.slice Ao69 t284.length co69)) (fun _ h_ => h_.1))) (Kd.R_base ho0) hb)) (And.intro (Aside0.mk (Kd.R_below (by (with_reducible repeat (first | apply Kd.R_alloc | apply Kd.R_drewN | apply Kd.R_drew)); exact (Kd.R_mono (Kd.R_far (p := ⟨gb287, 1, none⟩) (Kd.R_far (p := ⟨gb287, 0, none⟩) (Kd.R_types HO275.out BK287.out (by decide)) (fun _ hk => hk.2) (.int .i64 t283)) (fun _ hk => hk.2) (.slice Ao69 t284.length co69)) (fun _ h_ => h_.1))) hb)) (And.intro (Aside0.mk (Kd.R_below (by (with_reducible repeat (first | apply Kd.R_alloc | apply Kd.R_drewN | apply Kd.R_drew)); exact (Kd.R_mono (Kd.R_far (p := ⟨gb287, 1, none⟩) (Kd.R_far (p := ⟨gb287, 0, none⟩) (Kd.R_types HO278.out BK287.out (by decide)) (fun _ hk => hk.2) (.int .i64 t283)) (fun _ hk => hk.2) (.slice Ao69 t284.length co69)) (fun _ h_ => h_.1))) hb)) (And.intro (Aside0.mk (Kd.R_below (by (with_reducible repeat (first | apply Kd.R_alloc | apply Kd.R_drewN | apply Kd.R_drew)); exact (Kd.R_mono (Kd.R_far (p := ⟨gb287, 1, none⟩) (Kd.R_far (p := ⟨gb287, 0, none⟩) (Kd.R_types HO281.out BK287.out (by decide)) (fun _ hk => hk.2) (.int .i64 t283)) (fun _ hk => hk.2) (.slice Ao69 t284.length co69)) (fun _ h_ => h_.1))) hb)) (And.intro (Aside0.mk (Kd.R_elder' (by (with_reducible repeat (first | apply Kd.R_alloc | apply Kd.R_drewN | apply Kd.R_drew)); exact (Kd.R_mono (Kd.R_far (p := ⟨gb287, 1, none⟩) (Kd.R_far (p := ⟨gb287, 0, none⟩) (Kd.R_types HO286.out BK287.out (by decide)) (fun _ hk => hk.2) (.int .i64 t283)) (fun _ hk => hk.2) (.slice Ao69 t284.length co69)) (fun _ h_ => h_.1))) (Kd.R_base ho0) hb)) (And.intro (Aside0.mk (Kd.R_lower (Kd.R_new' (Kd.R_new' (Kd.R_new' (Kd.R_new' ho0 (Kd.R_lt (by (with_reducible repeat (first | apply Kd.R_alloc | apply Kd.R_drewN | apply Kd.R_drew)); exact (Kd.R_mono (Kd.R_far (p := ⟨gb287, 1, none⟩) (Kd.R_far (p := ⟨gb287, 0, none⟩) (Kd.R_types HO264.out BK287.out (by decide)) (fun _ hk => hk.2) (.int .i64 t283)) (fun _ hk => hk.2) (.slice Ao69 t284.length co69)) (fun _ h_ => h_.1))))) (Kd.R_lt (by (with_reducible repeat (first | apply Kd.R_alloc | apply Kd.R_drewN | apply Kd.R_drew)); exact (Kd.R_mono (Kd.R_far (p := ⟨gb287, 1, none⟩) (Kd.R_far (p := ⟨gb287, 0, none⟩) (Kd.R_types HO268.out BK287.out (by decide)) (fun _ hk => hk.2) (.int .i64 t283)) (fun _ hk => hk.2) (.slice Ao69 t284.length co69)) (fun _ h_ => h_.1))))) (Kd.R_lt (by (with_reducible repeat (first | apply Kd.R_alloc | apply Kd.R_drewN | apply Kd.R_drew)); exact (Kd.R_mono (Kd.R_far (p := ⟨gb287, 1, none⟩) (Kd.R_far (p := ⟨gb287, 0, none⟩) (Kd.R_types HO272.out BK287.out (by decide)) (fun _ hk => hk.2) (.int .i64 t283)) (fun _ hk => hk.2) (.slice Ao69 t284.length co69)) (fun _ h_ => h_.1))))) (Kd.R_lt (by (with_reducible repeat (first | apply Kd.R_alloc | apply Kd.R_drewN | apply Kd.R_drew)); exact (Kd.R_mono (Kd.R_far (p := ⟨gb287, 1, none⟩) (Kd.R_far (p := ⟨gb287, 0, none⟩) (Kd.R_types HO286.out BK287.out (by decide)) (fun _ hk => hk.2) (.int .i64 t283)) (fun _ hk => hk.2) (.slice Ao69 t284.length co69)) (fun _ h_ => h_.1))))) (below_size bg_))) (And.intro (Aside0.mk (blk_below (g := gb255) (o := .cells #[.int .i64 a0_0, .slice A0_1 l0_1.length c0_1] 24 (0, 0)) (by (with_reducible repeat (first | refine blk_drewN ?_ _ | refine blk_drew ?_ | refine blk_alloc ?_ _)); refine blk_far ?_ NB255_287.out _; (with_reducible repeat (first | refine blk_drewN ?_ _ | refine blk_drew ?_ | refine blk_alloc ?_ _)); refine blk_far ?_ NB255_287.out _; (with_reducible repeat (first | refine blk_drewN ?_ _ | refine blk_drew ?_ | refine blk_alloc ?_ _)); exact BK255.out) hb)) (And.intro (Aside0.mk (blk_below (g := gb256) (o := .cells #[.int .i64 a1_0, .slice A1_1 l1_1.length c1_1] 24 (0, 0)) (by (with_reducible repeat (first | refine blk_drewN ?_ _ | refine blk_drew ?_ | refine blk_alloc ?_ _)); refine blk_far ?_ NB256_287.out _; (with_reducible repeat (first | refine blk_drewN ?_ _ | refine blk_drew ?_ | refine blk_alloc ?_ _)); refine blk_far ?_ NB256_287.out _; (with_reducible repeat (first | refine blk_drewN ?_ _ | refine blk_drew ?_ | refine blk_alloc ?_ _)); exact BK256.out) hb)) (And.intro (Aside0.mk (blk_below (g := gb257) (o := .cells #[.int .i64 a2_0, .slice A2_1 l2_1.length c2_1] 24 (0, 0)) (by (with_reducible repeat (first | refine blk_drewN ?_ _ | refine blk_drew ?_ | refine blk_alloc ?_ _)); refine blk_far ?_ NB257_287.out _; (with_reducible repeat (first | refine blk_drewN ?_ _ | refine blk_drew ?_ | refine blk_alloc ?_ _)); refine blk_far ?_ NB257_287.out _; (with_reducible repeat (first | refine blk_drewN ?_ _ | refine blk_drew ?_ | refine blk_alloc ?_ _)); exact BK257.out) hb)) (And.intro (Aside0.mk (blk_below (g := gb287) (o := .cells #[.int .i64 t283, .slice Ao69 t284.length co69] 29 (0, 0)) (by (with_reducible repeat (first | refine blk_drewN ?_ _ | refine blk_drew ?_ | refine blk_alloc ?_ _)); refine blk_put (cs := #[.int .i64 t283, .slice none 0 0]) ?_ 1 _ rfl; (with_reducible repeat (first | refine blk_drewN ?_ _ | refine blk_drew ?_ | refine blk_alloc ?_ _)); refine blk_put (cs := #[.int .i64 0, .slice none 0 0]) ?_ 0 _ rfl; (with_reducible repeat (first | refine blk_drewN ?_ _ | refine blk_drew ?_ | refine blk_alloc ?_ _)); exact BK287.out) hb)) (Aside0.mk (below_step bg_ hb))))))))))))); clear HO264 HO268 HO272 HO275 HO278 HO281 HO286 BK255 BK256 BK257 BK287 HB; obtain ⟨HO264, HO268, HO272, HO275, HO278, HO281, HO286, HO291, BK255, BK256, BK257, BK287, HB⟩ := n_; (try clear hb); (try clear hb2); (try clear hk); (try clear hi); (try clear ho0)) | ((with_reducible refine gate_dst (N := 17) rfl ?_); refine box_event ?hg (N := 17) ?hd (cs := #[.int .i64 0, .slice none 0 0]) (t := 29) ?hr ?_; (case hd => rfl); (case hg => rfl); (case hr => first | (go_simp; done) | (go_simp; rfl)); intro gb292 hg w73 hbox hb; have n_ := And.intro (Aside0.mk (Kd.R_below (rk_ HO264) hb)) (And.intro (Aside0.mk (Kd.R_below (rk_ HO268) hb)) (And.intro (Aside0.mk (Kd.R_below (rk_ HO272) hb)) (And.intro (Aside0.mk (Kd.R_below (rk_ HO275) hb)) (And.intro (Aside0.mk (Kd.R_below (rk_ HO278) hb)) (And.intro (Aside0.mk (Kd.R_below (rk_ HO281) hb)) (And.intro (Aside0.mk (Kd.R_below (rk_ HO286) hb)) (And.intro (Aside0.mk (Kd.R_below (rk_ HO291) hb)) (And.intro (Aside0.mk (blk_below (g := gb255) (o := .cells #[.int .i64 a0_0, .slice A0_1 l0_1.length c0_1] 24 (0, 0)) (bk_ BK255) hb)) (And.intro (Aside0.mk (blk_below (g := gb256) (o := .cells #[.int .i64 a1_0, .slice A1_1 l1_1.length c1_1] 24 (0, 0)) (bk_ BK256) hb)) (And.intro (Aside0.mk (blk_below (g := gb257) (o := .cells #[.int .i64 a2_0, .slice A2_1 l2_1.length c2_1] 24 (0, 0)) (bk_ BK257) hb)) (And.intro (Aside0.mk (blk_below (g := gb287) (o := .cells #[.int .i64 t283, .slice Ao69 t284.length co69] 29 (0, 0)) (bk_ BK287) hb)) (And.intro (Aside0.mk (below_step bg_ hb)) (And.intro (Aside0.mk (hbox)) (And.intro (Aside0.mk ((by rw [hg]; exact (below_size bg_) : w.heap.size ≤ gb292))) (And.intro (Aside0.mk ((by rw [hg]; exact (below_size bg_) : w.heap.size ≤ gb292))) (And.intro (Aside0.mk ((by rw [hg]; exact Nat.ne_of_lt (blk_lt (g := gb255) (o := .cells #[.int .i64 a0_0, .slice A0_1 l0_1.length c0_1] 24 (0, 0)) (bk_ BK255)) : gb255 ≠ gb292))) (And.intro (Aside0.mk ((by rw [hg]; exact Nat.ne_of_gt (blk_lt (g := gb255) (o := .cells #[.int .i64 a0_0, .slice A0_1 l0_1.length c0_1] 24 (0, 0)) (bk_ BK255)) : gb292 ≠ gb255))) (And.intro (Aside0.mk ((by rw [hg]; exact Nat.ne_of_lt (blk_lt (g := gb256) (o := .cells #[.int .i64 a1_0, .slice A1_1 l1_1.length c1_1] 24 (0, 0)) (bk_ BK256)) : gb256 ≠ gb292))) (And.intro (Aside0.mk ((by rw [hg]; exact Nat.ne_of_gt (blk_lt (g := gb256) (o := .cells #[.int .i64 a1_0, .slice A1_1 l1_1.length c1_1] 24 (0, 0)) (bk_ BK256)) : gb292 ≠ gb256))) (And.intro (Aside0.mk ((by rw [hg]; exact Nat.ne_of_lt (blk_lt (g := gb257) (o := .cells #[.int .i64 a2_0, .slice A2_1 l2_1.length c2_1] 24 (0, 0)) (bk_ BK257)) : gb257 ≠ gb292))) (And.intro (Aside0.mk ((by rw [hg]; exact Nat.ne_of_gt (blk_lt (g := gb257) (o := .cells #[.int .i64 a2_0, .slice A2_1 l2_1.length c2_1] 24 (0, 0)) (bk_ BK257)) : gb292 ≠ gb257))) (And.intro (Aside0.mk ((by rw [hg]; exact Nat.ne_of_lt (blk_lt (g := gb287) (o := .cells #[.int .i64 t283, .slice Ao69 t284.length co69] 29 (0, 0)) (bk_ BK287)) : gb287 ≠ gb292))) (Aside0.mk ((by rw [hg]; exact Nat.ne_of_gt (blk_lt (g := gb287) (o := .cells #[.int .i64 t283, .slice Ao69 t284.length co69] 29 (0, 0)) (bk_ BK287)) : gb292 ≠ gb287))))))))))))))))))))))))); clear HO264 HO268 HO272 HO275 HO278 HO281 HO286 HO291 BK255 BK256 BK257 BK287 HB; obtain ⟨HO264, HO268, HO272, HO275, HO278, HO281, HO286, HO291, BK255, BK256, BK257, BK287, HB, BK292, GW292, GE292, NB255_292, NB292_255, NB256_292, NB292_256, NB257_292, NB292_257, NB287_292, NB292_287⟩ := n_; clear hb hbox hg; have hnb74 := NB292_255.out; have hnc74 := NB255_292.out; have hnb75 := NB292_256.out; have hnc75 := NB256_292.out; have hnb76 := NB292_257.out; have hnc76 := NB257_292.out; have hnb77 := NB292_287.out; have hnc77 := NB287_292.out; have hcz78_0 : w73.cell? ⟨gb292, 0, none⟩ = some (.int .i64 0) := (blk_cell BK292.out 0).trans rfl; have hcz78_1 : w73.cell? ⟨gb292, 1, none⟩ = some (.slice none 0 0) := (blk_cell BK292.out 1).trans rfl; have hfz78_0 := blk_frozen BK292.out 0; have hfz78_1 := blk_frozen BK292.out 1; obtain ⟨Ao79, co79, eo79⟩ := Kd.R_slice HO291.out; subst eo79; have hcz80_0 : w73.cell? ⟨gb257, 0, none⟩ = some (.int .i64 a2_0) := (blk_cell BK257.out 0).trans rfl; have hcz80_1 : w73.cell? ⟨gb257, 1, none⟩ = some (.slice A2_1 l2_1.length c2_1) := (blk_cell BK257.out 1).trans rfl; have hfz80_0 := blk_frozen BK257.out 0; have hfz80_1 := blk_frozen BK257.out 1) | ((with_reducible refine gate_callee (f := 17) rfl ?_); refine gL_ (some 69) Try.func17 #[.agg #[.int .i64 a2_0, .slice A2_1 l2_1.length c2_1]] ?_ rfl rfl; (with_reducible refine (laws_toGraph.calls kj28 a2_0 _ _ l2_1 t293 t294 _ ?side1 ?side2 A43.out).mono ?_); (case side1 => exact Kd.C_below HR2_1.out bg_); (case side2 => exact HC2_1.out); rintro e w81 ⟨v295, rfl, ho0, hb⟩; refine ⟨_, rfl, ?_⟩; have n_ := And.intro (Aside0.mk (Kd.R_elder' (by (with_reducible repeat (first | apply Kd.R_alloc | apply Kd.R_drewN | apply Kd.R_drew)); exact (Kd.R_mono (Kd.R_far (p := ⟨gb292, 1, none⟩) (Kd.R_far (p := ⟨gb292, 0, none⟩) (Kd.R_types HO264.out BK292.out (by decide)) (fun _ hk => hk.2) (.int .i64 t288)) (fun _ hk => hk.2) (.slice Ao79 t289.length co79)) (fun _ h_ => h_.1))) (Kd.R_base ho0) hb)) (And.intro (Aside0.mk (Kd.R_elder' (by (with_reducible repeat (first | apply Kd.R_alloc | apply Kd.R_drewN | apply Kd.R_drew)); exact (Kd.R_mono (Kd.R_far (p := ⟨gb292, 1, none⟩) (Kd.R_far (p := ⟨gb292, 0, none⟩) (Kd.R_types HO268.out BK292.out (by decide)) (fun _ hk => hk.2) (.int .i64 t288)) (fun _ hk => hk.2) (.slice Ao79 t289.length co79)) (fun _ h_ => h_.1))) (Kd.R_base ho0) hb)) (And.intro (Aside0.mk (Kd.R_elder' (by (with_reducible repeat (first | apply Kd.R_alloc | apply Kd.R_drewN | apply Kd.R_drew)); exact (Kd.R_mono (Kd.R_far (p := ⟨gb292, 1, none⟩) (Kd.R_far (p := ⟨gb292, 0, none⟩) (Kd.R_types HO272.out BK292.out (by decide)) (fun _ hk => hk.2) (.int .i64 t288)) (fun _ hk => hk.2) (.slice Ao79 t289.length co79)) (fun _ h_ => h_.1))) (Kd.R_base ho0) hb)) (And.intro (Aside0.mk (Kd.R_below (by (with_reducible repeat (first | apply Kd.R_alloc | apply Kd.R_drewN | apply Kd.R_drew)); exact (Kd.R_mono (Kd.R_far (p := ⟨gb292, 1, none⟩) (Kd.R_far (p := ⟨gb292, 0, none⟩) (Kd.R_types HO275.out BK292.out (by decide)) (fun _ hk => hk.2) (.int .i64 t288)) (fun _ hk => hk.2) (.slice Ao79 t289.length co79)) (fun _ h_ => h_.1))) hb)) (And.intro (Aside0.mk (Kd.R_below (by (with_reducible repeat (first | apply Kd.R_alloc | apply Kd.R_drewN | apply Kd.R_drew)); exact (Kd.R_mono (Kd.R_far (p := ⟨gb292, 1, none⟩) (Kd.R_far (p := ⟨gb292, 0, none⟩) (Kd.R_types HO278.out BK292.out (by decide)) (fun _ hk => hk.2) (.int .i64 t288)) (fun _ hk => hk.2) (.slice Ao79 t289.length co79)) (fun _ h_ => h_.1))) hb)) (And.intro (Aside0.mk (Kd.R_below (by (with_reducible repeat (first | apply Kd.R_alloc | apply Kd.R_drewN | apply Kd.R_drew)); exact (Kd.R_mono (Kd.R_far (p := ⟨gb292, 1, none⟩) (Kd.R_far (p := ⟨gb292, 0, none⟩) (Kd.R_types HO281.out BK292.out (by decide)) (fun _ hk => hk.2) (.int .i64 t288)) (fun _ hk => hk.2) (.slice Ao79 t289.length co79)) (fun _ h_ => h_.1))) hb)) (And.intro (Aside0.mk (Kd.R_elder' (by (with_reducible repeat (first | apply Kd.R_alloc | apply Kd.R_drewN | apply Kd.R_drew)); exact (Kd.R_mono (Kd.R_far (p := ⟨gb292, 1, none⟩) (Kd.R_far (p := ⟨gb292, 0, none⟩) (Kd.R_types HO286.out BK292.out (by decide)) (fun _ hk => hk.2) (.int .i64 t288)) (fun _ hk => hk.2) (.slice Ao79 t289.length co79)) (fun _ h_ => h_.1))) (Kd.R_base ho0) hb)) (And.intro (Aside0.mk (Kd.R_elder' (by (with_reducible repeat (first | apply Kd.R_alloc | apply Kd.R_drewN | apply Kd.R_drew)); exact (Kd.R_mono (Kd.R_far (p := ⟨gb292, 1, none⟩) (Kd.R_far (p := ⟨gb292, 0, none⟩) (Kd.R_types HO291.out BK292.out (by decide)) (fun _ hk => hk.2) (.int .i64 t288)) (fun _ hk => hk.2) (.slice Ao79 t289.length co79)) (fun _ h_ => h_.1))) (Kd.R_base ho0) hb)) (And.intro (Aside0.mk (Kd.R_lower (Kd.R_new' (Kd.R_new' (Kd.R_new' (Kd.R_new' (Kd.R_new' ho0 (Kd.R_lt (by (with_reducible repeat (first | apply Kd.R_alloc | apply Kd.R_drewN | apply Kd.R_drew)); exact (Kd.R_mono (Kd.R_far (p := ⟨gb292, 1, none⟩) (Kd.R_far (p := ⟨gb292, 0, none⟩) (Kd.R_types HO264.out BK292.out (by decide)) (fun _ hk => hk.2) (.int .i64 t288)) (fun _ hk => hk.2) (.slice Ao79 t289.length co79)) (fun _ h_ => h_.1))))) (Kd.R_lt (by (with_reducible repeat (first | apply Kd.R_alloc | apply Kd.R_drewN | apply Kd.R_drew)); exact (Kd.R_mono (Kd.R_far (p := ⟨gb292, 1, none⟩) (Kd.R_far (p := ⟨gb292, 0, none⟩) (Kd.R_types HO268.out BK292.out (by decide)) (fun _ hk => hk.2) (.int .i64 t288)) (fun _ hk => hk.2) (.slice Ao79 t289.length co79)) (fun _ h_ => h_.1))))) (Kd.R_lt (by (with_reducible repeat (first | apply Kd.R_alloc | apply Kd.R_drewN | apply Kd.R_drew)); exact (Kd.R_mono (Kd.R_far (p := ⟨gb292, 1, none⟩) (Kd.R_far (p := ⟨gb292, 0, none⟩) (Kd.R_types HO272.out BK292.out (by decide)) (fun _ hk => hk.2) (.int .i64 t288)) (fun _ hk => hk.2) (.slice Ao79 t289.length co79)) (fun _ h_ => h_.1))))) (Kd.R_lt (by (with_reducible repeat (first | apply Kd.R_alloc | apply Kd.R_drewN | apply Kd.R_drew)); exact (Kd.R_mono (Kd.R_far (p := ⟨gb292, 1, none⟩) (Kd.R_far (p := ⟨gb292, 0, none⟩) (Kd.R_types HO286.out BK292.out (by decide)) (fun _ hk => hk.2) (.int .i64 t288)) (fun _ hk => hk.2) (.slice Ao79 t289.length co79)) (fun _ h_ => h_.1))))) (Kd.R_lt (by (with_reducible repeat (first | apply Kd.R_alloc | apply Kd.R_drewN | apply Kd.R_drew)); exact (Kd.R_mono (Kd.R_far (p := ⟨gb292, 1, none⟩) (Kd.R_far (p := ⟨gb292, 0, none⟩) (Kd.R_types HO291.out BK292.out (by decide)) (fun _ hk => hk.2) (.int .i64 t288)) (fun _ hk => hk.2) (.slice Ao79 t289.length co79)) (fun _ h_ => h_.1))))) (below_size bg_))) (And.intro (Aside0.mk (blk_below (g := gb255) (o := .cells #[.int .i64 a0_0, .slice A0_1 l0_1.length c0_1] 24 (0, 0)) (by (with_reducible repeat (first | refine blk_drewN ?_ _ | refine blk_drew ?_ | refine blk_alloc ?_ _)); refine blk_far ?_ NB255_292.out _; (with_reducible repeat (first | refine blk_drewN ?_ _ | refine blk_drew ?_ | refine blk_alloc ?_ _)); refine blk_far ?_ NB255_292.out _; (with_reducible repeat (first | refine blk_drewN ?_ _ | refine blk_drew ?_ | refine blk_alloc ?_ _)); exact BK255.out) hb)) (And.intro (Aside0.mk (blk_below (g := gb256) (o := .cells #[.int .i64 a1_0, .slice A1_1 l1_1.length c1_1] 24 (0, 0)) (by (with_reducible repeat (first | refine blk_drewN ?_ _ | refine blk_drew ?_ | refine blk_alloc ?_ _)); refine blk_far ?_ NB256_292.out _; (with_reducible repeat (first | refine blk_drewN ?_ _ | refine blk_drew ?_ | refine blk_alloc ?_ _)); refine blk_far ?_ NB256_292.out _; (with_reducible repeat (first | refine blk_drewN ?_ _ | refine blk_drew ?_ | refine blk_alloc ?_ _)); exact BK256.out) hb)) (And.intro (Aside0.mk (blk_below (g := gb257) (o := .cells #[.int .i64 a2_0, .slice A2_1 l2_1.length c2_1] 24 (0, 0)) (by (with_reducible repeat (first | refine blk_drewN ?_ _ | refine blk_drew ?_ | refine blk_alloc ?_ _)); refine blk_far ?_ NB257_292.out _; (with_reducible repeat (first | refine blk_drewN ?_ _ | refine blk_drew ?_ | refine blk_alloc ?_ _)); refine blk_far ?_ NB257_292.out _; (with_reducible repeat (first | refine blk_drewN ?_ _ | refine blk_drew ?_ | refine blk_alloc ?_ _)); exact BK257.out) hb)) (And.intro (Aside0.mk (blk_below (g := gb287) (o := .cells #[.int .i64 t283, .slice Ao69 t284.length co69] 29 (0, 0)) (by (with_reducible repeat (first | refine blk_drewN ?_ _ | refine blk_drew ?_ | refine blk_alloc ?_ _)); refine blk_far ?_ NB287_292.out _; (with_reducible repeat (first | refine blk_drewN ?_ _ | refine blk_drew ?_ | refine blk_alloc ?_ _)); refine blk_far ?_ NB287_292.out _; (with_reducible repeat (first | refine blk_drewN ?_ _ | refine blk_drew ?_ | refine blk_alloc ?_ _)); exact BK287.out) hb)) (And.intro (Aside0.mk (blk_below (g := gb292) (o := .cells #[.int .i64 t288, .slice Ao79 t289.length co79] 29 (0, 0)) (by (with_reducible repeat (first | refine blk_drewN ?_ _ | refine blk_drew ?_ | refine blk_alloc ?_ _)); refine blk_put (cs := #[.int .i64 t288, .slice none 0 0]) ?_ 1 _ rfl; (with_reducible repeat (first | refine blk_drewN ?_ _ | refine blk_drew ?_ | refine blk_alloc ?_ _)); refine blk_put (cs := #[.int .i64 0, .slice none 0 0]) ?_ 0 _ rfl; (with_reducible repeat (first | refine blk_drewN ?_ _ | refine blk_drew ?_ | refine blk_alloc ?_ _)); exact BK292.out) hb)) (Aside0.mk (below_step bg_ hb))))))))))))))); clear HO264 HO268 HO272 HO275 HO278 HO281 HO286 HO291 BK255 BK256 BK257 BK287 BK292 HB; obtain ⟨HO264, HO268, HO272, HO275, HO278, HO281, HO286, HO291, HO296, BK255, BK256, BK257, BK287, BK292, HB⟩ := n_; (try clear hb); (try clear hb2); (try clear hk); (try clear hi); (try clear ho0)) | ((with_reducible refine gate_dst (N := 18) rfl ?_); refine box_event ?hg (N := 18) ?hd (cs := #[.int .i64 0, .slice none 0 0]) (t := 29) ?hr ?_; (case hd => rfl); (case hg => rfl); (case hr => first | (go_simp; done) | (go_simp; rfl)); intro gb297 hg w82 hbox hb; have n_ := And.intro (Aside0.mk (Kd.R_below (rk_ HO264) hb)) (And.intro (Aside0.mk (Kd.R_below (rk_ HO268) hb)) (And.intro (Aside0.mk (Kd.R_below (rk_ HO272) hb)) (And.intro (Aside0.mk (Kd.R_below (rk_ HO275) hb)) (And.intro (Aside0.mk (Kd.R_below (rk_ HO278) hb)) (And.intro (Aside0.mk (Kd.R_below (rk_ HO281) hb)) (And.intro (Aside0.mk (Kd.R_below (rk_ HO286) hb)) (And.intro (Aside0.mk (Kd.R_below (rk_ HO291) hb)) (And.intro (Aside0.mk (Kd.R_below (rk_ HO296) hb)) (And.intro (Aside0.mk (blk_below (g := gb255) (o := .cells #[.int .i64 a0_0, .slice A0_1 l0_1.length c0_1] 24 (0, 0)) (bk_ BK255) hb)) (And.intro (Aside0.mk (blk_below (g := gb256) (o := .cells #[.int .i64 a1_0, .slice A1_1 l1_1.length c1_1] 24 (0, 0)) (bk_ BK256) hb)) (And.intro (Aside0.mk (blk_below (g := gb257) (o := .cells #[.int .i64 a2_0, .slice A2_1 l2_1.length c2_1] 24 (0, 0)) (bk_ BK257) hb)) (And.intro (Aside0.mk (blk_below (g := gb287) (o := .cells #[.int .i64 t283, .slice Ao69 t284.length co69] 29 (0, 0)) (bk_ BK287) hb)) (And.intro (Aside0.mk (blk_below (g := gb292) (o := .cells #[.int .i64 t288, .slice Ao79 t289.length co79] 29 (0, 0)) (bk_ BK292) hb)) (And.intro (Aside0.mk (below_step bg_ hb)) (And.intro (Aside0.mk (hbox)) (And.intro (Aside0.mk ((by rw [hg]; exact (below_size bg_) : w.heap.size ≤ gb297))) (And.intro (Aside0.mk ((by rw [hg]; exact (below_size bg_) : w.heap.size ≤ gb297))) (And.intro (Aside0.mk ((by rw [hg]; exact Nat.ne_of_lt (blk_lt (g := gb255) (o := .cells #[.int .i64 a0_0, .slice A0_1 l0_1.length c0_1] 24 (0, 0)) (bk_ BK255)) : gb255 ≠ gb297))) (And.intro (Aside0.mk ((by rw [hg]; exact Nat.ne_of_gt (blk_lt (g := gb255) (o := .cells #[.int .i64 a0_0, .slice A0_1 l0_1.length c0_1] 24 (0, 0)) (bk_ BK255)) : gb297 ≠ gb255))) (And.intro (Aside0.mk ((by rw [hg]; exact Nat.ne_of_lt (blk_lt (g := gb256) (o := .cells #[.int .i64 a1_0, .slice A1_1 l1_1.length c1_1] 24 (0, 0)) (bk_ BK256)) : gb256 ≠ gb297))) (And.intro (Aside0.mk ((by rw [hg]; exact Nat.ne_of_gt (blk_lt (g := gb256) (o := .cells #[.int .i64 a1_0, .slice A1_1 l1_1.length c1_1] 24 (0, 0)) (bk_ BK256)) : gb297 ≠ gb256))) (And.intro (Aside0.mk ((by rw [hg]; exact Nat.ne_of_lt (blk_lt (g := gb257) (o := .cells #[.int .i64 a2_0, .slice A2_1 l2_1.length c2_1] 24 (0, 0)) (bk_ BK257)) : gb257 ≠ gb297))) (And.intro (Aside0.mk ((by rw [hg]; exact Nat.ne_of_gt (blk_lt (g := gb257) (o := .cells #[.int .i64 a2_0, .slice A2_1 l2_1.length c2_1] 24 (0, 0)) (bk_ BK257)) : gb297 ≠ gb257))) (And.intro (Aside0.mk ((by rw [hg]; exact Nat.ne_of_lt (blk_lt (g := gb287) (o := .cells #[.int .i64 t283, .slice Ao69 t284.length co69] 29 (0, 0)) (bk_ BK287)) : gb287 ≠ gb297))) (And.intro (Aside0.mk ((by rw [hg]; exact Nat.ne_of_gt (blk_lt (g := gb287) (o := .cells #[.int .i64 t283, .slice Ao69 t284.length co69] 29 (0, 0)) (bk_ BK287)) : gb297 ≠ gb287))) (And.intro (Aside0.mk ((by rw [hg]; exact Nat.ne_of_lt (blk_lt (g := gb292) (o := .cells #[.int .i64 t288, .slice Ao79 t289.length co79] 29 (0, 0)) (bk_ BK292)) : gb292 ≠ gb297))) (Aside0.mk ((by rw [hg]; exact Nat.ne_of_gt (blk_lt (g := gb292) (o := .cells #[.int .i64 t288, .slice Ao79 t289.length co79] 29 (0, 0)) (bk_ BK292)) : gb297 ≠ gb292))))))))))))))))))))))))))))); clear HO264 HO268 HO272 HO275 HO278 HO281 HO286 HO291 HO296 BK255 BK256 BK257 BK287 BK292 HB; obtain ⟨HO264, HO268, HO272, HO275, HO278, HO281, HO286, HO291, HO296, BK255, BK256, BK257, BK287, BK292, HB, BK297, GW297, GE297, NB255_297, NB297_255, NB256_297, NB297_256, NB257_297, NB297_257, NB287_297, NB297_287, NB292_297, NB297_292⟩ := n_; clear hb hbox hg; have hnb83 := NB297_255.out; have hnc83 := NB255_297.out; have hnb84 := NB297_256.out; have hnc84 := NB256_297.out; have hnb85 := NB297_257.out; have hnc85 := NB257_297.out; have hnb86 := NB297_287.out; have hnc86 := NB287_297.out; have hnb87 := NB297_292.out; have hnc87 := NB292_297.out; have hcz88_0 : w82.cell? ⟨gb297, 0, none⟩ = some (.int .i64 0) := (blk_cell BK297.out 0).trans rfl; have hcz88_1 : w82.cell? ⟨gb297, 1, none⟩ = some (.slice none 0 0) := (blk_cell BK297.out 1).trans rfl; have hfz88_0 := blk_frozen BK297.out 0; have hfz88_1 := blk_frozen BK297.out 1; obtain ⟨Ao89, co89, eo89⟩ := Kd.R_slice HO296.out; subst eo89) | ((with_reducible refine gate_callee (f := 18) rfl ?_); refine gL_ (some 71) Try.func18 #[.slice A3 l3.length c3] ?_ rfl rfl; (with_reducible refine (laws_toIntS.calls kj28 _ _ l3 t298 _ ?side1 ?side2 A44.out).mono ?_); (case side1 => exact Kd.C_below HR3.out bg_); (case side2 => exact HC3.out); rintro e w90 ⟨v299, rfl, ho0, hb⟩; refine ⟨_, rfl, ?_⟩; have n_ := And.intro (Aside0.mk (Kd.R_below (by (with_reducible repeat (first | apply Kd.R_alloc | apply Kd.R_drewN | apply Kd.R_drew)); exact (Kd.R_mono (Kd.R_far (p := ⟨gb297, 1, none⟩) (Kd.R_far (p := ⟨gb297, 0, none⟩) (Kd.R_types HO264.out BK297.out (by decide)) (fun _ hk => hk.2) (.int .i64 t293)) (fun _ hk => hk.2) (.slice Ao89 t294.length co89)) (fun _ h_ => h_.1))) hb)) (And.intro (Aside0.mk (Kd.R_below (by (with_reducible repeat (first | apply Kd.R_alloc | apply Kd.R_drewN | apply Kd.R_drew)); exact (Kd.R_mono (Kd.R_far (p := ⟨gb297, 1, none⟩) (Kd.R_far (p := ⟨gb297, 0, none⟩) (Kd.R_types HO268.out BK297.out (by decide)) (fun _ hk => hk.2) (.int .i64 t293)) (fun _ hk => hk.2) (.slice Ao89 t294.length co89)) (fun _ h_ => h_.1))) hb)) (And.intro (Aside0.mk (Kd.R_below (by (with_reducible repeat (first | apply Kd.R_alloc | apply Kd.R_drewN | apply Kd.R_drew)); exact (Kd.R_mono (Kd.R_far (p := ⟨gb297, 1, none⟩) (Kd.R_far (p := ⟨gb297, 0, none⟩) (Kd.R_types HO272.out BK297.out (by decide)) (fun _ hk => hk.2) (.int .i64 t293)) (fun _ hk => hk.2) (.slice Ao89 t294.length co89)) (fun _ h_ => h_.1))) hb)) (And.intro (Aside0.mk (Kd.R_elder' (by (with_reducible repeat (first | apply Kd.R_alloc | apply Kd.R_drewN | apply Kd.R_drew)); exact (Kd.R_mono (Kd.R_far (p := ⟨gb297, 1, none⟩) (Kd.R_far (p := ⟨gb297, 0, none⟩) (Kd.R_types HO275.out BK297.out (by decide)) (fun _ hk => hk.2) (.int .i64 t293)) (fun _ hk => hk.2) (.slice Ao89 t294.length co89)) (fun _ h_ => h_.1))) (Kd.R_base ho0) hb)) (And.intro (Aside0.mk (Kd.R_elder' (by (with_reducible repeat (first | apply Kd.R_alloc | apply Kd.R_drewN | apply Kd.R_drew)); exact (Kd.R_mono (Kd.R_far (p := ⟨gb297, 1, none⟩) (Kd.R_far (p := ⟨gb297, 0, none⟩) (Kd.R_types HO278.out BK297.out (by decide)) (fun _ hk => hk.2) (.int .i64 t293)) (fun _ hk => hk.2) (.slice Ao89 t294.length co89)) (fun _ h_ => h_.1))) (Kd.R_base ho0) hb)) (And.intro (Aside0.mk (Kd.R_elder' (by (with_reducible repeat (first | apply Kd.R_alloc | apply Kd.R_drewN | apply Kd.R_drew)); exact (Kd.R_mono (Kd.R_far (p := ⟨gb297, 1, none⟩) (Kd.R_far (p := ⟨gb297, 0, none⟩) (Kd.R_types HO281.out BK297.out (by decide)) (fun _ hk => hk.2) (.int .i64 t293)) (fun _ hk => hk.2) (.slice Ao89 t294.length co89)) (fun _ h_ => h_.1))) (Kd.R_base ho0) hb)) (And.intro (Aside0.mk (Kd.R_below (by (with_reducible repeat (first | apply Kd.R_alloc | apply Kd.R_drewN | apply Kd.R_drew)); exact (Kd.R_mono (Kd.R_far (p := ⟨gb297, 1, none⟩) (Kd.R_far (p := ⟨gb297, 0, none⟩) (Kd.R_types HO286.out BK297.out (by decide)) (fun _ hk => hk.2) (.int .i64 t293)) (fun _ hk => hk.2) (.slice Ao89 t294.length co89)) (fun _ h_ => h_.1))) hb)) (And.intro (Aside0.mk (Kd.R_below (by (with_reducible repeat (first | apply Kd.R_alloc | apply Kd.R_drewN | apply Kd.R_drew)); exact (Kd.R_mono (Kd.R_far (p := ⟨gb297, 1, none⟩) (Kd.R_far (p := ⟨gb297, 0, none⟩) (Kd.R_types HO291.out BK297.out (by decide)) (fun _ hk => hk.2) (.int .i64 t293)) (fun _ hk => hk.2) (.slice Ao89 t294.length co89)) (fun _ h_ => h_.1))) hb)) (And.intro (Aside0.mk (Kd.R_below (by (with_reducible repeat (first | apply Kd.R_alloc | apply Kd.R_drewN | apply Kd.R_drew)); exact (Kd.R_mono (Kd.R_far (p := ⟨gb297, 1, none⟩) (Kd.R_far (p := ⟨gb297, 0, none⟩) (Kd.R_types HO296.out BK297.out (by decide)) (fun _ hk => hk.2) (.int .i64 t293)) (fun _ hk => hk.2) (.slice Ao89 t294.length co89)) (fun _ h_ => h_.1))) hb)) (And.intro (Aside0.mk (Kd.R_lower (Kd.R_new' (Kd.R_new' (Kd.R_new' ho0 (Kd.R_lt (by (with_reducible repeat (first | apply Kd.R_alloc | apply Kd.R_drewN | apply Kd.R_drew)); exact (Kd.R_mono (Kd.R_far (p := ⟨gb297, 1, none⟩) (Kd.R_far (p := ⟨gb297, 0, none⟩) (Kd.R_types HO275.out BK297.out (by decide)) (fun _ hk => hk.2) (.int .i64 t293)) (fun _ hk => hk.2) (.slice Ao89 t294.length co89)) (fun _ h_ => h_.1))))) (Kd.R_lt (by (with_reducible repeat (first | apply Kd.R_alloc | apply Kd.R_drewN | apply Kd.R_drew)); exact (Kd.R_mono (Kd.R_far (p := ⟨gb297, 1, none⟩) (Kd.R_far (p := ⟨gb297, 0, none⟩) (Kd.R_types HO278.out BK297.out (by decide)) (fun _ hk => hk.2) (.int .i64 t293)) (fun _ hk => hk.2) (.slice Ao89 t294.length co89)) (fun _ h_ => h_.1))))) (Kd.R_lt (by (with_reducible repeat (first | apply Kd.R_alloc | apply Kd.R_drewN | apply Kd.R_drew)); exact (Kd.R_mono (Kd.R_far (p := ⟨gb297, 1, none⟩) (Kd.R_far (p := ⟨gb297, 0, none⟩) (Kd.R_types HO281.out BK297.out (by decide)) (fun _ hk => hk.2) (.int .i64 t293)) (fun _ hk => hk.2) (.slice Ao89 t294.length co89)) (fun _ h_ => h_.1))))) (below_size bg_))) (And.intro (Aside0.mk (blk_below (g := gb255) (o := .cells #[.int .i64 a0_0, .slice A0_1 l0_1.length c0_1] 24 (0, 0)) (by (with_reducible repeat (first | refine blk_drewN ?_ _ | refine blk_drew ?_ | refine blk_alloc ?_ _)); refine blk_far ?_ NB255_297.out _; (with_reducible repeat (first | refine blk_drewN ?_ _ | refine blk_drew ?_ | refine blk_alloc ?_ _)); refine blk_far ?_ NB255_297.out _; (with_reducible repeat (first | refine blk_drewN ?_ _ | refine blk_drew ?_ | refine blk_alloc ?_ _)); exact BK255.out) hb)) (And.intro (Aside0.mk (blk_below (g := gb256) (o := .cells #[.int .i64 a1_0, .slice A1_1 l1_1.length c1_1] 24 (0, 0)) (by (with_reducible repeat (first | refine blk_drewN ?_ _ | refine blk_drew ?_ | refine blk_alloc ?_ _)); refine blk_far ?_ NB256_297.out _; (with_reducible repeat (first | refine blk_drewN ?_ _ | refine blk_drew ?_ | refine blk_alloc ?_ _)); refine blk_far ?_ NB256_297.out _; (with_reducible repeat (first | refine blk_drewN ?_ _ | refine blk_drew ?_ | refine blk_alloc ?_ _)); exact BK256.out) hb)) (And.intro (Aside0.mk (blk_below (g := gb257) (o := .cells #[.int .i64 a2_0, .slice A2_1 l2_1.length c2_1] 24 (0, 0)) (by (with_reducible repeat (first | refine blk_drewN ?_ _ | refine blk_drew ?_ | refine blk_alloc ?_ _)); refine blk_far ?_ NB257_297.out _; (with_reducible repeat (first | refine blk_drewN ?_ _ | refine blk_drew ?_ | refine blk_alloc ?_ _)); refine blk_far ?_ NB257_297.out _; (with_reducible repeat (first | refine blk_drewN ?_ _ | refine blk_drew ?_ | refine blk_alloc ?_ _)); exact BK257.out) hb)) (And.intro (Aside0.mk (blk_below (g := gb287) (o := .cells #[.int .i64 t283, .slice Ao69 t284.length co69] 29 (0, 0)) (by (with_reducible repeat (first | refine blk_drewN ?_ _ | refine blk_drew ?_ | refine blk_alloc ?_ _)); refine blk_far ?_ NB287_297.out _; (with_reducible repeat (first | refine blk_drewN ?_ _ | refine blk_drew ?_ | refine blk_alloc ?_ _)); refine blk_far ?_ NB287_297.out _; (with_reducible repeat (first | refine blk_drewN ?_ _ | refine blk_drew ?_ | refine blk_alloc ?_ _)); exact BK287.out) hb)) (And.intro (Aside0.mk (blk_below (g := gb292) (o := .cells #[.int .i64 t288, .slice Ao79 t289.length co79] 29 (0, 0)) (by (with_reducible repeat (first | refine blk_drewN ?_ _ | refine blk_drew ?_ | refine blk_alloc ?_ _)); refine blk_far ?_ NB292_297.out _; (with_reducible repeat (first | refine blk_drewN ?_ _ | refine blk_drew ?_ | refine blk_alloc ?_ _)); refine blk_far ?_ NB292_297.out _; (with_reducible repeat (first | refine blk_drewN ?_ _ | refine blk_drew ?_ | refine blk_alloc ?_ _)); exact BK292.out) hb)) (And.intro (Aside0.mk (blk_below (g := gb297) (o := .cells #[.int .i64 t293, .slice Ao89 t294.length co89] 29 (0, 0)) (by (with_reducible repeat (first | refine blk_drewN ?_ _ | refine blk_drew ?_ | refine blk_alloc ?_ _)); refine blk_put (cs := #[.int .i64 t293, .slice none 0 0]) ?_ 1 _ rfl; (with_reducible repeat (first | refine blk_drewN ?_ _ | refine blk_drew ?_ | refine blk_alloc ?_ _)); refine blk_put (cs := #[.int .i64 0, .slice none 0 0]) ?_ 0 _ rfl; (with_reducible repeat (first | refine blk_drewN ?_ _ | refine blk_drew ?_ | refine blk_alloc ?_ _)); exact BK297.out) hb)) (Aside0.mk (below_step bg_ hb))))))))))))))))); clear HO264 HO268 HO272 HO275 HO278 HO281 HO286 HO291 HO296 BK255 BK256 BK257 BK287 BK292 BK297 HB; obtain ⟨HO264, HO268, HO272, HO275, HO278, HO281, HO286, HO291, HO296, HO300, BK255, BK256, BK257, BK287, BK292, BK297, HB⟩ := n_; (try clear hb); (try clear hb2); (try clear hk); (try clear hi); (try clear ho0)) | ((with_reducible refine gate_callee (f := 18) rfl ?_); refine gL_ (some 73) Try.func18 #[.slice A4 l4.length c4] ?_ rfl rfl; (with_reducible refine (laws_toIntS.calls kj28 _ _ l4 t301 _ ?side1 ?side2 A45.out).mono ?_); (case side1 => exact cb_ HR4); (case side2 => exact HC4.out); rintro e w91 ⟨v302, rfl, ho0, hb⟩; refine ⟨_, rfl, ?_⟩; have n_ := And.intro (Aside0.mk (Kd.R_below (rk_ HO264) hb)) (And.intro (Aside0.mk (Kd.R_below (rk_ HO268) hb)) (And.intro (Aside0.mk (Kd.R_below (rk_ HO272) hb)) (And.intro (Aside0.mk (Kd.R_elder' (rk_ HO275) (Kd.R_base ho0) hb)) (And.intro (Aside0.mk (Kd.R_elder' (rk_ HO278) (Kd.R_base ho0) hb)) (And.intro (Aside0.mk (Kd.R_elder' (rk_ HO281) (Kd.R_base ho0) hb)) (And.intro (Aside0.mk (Kd.R_below (rk_ HO286) hb)) (And.intro (Aside0.mk (Kd.R_below (rk_ HO291) hb)) (And.intro (Aside0.mk (Kd.R_below (rk_ HO296) hb)) (And.intro (Aside0.mk (Kd.R_elder' (rk_ HO300) (Kd.R_base ho0) hb)) (And.intro (Aside0.mk (Kd.R_lower (Kd.R_new' (Kd.R_new' (Kd.R_new' (Kd.R_new' ho0 (Kd.R_lt (rk_ HO275))) (Kd.R_lt (rk_ HO278))) (Kd.R_lt (rk_ HO281))) (Kd.R_lt (rk_ HO300))) (below_size bg_))) (And.intro (Aside0.mk (blk_below (g := gb255) (o := .cells #[.int .i64 a0_0, .slice A0_1 l0_1.length c0_1] 24 (0, 0)) (bk_ BK255) hb)) (And.intro (Aside0.mk (blk_below (g := gb256) (o := .cells #[.int .i64 a1_0, .slice A1_1 l1_1.length c1_1] 24 (0, 0)) (bk_ BK256) hb)) (And.intro (Aside0.mk (blk_below (g := gb257) (o := .cells #[.int .i64 a2_0, .slice A2_1 l2_1.length c2_1] 24 (0, 0)) (bk_ BK257) hb)) (And.intro (Aside0.mk (blk_below (g := gb287) (o := .cells #[.int .i64 t283, .slice Ao69 t284.length co69] 29 (0, 0)) (bk_ BK287) hb)) (And.intro (Aside0.mk (blk_below (g := gb292) (o := .cells #[.int .i64 t288, .slice Ao79 t289.length co79] 29 (0, 0)) (bk_ BK292) hb)) (And.intro (Aside0.mk (blk_below (g := gb297) (o := .cells #[.int .i64 t293, .slice Ao89 t294.length co89] 29 (0, 0)) (bk_ BK297) hb)) (Aside0.mk (below_step bg_ hb)))))))))))))))))); clear HO264 HO268 HO272 HO275 HO278 HO281 HO286 HO291 HO296 HO300 BK255 BK256 BK257 BK287 BK292 BK297 HB; obtain ⟨HO264, HO268, HO272, HO275, HO278, HO281, HO286, HO291, HO296, HO300, HO303, BK255, BK256, BK257, BK287, BK292, BK297, HB⟩ := n_; (try clear hb); (try clear hb2); (try clear hk); (try clear hi); (try clear ho0); have hcz92_0 : w91.cell? ⟨gb287, 0, none⟩ = some (.int .i64 t283) := (blk_cell BK287.out 0).trans rfl; have hcz92_1 : w91.cell? ⟨gb287, 1, none⟩ = some (.slice Ao69 t284.length co69) := (blk_cell BK287.out 1).trans rfl; have hfz92_0 := blk_frozen BK287.out 0; have hfz92_1 := blk_frozen BK287.out 1; have hcz93_0 : w91.cell? ⟨gb292, 0, none⟩ = some (.int .i64 t288) := (blk_cell BK292.out 0).trans rfl; have hcz93_1 : w91.cell? ⟨gb292, 1, none⟩ = some (.slice Ao79 t289.length co79) := (blk_cell BK292.out 1).trans rfl; have hfz93_0 := blk_frozen BK292.out 0; have hfz93_1 := blk_frozen BK292.out 1; have hcz94_0 : w91.cell? ⟨gb297, 0, none⟩ = some (.int .i64 t293) := (blk_cell BK297.out 0).trans rfl; have hcz94_1 : w91.cell? ⟨gb297, 1, none⟩ = some (.slice Ao89 t294.length co89) := (blk_cell BK297.out 1).trans rfl; have hfz94_0 := blk_frozen BK297.out 0; have hfz94_1 := blk_frozen BK297.out 1; obtain ⟨Ao95, co95, eo95⟩ := Kd.R_slice HO300.out; subst eo95; obtain ⟨Ao96, co96, eo96⟩ := Kd.R_slice HO303.out; subst eo96) | ((with_reducible refine gate_callee (f := 25) rfl ?_); refine gL_ (some 81) Try.func25 #[.agg #[.int .i64 t283, .slice Ao69 t284.length co69], .agg #[.int .i64 t288, .slice Ao79 t289.length co79], .agg #[.int .i64 t293, .slice Ao89 t294.length co89], .slice Ao95 t298.length co95, .slice Ao96 t301.length co96, .bool a5] ?_ rfl rfl; (with_reducible refine (impl_AfterMap.calls kj28 t283 _ _ t284 t288 _ _ t289 t293 _ _ t294 _ _ t298 _ _ t301 a5 t304 t307 _ ?side1 ?side2 ?side3 ?side4 ?side5 ?side6 ?side7 ?side8 ?side9 ?side10 A46.out).mono ?_); (case side1 => repeat (first | exact (Kd.R_reads' HO286.out).2.2 | (with_reducible refine Kd.C_alloc ?_ _) | (with_reducible refine Kd.C_drewN ?_ _) | (with_reducible refine Kd.C_drew ?_))); (case side2 => exact (Kd.R_reads' HO286.out).2.1); (case side3 => repeat (first | exact (Kd.R_reads' HO291.out).2.2 | (with_reducible refine Kd.C_alloc ?_ _) | (with_reducible refine Kd.C_drewN ?_ _) | (with_reducible refine Kd.C_drew ?_))); (case side4 => exact (Kd.R_reads' HO291.out).2.1); (case side5 => repeat (first | exact (Kd.R_reads' HO296.out).2.2 | (with_reducible refine Kd.C_alloc ?_ _) | (with_reducible refine Kd.C_drewN ?_ _) | (with_reducible refine Kd.C_drew ?_))); (case side6 => exact (Kd.R_reads' HO296.out).2.1); (case side7 => repeat (first | exact (Kd.R_reads' HO300.out).2.2 | (with_reducible refine Kd.C_alloc ?_ _) | (with_reducible refine Kd.C_drewN ?_ _) | (with_reducible refine Kd.C_drew ?_))); (case side8 => exact (Kd.R_reads' HO300.out).2.1); (case side9 => repeat (first | exact (Kd.R_reads' HO303.out).2.2 | (with_reducible refine Kd.C_alloc ?_ _) | (with_reducible refine Kd.C_drewN ?_ _) | (with_reducible refine Kd.C_drew ?_))); (case side10 => exact (Kd.R_reads' HO303.out).2.1); rintro e w97 ⟨v305, rfl, ho0, hb⟩; refine ⟨_, rfl, ?_⟩; have n_ := And.intro (Aside0.mk (Kd.R_below (rk_ HO264) hb)) (And.intro (Aside0.mk (Kd.R_below (rk_ HO268) hb)) (And.intro (Aside0.mk (Kd.R_below (rk_ HO272) hb)) (And.intro (Aside0.mk (Kd.R_elder' (rk_ HO275) (Kd.R_base ho0) hb)) (And.intro (Aside0.mk (Kd.R_elder' (rk_ HO278) (Kd.R_base ho0) hb)) (And.intro (Aside0.mk (Kd.R_elder' (rk_ HO281) (Kd.R_base ho0) hb)) (And.intro (Aside0.mk (Kd.R_below (rk_ HO286) hb)) (And.intro (Aside0.mk (Kd.R_below (rk_ HO291) hb)) (And.intro (Aside0.mk (Kd.R_below (rk_ HO296) hb)) (And.intro (Aside0.mk (Kd.R_elder' (rk_ HO300) (Kd.R_base ho0) hb)) (And.intro (Aside0.mk (Kd.R_elder' (rk_ HO303) (Kd.R_base ho0) hb)) (And.intro (Aside0.mk (Kd.R_lower (Kd.R_new' (Kd.R_new' (Kd.R_new' (Kd.R_new' (Kd.R_new' ho0 (Kd.R_lt (rk_ HO275))) (Kd.R_lt (rk_ HO278))) (Kd.R_lt (rk_ HO281))) (Kd.R_lt (rk_ HO300))) (Kd.R_lt (rk_ HO303))) (below_size bg_))) (And.intro (Aside0.mk (blk_below (g := gb255) (o := .cells #[.int .i64 a0_0, .slice A0_1 l0_1.length c0_1] 24 (0, 0)) (bk_ BK255) hb)) (And.intro (Aside0.mk (blk_below (g := gb256) (o := .cells #[.int .i64 a1_0, .slice A1_1 l1_1.length c1_1] 24 (0, 0)) (bk_ BK256) hb)) (And.intro (Aside0.mk (blk_below (g := gb257) (o := .cells #[.int .i64 a2_0, .slice A2_1 l2_1.length c2_1] 24 (0, 0)) (bk_ BK257) hb)) (And.intro (Aside0.mk (blk_below (g := gb287) (o := .cells #[.int .i64 t283, .slice Ao69 t284.length co69] 29 (0, 0)) (bk_ BK287) hb)) (And.intro (Aside0.mk (blk_below (g := gb292) (o := .cells #[.int .i64 t288, .slice Ao79 t289.length co79] 29 (0, 0)) (bk_ BK292) hb)) (And.intro (Aside0.mk (blk_below (g := gb297) (o := .cells #[.int .i64 t293, .slice Ao89 t294.length co89] 29 (0, 0)) (bk_ BK297) hb)) (Aside0.mk (below_step bg_ hb))))))))))))))))))); clear HO264 HO268 HO272 HO275 HO278 HO281 HO286 HO291 HO296 HO300 HO303 BK255 BK256 BK257 BK287 BK292 BK297 HB; obtain ⟨HO264, HO268, HO272, HO275, HO278, HO281, HO286, HO291, HO296, HO300, HO303, HO306, BK255, BK256, BK257, BK287, BK292, BK297, HB⟩ := n_; (try clear hb); (try clear hb2); (try clear hk); (try clear hi); (try clear ho0)))
 (try simp only [Act.put, List.setIfInBounds_toArray, List.set_cons_zero, List.set_cons_succ])
 go_cut [92] (fun v92 wc => ∃ (kq : Nat) (x92_46 : Bool), v92 = .bool x92_46 ∧ Aside0 (laws_FnExactAfterMap.j5 kq l3 l4 a5 t279 t282 t298 t301 t304 t307 x92_46 a0_0 l0_1 a1_0 l1_1 a2_0 l2_1 t283 t284 t288 t289 t293 t294 = some r) ∧ Aside0 (kq ≤ kj28) ∧ Aside0 (Kd.R (Kd.int .i64) 3 wc w.heap.size (fun k_ => some k_ ≠ ((.slice Ao95 t298.length co95) : Value).ownBlock ∧ some k_ ≠ ((.slice Ao96 t301.length co96) : Value).ownBlock ∧ some k_ ≠ (v305 : Value).ownBlock) v280 t279) ∧ Aside0 (Kd.R (Kd.int .i64) 3 wc w.heap.size (fun k_ => some k_ ≠ (v280 : Value).ownBlock ∧ some k_ ≠ ((.slice Ao96 t301.length co96) : Value).ownBlock ∧ some k_ ≠ (v305 : Value).ownBlock) (.slice Ao95 t298.length co95) t298) ∧ Aside0 (Kd.R (Kd.int .i64) 3 wc w.heap.size (fun k_ => some k_ ≠ (v280 : Value).ownBlock ∧ some k_ ≠ ((.slice Ao95 t298.length co95) : Value).ownBlock ∧ some k_ ≠ (v305 : Value).ownBlock) (.slice Ao96 t301.length co96) t301) ∧ Aside0 (Kd.R (Kd.int .i64) 3 wc w.heap.size (fun k_ => some k_ ≠ (v280 : Value).ownBlock ∧ some k_ ≠ ((.slice Ao95 t298.length co95) : Value).ownBlock ∧ some k_ ≠ ((.slice Ao96 t301.length co96) : Value).ownBlock) v305 t304) ∧ Aside0 (Kd.R k78 78 wc w.heap.size (fun k_ => some k_ ≠ ((.slice Ao79 t289.length co79) : Value).ownBlock ∧ some k_ ≠ ((.slice Ao89 t294.length co89) : Value).ownBlock) (.slice Ao69 t284.length co69) t284) ∧ Aside0 (Kd.R k78 78 wc w.heap.size (fun k_ => some k_ ≠ ((.slice Ao69 t284.length co69) : Value).ownBlock ∧ some k_ ≠ ((.slice Ao89 t294.length co89) : Value).ownBlock) (.slice Ao79 t289.length co79) t289) ∧ Aside0 (Kd.R k78 78 wc w.heap.size (fun k_ => some k_ ≠ ((.slice Ao69 t284.length co69) : Value).ownBlock ∧ some k_ ≠ ((.slice Ao79 t289.length co79) : Value).ownBlock) (.slice Ao89 t294.length co89) t294) ∧ Aside0 (wc.heap[gb255]? = some (.cells #[.int .i64 a0_0, (.slice A0_1 l0_1.length c0_1)] 24 (0, 0))) ∧ Aside0 (wc.heap[gb256]? = some (.cells #[.int .i64 a1_0, (.slice A1_1 l1_1.length c1_1)] 24 (0, 0))) ∧ Aside0 (wc.heap[gb257]? = some (.cells #[.int .i64 a2_0, (.slice A2_1 l2_1.length c2_1)] 24 (0, 0))) ∧ Aside0 (wc.heap[gb287]? = some (.cells #[.int .i64 t283, (.slice Ao69 t284.length co69)] 29 (0, 0))) ∧ Aside0 (wc.heap[gb292]? = some (.cells #[.int .i64 t288, (.slice Ao79 t289.length co79)] 29 (0, 0))) ∧ Aside0 (wc.heap[gb297]? = some (.cells #[.int .i64 t293, (.slice Ao89 t294.length co89)] 29 (0, 0))) ∧ Aside0 (Below w.heap.size w wc))
 case first =>
  have H := HC47.out
  clear HC47
  replace H := Option.bind_eq_some_iff.mp H
  obtain ⟨t308, A980, H⟩ := H
  (try dsimp only at H)
  have A98 := Aside0.mk A980
  clear A980
  by_cases c99 : t308 = true
  ·subst c99
   have H1 : (laws_FnExactAfterMap.j5 kj28 l3 l4 a5 t279 t282 t298 t301 t304 t307 (t307 != t282) a0_0 l0_1 a1_0 l1_1 a2_0 l2_1 t283 t284 t288 t289 t293 t294) = some r := by rw [if_pos rfl] at H; exact H
   clear H
   have H := H1
   clear H1
   have H' := Aside0.mk H
   clear H
   obtain ⟨Ao100, co100, eo100⟩ := Kd.R_slice HO306.out
   subst eo100
   obtain ⟨Ao101, co101, eo101⟩ := Kd.R_slice HO281.out
   subst eo101
   go_wp2_with (first | ((with_reducible refine gate_callee (f := 21) rfl ?_); refine gL_ (some 86) Try.func21 #[.slice Ao100 t304.length co100, .slice Ao101 t279.length co101] ?_ rfl rfl; (with_reducible refine (laws_eqIntS.calls kj28 _ _ t304 _ _ t279 true _ ?side1 ?side2 ?side3 ?side4 A98.out).mono ?_); (case side1 => repeat (first | exact (Kd.R_reads' HO306.out).2.2 | (with_reducible refine Kd.C_alloc ?_ _) | (with_reducible refine Kd.C_drewN ?_ _) | (with_reducible refine Kd.C_drew ?_))); (case side2 => exact (Kd.R_reads' HO306.out).2.1); (case side3 => repeat (first | exact (Kd.R_reads' HO281.out).2.2 | (with_reducible refine Kd.C_alloc ?_ _) | (with_reducible refine Kd.C_drewN ?_ _) | (with_reducible refine Kd.C_drew ?_))); (case side4 => exact (Kd.R_reads' HO281.out).2.1); rintro e w' ⟨rfl, ⟨nd, rfl⟩⟩; refine ⟨_, rfl, ?_⟩))
   go_meet
   case rel => exact ⟨_, ((t307 != t282)), (by first | rfl | (simp; done) | (simp [*]; done)), H', ⟨by have := HJ6.out; have := HJ11.out; have := HJ14.out; have := HJ21.out; have := HJ28.out; first | omega | exact Nat.le_refl _⟩, ⟨by (with_reducible repeat (first | apply Kd.R_alloc | apply Kd.R_drewN | apply Kd.R_drew)); exact Kd.R_mono HO281.out (fun _ hk => ⟨hk.1.1.2, ⟨hk.1.2, hk.2⟩⟩)⟩, ⟨by (with_reducible repeat (first | apply Kd.R_alloc | apply Kd.R_drewN | apply Kd.R_drew)); exact Kd.R_mono HO300.out (fun _ hk => ⟨hk.1.1.2, ⟨hk.1.2, hk.2⟩⟩)⟩, ⟨by (with_reducible repeat (first | apply Kd.R_alloc | apply Kd.R_drewN | apply Kd.R_drew)); exact Kd.R_mono HO303.out (fun _ hk => ⟨hk.1.1.2, ⟨hk.1.2, hk.2⟩⟩)⟩, ⟨by (with_reducible repeat (first | apply Kd.R_alloc | apply Kd.R_drewN | apply Kd.R_drew)); exact Kd.R_mono HO306.out (fun _ hk => ⟨hk.1.1.2, ⟨hk.1.2, hk.2⟩⟩)⟩, ⟨by (with_reducible repeat (first | apply Kd.R_alloc | apply Kd.R_drewN | apply Kd.R_drew)); exact Kd.R_mono HO286.out (fun _ hk => ⟨hk.1.2, hk.2⟩)⟩, ⟨by (with_reducible repeat (first | apply Kd.R_alloc | apply Kd.R_drewN | apply Kd.R_drew)); exact Kd.R_mono HO291.out (fun _ hk => ⟨hk.1.2, hk.2⟩)⟩, ⟨by (with_reducible repeat (first | apply Kd.R_alloc | apply Kd.R_drewN | apply Kd.R_drew)); exact Kd.R_mono HO296.out (fun _ hk => ⟨hk.1.2, hk.2⟩)⟩, ⟨bk_ BK255⟩, ⟨bk_ BK256⟩, ⟨bk_ BK257⟩, ⟨bk_ BK287⟩, ⟨bk_ BK292⟩, ⟨bk_ BK297⟩, ⟨by repeat (first | (with_reducible first | exact HB.out | apply below_alloc | apply pw_below_drewN | apply below_drew1 | refine below_set ?_ GE255.out | refine below_set ?_ GE256.out | refine below_set ?_ GE257.out | refine below_set ?_ GE287.out | refine below_set ?_ GE292.out | refine below_set ?_ GE297.out) | exact HB.out)⟩⟩
  ·replace c99 := Bool.eq_false_iff.mpr c99
   subst c99
   have H1 : (laws_FnExactAfterMap.j5 kj28 l3 l4 a5 t279 t282 t298 t301 t304 t307 true a0_0 l0_1 a1_0 l1_1 a2_0 l2_1 t283 t284 t288 t289 t293 t294) = some r := by rw [if_neg (show ¬ (false = true) by decide)] at H; exact H
   clear H
   have H := H1
   clear H1
   have H' := Aside0.mk H
   clear H
   obtain ⟨Ao102, co102, eo102⟩ := Kd.R_slice HO306.out
   subst eo102
   obtain ⟨Ao103, co103, eo103⟩ := Kd.R_slice HO281.out
   subst eo103
   go_wp2_with (first | ((with_reducible refine gate_callee (f := 21) rfl ?_); refine gL_ (some 86) Try.func21 #[.slice Ao102 t304.length co102, .slice Ao103 t279.length co103] ?_ rfl rfl; (with_reducible refine (laws_eqIntS.calls kj28 _ _ t304 _ _ t279 false _ ?side1 ?side2 ?side3 ?side4 A98.out).mono ?_); (case side1 => repeat (first | exact (Kd.R_reads' HO306.out).2.2 | (with_reducible refine Kd.C_alloc ?_ _) | (with_reducible refine Kd.C_drewN ?_ _) | (with_reducible refine Kd.C_drew ?_))); (case side2 => exact (Kd.R_reads' HO306.out).2.1); (case side3 => repeat (first | exact (Kd.R_reads' HO281.out).2.2 | (with_reducible refine Kd.C_alloc ?_ _) | (with_reducible refine Kd.C_drewN ?_ _) | (with_reducible refine Kd.C_drew ?_))); (case side4 => exact (Kd.R_reads' HO281.out).2.1); rintro e w' ⟨rfl, ⟨nd, rfl⟩⟩; refine ⟨_, rfl, ?_⟩))
   go_meet
   case rel => exact ⟨_, (true), (by first | rfl | (simp; done) | (simp [*]; done)), H', ⟨by have := HJ6.out; have := HJ11.out; have := HJ14.out; have := HJ21.out; have := HJ28.out; first | omega | exact Nat.le_refl _⟩, ⟨by (with_reducible repeat (first | apply Kd.R_alloc | apply Kd.R_drewN | apply Kd.R_drew)); exact Kd.R_mono HO281.out (fun _ hk => ⟨hk.1.1.2, ⟨hk.1.2, hk.2⟩⟩)⟩, ⟨by (with_reducible repeat (first | apply Kd.R_alloc | apply Kd.R_drewN | apply Kd.R_drew)); exact Kd.R_mono HO300.out (fun _ hk => ⟨hk.1.1.2, ⟨hk.1.2, hk.2⟩⟩)⟩, ⟨by (with_reducible repeat (first | apply Kd.R_alloc | apply Kd.R_drewN | apply Kd.R_drew)); exact Kd.R_mono HO303.out (fun _ hk => ⟨hk.1.1.2, ⟨hk.1.2, hk.2⟩⟩)⟩, ⟨by (with_reducible repeat (first | apply Kd.R_alloc | apply Kd.R_drewN | apply Kd.R_drew)); exact Kd.R_mono HO306.out (fun _ hk => ⟨hk.1.1.2, ⟨hk.1.2, hk.2⟩⟩)⟩, ⟨by (with_reducible repeat (first | apply Kd.R_alloc | apply Kd.R_drewN | apply Kd.R_drew)); exact Kd.R_mono HO286.out (fun _ hk => ⟨hk.1.2, hk.2⟩)⟩, ⟨by (with_reducible repeat (first | apply Kd.R_alloc | apply Kd.R_drewN | apply Kd.R_drew)); exact Kd.R_mono HO291.out (fun _ hk => ⟨hk.1.2, hk.2⟩)⟩, ⟨by (with_reducible repeat (first | apply Kd.R_alloc | apply Kd.R_drewN | apply Kd.R_drew)); exact Kd.R_mono HO296.out (fun _ hk => ⟨hk.1.2, hk.2⟩)⟩, ⟨bk_ BK255⟩, ⟨bk_ BK256⟩, ⟨bk_ BK257⟩, ⟨bk_ BK287⟩, ⟨bk_ BK292⟩, ⟨bk_ BK297⟩, ⟨by repeat (first | (with_reducible first | exact HB.out | apply below_alloc | apply pw_below_drewN | apply below_drew1 | refine below_set ?_ GE255.out | refine below_set ?_ GE256.out | refine below_set ?_ GE257.out | refine below_set ?_ GE287.out | refine below_set ?_ GE292.out | refine below_set ?_ GE297.out) | exact HB.out)⟩⟩
 clear HC47
 try clear c3
 try clear c4
 try clear hcz62_0
 try clear hcz62_1
 try clear hcz68_0
 try clear hcz68_1
 try clear hcz71_0
 try clear hcz71_1
 try clear hcz78_0
 try clear hcz78_1
 try clear hcz80_0
 try clear hcz80_1
 try clear hcz88_0
 try clear hcz88_1
 try clear hcz92_0
 try clear hcz92_1
 try clear hcz93_0
 try clear hcz93_1
 try clear hcz94_0
 try clear hcz94_1
 try clear hfz62_0
 try clear hfz62_1
 try clear hfz68_0
 try clear hfz68_1
 try clear hfz71_0
 try clear hfz71_1
 try clear hfz78_0
 try clear hfz78_1
 try clear hfz80_0
 try clear hfz80_1
 try clear hfz88_0
 try clear hfz88_1
 try clear hfz92_0
 try clear hfz92_1
 try clear hfz93_0
 try clear hfz93_1
 try clear hfz94_0
 try clear hfz94_1
 obtain ⟨kq, x92_46, rfl, HA, HJ46, HO_14, HO_19, HO_20, HO_21, HO_288001, HO_293001, HO_298001, BK255, BK256, BK257, BK287, BK292, BK297, HB⟩ := hcut
 cases kq
 case zero => exact absurd HA.out (by simp [laws_FnExactAfterMap.j5])
 case' succ kj46 => skip
 as_aux_lemma =>
 have H := HA.out
 clear HA
 simp only [laws_FnExactAfterMap.j5] at H
 have HC104 := Aside0.mk H
 clear H
 go_upto_if 92 with (fail)
 go_cut [] (fun wc => ∃ (kq : Nat), Aside0 (laws_FnExactAfterMap.j6 kq l3 l4 a5 t279 t282 t298 t301 t304 t307 a0_0 l0_1 a1_0 l1_1 a2_0 l2_1 t283 t284 t288 t289 t293 t294 = some r) ∧ Aside0 (kq ≤ kj46) ∧ Aside0 (Kd.R (Kd.int .i64) 3 wc w.heap.size (fun k_ => some k_ ≠ ((.slice Ao95 t298.length co95) : Value).ownBlock ∧ some k_ ≠ ((.slice Ao96 t301.length co96) : Value).ownBlock ∧ some k_ ≠ (v305 : Value).ownBlock) v280 t279) ∧ Aside0 (Kd.R (Kd.int .i64) 3 wc w.heap.size (fun k_ => some k_ ≠ (v280 : Value).ownBlock ∧ some k_ ≠ ((.slice Ao96 t301.length co96) : Value).ownBlock ∧ some k_ ≠ (v305 : Value).ownBlock) (.slice Ao95 t298.length co95) t298) ∧ Aside0 (Kd.R (Kd.int .i64) 3 wc w.heap.size (fun k_ => some k_ ≠ (v280 : Value).ownBlock ∧ some k_ ≠ ((.slice Ao95 t298.length co95) : Value).ownBlock ∧ some k_ ≠ (v305 : Value).ownBlock) (.slice Ao96 t301.length co96) t301) ∧ Aside0 (Kd.R (Kd.int .i64) 3 wc w.heap.size (fun k_ => some k_ ≠ (v280 : Value).ownBlock ∧ some k_ ≠ ((.slice Ao95 t298.length co95) : Value).ownBlock ∧ some k_ ≠ ((.slice Ao96 t301.length co96) : Value).ownBlock) v305 t304) ∧ Aside0 (Kd.R k78 78 wc w.heap.size (fun k_ => some k_ ≠ ((.slice Ao79 t289.length co79) : Value).ownBlock ∧ some k_ ≠ ((.slice Ao89 t294.length co89) : Value).ownBlock) (.slice Ao69 t284.length co69) t284) ∧ Aside0 (Kd.R k78 78 wc w.heap.size (fun k_ => some k_ ≠ ((.slice Ao69 t284.length co69) : Value).ownBlock ∧ some k_ ≠ ((.slice Ao89 t294.length co89) : Value).ownBlock) (.slice Ao79 t289.length co79) t289) ∧ Aside0 (Kd.R k78 78 wc w.heap.size (fun k_ => some k_ ≠ ((.slice Ao69 t284.length co69) : Value).ownBlock ∧ some k_ ≠ ((.slice Ao79 t289.length co79) : Value).ownBlock) (.slice Ao89 t294.length co89) t294) ∧ Aside0 (wc.heap[gb255]? = some (.cells #[.int .i64 a0_0, (.slice A0_1 l0_1.length c0_1)] 24 (0, 0))) ∧ Aside0 (wc.heap[gb256]? = some (.cells #[.int .i64 a1_0, (.slice A1_1 l1_1.length c1_1)] 24 (0, 0))) ∧ Aside0 (wc.heap[gb257]? = some (.cells #[.int .i64 a2_0, (.slice A2_1 l2_1.length c2_1)] 24 (0, 0))) ∧ Aside0 (wc.heap[gb287]? = some (.cells #[.int .i64 t283, (.slice Ao69 t284.length co69)] 29 (0, 0))) ∧ Aside0 (wc.heap[gb292]? = some (.cells #[.int .i64 t288, (.slice Ao79 t289.length co79)] 29 (0, 0))) ∧ Aside0 (wc.heap[gb297]? = some (.cells #[.int .i64 t293, (.slice Ao89 t294.length co89)] 29 (0, 0))) ∧ Aside0 (Below w.heap.size w wc))
 case first =>
  have H := HC104.out
  clear HC104
  by_cases c105 : x92_46 = true
  ·subst c105
   have H1 : (some false) = some r := by rw [if_pos rfl] at H; exact H
   clear H
   have H := H1
   clear H1
   obtain rfl := Option.some.inj H
   go_wp2
   go_ret
   exact ⟨by first | rfl | (simp [errW_none, errW_some] <;> rfl) | (simp [*, errW_none, errW_some] <;> rfl), by repeat (first | (with_reducible first | exact HB.out | apply below_alloc | apply pw_below_drewN | apply below_drew1 | refine below_set ?_ GE255.out | refine below_set ?_ GE256.out | refine below_set ?_ GE257.out | refine below_set ?_ GE287.out | refine below_set ?_ GE292.out | refine below_set ?_ GE297.out) | exact HB.out)⟩
  ·replace c105 := Bool.eq_false_iff.mpr c105
   subst c105
   have H1 : (laws_FnExactAfterMap.j6 kj46 l3 l4 a5 t279 t282 t298 t301 t304 t307 a0_0 l0_1 a1_0 l1_1 a2_0 l2_1 t283 t284 t288 t289 t293 t294) = some r := by rw [if_neg (show ¬ (false = true) by decide)] at H; exact H
   clear H
   have H := H1
   clear H1
   have H' := Aside0.mk H
   clear H
   go_wp2
   go_meet
   case rel => exact ⟨_, H', ⟨by have := HJ6.out; have := HJ11.out; have := HJ14.out; have := HJ21.out; have := HJ28.out; have := HJ46.out; first | omega | exact Nat.le_refl _⟩, ⟨by (with_reducible repeat (first | apply Kd.R_alloc | apply Kd.R_drewN | apply Kd.R_drew)); exact HO_14.out⟩, ⟨by (with_reducible repeat (first | apply Kd.R_alloc | apply Kd.R_drewN | apply Kd.R_drew)); exact HO_19.out⟩, ⟨by (with_reducible repeat (first | apply Kd.R_alloc | apply Kd.R_drewN | apply Kd.R_drew)); exact HO_20.out⟩, ⟨by (with_reducible repeat (first | apply Kd.R_alloc | apply Kd.R_drewN | apply Kd.R_drew)); exact HO_21.out⟩, ⟨by (with_reducible repeat (first | apply Kd.R_alloc | apply Kd.R_drewN | apply Kd.R_drew)); exact HO_288001.out⟩, ⟨by (with_reducible repeat (first | apply Kd.R_alloc | apply Kd.R_drewN | apply Kd.R_drew)); exact HO_293001.out⟩, ⟨by (with_reducible repeat (first | apply Kd.R_alloc | apply Kd.R_drewN | apply Kd.R_drew)); exact HO_298001.out⟩, ⟨bk_ BK255⟩, ⟨bk_ BK256⟩, ⟨bk_ BK257⟩, ⟨bk_ BK287⟩, ⟨bk_ BK292⟩, ⟨bk_ BK297⟩, ⟨by repeat (first | (with_reducible first | exact HB.out | apply below_alloc | apply pw_below_drewN | apply below_drew1 | refine below_set ?_ GE255.out | refine below_set ?_ GE256.out | refine below_set ?_ GE257.out | refine below_set ?_ GE287.out | refine below_set ?_ GE292.out | refine below_set ?_ GE297.out) | exact HB.out)⟩⟩
 clear HC104
 obtain ⟨kq, HA, HJ103, HO_14, HO_19, HO_20, HO_21, HO_288001, HO_293001, HO_298001, BK255, BK256, BK257, BK287, BK292, BK297, HB⟩ := hcut
 cases kq
 case zero => exact absurd HA.out (by simp [laws_FnExactAfterMap.j6])
 case' succ kj103 => skip
 as_aux_lemma =>
 have H := HA.out
 clear HA
 simp only [laws_FnExactAfterMap.j6] at H
 replace H := Option.bind_eq_some_iff.mp H
 obtain ⟨⟨t309, t310⟩, A1060, H⟩ := H
 (try dsimp only at H)
 have A106 := Aside0.mk A1060
 clear A1060
 replace H := Option.bind_eq_some_iff.mp H
 obtain ⟨t313, A1070, H⟩ := H
 (try dsimp only at H)
 have A107 := Aside0.mk A1070
 clear A1070
 have HC108 := Aside0.mk H
 clear H
 try go_wp2
 have n_ := And.intro (Aside0.mk (Kd.R_drew HO_14.out)) (And.intro (Aside0.mk (Kd.R_drew HO_19.out)) (And.intro (Aside0.mk (Kd.R_drew HO_20.out)) (And.intro (Aside0.mk (Kd.R_drew HO_21.out)) (And.intro (Aside0.mk (Kd.R_drew HO_288001.out)) (And.intro (Aside0.mk (Kd.R_drew HO_293001.out)) (And.intro (Aside0.mk (Kd.R_drew HO_298001.out)) (And.intro (Aside0.mk (blk_drew BK255.out)) (And.intro (Aside0.mk (blk_drew BK256.out)) (And.intro (Aside0.mk (blk_drew BK257.out)) (And.intro (Aside0.mk (blk_drew BK287.out)) (And.intro (Aside0.mk (blk_drew BK292.out)) (And.intro (Aside0.mk (blk_drew BK297.out)) (Aside0.mk (below_drew1 HB.out))))))))))))))
 clear HO_14 HO_19 HO_20 HO_21 HO_288001 HO_293001 HO_298001 BK255 BK256 BK257 BK287 BK292 BK297 HB; obtain ⟨HO_14, HO_19, HO_20, HO_21, HO_288001, HO_293001, HO_298001, BK255, BK256, BK257, BK287, BK292, BK297, HB⟩ := n_
 refine start_ (n := 5) (S := fun w' => w'.cell? ⟨gb287, 0, none⟩ = some (.int .i64 t283) ∧ w'.cell? ⟨gb287, 1, none⟩ = some (.slice Ao69 t284.length co69) ∧ w'.cell? ⟨gb255, 0, none⟩ = some (.int .i64 a0_0) ∧ w'.cell? ⟨gb255, 1, none⟩ = some (.slice A0_1 l0_1.length c0_1)) (ds := []) #[false, false, false, false, false] (by kernel_rfl) rfl rfl ⟨(blk_cell BK287.out 0).trans rfl, (blk_cell BK287.out 1).trans rfl, (blk_cell BK255.out 0).trans rfl, (blk_cell BK255.out 1).trans rfl⟩ (fun hHeld => ?_)
 generalize wc.drew = w109 at HO_14 HO_19 HO_20 HO_21 HO_288001 HO_293001 HO_298001 BK255 BK256 BK257 BK287 BK292 BK297 HB hHeld ⊢
 refine take_ (i := 0) (N := some 93) (v := ?_) (a' := ?_) #[true, false, false, false, false] rfl rfl (by kernel_rfl) (fun _ _ _ h => h) (Or.inl ⟨by rfl, ?_⟩) hHeld ?_ ?_
 rotate_left
 ·rintro w' ⟨s0, s1, s2, s3⟩
  go_simp
  with_reducible rfl
 rotate_left
 ·simp only [Act.put, List.setIfInBounds_toArray, List.set_cons_zero, List.set_cons_succ, i64_w, i32_w]
  rfl
 refine take_ (i := 1) (N := some 94) (v := ?_) (a' := ?_) #[true, true, false, false, false] rfl rfl (by kernel_rfl) (fun _ _ _ h => h) (Or.inl ⟨by rfl, ?_⟩) hHeld ?_ ?_
 rotate_left
 ·rintro w' ⟨s0, s1, s2, s3⟩
  go_simp
  with_reducible rfl
 rotate_left
 ·simp only [Act.put, List.setIfInBounds_toArray, List.set_cons_zero, List.set_cons_succ, i64_w, i32_w]
  rfl
 refine one_ (i := 2) (N := some 95) #[true, true, true, false, false] rfl rfl (by kernel_rfl) (by decide) (fun K hK => ?_)
 refine goes_ Try.func17 (by kernel_rfl) rfl #[.agg #[.int .i64 a0_0, .slice A0_1 l0_1.length c0_1]] (by rfl) rfl rfl (by (try simp only [List.map_toArray, List.map_cons, List.map_nil]); first | done | rfl | (simp only [List.length_drop, List.length_take]; rfl)) ?_
 with_reducible refine (laws_toGraph.calls kj103 a0_0 _ _ l0_1 t309 t310 _ ?side1 ?side2 A106.out).mono ?_
 (case side1 => exact cb_ HR0_1)
 (case side2 => exact HC0_1.out)
 rintro e w110 ⟨v311, rfl, ho0, hb⟩
 refine ⟨_, rfl, ?_⟩
 have n_ := And.intro (Aside0.mk (Kd.R_below (rk_ HO_14) hb)) (And.intro (Aside0.mk (Kd.R_below (rk_ HO_19) hb)) (And.intro (Aside0.mk (Kd.R_below (rk_ HO_20) hb)) (And.intro (Aside0.mk (Kd.R_below (rk_ HO_21) hb)) (And.intro (Aside0.mk (Kd.R_elder' (rk_ HO_288001) (Kd.R_base ho0) hb)) (And.intro (Aside0.mk (Kd.R_elder' (rk_ HO_293001) (Kd.R_base ho0) hb)) (And.intro (Aside0.mk (Kd.R_elder' (rk_ HO_298001) (Kd.R_base ho0) hb)) (And.intro (Aside0.mk (Kd.R_lower (Kd.R_new' (Kd.R_new' (Kd.R_new' ho0 (Kd.R_lt (rk_ HO_288001))) (Kd.R_lt (rk_ HO_293001))) (Kd.R_lt (rk_ HO_298001))) (below_size bg_))) (And.intro (Aside0.mk (blk_below (g := gb255) (o := .cells #[.int .i64 a0_0, .slice A0_1 l0_1.length c0_1] 24 (0, 0)) (bk_ BK255) hb)) (And.intro (Aside0.mk (blk_below (g := gb256) (o := .cells #[.int .i64 a1_0, .slice A1_1 l1_1.length c1_1] 24 (0, 0)) (bk_ BK256) hb)) (And.intro (Aside0.mk (blk_below (g := gb257) (o := .cells #[.int .i64 a2_0, .slice A2_1 l2_1.length c2_1] 24 (0, 0)) (bk_ BK257) hb)) (And.intro (Aside0.mk (blk_below (g := gb287) (o := .cells #[.int .i64 t283, .slice Ao69 t284.length co69] 29 (0, 0)) (bk_ BK287) hb)) (And.intro (Aside0.mk (blk_below (g := gb292) (o := .cells #[.int .i64 t288, .slice Ao79 t289.length co79] 29 (0, 0)) (bk_ BK292) hb)) (And.intro (Aside0.mk (blk_below (g := gb297) (o := .cells #[.int .i64 t293, .slice Ao89 t294.length co89] 29 (0, 0)) (bk_ BK297) hb)) (Aside0.mk (below_step bg_ hb)))))))))))))))
 clear HO_14 HO_19 HO_20 HO_21 HO_288001 HO_293001 HO_298001 BK255 BK256 BK257 BK287 BK292 BK297 HB; obtain ⟨HO_14, HO_19, HO_20, HO_21, HO_288001, HO_293001, HO_298001, HO312, BK255, BK256, BK257, BK287, BK292, BK297, HB⟩ := n_
 (try clear hb)
 (try clear hb2)
 (try clear hk)
 (try clear hi)
 (try clear ho0)
 obtain ⟨Ao111, co111, eo111⟩ := Kd.R_slice HO312.out
 (first | subst eo111 | (injection eo111 with f1_ f2_ f3_; have f4_ := f1_.symm; have f5_ := f3_.symm; clear f1_ f2_ f3_; subst f4_; subst f5_))
 refine hK.out _ _ ⟨(blk_cell BK287.out 0).trans rfl, (blk_cell BK287.out 1).trans rfl, (blk_cell BK255.out 0).trans rfl, (blk_cell BK255.out 1).trans rfl⟩ (fun hHeld => ?_)
 clear hK K
 refine norm_ (a' := ?_) ?_ ?_
 rotate_left
 ·show Act.put _ (some 95) _ = _
  simp only [Act.put, List.setIfInBounds_toArray, List.set_cons_zero, List.set_cons_succ, i64_w, i32_w]
  rfl
 refine one_ (i := 3) (N := some 96) #[true, true, true, true, false] rfl rfl (by kernel_rfl) (by decide) (fun K hK => ?_)
 refine goes_ Try.func20 (by kernel_rfl) rfl #[.agg #[.int .i64 t283, .slice Ao69 t284.length co69], .agg #[.int .i64 t309, .slice Ao111 t310.length co111]] (by rfl) rfl rfl (by (try simp only [List.map_toArray, List.map_cons, List.map_nil]); first | done | rfl | (simp only [List.length_drop, List.length_take]; rfl)) ?_
 with_reducible refine (laws_eqGraph.calls kj103 t283 _ _ t284 t309 _ _ t310 t313 _ ?side1 ?side2 ?side3 ?side4 A107.out).mono ?_
 (case side1 => repeat (first | exact (Kd.R_reads' HO_288001.out).2.2 | (with_reducible refine Kd.C_alloc ?_ _) | (with_reducible refine Kd.C_drewN ?_ _) | (with_reducible refine Kd.C_drew ?_)))
 (case side2 => exact (Kd.R_reads' HO_288001.out).2.1)
 (case side3 => repeat (first | exact (Kd.R_reads' HO312.out).2.2 | (with_reducible refine Kd.C_alloc ?_ _) | (with_reducible refine Kd.C_drewN ?_ _) | (with_reducible refine Kd.C_drew ?_)))
 (case side4 => exact (Kd.R_reads' HO312.out).2.1)
 rintro e w112 ⟨rfl, hb⟩
 refine ⟨_, rfl, ?_⟩
 have n_ := And.intro (Aside0.mk (Kd.R_below (rk_ HO_14) hb)) (And.intro (Aside0.mk (Kd.R_below (rk_ HO_19) hb)) (And.intro (Aside0.mk (Kd.R_below (rk_ HO_20) hb)) (And.intro (Aside0.mk (Kd.R_below (rk_ HO_21) hb)) (And.intro (Aside0.mk (Kd.R_below (rk_ HO_288001) hb)) (And.intro (Aside0.mk (Kd.R_below (rk_ HO_293001) hb)) (And.intro (Aside0.mk (Kd.R_below (rk_ HO_298001) hb)) (And.intro (Aside0.mk (Kd.R_below (rk_ HO312) hb)) (And.intro (Aside0.mk (blk_below (g := gb255) (o := .cells #[.int .i64 a0_0, .slice A0_1 l0_1.length c0_1] 24 (0, 0)) (bk_ BK255) hb)) (And.intro (Aside0.mk (blk_below (g := gb256) (o := .cells #[.int .i64 a1_0, .slice A1_1 l1_1.length c1_1] 24 (0, 0)) (bk_ BK256) hb)) (And.intro (Aside0.mk (blk_below (g := gb257) (o := .cells #[.int .i64 a2_0, .slice A2_1 l2_1.length c2_1] 24 (0, 0)) (bk_ BK257) hb)) (And.intro (Aside0.mk (blk_below (g := gb287) (o := .cells #[.int .i64 t283, .slice Ao69 t284.length co69] 29 (0, 0)) (bk_ BK287) hb)) (And.intro (Aside0.mk (blk_below (g := gb292) (o := .cells #[.int .i64 t288, .slice Ao79 t289.length co79] 29 (0, 0)) (bk_ BK292) hb)) (And.intro (Aside0.mk (blk_below (g := gb297) (o := .cells #[.int .i64 t293, .slice Ao89 t294.length co89] 29 (0, 0)) (bk_ BK297) hb)) (Aside0.mk (below_step bg_ hb)))))))))))))))
 clear HO_14 HO_19 HO_20 HO_21 HO_288001 HO_293001 HO_298001 HO312 BK255 BK256 BK257 BK287 BK292 BK297 HB; obtain ⟨HO_14, HO_19, HO_20, HO_21, HO_288001, HO_293001, HO_298001, HO312, BK255, BK256, BK257, BK287, BK292, BK297, HB⟩ := n_
 (try clear hb)
 (try clear hb2)
 (try clear hk)
 (try clear hi)
 refine hK.out _ _ ⟨(blk_cell BK287.out 0).trans rfl, (blk_cell BK287.out 1).trans rfl, (blk_cell BK255.out 0).trans rfl, (blk_cell BK255.out 1).trans rfl⟩ (fun hHeld => ?_)
 clear hK K
 refine norm_ (a' := ?_) ?_ ?_
 rotate_left
 ·show Act.put _ (some 96) _ = _
  simp only [Act.put, List.setIfInBounds_toArray, List.set_cons_zero, List.set_cons_succ, i64_w, i32_w]
  rfl
 refine pure_ (i := 4) (N := some 97) (v := ?_) (a' := ?_) #[true, true, true, true, true] rfl rfl (by kernel_rfl) (fun _ _ _ h => h) (Or.inl ⟨by rfl, ?_⟩) ?_ ?_
 rotate_left
 ·intro w'
  go_simp
  with_reducible rfl
 rotate_left
 ·simp only [Act.put, List.setIfInBounds_toArray, List.set_cons_zero, List.set_cons_succ, i64_w, i32_w]
  rfl
 refine done_ (by kernel_rfl) ?_
 go_upto_if 97 with (fail)
 go_cut [] (fun wc => ∃ (kq : Nat), Aside0 (laws_FnExactAfterMap.j7 kq l3 l4 a5 t279 t282 t298 t301 t304 t307 a0_0 l0_1 a1_0 l1_1 a2_0 l2_1 t283 t284 t288 t289 t293 t294 = some r) ∧ Aside0 (kq ≤ kj103) ∧ Aside0 (Kd.R (Kd.int .i64) 3 wc w.heap.size (fun k_ => some k_ ≠ ((.slice Ao95 t298.length co95) : Value).ownBlock ∧ some k_ ≠ ((.slice Ao96 t301.length co96) : Value).ownBlock ∧ some k_ ≠ (v305 : Value).ownBlock) v280 t279) ∧ Aside0 (Kd.R (Kd.int .i64) 3 wc w.heap.size (fun k_ => some k_ ≠ (v280 : Value).ownBlock ∧ some k_ ≠ ((.slice Ao96 t301.length co96) : Value).ownBlock ∧ some k_ ≠ (v305 : Value).ownBlock) (.slice Ao95 t298.length co95) t298) ∧ Aside0 (Kd.R (Kd.int .i64) 3 wc w.heap.size (fun k_ => some k_ ≠ (v280 : Value).ownBlock ∧ some k_ ≠ ((.slice Ao95 t298.length co95) : Value).ownBlock ∧ some k_ ≠ (v305 : Value).ownBlock) (.slice Ao96 t301.length co96) t301) ∧ Aside0 (Kd.R (Kd.int .i64) 3 wc w.heap.size (fun k_ => some k_ ≠ (v280 : Value).ownBlock ∧ some k_ ≠ ((.slice Ao95 t298.length co95) : Value).ownBlock ∧ some k_ ≠ ((.slice Ao96 t301.length co96) : Value).ownBlock) v305 t304) ∧ Aside0 (Kd.R k78 78 wc w.heap.size (fun k_ => some k_ ≠ ((.slice Ao79 t289.length co79) : Value).ownBlock ∧ some k_ ≠ ((.slice Ao89 t294.length co89) : Value).ownBlock) (.slice Ao69 t284.length co69) t284) ∧ Aside0 (Kd.R k78 78 wc w.heap.size (fun k_ => some k_ ≠ ((.slice Ao69 t284.length co69) : Value).ownBlock ∧ some k_ ≠ ((.slice Ao89 t294.length co89) : Value).ownBlock) (.slice Ao79 t289.length co79) t289) ∧ Aside0 (Kd.R k78 78 wc w.heap.size (fun k_ => some k_ ≠ ((.slice Ao69 t284.length co69) : Value).ownBlock ∧ some k_ ≠ ((.slice Ao79 t289.length co79) : Value).ownBlock) (.slice Ao89 t294.length co89) t294) ∧ Aside0 (wc.heap[gb255]? = some (.cells #[.int .i64 a0_0, (.slice A0_1 l0_1.length c0_1)] 24 (0, 0))) ∧ Aside0 (wc.heap[gb256]? = some (.cells #[.int .i64 a1_0, (.slice A1_1 l1_1.length c1_1)] 24 (0, 0))) ∧ Aside0 (wc.heap[gb257]? = some (.cells #[.int .i64 a2_0, (.slice A2_1 l2_1.length c2_1)] 24 (0, 0))) ∧ Aside0 (wc.heap[gb287]? = some (.cells #[.int .i64 t283, (.slice Ao69 t284.length co69)] 29 (0, 0))) ∧ Aside0 (wc.heap[gb292]? = some (.cells #[.int .i64 t288, (.slice Ao79 t289.length co79)] 29 (0, 0))) ∧ Aside0 (wc.heap[gb297]? = some (.cells #[.int .i64 t293, (.slice Ao89 t294.length co89)] 29 (0, 0))) ∧ Aside0 (Below w.heap.size w wc))
 case first =>
  have H := HC108.out
  clear HC108
  by_cases c113 : t313 = true
  ·subst c113
   have H1 : (laws_FnExactAfterMap.j7 kj103 l3 l4 a5 t279 t282 t298 t301 t304 t307 a0_0 l0_1 a1_0 l1_1 a2_0 l2_1 t283 t284 t288 t289 t293 t294) = some r := by rw [if_pos rfl] at H; exact H
   clear H
   have H := H1
   clear H1
   have H' := Aside0.mk H
   clear H
   go_wp2
   go_meet
   case rel => exact ⟨_, H', ⟨by have := HJ6.out; have := HJ11.out; have := HJ14.out; have := HJ21.out; have := HJ28.out; have := HJ46.out; have := HJ103.out; first | omega | exact Nat.le_refl _⟩, ⟨by (with_reducible repeat (first | apply Kd.R_alloc | apply Kd.R_drewN | apply Kd.R_drew)); exact HO_14.out⟩, ⟨by (with_reducible repeat (first | apply Kd.R_alloc | apply Kd.R_drewN | apply Kd.R_drew)); exact HO_19.out⟩, ⟨by (with_reducible repeat (first | apply Kd.R_alloc | apply Kd.R_drewN | apply Kd.R_drew)); exact HO_20.out⟩, ⟨by (with_reducible repeat (first | apply Kd.R_alloc | apply Kd.R_drewN | apply Kd.R_drew)); exact HO_21.out⟩, ⟨by (with_reducible repeat (first | apply Kd.R_alloc | apply Kd.R_drewN | apply Kd.R_drew)); exact Kd.R_mono HO_288001.out (fun _ hk => ⟨hk.1.1, hk.1.2⟩)⟩, ⟨by (with_reducible repeat (first | apply Kd.R_alloc | apply Kd.R_drewN | apply Kd.R_drew)); exact Kd.R_mono HO_293001.out (fun _ hk => ⟨hk.1.1, hk.1.2⟩)⟩, ⟨by (with_reducible repeat (first | apply Kd.R_alloc | apply Kd.R_drewN | apply Kd.R_drew)); exact Kd.R_mono HO_298001.out (fun _ hk => ⟨hk.1.1, hk.1.2⟩)⟩, ⟨bk_ BK255⟩, ⟨bk_ BK256⟩, ⟨bk_ BK257⟩, ⟨bk_ BK287⟩, ⟨bk_ BK292⟩, ⟨bk_ BK297⟩, ⟨by repeat (first | (with_reducible first | exact HB.out | apply below_alloc | apply pw_below_drewN | apply below_drew1 | refine below_set ?_ GE255.out | refine below_set ?_ GE256.out | refine below_set ?_ GE257.out | refine below_set ?_ GE287.out | refine below_set ?_ GE292.out | refine below_set ?_ GE297.out) | exact HB.out)⟩⟩
  ·replace c113 := Bool.eq_false_iff.mpr c113
   subst c113
   have H1 : (some false) = some r := by rw [if_neg (show ¬ (false = true) by decide)] at H; exact H
   clear H
   have H := H1
   clear H1
   obtain rfl := Option.some.inj H
   go_wp2
   go_ret
   exact ⟨by first | rfl | (simp [errW_none, errW_some] <;> rfl) | (simp [*, errW_none, errW_some] <;> rfl), by repeat (first | (with_reducible first | exact HB.out | apply below_alloc | apply pw_below_drewN | apply below_drew1 | refine below_set ?_ GE255.out | refine below_set ?_ GE256.out | refine below_set ?_ GE257.out | refine below_set ?_ GE287.out | refine below_set ?_ GE292.out | refine below_set ?_ GE297.out) | exact HB.out)⟩
 clear HC108
 obtain ⟨kq, HA, HJ107, HO_14, HO_19, HO_20, HO_21, HO_288001, HO_293001, HO_298001, BK255, BK256, BK257, BK287, BK292, BK297, HB⟩ := hcut
 cases kq
 case zero => exact absurd HA.out (by simp [laws_FnExactAfterMap.j7])
 case' succ kj107 => skip
 as_aux_lemma =>
 have H := HA.out
 clear HA
 simp only [laws_FnExactAfterMap.j7] at H
 replace H := Option.bind_eq_some_iff.mp H
 obtain ⟨⟨t314, t315⟩, A1140, H⟩ := H
 (try dsimp only at H)
 have A114 := Aside0.mk A1140
 clear A1140
 replace H := Option.bind_eq_some_iff.mp H
 obtain ⟨t318, A1150, H⟩ := H
 (try dsimp only at H)
 have A115 := Aside0.mk A1150
 clear A1150
 have HC116 := Aside0.mk H
 clear H
 try go_wp2
 have n_ := And.intro (Aside0.mk (Kd.R_drew HO_14.out)) (And.intro (Aside0.mk (Kd.R_drew HO_19.out)) (And.intro (Aside0.mk (Kd.R_drew HO_20.out)) (And.intro (Aside0.mk (Kd.R_drew HO_21.out)) (And.intro (Aside0.mk (Kd.R_drew HO_288001.out)) (And.intro (Aside0.mk (Kd.R_drew HO_293001.out)) (And.intro (Aside0.mk (Kd.R_drew HO_298001.out)) (And.intro (Aside0.mk (blk_drew BK255.out)) (And.intro (Aside0.mk (blk_drew BK256.out)) (And.intro (Aside0.mk (blk_drew BK257.out)) (And.intro (Aside0.mk (blk_drew BK287.out)) (And.intro (Aside0.mk (blk_drew BK292.out)) (And.intro (Aside0.mk (blk_drew BK297.out)) (Aside0.mk (below_drew1 HB.out))))))))))))))
 clear HO_14 HO_19 HO_20 HO_21 HO_288001 HO_293001 HO_298001 BK255 BK256 BK257 BK287 BK292 BK297 HB; obtain ⟨HO_14, HO_19, HO_20, HO_21, HO_288001, HO_293001, HO_298001, BK255, BK256, BK257, BK287, BK292, BK297, HB⟩ := n_
 refine start_ (n := 5) (S := fun w' => w'.cell? ⟨gb292, 0, none⟩ = some (.int .i64 t288) ∧ w'.cell? ⟨gb292, 1, none⟩ = some (.slice Ao79 t289.length co79) ∧ w'.cell? ⟨gb256, 0, none⟩ = some (.int .i64 a1_0) ∧ w'.cell? ⟨gb256, 1, none⟩ = some (.slice A1_1 l1_1.length c1_1)) (ds := []) #[false, false, false, false, false] (by kernel_rfl) rfl rfl ⟨(blk_cell BK292.out 0).trans rfl, (blk_cell BK292.out 1).trans rfl, (blk_cell BK256.out 0).trans rfl, (blk_cell BK256.out 1).trans rfl⟩ (fun hHeld => ?_)
 generalize wc.drew = w117 at HO_14 HO_19 HO_20 HO_21 HO_288001 HO_293001 HO_298001 BK255 BK256 BK257 BK287 BK292 BK297 HB hHeld ⊢
 refine take_ (i := 0) (N := some 98) (v := ?_) (a' := ?_) #[true, false, false, false, false] rfl rfl (by kernel_rfl) (fun _ _ _ h => h) (Or.inl ⟨by rfl, ?_⟩) hHeld ?_ ?_
 rotate_left
 ·rintro w' ⟨s0, s1, s2, s3⟩
  go_simp
  with_reducible rfl
 rotate_left
 ·simp only [Act.put, List.setIfInBounds_toArray, List.set_cons_zero, List.set_cons_succ, i64_w, i32_w]
  rfl
 refine take_ (i := 1) (N := some 99) (v := ?_) (a' := ?_) #[true, true, false, false, false] rfl rfl (by kernel_rfl) (fun _ _ _ h => h) (Or.inl ⟨by rfl, ?_⟩) hHeld ?_ ?_
 rotate_left
 ·rintro w' ⟨s0, s1, s2, s3⟩
  go_simp
  with_reducible rfl
 rotate_left
 ·simp only [Act.put, List.setIfInBounds_toArray, List.set_cons_zero, List.set_cons_succ, i64_w, i32_w]
  rfl
 refine one_ (i := 2) (N := some 100) #[true, true, true, false, false] rfl rfl (by kernel_rfl) (by decide) (fun K hK => ?_)
 refine goes_ Try.func17 (by kernel_rfl) rfl #[.agg #[.int .i64 a1_0, .slice A1_1 l1_1.length c1_1]] (by rfl) rfl rfl (by (try simp only [List.map_toArray, List.map_cons, List.map_nil]); first | done | rfl | (simp only [List.length_drop, List.length_take]; rfl)) ?_
 with_reducible refine (laws_toGraph.calls kj107 a1_0 _ _ l1_1 t314 t315 _ ?side1 ?side2 A114.out).mono ?_
 (case side1 => exact cb_ HR1_1)
 (case side2 => exact HC1_1.out)
 rintro e w118 ⟨v316, rfl, ho0, hb⟩
 refine ⟨_, rfl, ?_⟩
 have n_ := And.intro (Aside0.mk (Kd.R_below (rk_ HO_14) hb)) (And.intro (Aside0.mk (Kd.R_below (rk_ HO_19) hb)) (And.intro (Aside0.mk (Kd.R_below (rk_ HO_20) hb)) (And.intro (Aside0.mk (Kd.R_below (rk_ HO_21) hb)) (And.intro (Aside0.mk (Kd.R_elder' (rk_ HO_288001) (Kd.R_base ho0) hb)) (And.intro (Aside0.mk (Kd.R_elder' (rk_ HO_293001) (Kd.R_base ho0) hb)) (And.intro (Aside0.mk (Kd.R_elder' (rk_ HO_298001) (Kd.R_base ho0) hb)) (And.intro (Aside0.mk (Kd.R_lower (Kd.R_new' (Kd.R_new' (Kd.R_new' ho0 (Kd.R_lt (rk_ HO_288001))) (Kd.R_lt (rk_ HO_293001))) (Kd.R_lt (rk_ HO_298001))) (below_size bg_))) (And.intro (Aside0.mk (blk_below (g := gb255) (o := .cells #[.int .i64 a0_0, .slice A0_1 l0_1.length c0_1] 24 (0, 0)) (bk_ BK255) hb)) (And.intro (Aside0.mk (blk_below (g := gb256) (o := .cells #[.int .i64 a1_0, .slice A1_1 l1_1.length c1_1] 24 (0, 0)) (bk_ BK256) hb)) (And.intro (Aside0.mk (blk_below (g := gb257) (o := .cells #[.int .i64 a2_0, .slice A2_1 l2_1.length c2_1] 24 (0, 0)) (bk_ BK257) hb)) (And.intro (Aside0.mk (blk_below (g := gb287) (o := .cells #[.int .i64 t283, .slice Ao69 t284.length co69] 29 (0, 0)) (bk_ BK287) hb)) (And.intro (Aside0.mk (blk_below (g := gb292) (o := .cells #[.int .i64 t288, .slice Ao79 t289.length co79] 29 (0, 0)) (bk_ BK292) hb)) (And.intro (Aside0.mk (blk_below (g := gb297) (o := .cells #[.int .i64 t293, .slice Ao89 t294.length co89] 29 (0, 0)) (bk_ BK297) hb)) (Aside0.mk (below_step bg_ hb)))))))))))))))
 clear HO_14 HO_19 HO_20 HO_21 HO_288001 HO_293001 HO_298001 BK255 BK256 BK257 BK287 BK292 BK297 HB; obtain ⟨HO_14, HO_19, HO_20, HO_21, HO_288001, HO_293001, HO_298001, HO317, BK255, BK256, BK257, BK287, BK292, BK297, HB⟩ := n_
 (try clear hb)
 (try clear hb2)
 (try clear hk)
 (try clear hi)
 (try clear ho0)
 obtain ⟨Ao119, co119, eo119⟩ := Kd.R_slice HO317.out
 (first | subst eo119 | (injection eo119 with f1_ f2_ f3_; have f4_ := f1_.symm; have f5_ := f3_.symm; clear f1_ f2_ f3_; subst f4_; subst f5_))
 refine hK.out _ _ ⟨(blk_cell BK292.out 0).trans rfl, (blk_cell BK292.out 1).trans rfl, (blk_cell BK256.out 0).trans rfl, (blk_cell BK256.out 1).trans rfl⟩ (fun hHeld => ?_)
 clear hK K
 refine norm_ (a' := ?_) ?_ ?_
 rotate_left
 ·show Act.put _ (some 100) _ = _
  simp only [Act.put, List.setIfInBounds_toArray, List.set_cons_zero, List.set_cons_succ, i64_w, i32_w]
  rfl
 refine one_ (i := 3) (N := some 101) #[true, true, true, true, false] rfl rfl (by kernel_rfl) (by decide) (fun K hK => ?_)
 refine goes_ Try.func20 (by kernel_rfl) rfl #[.agg #[.int .i64 t288, .slice Ao79 t289.length co79], .agg #[.int .i64 t314, .slice Ao119 t315.length co119]] (by rfl) rfl rfl (by (try simp only [List.map_toArray, List.map_cons, List.map_nil]); first | done | rfl | (simp only [List.length_drop, List.length_take]; rfl)) ?_
 with_reducible refine (laws_eqGraph.calls kj107 t288 _ _ t289 t314 _ _ t315 t318 _ ?side1 ?side2 ?side3 ?side4 A115.out).mono ?_
 (case side1 => repeat (first | exact (Kd.R_reads' HO_293001.out).2.2 | (with_reducible refine Kd.C_alloc ?_ _) | (with_reducible refine Kd.C_drewN ?_ _) | (with_reducible refine Kd.C_drew ?_)))
 (case side2 => exact (Kd.R_reads' HO_293001.out).2.1)
 (case side3 => repeat (first | exact (Kd.R_reads' HO317.out).2.2 | (with_reducible refine Kd.C_alloc ?_ _) | (with_reducible refine Kd.C_drewN ?_ _) | (with_reducible refine Kd.C_drew ?_)))
 (case side4 => exact (Kd.R_reads' HO317.out).2.1)
 rintro e w120 ⟨rfl, hb⟩
 refine ⟨_, rfl, ?_⟩
 have n_ := And.intro (Aside0.mk (Kd.R_below (rk_ HO_14) hb)) (And.intro (Aside0.mk (Kd.R_below (rk_ HO_19) hb)) (And.intro (Aside0.mk (Kd.R_below (rk_ HO_20) hb)) (And.intro (Aside0.mk (Kd.R_below (rk_ HO_21) hb)) (And.intro (Aside0.mk (Kd.R_below (rk_ HO_288001) hb)) (And.intro (Aside0.mk (Kd.R_below (rk_ HO_293001) hb)) (And.intro (Aside0.mk (Kd.R_below (rk_ HO_298001) hb)) (And.intro (Aside0.mk (Kd.R_below (rk_ HO317) hb)) (And.intro (Aside0.mk (blk_below (g := gb255) (o := .cells #[.int .i64 a0_0, .slice A0_1 l0_1.length c0_1] 24 (0, 0)) (bk_ BK255) hb)) (And.intro (Aside0.mk (blk_below (g := gb256) (o := .cells #[.int .i64 a1_0, .slice A1_1 l1_1.length c1_1] 24 (0, 0)) (bk_ BK256) hb)) (And.intro (Aside0.mk (blk_below (g := gb257) (o := .cells #[.int .i64 a2_0, .slice A2_1 l2_1.length c2_1] 24 (0, 0)) (bk_ BK257) hb)) (And.intro (Aside0.mk (blk_below (g := gb287) (o := .cells #[.int .i64 t283, .slice Ao69 t284.length co69] 29 (0, 0)) (bk_ BK287) hb)) (And.intro (Aside0.mk (blk_below (g := gb292) (o := .cells #[.int .i64 t288, .slice Ao79 t289.length co79] 29 (0, 0)) (bk_ BK292) hb)) (And.intro (Aside0.mk (blk_below (g := gb297) (o := .cells #[.int .i64 t293, .slice Ao89 t294.length co89] 29 (0, 0)) (bk_ BK297) hb)) (Aside0.mk (below_step bg_ hb)))))))))))))))
 clear HO_14 HO_19 HO_20 HO_21 HO_288001 HO_293001 HO_298001 HO317 BK255 BK256 BK257 BK287 BK292 BK297 HB; obtain ⟨HO_14, HO_19, HO_20, HO_21, HO_288001, HO_293001, HO_298001, HO317, BK255, BK256, BK257, BK287, BK292, BK297, HB⟩ := n_
 (try clear hb)
 (try clear hb2)
 (try clear hk)
 (try clear hi)
 refine hK.out _ _ ⟨(blk_cell BK292.out 0).trans rfl, (blk_cell BK292.out 1).trans rfl, (blk_cell BK256.out 0).trans rfl, (blk_cell BK256.out 1).trans rfl⟩ (fun hHeld => ?_)
 clear hK K
 refine norm_ (a' := ?_) ?_ ?_
 rotate_left
 ·show Act.put _ (some 101) _ = _
  simp only [Act.put, List.setIfInBounds_toArray, List.set_cons_zero, List.set_cons_succ, i64_w, i32_w]
  rfl
 refine pure_ (i := 4) (N := some 102) (v := ?_) (a' := ?_) #[true, true, true, true, true] rfl rfl (by kernel_rfl) (fun _ _ _ h => h) (Or.inl ⟨by rfl, ?_⟩) ?_ ?_
 rotate_left
 ·intro w'
  go_simp
  with_reducible rfl
 rotate_left
 ·simp only [Act.put, List.setIfInBounds_toArray, List.set_cons_zero, List.set_cons_succ, i64_w, i32_w]
  rfl
 refine done_ (by kernel_rfl) ?_
 go_upto_if 102 with (fail)
 go_cut [] (fun wc => ∃ (kq : Nat), Aside0 (laws_FnExactAfterMap.j8 kq l3 l4 a5 t279 t282 t298 t301 t304 t307 a0_0 l0_1 a1_0 l1_1 a2_0 l2_1 t283 t284 t288 t289 t293 t294 = some r) ∧ Aside0 (kq ≤ kj107) ∧ Aside0 (Kd.R (Kd.int .i64) 3 wc w.heap.size (fun k_ => some k_ ≠ ((.slice Ao95 t298.length co95) : Value).ownBlock ∧ some k_ ≠ ((.slice Ao96 t301.length co96) : Value).ownBlock ∧ some k_ ≠ (v305 : Value).ownBlock) v280 t279) ∧ Aside0 (Kd.R (Kd.int .i64) 3 wc w.heap.size (fun k_ => some k_ ≠ (v280 : Value).ownBlock ∧ some k_ ≠ ((.slice Ao96 t301.length co96) : Value).ownBlock ∧ some k_ ≠ (v305 : Value).ownBlock) (.slice Ao95 t298.length co95) t298) ∧ Aside0 (Kd.R (Kd.int .i64) 3 wc w.heap.size (fun k_ => some k_ ≠ (v280 : Value).ownBlock ∧ some k_ ≠ ((.slice Ao95 t298.length co95) : Value).ownBlock ∧ some k_ ≠ (v305 : Value).ownBlock) (.slice Ao96 t301.length co96) t301) ∧ Aside0 (Kd.R (Kd.int .i64) 3 wc w.heap.size (fun k_ => some k_ ≠ (v280 : Value).ownBlock ∧ some k_ ≠ ((.slice Ao95 t298.length co95) : Value).ownBlock ∧ some k_ ≠ ((.slice Ao96 t301.length co96) : Value).ownBlock) v305 t304) ∧ Aside0 (Kd.R k78 78 wc w.heap.size (fun k_ => some k_ ≠ ((.slice Ao79 t289.length co79) : Value).ownBlock ∧ some k_ ≠ ((.slice Ao89 t294.length co89) : Value).ownBlock) (.slice Ao69 t284.length co69) t284) ∧ Aside0 (Kd.R k78 78 wc w.heap.size (fun k_ => some k_ ≠ ((.slice Ao69 t284.length co69) : Value).ownBlock ∧ some k_ ≠ ((.slice Ao89 t294.length co89) : Value).ownBlock) (.slice Ao79 t289.length co79) t289) ∧ Aside0 (Kd.R k78 78 wc w.heap.size (fun k_ => some k_ ≠ ((.slice Ao69 t284.length co69) : Value).ownBlock ∧ some k_ ≠ ((.slice Ao79 t289.length co79) : Value).ownBlock) (.slice Ao89 t294.length co89) t294) ∧ Aside0 (wc.heap[gb255]? = some (.cells #[.int .i64 a0_0, (.slice A0_1 l0_1.length c0_1)] 24 (0, 0))) ∧ Aside0 (wc.heap[gb256]? = some (.cells #[.int .i64 a1_0, (.slice A1_1 l1_1.length c1_1)] 24 (0, 0))) ∧ Aside0 (wc.heap[gb257]? = some (.cells #[.int .i64 a2_0, (.slice A2_1 l2_1.length c2_1)] 24 (0, 0))) ∧ Aside0 (wc.heap[gb287]? = some (.cells #[.int .i64 t283, (.slice Ao69 t284.length co69)] 29 (0, 0))) ∧ Aside0 (wc.heap[gb292]? = some (.cells #[.int .i64 t288, (.slice Ao79 t289.length co79)] 29 (0, 0))) ∧ Aside0 (wc.heap[gb297]? = some (.cells #[.int .i64 t293, (.slice Ao89 t294.length co89)] 29 (0, 0))) ∧ Aside0 (Below w.heap.size w wc))
 case first =>
  have H := HC116.out
  clear HC116
  by_cases c121 : t318 = true
  ·subst c121
   have H1 : (laws_FnExactAfterMap.j8 kj107 l3 l4 a5 t279 t282 t298 t301 t304 t307 a0_0 l0_1 a1_0 l1_1 a2_0 l2_1 t283 t284 t288 t289 t293 t294) = some r := by rw [if_pos rfl] at H; exact H
   clear H
   have H := H1
   clear H1
   have H' := Aside0.mk H
   clear H
   go_wp2
   go_meet
   case rel => exact ⟨_, H', ⟨by have := HJ6.out; have := HJ11.out; have := HJ14.out; have := HJ21.out; have := HJ28.out; have := HJ46.out; have := HJ103.out; have := HJ107.out; first | omega | exact Nat.le_refl _⟩, ⟨by (with_reducible repeat (first | apply Kd.R_alloc | apply Kd.R_drewN | apply Kd.R_drew)); exact HO_14.out⟩, ⟨by (with_reducible repeat (first | apply Kd.R_alloc | apply Kd.R_drewN | apply Kd.R_drew)); exact HO_19.out⟩, ⟨by (with_reducible repeat (first | apply Kd.R_alloc | apply Kd.R_drewN | apply Kd.R_drew)); exact HO_20.out⟩, ⟨by (with_reducible repeat (first | apply Kd.R_alloc | apply Kd.R_drewN | apply Kd.R_drew)); exact HO_21.out⟩, ⟨by (with_reducible repeat (first | apply Kd.R_alloc | apply Kd.R_drewN | apply Kd.R_drew)); exact Kd.R_mono HO_288001.out (fun _ hk => ⟨hk.1.1, hk.1.2⟩)⟩, ⟨by (with_reducible repeat (first | apply Kd.R_alloc | apply Kd.R_drewN | apply Kd.R_drew)); exact Kd.R_mono HO_293001.out (fun _ hk => ⟨hk.1.1, hk.1.2⟩)⟩, ⟨by (with_reducible repeat (first | apply Kd.R_alloc | apply Kd.R_drewN | apply Kd.R_drew)); exact Kd.R_mono HO_298001.out (fun _ hk => ⟨hk.1.1, hk.1.2⟩)⟩, ⟨bk_ BK255⟩, ⟨bk_ BK256⟩, ⟨bk_ BK257⟩, ⟨bk_ BK287⟩, ⟨bk_ BK292⟩, ⟨bk_ BK297⟩, ⟨by repeat (first | (with_reducible first | exact HB.out | apply below_alloc | apply pw_below_drewN | apply below_drew1 | refine below_set ?_ GE255.out | refine below_set ?_ GE256.out | refine below_set ?_ GE257.out | refine below_set ?_ GE287.out | refine below_set ?_ GE292.out | refine below_set ?_ GE297.out) | exact HB.out)⟩⟩
  ·replace c121 := Bool.eq_false_iff.mpr c121
   subst c121
   have H1 : (some false) = some r := by rw [if_neg (show ¬ (false = true) by decide)] at H; exact H
   clear H
   have H := H1
   clear H1
   obtain rfl := Option.some.inj H
   go_wp2
   go_ret
   exact ⟨by first | rfl | (simp [errW_none, errW_some] <;> rfl) | (simp [*, errW_none, errW_some] <;> rfl), by repeat (first | (with_reducible first | exact HB.out | apply below_alloc | apply pw_below_drewN | apply below_drew1 | refine below_set ?_ GE255.out | refine below_set ?_ GE256.out | refine below_set ?_ GE257.out | refine below_set ?_ GE287.out | refine below_set ?_ GE292.out | refine below_set ?_ GE297.out) | exact HB.out)⟩
 clear HC116
 obtain ⟨kq, HA, HJ115, HO_14, HO_19, HO_20, HO_21, HO_288001, HO_293001, HO_298001, BK255, BK256, BK257, BK287, BK292, BK297, HB⟩ := hcut
 cases kq
 case zero => exact absurd HA.out (by simp [laws_FnExactAfterMap.j8])
 case' succ kj115 => skip
 as_aux_lemma =>
 have H := HA.out
 clear HA
 simp only [laws_FnExactAfterMap.j8] at H
 replace H := Option.bind_eq_some_iff.mp H
 obtain ⟨⟨t319, t320⟩, A1220, H⟩ := H
 (try dsimp only at H)
 have A122 := Aside0.mk A1220
 clear A1220
 replace H := Option.bind_eq_some_iff.mp H
 obtain ⟨t323, A1230, H⟩ := H
 (try dsimp only at H)
 have A123 := Aside0.mk A1230
 clear A1230
 have HC124 := Aside0.mk H
 clear H
 try go_wp2
 have n_ := And.intro (Aside0.mk (Kd.R_drew HO_14.out)) (And.intro (Aside0.mk (Kd.R_drew HO_19.out)) (And.intro (Aside0.mk (Kd.R_drew HO_20.out)) (And.intro (Aside0.mk (Kd.R_drew HO_21.out)) (And.intro (Aside0.mk (Kd.R_drew HO_288001.out)) (And.intro (Aside0.mk (Kd.R_drew HO_293001.out)) (And.intro (Aside0.mk (Kd.R_drew HO_298001.out)) (And.intro (Aside0.mk (blk_drew BK255.out)) (And.intro (Aside0.mk (blk_drew BK256.out)) (And.intro (Aside0.mk (blk_drew BK257.out)) (And.intro (Aside0.mk (blk_drew BK287.out)) (And.intro (Aside0.mk (blk_drew BK292.out)) (And.intro (Aside0.mk (blk_drew BK297.out)) (Aside0.mk (below_drew1 HB.out))))))))))))))
 clear HO_14 HO_19 HO_20 HO_21 HO_288001 HO_293001 HO_298001 BK255 BK256 BK257 BK287 BK292 BK297 HB; obtain ⟨HO_14, HO_19, HO_20, HO_21, HO_288001, HO_293001, HO_298001, BK255, BK256, BK257, BK287, BK292, BK297, HB⟩ := n_
 refine start_ (n := 5) (S := fun w' => w'.cell? ⟨gb297, 0, none⟩ = some (.int .i64 t293) ∧ w'.cell? ⟨gb297, 1, none⟩ = some (.slice Ao89 t294.length co89) ∧ w'.cell? ⟨gb257, 0, none⟩ = some (.int .i64 a2_0) ∧ w'.cell? ⟨gb257, 1, none⟩ = some (.slice A2_1 l2_1.length c2_1)) (ds := []) #[false, false, false, false, false] (by kernel_rfl) rfl rfl ⟨(blk_cell BK297.out 0).trans rfl, (blk_cell BK297.out 1).trans rfl, (blk_cell BK257.out 0).trans rfl, (blk_cell BK257.out 1).trans rfl⟩ (fun hHeld => ?_)
 generalize wc.drew = w125 at HO_14 HO_19 HO_20 HO_21 HO_288001 HO_293001 HO_298001 BK255 BK256 BK257 BK287 BK292 BK297 HB hHeld ⊢
 refine take_ (i := 0) (N := some 103) (v := ?_) (a' := ?_) #[true, false, false, false, false] rfl rfl (by kernel_rfl) (fun _ _ _ h => h) (Or.inl ⟨by rfl, ?_⟩) hHeld ?_ ?_
 rotate_left
 ·rintro w' ⟨s0, s1, s2, s3⟩
  go_simp
  with_reducible rfl
 rotate_left
 ·simp only [Act.put, List.setIfInBounds_toArray, List.set_cons_zero, List.set_cons_succ, i64_w, i32_w]
  rfl
 refine take_ (i := 1) (N := some 104) (v := ?_) (a' := ?_) #[true, true, false, false, false] rfl rfl (by kernel_rfl) (fun _ _ _ h => h) (Or.inl ⟨by rfl, ?_⟩) hHeld ?_ ?_
 rotate_left
 ·rintro w' ⟨s0, s1, s2, s3⟩
  go_simp
  with_reducible rfl
 rotate_left
 ·simp only [Act.put, List.setIfInBounds_toArray, List.set_cons_zero, List.set_cons_succ, i64_w, i32_w]
  rfl
 refine one_ (i := 2) (N := some 105) #[true, true, true, false, false] rfl rfl (by kernel_rfl) (by decide) (fun K hK => ?_)
 refine goes_ Try.func17 (by kernel_rfl) rfl #[.agg #[.int .i64 a2_0, .slice A2_1 l2_1.length c2_1]] (by rfl) rfl rfl (by (try simp only [List.map_toArray, List.map_cons, List.map_nil]); first | done | rfl | (simp only [List.length_drop, List.length_take]; rfl)) ?_
 with_reducible refine (laws_toGraph.calls kj115 a2_0 _ _ l2_1 t319 t320 _ ?side1 ?side2 A122.out).mono ?_
 (case side1 => exact cb_ HR2_1)
 (case side2 => exact HC2_1.out)
 rintro e w126 ⟨v321, rfl, ho0, hb⟩
 refine ⟨_, rfl, ?_⟩
 have n_ := And.intro (Aside0.mk (Kd.R_below (rk_ HO_14) hb)) (And.intro (Aside0.mk (Kd.R_below (rk_ HO_19) hb)) (And.intro (Aside0.mk (Kd.R_below (rk_ HO_20) hb)) (And.intro (Aside0.mk (Kd.R_below (rk_ HO_21) hb)) (And.intro (Aside0.mk (Kd.R_elder' (rk_ HO_288001) (Kd.R_base ho0) hb)) (And.intro (Aside0.mk (Kd.R_elder' (rk_ HO_293001) (Kd.R_base ho0) hb)) (And.intro (Aside0.mk (Kd.R_elder' (rk_ HO_298001) (Kd.R_base ho0) hb)) (And.intro (Aside0.mk (Kd.R_lower (Kd.R_new' (Kd.R_new' (Kd.R_new' ho0 (Kd.R_lt (rk_ HO_288001))) (Kd.R_lt (rk_ HO_293001))) (Kd.R_lt (rk_ HO_298001))) (below_size bg_))) (And.intro (Aside0.mk (blk_below (g := gb255) (o := .cells #[.int .i64 a0_0, .slice A0_1 l0_1.length c0_1] 24 (0, 0)) (bk_ BK255) hb)) (And.intro (Aside0.mk (blk_below (g := gb256) (o := .cells #[.int .i64 a1_0, .slice A1_1 l1_1.length c1_1] 24 (0, 0)) (bk_ BK256) hb)) (And.intro (Aside0.mk (blk_below (g := gb257) (o := .cells #[.int .i64 a2_0, .slice A2_1 l2_1.length c2_1] 24 (0, 0)) (bk_ BK257) hb)) (And.intro (Aside0.mk (blk_below (g := gb287) (o := .cells #[.int .i64 t283, .slice Ao69 t284.length co69] 29 (0, 0)) (bk_ BK287) hb)) (And.intro (Aside0.mk (blk_below (g := gb292) (o := .cells #[.int .i64 t288, .slice Ao79 t289.length co79] 29 (0, 0)) (bk_ BK292) hb)) (And.intro (Aside0.mk (blk_below (g := gb297) (o := .cells #[.int .i64 t293, .slice Ao89 t294.length co89] 29 (0, 0)) (bk_ BK297) hb)) (Aside0.mk (below_step bg_ hb)))))))))))))))
 clear HO_14 HO_19 HO_20 HO_21 HO_288001 HO_293001 HO_298001 BK255 BK256 BK257 BK287 BK292 BK297 HB; obtain ⟨HO_14, HO_19, HO_20, HO_21, HO_288001, HO_293001, HO_298001, HO322, BK255, BK256, BK257, BK287, BK292, BK297, HB⟩ := n_
 (try clear hb)
 (try clear hb2)
 (try clear hk)
 (try clear hi)
 (try clear ho0)
 obtain ⟨Ao127, co127, eo127⟩ := Kd.R_slice HO322.out
 (first | subst eo127 | (injection eo127 with f1_ f2_ f3_; have f4_ := f1_.symm; have f5_ := f3_.symm; clear f1_ f2_ f3_; subst f4_; subst f5_))
 refine hK.out _ _ ⟨(blk_cell BK297.out 0).trans rfl, (blk_cell BK297.out 1).trans rfl, (blk_cell BK257.out 0).trans rfl, (blk_cell BK257.out 1).trans rfl⟩ (fun hHeld => ?_)
 clear hK K
 refine norm_ (a' := ?_) ?_ ?_
 rotate_left
 ·show Act.put _ (some 105) _ = _
  simp only [Act.put, List.setIfInBounds_toArray, List.set_cons_zero, List.set_cons_succ, i64_w, i32_w]
  rfl
 refine one_ (i := 3) (N := some 106) #[true, true, true, true, false] rfl rfl (by kernel_rfl) (by decide) (fun K hK => ?_)
 refine goes_ Try.func20 (by kernel_rfl) rfl #[.agg #[.int .i64 t293, .slice Ao89 t294.length co89], .agg #[.int .i64 t319, .slice Ao127 t320.length co127]] (by rfl) rfl rfl (by (try simp only [List.map_toArray, List.map_cons, List.map_nil]); first | done | rfl | (simp only [List.length_drop, List.length_take]; rfl)) ?_
 with_reducible refine (laws_eqGraph.calls kj115 t293 _ _ t294 t319 _ _ t320 t323 _ ?side1 ?side2 ?side3 ?side4 A123.out).mono ?_
 (case side1 => repeat (first | exact (Kd.R_reads' HO_298001.out).2.2 | (with_reducible refine Kd.C_alloc ?_ _) | (with_reducible refine Kd.C_drewN ?_ _) | (with_reducible refine Kd.C_drew ?_)))
 (case side2 => exact (Kd.R_reads' HO_298001.out).2.1)
 (case side3 => repeat (first | exact (Kd.R_reads' HO322.out).2.2 | (with_reducible refine Kd.C_alloc ?_ _) | (with_reducible refine Kd.C_drewN ?_ _) | (with_reducible refine Kd.C_drew ?_)))
 (case side4 => exact (Kd.R_reads' HO322.out).2.1)
 rintro e w128 ⟨rfl, hb⟩
 refine ⟨_, rfl, ?_⟩
 have n_ := And.intro (Aside0.mk (Kd.R_below (rk_ HO_14) hb)) (And.intro (Aside0.mk (Kd.R_below (rk_ HO_19) hb)) (And.intro (Aside0.mk (Kd.R_below (rk_ HO_20) hb)) (And.intro (Aside0.mk (Kd.R_below (rk_ HO_21) hb)) (And.intro (Aside0.mk (Kd.R_below (rk_ HO_288001) hb)) (And.intro (Aside0.mk (Kd.R_below (rk_ HO_293001) hb)) (And.intro (Aside0.mk (Kd.R_below (rk_ HO_298001) hb)) (And.intro (Aside0.mk (Kd.R_below (rk_ HO322) hb)) (And.intro (Aside0.mk (blk_below (g := gb255) (o := .cells #[.int .i64 a0_0, .slice A0_1 l0_1.length c0_1] 24 (0, 0)) (bk_ BK255) hb)) (And.intro (Aside0.mk (blk_below (g := gb256) (o := .cells #[.int .i64 a1_0, .slice A1_1 l1_1.length c1_1] 24 (0, 0)) (bk_ BK256) hb)) (And.intro (Aside0.mk (blk_below (g := gb257) (o := .cells #[.int .i64 a2_0, .slice A2_1 l2_1.length c2_1] 24 (0, 0)) (bk_ BK257) hb)) (And.intro (Aside0.mk (blk_below (g := gb287) (o := .cells #[.int .i64 t283, .slice Ao69 t284.length co69] 29 (0, 0)) (bk_ BK287) hb)) (And.intro (Aside0.mk (blk_below (g := gb292) (o := .cells #[.int .i64 t288, .slice Ao79 t289.length co79] 29 (0, 0)) (bk_ BK292) hb)) (And.intro (Aside0.mk (blk_below (g := gb297) (o := .cells #[.int .i64 t293, .slice Ao89 t294.length co89] 29 (0, 0)) (bk_ BK297) hb)) (Aside0.mk (below_step bg_ hb)))))))))))))))
 clear HO_14 HO_19 HO_20 HO_21 HO_288001 HO_293001 HO_298001 HO322 BK255 BK256 BK257 BK287 BK292 BK297 HB; obtain ⟨HO_14, HO_19, HO_20, HO_21, HO_288001, HO_293001, HO_298001, HO322, BK255, BK256, BK257, BK287, BK292, BK297, HB⟩ := n_
 (try clear hb)
 (try clear hb2)
 (try clear hk)
 (try clear hi)
 refine hK.out _ _ ⟨(blk_cell BK297.out 0).trans rfl, (blk_cell BK297.out 1).trans rfl, (blk_cell BK257.out 0).trans rfl, (blk_cell BK257.out 1).trans rfl⟩ (fun hHeld => ?_)
 clear hK K
 refine norm_ (a' := ?_) ?_ ?_
 rotate_left
 ·show Act.put _ (some 106) _ = _
  simp only [Act.put, List.setIfInBounds_toArray, List.set_cons_zero, List.set_cons_succ, i64_w, i32_w]
  rfl
 refine pure_ (i := 4) (N := some 107) (v := ?_) (a' := ?_) #[true, true, true, true, true] rfl rfl (by kernel_rfl) (fun _ _ _ h => h) (Or.inl ⟨by rfl, ?_⟩) ?_ ?_
 rotate_left
 ·intro w'
  go_simp
  with_reducible rfl
 rotate_left
 ·simp only [Act.put, List.setIfInBounds_toArray, List.set_cons_zero, List.set_cons_succ, i64_w, i32_w]
  rfl
 refine done_ (by kernel_rfl) ?_
 go_upto_if 107 with (fail)
 go_cut [] (fun wc => ∃ (kq : Nat), Aside0 (laws_FnExactAfterMap.j9 kq l3 l4 a5 t279 t282 t298 t301 t304 t307 a0_0 l0_1 a1_0 l1_1 a2_0 l2_1 t283 t284 t288 t289 t293 t294 = some r) ∧ Aside0 (kq ≤ kj115) ∧ Aside0 (Kd.R (Kd.int .i64) 3 wc w.heap.size (fun k_ => some k_ ≠ ((.slice Ao95 t298.length co95) : Value).ownBlock ∧ some k_ ≠ ((.slice Ao96 t301.length co96) : Value).ownBlock ∧ some k_ ≠ (v305 : Value).ownBlock) v280 t279) ∧ Aside0 (Kd.R (Kd.int .i64) 3 wc w.heap.size (fun k_ => some k_ ≠ (v280 : Value).ownBlock ∧ some k_ ≠ ((.slice Ao96 t301.length co96) : Value).ownBlock ∧ some k_ ≠ (v305 : Value).ownBlock) (.slice Ao95 t298.length co95) t298) ∧ Aside0 (Kd.R (Kd.int .i64) 3 wc w.heap.size (fun k_ => some k_ ≠ (v280 : Value).ownBlock ∧ some k_ ≠ ((.slice Ao95 t298.length co95) : Value).ownBlock ∧ some k_ ≠ (v305 : Value).ownBlock) (.slice Ao96 t301.length co96) t301) ∧ Aside0 (Kd.R (Kd.int .i64) 3 wc w.heap.size (fun k_ => some k_ ≠ (v280 : Value).ownBlock ∧ some k_ ≠ ((.slice Ao95 t298.length co95) : Value).ownBlock ∧ some k_ ≠ ((.slice Ao96 t301.length co96) : Value).ownBlock) v305 t304) ∧ Aside0 (Kd.R k78 78 wc w.heap.size (fun k_ => some k_ ≠ ((.slice Ao79 t289.length co79) : Value).ownBlock ∧ some k_ ≠ ((.slice Ao89 t294.length co89) : Value).ownBlock) (.slice Ao69 t284.length co69) t284) ∧ Aside0 (Kd.R k78 78 wc w.heap.size (fun k_ => some k_ ≠ ((.slice Ao69 t284.length co69) : Value).ownBlock ∧ some k_ ≠ ((.slice Ao89 t294.length co89) : Value).ownBlock) (.slice Ao79 t289.length co79) t289) ∧ Aside0 (Kd.R k78 78 wc w.heap.size (fun k_ => some k_ ≠ ((.slice Ao69 t284.length co69) : Value).ownBlock ∧ some k_ ≠ ((.slice Ao79 t289.length co79) : Value).ownBlock) (.slice Ao89 t294.length co89) t294) ∧ Aside0 (wc.heap[gb255]? = some (.cells #[.int .i64 a0_0, (.slice A0_1 l0_1.length c0_1)] 24 (0, 0))) ∧ Aside0 (wc.heap[gb256]? = some (.cells #[.int .i64 a1_0, (.slice A1_1 l1_1.length c1_1)] 24 (0, 0))) ∧ Aside0 (wc.heap[gb257]? = some (.cells #[.int .i64 a2_0, (.slice A2_1 l2_1.length c2_1)] 24 (0, 0))) ∧ Aside0 (wc.heap[gb287]? = some (.cells #[.int .i64 t283, (.slice Ao69 t284.length co69)] 29 (0, 0))) ∧ Aside0 (wc.heap[gb292]? = some (.cells #[.int .i64 t288, (.slice Ao79 t289.length co79)] 29 (0, 0))) ∧ Aside0 (wc.heap[gb297]? = some (.cells #[.int .i64 t293, (.slice Ao89 t294.length co89)] 29 (0, 0))) ∧ Aside0 (Below w.heap.size w wc))
 case first =>
  have H := HC124.out
  clear HC124
  by_cases c129 : t323 = true
  ·subst c129
   have H1 : (laws_FnExactAfterMap.j9 kj115 l3 l4 a5 t279 t282 t298 t301 t304 t307 a0_0 l0_1 a1_0 l1_1 a2_0 l2_1 t283 t284 t288 t289 t293 t294) = some r := by rw [if_pos rfl] at H; exact H
   clear H
   have H := H1
   clear H1
   have H' := Aside0.mk H
   clear H
   go_wp2
   go_meet
   case rel => exact ⟨_, H', ⟨by have := HJ6.out; have := HJ11.out; have := HJ14.out; have := HJ21.out; have := HJ28.out; have := HJ46.out; have := HJ103.out; have := HJ107.out; have := HJ115.out; first | omega | exact Nat.le_refl _⟩, ⟨by (with_reducible repeat (first | apply Kd.R_alloc | apply Kd.R_drewN | apply Kd.R_drew)); exact HO_14.out⟩, ⟨by (with_reducible repeat (first | apply Kd.R_alloc | apply Kd.R_drewN | apply Kd.R_drew)); exact HO_19.out⟩, ⟨by (with_reducible repeat (first | apply Kd.R_alloc | apply Kd.R_drewN | apply Kd.R_drew)); exact HO_20.out⟩, ⟨by (with_reducible repeat (first | apply Kd.R_alloc | apply Kd.R_drewN | apply Kd.R_drew)); exact HO_21.out⟩, ⟨by (with_reducible repeat (first | apply Kd.R_alloc | apply Kd.R_drewN | apply Kd.R_drew)); exact Kd.R_mono HO_288001.out (fun _ hk => ⟨hk.1.1, hk.1.2⟩)⟩, ⟨by (with_reducible repeat (first | apply Kd.R_alloc | apply Kd.R_drewN | apply Kd.R_drew)); exact Kd.R_mono HO_293001.out (fun _ hk => ⟨hk.1.1, hk.1.2⟩)⟩, ⟨by (with_reducible repeat (first | apply Kd.R_alloc | apply Kd.R_drewN | apply Kd.R_drew)); exact Kd.R_mono HO_298001.out (fun _ hk => ⟨hk.1.1, hk.1.2⟩)⟩, ⟨bk_ BK255⟩, ⟨bk_ BK256⟩, ⟨bk_ BK257⟩, ⟨bk_ BK287⟩, ⟨bk_ BK292⟩, ⟨bk_ BK297⟩, ⟨by repeat (first | (with_reducible first | exact HB.out | apply below_alloc | apply pw_below_drewN | apply below_drew1 | refine below_set ?_ GE255.out | refine below_set ?_ GE256.out | refine below_set ?_ GE257.out | refine below_set ?_ GE287.out | refine below_set ?_ GE292.out | refine below_set ?_ GE297.out) | exact HB.out)⟩⟩
  ·replace c129 := Bool.eq_false_iff.mpr c129
   subst c129
   have H1 : (some false) = some r := by rw [if_neg (show ¬ (false = true) by decide)] at H; exact H
   clear H
   have H := H1
   clear H1
   obtain rfl := Option.some.inj H
   go_wp2
   go_ret
   exact ⟨by first | rfl | (simp [errW_none, errW_some] <;> rfl) | (simp [*, errW_none, errW_some] <;> rfl), by repeat (first | (with_reducible first | exact HB.out | apply below_alloc | apply pw_below_drewN | apply below_drew1 | refine below_set ?_ GE255.out | refine below_set ?_ GE256.out | refine below_set ?_ GE257.out | refine below_set ?_ GE287.out | refine below_set ?_ GE292.out | refine below_set ?_ GE297.out) | exact HB.out)⟩
 clear HC124
 obtain ⟨kq, HA, HJ123, HO_14, HO_19, HO_20, HO_21, HO_288001, HO_293001, HO_298001, BK255, BK256, BK257, BK287, BK292, BK297, HB⟩ := hcut
 cases kq
 case zero => exact absurd HA.out (by simp [laws_FnExactAfterMap.j9])
 case' succ kj123 => skip
 as_aux_lemma =>
 have H := HA.out
 clear HA
 simp only [laws_FnExactAfterMap.j9] at H
 replace H := Option.bind_eq_some_iff.mp H
 obtain ⟨t324, A1300, H⟩ := H
 (try dsimp only at H)
 have A130 := Aside0.mk A1300
 clear A1300
 replace H := Option.bind_eq_some_iff.mp H
 obtain ⟨t327, A1310, H⟩ := H
 (try dsimp only at H)
 have A131 := Aside0.mk A1310
 clear A1310
 have HC132 := Aside0.mk H
 clear H
 go_upto_if 112 with (first | ((with_reducible refine gate_callee (f := 18) rfl ?_); refine gL_ (some 110) Try.func18 #[.slice A3 l3.length c3] ?_ rfl rfl; (with_reducible refine (laws_toIntS.calls kj123 _ _ l3 t324 _ ?side1 ?side2 A130.out).mono ?_); (case side1 => exact cb_ HR3); (case side2 => exact HC3.out); rintro e w133 ⟨v325, rfl, ho0, hb⟩; refine ⟨_, rfl, ?_⟩; have n_ := And.intro (Aside0.mk (Kd.R_elder' (rk_ HO_14) (Kd.R_base ho0) hb)) (And.intro (Aside0.mk (Kd.R_elder' (rk_ HO_19) (Kd.R_base ho0) hb)) (And.intro (Aside0.mk (Kd.R_elder' (rk_ HO_20) (Kd.R_base ho0) hb)) (And.intro (Aside0.mk (Kd.R_elder' (rk_ HO_21) (Kd.R_base ho0) hb)) (And.intro (Aside0.mk (Kd.R_below (rk_ HO_288001) hb)) (And.intro (Aside0.mk (Kd.R_below (rk_ HO_293001) hb)) (And.intro (Aside0.mk (Kd.R_below (rk_ HO_298001) hb)) (And.intro (Aside0.mk (Kd.R_lower (Kd.R_new' (Kd.R_new' (Kd.R_new' (Kd.R_new' ho0 (Kd.R_lt (rk_ HO_14))) (Kd.R_lt (rk_ HO_19))) (Kd.R_lt (rk_ HO_20))) (Kd.R_lt (rk_ HO_21))) (below_size bg_))) (And.intro (Aside0.mk (blk_below (g := gb255) (o := .cells #[.int .i64 a0_0, .slice A0_1 l0_1.length c0_1] 24 (0, 0)) (bk_ BK255) hb)) (And.intro (Aside0.mk (blk_below (g := gb256) (o := .cells #[.int .i64 a1_0, .slice A1_1 l1_1.length c1_1] 24 (0, 0)) (bk_ BK256) hb)) (And.intro (Aside0.mk (blk_below (g := gb257) (o := .cells #[.int .i64 a2_0, .slice A2_1 l2_1.length c2_1] 24 (0, 0)) (bk_ BK257) hb)) (And.intro (Aside0.mk (blk_below (g := gb287) (o := .cells #[.int .i64 t283, .slice Ao69 t284.length co69] 29 (0, 0)) (bk_ BK287) hb)) (And.intro (Aside0.mk (blk_below (g := gb292) (o := .cells #[.int .i64 t288, .slice Ao79 t289.length co79] 29 (0, 0)) (bk_ BK292) hb)) (And.intro (Aside0.mk (blk_below (g := gb297) (o := .cells #[.int .i64 t293, .slice Ao89 t294.length co89] 29 (0, 0)) (bk_ BK297) hb)) (Aside0.mk (below_step bg_ hb))))))))))))))); clear HO_14 HO_19 HO_20 HO_21 HO_288001 HO_293001 HO_298001 BK255 BK256 BK257 BK287 BK292 BK297 HB; obtain ⟨HO_14, HO_19, HO_20, HO_21, HO_288001, HO_293001, HO_298001, HO326, BK255, BK256, BK257, BK287, BK292, BK297, HB⟩ := n_; (try clear hb); (try clear hb2); (try clear hk); (try clear hi); (try clear ho0); obtain ⟨Ao134, co134, eo134⟩ := Kd.R_slice HO326.out; subst eo134) | ((with_reducible refine gate_callee (f := 21) rfl ?_); refine gL_ (some 111) Try.func21 #[.slice Ao95 t298.length co95, .slice Ao134 t324.length co134] ?_ rfl rfl; (with_reducible refine (laws_eqIntS.calls kj123 _ _ t298 _ _ t324 t327 _ ?side1 ?side2 ?side3 ?side4 A131.out).mono ?_); (case side1 => repeat (first | exact (Kd.R_reads' HO_19.out).2.2 | (with_reducible refine Kd.C_alloc ?_ _) | (with_reducible refine Kd.C_drewN ?_ _) | (with_reducible refine Kd.C_drew ?_))); (case side2 => exact (Kd.R_reads' HO_19.out).2.1); (case side3 => repeat (first | exact (Kd.R_reads' HO326.out).2.2 | (with_reducible refine Kd.C_alloc ?_ _) | (with_reducible refine Kd.C_drewN ?_ _) | (with_reducible refine Kd.C_drew ?_))); (case side4 => exact (Kd.R_reads' HO326.out).2.1); rintro e w' ⟨rfl, ⟨nd, rfl⟩⟩; refine ⟨_, rfl, ?_⟩))
 (try simp only [Act.put, List.setIfInBounds_toArray, List.set_cons_zero, List.set_cons_succ])
 go_cut [] (fun wc => ∃ (kq : Nat), Aside0 (laws_FnExactAfterMap.j10 kq l3 l4 a5 t279 t282 t298 t301 t304 t307 a0_0 l0_1 a1_0 l1_1 a2_0 l2_1 t283 t284 t288 t289 t293 t294 = some r) ∧ Aside0 (kq ≤ kj123) ∧ Aside0 (Kd.R (Kd.int .i64) 3 wc w.heap.size (fun k_ => some k_ ≠ ((.slice Ao95 t298.length co95) : Value).ownBlock ∧ some k_ ≠ ((.slice Ao96 t301.length co96) : Value).ownBlock ∧ some k_ ≠ (v305 : Value).ownBlock) v280 t279) ∧ Aside0 (Kd.R (Kd.int .i64) 3 wc w.heap.size (fun k_ => some k_ ≠ (v280 : Value).ownBlock ∧ some k_ ≠ ((.slice Ao96 t301.length co96) : Value).ownBlock ∧ some k_ ≠ (v305 : Value).ownBlock) (.slice Ao95 t298.length co95) t298) ∧ Aside0 (Kd.R (Kd.int .i64) 3 wc w.heap.size (fun k_ => some k_ ≠ (v280 : Value).ownBlock ∧ some k_ ≠ ((.slice Ao95 t298.length co95) : Value).ownBlock ∧ some k_ ≠ (v305 : Value).ownBlock) (.slice Ao96 t301.length co96) t301) ∧ Aside0 (Kd.R (Kd.int .i64) 3 wc w.heap.size (fun k_ => some k_ ≠ (v280 : Value).ownBlock ∧ some k_ ≠ ((.slice Ao95 t298.length co95) : Value).ownBlock ∧ some k_ ≠ ((.slice Ao96 t301.length co96) : Value).ownBlock) v305 t304) ∧ Aside0 (Kd.R k78 78 wc w.heap.size (fun k_ => some k_ ≠ ((.slice Ao79 t289.length co79) : Value).ownBlock ∧ some k_ ≠ ((.slice Ao89 t294.length co89) : Value).ownBlock) (.slice Ao69 t284.length co69) t284) ∧ Aside0 (Kd.R k78 78 wc w.heap.size (fun k_ => some k_ ≠ ((.slice Ao69 t284.length co69) : Value).ownBlock ∧ some k_ ≠ ((.slice Ao89 t294.length co89) : Value).ownBlock) (.slice Ao79 t289.length co79) t289) ∧ Aside0 (Kd.R k78 78 wc w.heap.size (fun k_ => some k_ ≠ ((.slice Ao69 t284.length co69) : Value).ownBlock ∧ some k_ ≠ ((.slice Ao79 t289.length co79) : Value).ownBlock) (.slice Ao89 t294.length co89) t294) ∧ Aside0 (wc.heap[gb255]? = some (.cells #[.int .i64 a0_0, (.slice A0_1 l0_1.length c0_1)] 24 (0, 0))) ∧ Aside0 (wc.heap[gb256]? = some (.cells #[.int .i64 a1_0, (.slice A1_1 l1_1.length c1_1)] 24 (0, 0))) ∧ Aside0 (wc.heap[gb257]? = some (.cells #[.int .i64 a2_0, (.slice A2_1 l2_1.length c2_1)] 24 (0, 0))) ∧ Aside0 (wc.heap[gb287]? = some (.cells #[.int .i64 t283, (.slice Ao69 t284.length co69)] 29 (0, 0))) ∧ Aside0 (wc.heap[gb292]? = some (.cells #[.int .i64 t288, (.slice Ao79 t289.length co79)] 29 (0, 0))) ∧ Aside0 (wc.heap[gb297]? = some (.cells #[.int .i64 t293, (.slice Ao89 t294.length co89)] 29 (0, 0))) ∧ Aside0 (Below w.heap.size w wc))
 case first =>
  have H := HC132.out
  clear HC132
  by_cases c135 : t327 = true
  ·subst c135
   have H1 : (laws_FnExactAfterMap.j10 kj123 l3 l4 a5 t279 t282 t298 t301 t304 t307 a0_0 l0_1 a1_0 l1_1 a2_0 l2_1 t283 t284 t288 t289 t293 t294) = some r := by rw [if_pos rfl] at H; exact H
   clear H
   have H := H1
   clear H1
   have H' := Aside0.mk H
   clear H
   go_wp2
   go_meet
   case rel => exact ⟨_, H', ⟨by have := HJ6.out; have := HJ11.out; have := HJ14.out; have := HJ21.out; have := HJ28.out; have := HJ46.out; have := HJ103.out; have := HJ107.out; have := HJ115.out; have := HJ123.out; first | omega | exact Nat.le_refl _⟩, ⟨by (with_reducible repeat (first | apply Kd.R_alloc | apply Kd.R_drewN | apply Kd.R_drew)); exact Kd.R_mono HO_14.out (fun _ hk => ⟨hk.1.1, ⟨hk.1.2.1, hk.1.2.2⟩⟩)⟩, ⟨by (with_reducible repeat (first | apply Kd.R_alloc | apply Kd.R_drewN | apply Kd.R_drew)); exact Kd.R_mono HO_19.out (fun _ hk => ⟨hk.1.1, ⟨hk.1.2.1, hk.1.2.2⟩⟩)⟩, ⟨by (with_reducible repeat (first | apply Kd.R_alloc | apply Kd.R_drewN | apply Kd.R_drew)); exact Kd.R_mono HO_20.out (fun _ hk => ⟨hk.1.1, ⟨hk.1.2.1, hk.1.2.2⟩⟩)⟩, ⟨by (with_reducible repeat (first | apply Kd.R_alloc | apply Kd.R_drewN | apply Kd.R_drew)); exact Kd.R_mono HO_21.out (fun _ hk => ⟨hk.1.1, ⟨hk.1.2.1, hk.1.2.2⟩⟩)⟩, ⟨by (with_reducible repeat (first | apply Kd.R_alloc | apply Kd.R_drewN | apply Kd.R_drew)); exact HO_288001.out⟩, ⟨by (with_reducible repeat (first | apply Kd.R_alloc | apply Kd.R_drewN | apply Kd.R_drew)); exact HO_293001.out⟩, ⟨by (with_reducible repeat (first | apply Kd.R_alloc | apply Kd.R_drewN | apply Kd.R_drew)); exact HO_298001.out⟩, ⟨bk_ BK255⟩, ⟨bk_ BK256⟩, ⟨bk_ BK257⟩, ⟨bk_ BK287⟩, ⟨bk_ BK292⟩, ⟨bk_ BK297⟩, ⟨by repeat (first | (with_reducible first | exact HB.out | apply below_alloc | apply pw_below_drewN | apply below_drew1 | refine below_set ?_ GE255.out | refine below_set ?_ GE256.out | refine below_set ?_ GE257.out | refine below_set ?_ GE287.out | refine below_set ?_ GE292.out | refine below_set ?_ GE297.out) | exact HB.out)⟩⟩
  ·replace c135 := Bool.eq_false_iff.mpr c135
   subst c135
   have H1 : (some false) = some r := by rw [if_neg (show ¬ (false = true) by decide)] at H; exact H
   clear H
   have H := H1
   clear H1
   obtain rfl := Option.some.inj H
   go_wp2
   go_ret
   exact ⟨by first | rfl | (simp [errW_none, errW_some] <;> rfl) | (simp [*, errW_none, errW_some] <;> rfl), by repeat (first | (with_reducible first | exact HB.out | apply below_alloc | apply pw_below_drewN | apply below_drew1 | refine below_set ?_ GE255.out | refine below_set ?_ GE256.out | refine below_set ?_ GE257.out | refine below_set ?_ GE287.out | refine below_set ?_ GE292.out | refine below_set ?_ GE297.out) | exact HB.out)⟩
 clear HC132
 try clear c3
 obtain ⟨kq, HA, HJ131, HO_14, HO_19, HO_20, HO_21, HO_288001, HO_293001, HO_298001, BK255, BK256, BK257, BK287, BK292, BK297, HB⟩ := hcut
 cases kq
 case zero => exact absurd HA.out (by simp [laws_FnExactAfterMap.j10])
 case' succ kj131 => skip
 as_aux_lemma =>
 have H := HA.out
 clear HA
 simp only [laws_FnExactAfterMap.j10] at H
 replace H := Option.bind_eq_some_iff.mp H
 obtain ⟨t328, A1360, H⟩ := H
 (try dsimp only at H)
 have A136 := Aside0.mk A1360
 clear A1360
 replace H := Option.bind_eq_some_iff.mp H
 obtain ⟨t331, A1370, H⟩ := H
 (try dsimp only at H)
 have A137 := Aside0.mk A1370
 clear A1370
 have HC138 := Aside0.mk H
 clear H
 go_upto_if 117 with (first | ((with_reducible refine gate_callee (f := 18) rfl ?_); refine gL_ (some 115) Try.func18 #[.slice A4 l4.length c4] ?_ rfl rfl; (with_reducible refine (laws_toIntS.calls kj131 _ _ l4 t328 _ ?side1 ?side2 A136.out).mono ?_); (case side1 => exact cb_ HR4); (case side2 => exact HC4.out); rintro e w139 ⟨v329, rfl, ho0, hb⟩; refine ⟨_, rfl, ?_⟩; have n_ := And.intro (Aside0.mk (Kd.R_elder' (rk_ HO_14) (Kd.R_base ho0) hb)) (And.intro (Aside0.mk (Kd.R_elder' (rk_ HO_19) (Kd.R_base ho0) hb)) (And.intro (Aside0.mk (Kd.R_elder' (rk_ HO_20) (Kd.R_base ho0) hb)) (And.intro (Aside0.mk (Kd.R_elder' (rk_ HO_21) (Kd.R_base ho0) hb)) (And.intro (Aside0.mk (Kd.R_below (rk_ HO_288001) hb)) (And.intro (Aside0.mk (Kd.R_below (rk_ HO_293001) hb)) (And.intro (Aside0.mk (Kd.R_below (rk_ HO_298001) hb)) (And.intro (Aside0.mk (Kd.R_lower (Kd.R_new' (Kd.R_new' (Kd.R_new' (Kd.R_new' ho0 (Kd.R_lt (rk_ HO_14))) (Kd.R_lt (rk_ HO_19))) (Kd.R_lt (rk_ HO_20))) (Kd.R_lt (rk_ HO_21))) (below_size bg_))) (And.intro (Aside0.mk (blk_below (g := gb255) (o := .cells #[.int .i64 a0_0, .slice A0_1 l0_1.length c0_1] 24 (0, 0)) (bk_ BK255) hb)) (And.intro (Aside0.mk (blk_below (g := gb256) (o := .cells #[.int .i64 a1_0, .slice A1_1 l1_1.length c1_1] 24 (0, 0)) (bk_ BK256) hb)) (And.intro (Aside0.mk (blk_below (g := gb257) (o := .cells #[.int .i64 a2_0, .slice A2_1 l2_1.length c2_1] 24 (0, 0)) (bk_ BK257) hb)) (And.intro (Aside0.mk (blk_below (g := gb287) (o := .cells #[.int .i64 t283, .slice Ao69 t284.length co69] 29 (0, 0)) (bk_ BK287) hb)) (And.intro (Aside0.mk (blk_below (g := gb292) (o := .cells #[.int .i64 t288, .slice Ao79 t289.length co79] 29 (0, 0)) (bk_ BK292) hb)) (And.intro (Aside0.mk (blk_below (g := gb297) (o := .cells #[.int .i64 t293, .slice Ao89 t294.length co89] 29 (0, 0)) (bk_ BK297) hb)) (Aside0.mk (below_step bg_ hb))))))))))))))); clear HO_14 HO_19 HO_20 HO_21 HO_288001 HO_293001 HO_298001 BK255 BK256 BK257 BK287 BK292 BK297 HB; obtain ⟨HO_14, HO_19, HO_20, HO_21, HO_288001, HO_293001, HO_298001, HO330, BK255, BK256, BK257, BK287, BK292, BK297, HB⟩ := n_; (try clear hb); (try clear hb2); (try clear hk); (try clear hi); (try clear ho0); obtain ⟨Ao140, co140, eo140⟩ := Kd.R_slice HO330.out; subst eo140) | ((with_reducible refine gate_callee (f := 21) rfl ?_); refine gL_ (some 116) Try.func21 #[.slice Ao96 t301.length co96, .slice Ao140 t328.length co140] ?_ rfl rfl; (with_reducible refine (laws_eqIntS.calls kj131 _ _ t301 _ _ t328 t331 _ ?side1 ?side2 ?side3 ?side4 A137.out).mono ?_); (case side1 => repeat (first | exact (Kd.R_reads' HO_20.out).2.2 | (with_reducible refine Kd.C_alloc ?_ _) | (with_reducible refine Kd.C_drewN ?_ _) | (with_reducible refine Kd.C_drew ?_))); (case side2 => exact (Kd.R_reads' HO_20.out).2.1); (case side3 => repeat (first | exact (Kd.R_reads' HO330.out).2.2 | (with_reducible refine Kd.C_alloc ?_ _) | (with_reducible refine Kd.C_drewN ?_ _) | (with_reducible refine Kd.C_drew ?_))); (case side4 => exact (Kd.R_reads' HO330.out).2.1); rintro e w' ⟨rfl, ⟨nd, rfl⟩⟩; refine ⟨_, rfl, ?_⟩))
 (try simp only [Act.put, List.setIfInBounds_toArray, List.set_cons_zero, List.set_cons_succ])
 go_cut [] (fun wc => ∃ (kq : Nat), Aside0 (laws_FnExactAfterMap.j11 kq l3 l4 a5 t279 t282 t298 t301 t304 t307 a0_0 l0_1 a1_0 l1_1 a2_0 l2_1 t283 t284 t288 t289 t293 t294 = some r) ∧ Aside0 (kq ≤ kj131) ∧ Aside0 (Kd.R (Kd.int .i64) 3 wc w.heap.size (fun k_ => some k_ ≠ ((.slice Ao95 t298.length co95) : Value).ownBlock ∧ some k_ ≠ ((.slice Ao96 t301.length co96) : Value).ownBlock ∧ some k_ ≠ (v305 : Value).ownBlock) v280 t279) ∧ Aside0 (Kd.R (Kd.int .i64) 3 wc w.heap.size (fun k_ => some k_ ≠ (v280 : Value).ownBlock ∧ some k_ ≠ ((.slice Ao96 t301.length co96) : Value).ownBlock ∧ some k_ ≠ (v305 : Value).ownBlock) (.slice Ao95 t298.length co95) t298) ∧ Aside0 (Kd.R (Kd.int .i64) 3 wc w.heap.size (fun k_ => some k_ ≠ (v280 : Value).ownBlock ∧ some k_ ≠ ((.slice Ao95 t298.length co95) : Value).ownBlock ∧ some k_ ≠ (v305 : Value).ownBlock) (.slice Ao96 t301.length co96) t301) ∧ Aside0 (Kd.R (Kd.int .i64) 3 wc w.heap.size (fun k_ => some k_ ≠ (v280 : Value).ownBlock ∧ some k_ ≠ ((.slice Ao95 t298.length co95) : Value).ownBlock ∧ some k_ ≠ ((.slice Ao96 t301.length co96) : Value).ownBlock) v305 t304) ∧ Aside0 (Kd.R k78 78 wc w.heap.size (fun k_ => some k_ ≠ ((.slice Ao79 t289.length co79) : Value).ownBlock ∧ some k_ ≠ ((.slice Ao89 t294.length co89) : Value).ownBlock) (.slice Ao69 t284.length co69) t284) ∧ Aside0 (Kd.R k78 78 wc w.heap.size (fun k_ => some k_ ≠ ((.slice Ao69 t284.length co69) : Value).ownBlock ∧ some k_ ≠ ((.slice Ao89 t294.length co89) : Value).ownBlock) (.slice Ao79 t289.length co79) t289) ∧ Aside0 (Kd.R k78 78 wc w.heap.size (fun k_ => some k_ ≠ ((.slice Ao69 t284.length co69) : Value).ownBlock ∧ some k_ ≠ ((.slice Ao79 t289.length co79) : Value).ownBlock) (.slice Ao89 t294.length co89) t294) ∧ Aside0 (wc.heap[gb255]? = some (.cells #[.int .i64 a0_0, (.slice A0_1 l0_1.length c0_1)] 24 (0, 0))) ∧ Aside0 (wc.heap[gb256]? = some (.cells #[.int .i64 a1_0, (.slice A1_1 l1_1.length c1_1)] 24 (0, 0))) ∧ Aside0 (wc.heap[gb257]? = some (.cells #[.int .i64 a2_0, (.slice A2_1 l2_1.length c2_1)] 24 (0, 0))) ∧ Aside0 (wc.heap[gb287]? = some (.cells #[.int .i64 t283, (.slice Ao69 t284.length co69)] 29 (0, 0))) ∧ Aside0 (wc.heap[gb292]? = some (.cells #[.int .i64 t288, (.slice Ao79 t289.length co79)] 29 (0, 0))) ∧ Aside0 (wc.heap[gb297]? = some (.cells #[.int .i64 t293, (.slice Ao89 t294.length co89)] 29 (0, 0))) ∧ Aside0 (Below w.heap.size w wc))
 case first =>
  have H := HC138.out
  clear HC138
  by_cases c141 : t331 = true
  ·subst c141
   have H1 : (laws_FnExactAfterMap.j11 kj131 l3 l4 a5 t279 t282 t298 t301 t304 t307 a0_0 l0_1 a1_0 l1_1 a2_0 l2_1 t283 t284 t288 t289 t293 t294) = some r := by rw [if_pos rfl] at H; exact H
   clear H
   have H := H1
   clear H1
   have H' := Aside0.mk H
   clear H
   go_wp2
   go_meet
   case rel => exact ⟨_, H', ⟨by have := HJ6.out; have := HJ11.out; have := HJ14.out; have := HJ21.out; have := HJ28.out; have := HJ46.out; have := HJ103.out; have := HJ107.out; have := HJ115.out; have := HJ123.out; have := HJ131.out; first | omega | exact Nat.le_refl _⟩, ⟨by (with_reducible repeat (first | apply Kd.R_alloc | apply Kd.R_drewN | apply Kd.R_drew)); exact Kd.R_mono HO_14.out (fun _ hk => ⟨hk.1.1, ⟨hk.1.2.1, hk.1.2.2⟩⟩)⟩, ⟨by (with_reducible repeat (first | apply Kd.R_alloc | apply Kd.R_drewN | apply Kd.R_drew)); exact Kd.R_mono HO_19.out (fun _ hk => ⟨hk.1.1, ⟨hk.1.2.1, hk.1.2.2⟩⟩)⟩, ⟨by (with_reducible repeat (first | apply Kd.R_alloc | apply Kd.R_drewN | apply Kd.R_drew)); exact Kd.R_mono HO_20.out (fun _ hk => ⟨hk.1.1, ⟨hk.1.2.1, hk.1.2.2⟩⟩)⟩, ⟨by (with_reducible repeat (first | apply Kd.R_alloc | apply Kd.R_drewN | apply Kd.R_drew)); exact Kd.R_mono HO_21.out (fun _ hk => ⟨hk.1.1, ⟨hk.1.2.1, hk.1.2.2⟩⟩)⟩, ⟨by (with_reducible repeat (first | apply Kd.R_alloc | apply Kd.R_drewN | apply Kd.R_drew)); exact HO_288001.out⟩, ⟨by (with_reducible repeat (first | apply Kd.R_alloc | apply Kd.R_drewN | apply Kd.R_drew)); exact HO_293001.out⟩, ⟨by (with_reducible repeat (first | apply Kd.R_alloc | apply Kd.R_drewN | apply Kd.R_drew)); exact HO_298001.out⟩, ⟨bk_ BK255⟩, ⟨bk_ BK256⟩, ⟨bk_ BK257⟩, ⟨bk_ BK287⟩, ⟨bk_ BK292⟩, ⟨bk_ BK297⟩, ⟨by repeat (first | (with_reducible first | exact HB.out | apply below_alloc | apply pw_below_drewN | apply below_drew1 | refine below_set ?_ GE255.out | refine below_set ?_ GE256.out | refine below_set ?_ GE257.out | refine below_set ?_ GE287.out | refine below_set ?_ GE292.out | refine below_set ?_ GE297.out) | exact HB.out)⟩⟩
  ·replace c141 := Bool.eq_false_iff.mpr c141
   subst c141
   have H1 : (some false) = some r := by rw [if_neg (show ¬ (false = true) by decide)] at H; exact H
   clear H
   have H := H1
   clear H1
   obtain rfl := Option.some.inj H
   go_wp2
   go_ret
   exact ⟨by first | rfl | (simp [errW_none, errW_some] <;> rfl) | (simp [*, errW_none, errW_some] <;> rfl), by repeat (first | (with_reducible first | exact HB.out | apply below_alloc | apply pw_below_drewN | apply below_drew1 | refine below_set ?_ GE255.out | refine below_set ?_ GE256.out | refine below_set ?_ GE257.out | refine below_set ?_ GE287.out | refine below_set ?_ GE292.out | refine below_set ?_ GE297.out) | exact HB.out)⟩
 clear HC138
 try clear c4
 obtain ⟨kq, HA, HJ137, HO_14, HO_19, HO_20, HO_21, HO_288001, HO_293001, HO_298001, BK255, BK256, BK257, BK287, BK292, BK297, HB⟩ := hcut
 cases kq
 case zero => exact absurd HA.out (by simp [laws_FnExactAfterMap.j11])
 case' succ kj137 => skip
 as_aux_lemma =>
 have H := HA.out
 clear HA
 simp only [laws_FnExactAfterMap.j11] at H
 replace H := Option.bind_eq_some_iff.mp H
 obtain ⟨⟨t332, t333⟩, A1420, H⟩ := H
 (try dsimp only at H)
 have A142 := Aside0.mk A1420
 clear A1420
 replace H := Option.bind_eq_some_iff.mp H
 obtain ⟨⟨t334, t335⟩, A1430, H⟩ := H
 (try dsimp only at H)
 have A143 := Aside0.mk A1430
 clear A1430
 replace H := Option.bind_eq_some_iff.mp H
 obtain ⟨⟨t336, t337⟩, A1440, H⟩ := H
 (try dsimp only at H)
 have A144 := Aside0.mk A1440
 clear A1440
 replace H := Option.bind_eq_some_iff.mp H
 obtain ⟨⟨t338, t339⟩, A1450, H⟩ := H
 (try dsimp only at H)
 have A145 := Aside0.mk A1450
 clear A1450
 replace H := Option.bind_eq_some_iff.mp H
 obtain ⟨⟨t340, t341⟩, A1460, H⟩ := H
 (try dsimp only at H)
 have A146 := Aside0.mk A1460
 clear A1460
 have HC147 := Aside0.mk H
 clear H
 have hnb148 := NB287_255.out
 have hnc148 := NB255_287.out
 have hnb149 := NB287_256.out
 have hnc149 := NB256_287.out
 have hnb150 := NB287_257.out
 have hnc150 := NB257_287.out
 have hnb151 := NB287_292.out
 have hnc151 := NB292_287.out
 have hnb152 := NB287_297.out
 have hnc152 := NB297_287.out
 have hcz153_0 : wc.cell? ⟨gb287, 0, none⟩ = some (.int .i64 t283) := (blk_cell BK287.out 0).trans rfl
 have hcz153_1 : wc.cell? ⟨gb287, 1, none⟩ = some (.slice Ao69 t284.length co69) := (blk_cell BK287.out 1).trans rfl
 have hfz153_0 := blk_frozen BK287.out 0
 have hfz153_1 := blk_frozen BK287.out 1
 go_upto_region 40 with (first | ((with_reducible refine gate_callee (f := 26) rfl ?_); refine gL_ (some 120) Try.func26 #[.agg #[.int .i64 t283, .slice Ao69 t284.length co69], .int .i64 1] ?_ rfl rfl; (with_reducible refine (laws_markGraph.calls kj137 t283 (fun k_ => some k_ = (.slice Ao69 t284.length co69 : Value).ownBlock) (.slice Ao69 t284.length co69) t284 1 t332 t333 w _ ?side1 ?side2 A142.out).mono ?_); (case side1 => repeat (first | (with_reducible first | exact HB.out | apply below_alloc | apply pw_below_drewN | apply below_drew1 | refine below_set ?_ GE255.out | refine below_set ?_ GE256.out | refine below_set ?_ GE257.out | refine below_set ?_ GE287.out | refine below_set ?_ GE292.out | refine below_set ?_ GE297.out) | exact HB.out)); (case side2 => exact Kd.R_tight rfl HO_288001.out); rintro e w154 ⟨rfl, hy0, hb, hkp⟩; refine ⟨_, rfl, ?_⟩; have n_ := And.intro (Aside0.mk (Kd.R_mono (ok' := fun k_ => some k_ ≠ (.slice Ao95 t298.length co95 : Value).ownBlock ∧ some k_ ≠ (.slice Ao96 t301.length co96 : Value).ownBlock ∧ some k_ ≠ (v305 : Value).ownBlock) (Kd.R_keptB ((Kd.R_apart' HO_14.out (Kd.R_typed HO_288001.out) (by decide))) hkp (fun k_ hk_ hs_ => (hk_.2) hs_)) (fun k_ hk_ => ⟨hk_.1.1.1, hk_.1.1.2.1, hk_.1.1.2.2⟩))) (And.intro (Aside0.mk (Kd.R_mono (ok' := fun k_ => some k_ ≠ (v280 : Value).ownBlock ∧ some k_ ≠ (.slice Ao96 t301.length co96 : Value).ownBlock ∧ some k_ ≠ (v305 : Value).ownBlock) (Kd.R_keptB ((Kd.R_apart' HO_19.out (Kd.R_typed HO_288001.out) (by decide))) hkp (fun k_ hk_ hs_ => (hk_.2) hs_)) (fun k_ hk_ => ⟨hk_.1.1.1, hk_.1.1.2.1, hk_.1.1.2.2⟩))) (And.intro (Aside0.mk (Kd.R_mono (ok' := fun k_ => some k_ ≠ (v280 : Value).ownBlock ∧ some k_ ≠ (.slice Ao95 t298.length co95 : Value).ownBlock ∧ some k_ ≠ (v305 : Value).ownBlock) (Kd.R_keptB ((Kd.R_apart' HO_20.out (Kd.R_typed HO_288001.out) (by decide))) hkp (fun k_ hk_ hs_ => (hk_.2) hs_)) (fun k_ hk_ => ⟨hk_.1.1.1, hk_.1.1.2.1, hk_.1.1.2.2⟩))) (And.intro (Aside0.mk (Kd.R_mono (ok' := fun k_ => some k_ ≠ (v280 : Value).ownBlock ∧ some k_ ≠ (.slice Ao95 t298.length co95 : Value).ownBlock ∧ some k_ ≠ (.slice Ao96 t301.length co96 : Value).ownBlock) (Kd.R_keptB ((Kd.R_apart' HO_21.out (Kd.R_typed HO_288001.out) (by decide))) hkp (fun k_ hk_ hs_ => (hk_.2) hs_)) (fun k_ hk_ => ⟨hk_.1.1.1, hk_.1.1.2.1, hk_.1.1.2.2⟩))) (And.intro (Aside0.mk (Kd.R_reok rfl hy0 (fun k_ e_ => HO_288001.out.1 k_ e_))) (And.intro (Aside0.mk (Kd.R_mono (ok' := fun k_ => some k_ ≠ (.slice Ao69 t284.length co69 : Value).ownBlock ∧ some k_ ≠ (.slice Ao89 t294.length co89 : Value).ownBlock) (Kd.R_keptB (HO_293001.out) hkp (fun k_ hk_ hs_ => (hk_.1) hs_)) (fun k_ hk_ => ⟨hk_.1.1, hk_.1.2⟩))) (And.intro (Aside0.mk (Kd.R_mono (ok' := fun k_ => some k_ ≠ (.slice Ao69 t284.length co69 : Value).ownBlock ∧ some k_ ≠ (.slice Ao79 t289.length co79 : Value).ownBlock) (Kd.R_keptB (HO_298001.out) hkp (fun k_ hk_ hs_ => (hk_.1) hs_)) (fun k_ hk_ => ⟨hk_.1.1, hk_.1.2⟩))) (And.intro (Aside0.mk (blk_kept (bk_ BK255) hkp (fun hs_ => (fun e_ => (Kd.R_ne HO_288001.out BK255.out (by decide)) e_) hs_))) (And.intro (Aside0.mk (blk_kept (bk_ BK256) hkp (fun hs_ => (fun e_ => (Kd.R_ne HO_288001.out BK256.out (by decide)) e_) hs_))) (And.intro (Aside0.mk (blk_kept (bk_ BK257) hkp (fun hs_ => (fun e_ => (Kd.R_ne HO_288001.out BK257.out (by decide)) e_) hs_))) (And.intro (Aside0.mk (blk_kept (bk_ BK287) hkp (fun hs_ => (fun e_ => (Kd.R_ne HO_288001.out BK287.out (by decide)) e_) hs_))) (And.intro (Aside0.mk (blk_kept (bk_ BK292) hkp (fun hs_ => (fun e_ => (Kd.R_ne HO_288001.out BK292.out (by decide)) e_) hs_))) (And.intro (Aside0.mk (blk_kept (bk_ BK297) hkp (fun hs_ => (fun e_ => (Kd.R_ne HO_288001.out BK297.out (by decide)) e_) hs_))) (Aside0.mk (hb)))))))))))))); clear HO_14 HO_19 HO_20 HO_21 HO_288001 HO_293001 HO_298001 BK255 BK256 BK257 BK287 BK292 BK297 HB; obtain ⟨HO_14, HO_19, HO_20, HO_21, HO_288001, HO_293001, HO_298001, BK255, BK256, BK257, BK287, BK292, BK297, HB⟩ := n_; (try clear hb); (try clear hkp); (try clear hy0); have hnb155 := NB292_255.out; have hnc155 := NB255_292.out; have hnb156 := NB292_256.out; have hnc156 := NB256_292.out; have hnb157 := NB292_257.out; have hnc157 := NB257_292.out; have hnb158 := NB292_297.out; have hnc158 := NB297_292.out; have hcz159_0 : w154.cell? ⟨gb292, 0, none⟩ = some (.int .i64 t288) := (blk_cell BK292.out 0).trans rfl; have hcz159_1 : w154.cell? ⟨gb292, 1, none⟩ = some (.slice Ao79 t289.length co79) := (blk_cell BK292.out 1).trans rfl; have hfz159_0 := blk_frozen BK292.out 0; have hfz159_1 := blk_frozen BK292.out 1) | ((with_reducible refine gate_callee (f := 26) rfl ?_); refine gL_ (some 123) Try.func26 #[.agg #[.int .i64 t288, .slice Ao79 t289.length co79], .int .i64 t332] ?_ rfl rfl; (with_reducible refine (laws_markGraph.calls kj137 t288 (fun k_ => some k_ = (.slice Ao79 t289.length co79 : Value).ownBlock) (.slice Ao79 t289.length co79) t289 t332 t334 t335 w _ ?side1 ?side2 A143.out).mono ?_); (case side1 => repeat (first | (with_reducible first | exact HB.out | apply below_alloc | apply pw_below_drewN | apply below_drew1 | refine below_set ?_ GE255.out | refine below_set ?_ GE256.out | refine below_set ?_ GE257.out | refine below_set ?_ GE287.out | refine below_set ?_ GE292.out | refine below_set ?_ GE297.out) | exact HB.out)); (case side2 => exact Kd.R_tight rfl HO_293001.out); rintro e w160 ⟨rfl, hy0, hb, hkp⟩; refine ⟨_, rfl, ?_⟩; have n_ := And.intro (Aside0.mk (Kd.R_mono (ok' := fun k_ => some k_ ≠ (.slice Ao95 t298.length co95 : Value).ownBlock ∧ some k_ ≠ (.slice Ao96 t301.length co96 : Value).ownBlock ∧ some k_ ≠ (v305 : Value).ownBlock) (Kd.R_keptB ((Kd.R_apart' HO_14.out (Kd.R_typed HO_293001.out) (by decide))) hkp (fun k_ hk_ hs_ => (hk_.2) hs_)) (fun k_ hk_ => ⟨hk_.1.1.1, hk_.1.1.2.1, hk_.1.1.2.2⟩))) (And.intro (Aside0.mk (Kd.R_mono (ok' := fun k_ => some k_ ≠ (v280 : Value).ownBlock ∧ some k_ ≠ (.slice Ao96 t301.length co96 : Value).ownBlock ∧ some k_ ≠ (v305 : Value).ownBlock) (Kd.R_keptB ((Kd.R_apart' HO_19.out (Kd.R_typed HO_293001.out) (by decide))) hkp (fun k_ hk_ hs_ => (hk_.2) hs_)) (fun k_ hk_ => ⟨hk_.1.1.1, hk_.1.1.2.1, hk_.1.1.2.2⟩))) (And.intro (Aside0.mk (Kd.R_mono (ok' := fun k_ => some k_ ≠ (v280 : Value).ownBlock ∧ some k_ ≠ (.slice Ao95 t298.length co95 : Value).ownBlock ∧ some k_ ≠ (v305 : Value).ownBlock) (Kd.R_keptB ((Kd.R_apart' HO_20.out (Kd.R_typed HO_293001.out) (by decide))) hkp (fun k_ hk_ hs_ => (hk_.2) hs_)) (fun k_ hk_ => ⟨hk_.1.1.1, hk_.1.1.2.1, hk_.1.1.2.2⟩))) (And.intro (Aside0.mk (Kd.R_mono (ok' := fun k_ => some k_ ≠ (v280 : Value).ownBlock ∧ some k_ ≠ (.slice Ao95 t298.length co95 : Value).ownBlock ∧ some k_ ≠ (.slice Ao96 t301.length co96 : Value).ownBlock) (Kd.R_keptB ((Kd.R_apart' HO_21.out (Kd.R_typed HO_293001.out) (by decide))) hkp (fun k_ hk_ hs_ => (hk_.2) hs_)) (fun k_ hk_ => ⟨hk_.1.1.1, hk_.1.1.2.1, hk_.1.1.2.2⟩))) (And.intro (Aside0.mk (Kd.R_mono (ok' := fun k_ => some k_ ≠ (.slice Ao79 t289.length co79 : Value).ownBlock ∧ some k_ ≠ (.slice Ao89 t294.length co89 : Value).ownBlock) (Kd.R_keptB (HO_288001.out) hkp (fun k_ hk_ hs_ => (hk_.1) hs_)) (fun k_ hk_ => ⟨hk_.1.1, hk_.1.2⟩))) (And.intro (Aside0.mk (Kd.R_reok rfl hy0 (fun k_ e_ => HO_293001.out.1 k_ e_))) (And.intro (Aside0.mk (Kd.R_mono (ok' := fun k_ => some k_ ≠ (.slice Ao69 t284.length co69 : Value).ownBlock ∧ some k_ ≠ (.slice Ao79 t289.length co79 : Value).ownBlock) (Kd.R_keptB (HO_298001.out) hkp (fun k_ hk_ hs_ => (hk_.2) hs_)) (fun k_ hk_ => ⟨hk_.1.1, hk_.1.2⟩))) (And.intro (Aside0.mk (blk_kept (bk_ BK255) hkp (fun hs_ => (fun e_ => (Kd.R_ne HO_293001.out BK255.out (by decide)) e_) hs_))) (And.intro (Aside0.mk (blk_kept (bk_ BK256) hkp (fun hs_ => (fun e_ => (Kd.R_ne HO_293001.out BK256.out (by decide)) e_) hs_))) (And.intro (Aside0.mk (blk_kept (bk_ BK257) hkp (fun hs_ => (fun e_ => (Kd.R_ne HO_293001.out BK257.out (by decide)) e_) hs_))) (And.intro (Aside0.mk (blk_kept (bk_ BK287) hkp (fun hs_ => (fun e_ => (Kd.R_ne HO_293001.out BK287.out (by decide)) e_) hs_))) (And.intro (Aside0.mk (blk_kept (bk_ BK292) hkp (fun hs_ => (fun e_ => (Kd.R_ne HO_293001.out BK292.out (by decide)) e_) hs_))) (And.intro (Aside0.mk (blk_kept (bk_ BK297) hkp (fun hs_ => (fun e_ => (Kd.R_ne HO_293001.out BK297.out (by decide)) e_) hs_))) (Aside0.mk (hb)))))))))))))); clear HO_14 HO_19 HO_20 HO_21 HO_288001 HO_293001 HO_298001 BK255 BK256 BK257 BK287 BK292 BK297 HB; obtain ⟨HO_14, HO_19, HO_20, HO_21, HO_288001, HO_293001, HO_298001, BK255, BK256, BK257, BK287, BK292, BK297, HB⟩ := n_; (try clear hb); (try clear hkp); (try clear hy0); have hnb161 := NB297_255.out; have hnc161 := NB255_297.out; have hnb162 := NB297_256.out; have hnc162 := NB256_297.out; have hnb163 := NB297_257.out; have hnc163 := NB257_297.out; have hcz164_0 : w160.cell? ⟨gb297, 0, none⟩ = some (.int .i64 t293) := (blk_cell BK297.out 0).trans rfl; have hcz164_1 : w160.cell? ⟨gb297, 1, none⟩ = some (.slice Ao89 t294.length co89) := (blk_cell BK297.out 1).trans rfl; have hfz164_0 := blk_frozen BK297.out 0; have hfz164_1 := blk_frozen BK297.out 1) | ((with_reducible refine gate_callee (f := 26) rfl ?_); refine gL_ (some 126) Try.func26 #[.agg #[.int .i64 t293, .slice Ao89 t294.length co89], .int .i64 t334] ?_ rfl rfl; (with_reducible refine (laws_markGraph.calls kj137 t293 (fun k_ => some k_ = (.slice Ao89 t294.length co89 : Value).ownBlock) (.slice Ao89 t294.length co89) t294 t334 t336 t337 w _ ?side1 ?side2 A144.out).mono ?_); (case side1 => repeat (first | (with_reducible first | exact HB.out | apply below_alloc | apply pw_below_drewN | apply below_drew1 | refine below_set ?_ GE255.out | refine below_set ?_ GE256.out | refine below_set ?_ GE257.out | refine below_set ?_ GE287.out | refine below_set ?_ GE292.out | refine below_set ?_ GE297.out) | exact HB.out)); (case side2 => exact Kd.R_tight rfl HO_298001.out); rintro e w165 ⟨rfl, hy0, hb, hkp⟩; refine ⟨_, rfl, ?_⟩; have n_ := And.intro (Aside0.mk (Kd.R_mono (ok' := fun k_ => some k_ ≠ (.slice Ao95 t298.length co95 : Value).ownBlock ∧ some k_ ≠ (.slice Ao96 t301.length co96 : Value).ownBlock ∧ some k_ ≠ (v305 : Value).ownBlock) (Kd.R_keptB ((Kd.R_apart' HO_14.out (Kd.R_typed HO_298001.out) (by decide))) hkp (fun k_ hk_ hs_ => (hk_.2) hs_)) (fun k_ hk_ => ⟨hk_.1.1.1, hk_.1.1.2.1, hk_.1.1.2.2⟩))) (And.intro (Aside0.mk (Kd.R_mono (ok' := fun k_ => some k_ ≠ (v280 : Value).ownBlock ∧ some k_ ≠ (.slice Ao96 t301.length co96 : Value).ownBlock ∧ some k_ ≠ (v305 : Value).ownBlock) (Kd.R_keptB ((Kd.R_apart' HO_19.out (Kd.R_typed HO_298001.out) (by decide))) hkp (fun k_ hk_ hs_ => (hk_.2) hs_)) (fun k_ hk_ => ⟨hk_.1.1.1, hk_.1.1.2.1, hk_.1.1.2.2⟩))) (And.intro (Aside0.mk (Kd.R_mono (ok' := fun k_ => some k_ ≠ (v280 : Value).ownBlock ∧ some k_ ≠ (.slice Ao95 t298.length co95 : Value).ownBlock ∧ some k_ ≠ (v305 : Value).ownBlock) (Kd.R_keptB ((Kd.R_apart' HO_20.out (Kd.R_typed HO_298001.out) (by decide))) hkp (fun k_ hk_ hs_ => (hk_.2) hs_)) (fun k_ hk_ => ⟨hk_.1.1.1, hk_.1.1.2.1, hk_.1.1.2.2⟩))) (And.intro (Aside0.mk (Kd.R_mono (ok' := fun k_ => some k_ ≠ (v280 : Value).ownBlock ∧ some k_ ≠ (.slice Ao95 t298.length co95 : Value).ownBlock ∧ some k_ ≠ (.slice Ao96 t301.length co96 : Value).ownBlock) (Kd.R_keptB ((Kd.R_apart' HO_21.out (Kd.R_typed HO_298001.out) (by decide))) hkp (fun k_ hk_ hs_ => (hk_.2) hs_)) (fun k_ hk_ => ⟨hk_.1.1.1, hk_.1.1.2.1, hk_.1.1.2.2⟩))) (And.intro (Aside0.mk (Kd.R_mono (ok' := fun k_ => some k_ ≠ (.slice Ao79 t289.length co79 : Value).ownBlock ∧ some k_ ≠ (.slice Ao89 t294.length co89 : Value).ownBlock) (Kd.R_keptB (HO_288001.out) hkp (fun k_ hk_ hs_ => (hk_.2) hs_)) (fun k_ hk_ => ⟨hk_.1.1, hk_.1.2⟩))) (And.intro (Aside0.mk (Kd.R_mono (ok' := fun k_ => some k_ ≠ (.slice Ao69 t284.length co69 : Value).ownBlock ∧ some k_ ≠ (.slice Ao89 t294.length co89 : Value).ownBlock) (Kd.R_keptB (HO_293001.out) hkp (fun k_ hk_ hs_ => (hk_.2) hs_)) (fun k_ hk_ => ⟨hk_.1.1, hk_.1.2⟩))) (And.intro (Aside0.mk (Kd.R_reok rfl hy0 (fun k_ e_ => HO_298001.out.1 k_ e_))) (And.intro (Aside0.mk (blk_kept (bk_ BK255) hkp (fun hs_ => (fun e_ => (Kd.R_ne HO_298001.out BK255.out (by decide)) e_) hs_))) (And.intro (Aside0.mk (blk_kept (bk_ BK256) hkp (fun hs_ => (fun e_ => (Kd.R_ne HO_298001.out BK256.out (by decide)) e_) hs_))) (And.intro (Aside0.mk (blk_kept (bk_ BK257) hkp (fun hs_ => (fun e_ => (Kd.R_ne HO_298001.out BK257.out (by decide)) e_) hs_))) (And.intro (Aside0.mk (blk_kept (bk_ BK287) hkp (fun hs_ => (fun e_ => (Kd.R_ne HO_298001.out BK287.out (by decide)) e_) hs_))) (And.intro (Aside0.mk (blk_kept (bk_ BK292) hkp (fun hs_ => (fun e_ => (Kd.R_ne HO_298001.out BK292.out (by decide)) e_) hs_))) (And.intro (Aside0.mk (blk_kept (bk_ BK297) hkp (fun hs_ => (fun e_ => (Kd.R_ne HO_298001.out BK297.out (by decide)) e_) hs_))) (Aside0.mk (hb)))))))))))))); clear HO_14 HO_19 HO_20 HO_21 HO_288001 HO_293001 HO_298001 BK255 BK256 BK257 BK287 BK292 BK297 HB; obtain ⟨HO_14, HO_19, HO_20, HO_21, HO_288001, HO_293001, HO_298001, BK255, BK256, BK257, BK287, BK292, BK297, HB⟩ := n_; (try clear hb); (try clear hkp); (try clear hy0)) | ((with_reducible refine gate_callee (f := 27) rfl ?_); refine gL_ (some 129) Try.func27 #[.slice Ao95 t298.length co95, .int .i64 t336] ?_ rfl rfl; (with_reducible refine (laws_markIntS.calls kj137 (fun k_ => some k_ = (.slice Ao95 t298.length co95 : Value).ownBlock) (.slice Ao95 t298.length co95) t298 t336 t338 t339 w _ ?side1 ?side2 A145.out).mono ?_); (case side1 => repeat (first | (with_reducible first | exact HB.out | apply below_alloc | apply pw_below_drewN | apply below_drew1 | refine below_set ?_ GE255.out | refine below_set ?_ GE256.out | refine below_set ?_ GE257.out | refine below_set ?_ GE287.out | refine below_set ?_ GE292.out | refine below_set ?_ GE297.out) | exact HB.out)); (case side2 => exact Kd.R_tight rfl HO_19.out); rintro e w166 ⟨rfl, hy0, hb, hkp⟩; refine ⟨_, rfl, ?_⟩; have n_ := And.intro (Aside0.mk (Kd.R_mono (ok' := fun k_ => some k_ ≠ (.slice Ao95 t298.length co95 : Value).ownBlock ∧ some k_ ≠ (.slice Ao96 t301.length co96 : Value).ownBlock ∧ some k_ ≠ (v305 : Value).ownBlock) (Kd.R_keptB (HO_14.out) hkp (fun k_ hk_ hs_ => (hk_.1) hs_)) (fun k_ hk_ => ⟨hk_.1.1, hk_.1.2.1, hk_.1.2.2⟩))) (And.intro (Aside0.mk (Kd.R_reok rfl hy0 (fun k_ e_ => HO_19.out.1 k_ e_))) (And.intro (Aside0.mk (Kd.R_mono (ok' := fun k_ => some k_ ≠ (v280 : Value).ownBlock ∧ some k_ ≠ (.slice Ao95 t298.length co95 : Value).ownBlock ∧ some k_ ≠ (v305 : Value).ownBlock) (Kd.R_keptB (HO_20.out) hkp (fun k_ hk_ hs_ => (hk_.2.1) hs_)) (fun k_ hk_ => ⟨hk_.1.1, hk_.1.2.1, hk_.1.2.2⟩))) (And.intro (Aside0.mk (Kd.R_mono (ok' := fun k_ => some k_ ≠ (v280 : Value).ownBlock ∧ some k_ ≠ (.slice Ao95 t298.length co95 : Value).ownBlock ∧ some k_ ≠ (.slice Ao96 t301.length co96 : Value).ownBlock) (Kd.R_keptB (HO_21.out) hkp (fun k_ hk_ hs_ => (hk_.2.1) hs_)) (fun k_ hk_ => ⟨hk_.1.1, hk_.1.2.1, hk_.1.2.2⟩))) (And.intro (Aside0.mk (Kd.R_mono (ok' := fun k_ => some k_ ≠ (.slice Ao79 t289.length co79 : Value).ownBlock ∧ some k_ ≠ (.slice Ao89 t294.length co89 : Value).ownBlock) (Kd.R_keptB ((Kd.R_apart' HO_288001.out (Kd.R_typed HO_19.out) (by decide))) hkp (fun k_ hk_ hs_ => (hk_.2) hs_)) (fun k_ hk_ => ⟨hk_.1.1.1, hk_.1.1.2⟩))) (And.intro (Aside0.mk (Kd.R_mono (ok' := fun k_ => some k_ ≠ (.slice Ao69 t284.length co69 : Value).ownBlock ∧ some k_ ≠ (.slice Ao89 t294.length co89 : Value).ownBlock) (Kd.R_keptB ((Kd.R_apart' HO_293001.out (Kd.R_typed HO_19.out) (by decide))) hkp (fun k_ hk_ hs_ => (hk_.2) hs_)) (fun k_ hk_ => ⟨hk_.1.1.1, hk_.1.1.2⟩))) (And.intro (Aside0.mk (Kd.R_mono (ok' := fun k_ => some k_ ≠ (.slice Ao69 t284.length co69 : Value).ownBlock ∧ some k_ ≠ (.slice Ao79 t289.length co79 : Value).ownBlock) (Kd.R_keptB ((Kd.R_apart' HO_298001.out (Kd.R_typed HO_19.out) (by decide))) hkp (fun k_ hk_ hs_ => (hk_.2) hs_)) (fun k_ hk_ => ⟨hk_.1.1.1, hk_.1.1.2⟩))) (And.intro (Aside0.mk (blk_kept (bk_ BK255) hkp (fun hs_ => (fun e_ => (Kd.R_ne HO_19.out BK255.out (by decide)) e_) hs_))) (And.intro (Aside0.mk (blk_kept (bk_ BK256) hkp (fun hs_ => (fun e_ => (Kd.R_ne HO_19.out BK256.out (by decide)) e_) hs_))) (And.intro (Aside0.mk (blk_kept (bk_ BK257) hkp (fun hs_ => (fun e_ => (Kd.R_ne HO_19.out BK257.out (by decide)) e_) hs_))) (And.intro (Aside0.mk (blk_kept (bk_ BK287) hkp (fun hs_ => (fun e_ => (Kd.R_ne HO_19.out BK287.out (by decide)) e_) hs_))) (And.intro (Aside0.mk (blk_kept (bk_ BK292) hkp (fun hs_ => (fun e_ => (Kd.R_ne HO_19.out BK292.out (by decide)) e_) hs_))) (And.intro (Aside0.mk (blk_kept (bk_ BK297) hkp (fun hs_ => (fun e_ => (Kd.R_ne HO_19.out BK297.out (by decide)) e_) hs_))) (Aside0.mk (hb)))))))))))))); clear HO_14 HO_19 HO_20 HO_21 HO_288001 HO_293001 HO_298001 BK255 BK256 BK257 BK287 BK292 BK297 HB; obtain ⟨HO_14, HO_19, HO_20, HO_21, HO_288001, HO_293001, HO_298001, BK255, BK256, BK257, BK287, BK292, BK297, HB⟩ := n_; (try clear hb); (try clear hkp); (try clear hy0)) | ((with_reducible refine gate_callee (f := 27) rfl ?_); refine gL_ (some 132) Try.func27 #[.slice Ao96 t301.length co96, .int .i64 t338] ?_ rfl rfl; (with_reducible refine (laws_markIntS.calls kj137 (fun k_ => some k_ = (.slice Ao96 t301.length co96 : Value).ownBlock) (.slice Ao96 t301.length co96) t301 t338 t340 t341 w _ ?side1 ?side2 A146.out).mono ?_); (case side1 => repeat (first | (with_reducible first | exact HB.out | apply below_alloc | apply pw_below_drewN | apply below_drew1 | refine below_set ?_ GE255.out | refine below_set ?_ GE256.out | refine below_set ?_ GE257.out | refine below_set ?_ GE287.out | refine below_set ?_ GE292.out | refine below_set ?_ GE297.out) | exact HB.out)); (case side2 => exact Kd.R_tight rfl HO_20.out); rintro e w167 ⟨rfl, hy0, hb, hkp⟩; refine ⟨_, rfl, ?_⟩; have n_ := And.intro (Aside0.mk (Kd.R_mono (ok' := fun k_ => some k_ ≠ (.slice Ao95 t298.length co95 : Value).ownBlock ∧ some k_ ≠ (.slice Ao96 t301.length co96 : Value).ownBlock ∧ some k_ ≠ (v305 : Value).ownBlock) (Kd.R_keptB (HO_14.out) hkp (fun k_ hk_ hs_ => (hk_.2.1) hs_)) (fun k_ hk_ => ⟨hk_.1.1, hk_.1.2.1, hk_.1.2.2⟩))) (And.intro (Aside0.mk (Kd.R_mono (ok' := fun k_ => some k_ ≠ (v280 : Value).ownBlock ∧ some k_ ≠ (.slice Ao96 t301.length co96 : Value).ownBlock ∧ some k_ ≠ (v305 : Value).ownBlock) (Kd.R_keptB (HO_19.out) hkp (fun k_ hk_ hs_ => (hk_.2.1) hs_)) (fun k_ hk_ => ⟨hk_.1.1, hk_.1.2.1, hk_.1.2.2⟩))) (And.intro (Aside0.mk (Kd.R_reok rfl hy0 (fun k_ e_ => HO_20.out.1 k_ e_))) (And.intro (Aside0.mk (Kd.R_mono (ok' := fun k_ => some k_ ≠ (v280 : Value).ownBlock ∧ some k_ ≠ (.slice Ao95 t298.length co95 : Value).ownBlock ∧ some k_ ≠ (.slice Ao96 t301.length co96 : Value).ownBlock) (Kd.R_keptB (HO_21.out) hkp (fun k_ hk_ hs_ => (hk_.2.2) hs_)) (fun k_ hk_ => ⟨hk_.1.1, hk_.1.2.1, hk_.1.2.2⟩))) (And.intro (Aside0.mk (Kd.R_mono (ok' := fun k_ => some k_ ≠ (.slice Ao79 t289.length co79 : Value).ownBlock ∧ some k_ ≠ (.slice Ao89 t294.length co89 : Value).ownBlock) (Kd.R_keptB ((Kd.R_apart' HO_288001.out (Kd.R_typed HO_20.out) (by decide))) hkp (fun k_ hk_ hs_ => (hk_.2) hs_)) (fun k_ hk_ => ⟨hk_.1.1.1, hk_.1.1.2⟩))) (And.intro (Aside0.mk (Kd.R_mono (ok' := fun k_ => some k_ ≠ (.slice Ao69 t284.length co69 : Value).ownBlock ∧ some k_ ≠ (.slice Ao89 t294.length co89 : Value).ownBlock) (Kd.R_keptB ((Kd.R_apart' HO_293001.out (Kd.R_typed HO_20.out) (by decide))) hkp (fun k_ hk_ hs_ => (hk_.2) hs_)) (fun k_ hk_ => ⟨hk_.1.1.1, hk_.1.1.2⟩))) (And.intro (Aside0.mk (Kd.R_mono (ok' := fun k_ => some k_ ≠ (.slice Ao69 t284.length co69 : Value).ownBlock ∧ some k_ ≠ (.slice Ao79 t289.length co79 : Value).ownBlock) (Kd.R_keptB ((Kd.R_apart' HO_298001.out (Kd.R_typed HO_20.out) (by decide))) hkp (fun k_ hk_ hs_ => (hk_.2) hs_)) (fun k_ hk_ => ⟨hk_.1.1.1, hk_.1.1.2⟩))) (And.intro (Aside0.mk (blk_kept (bk_ BK255) hkp (fun hs_ => (fun e_ => (Kd.R_ne HO_20.out BK255.out (by decide)) e_) hs_))) (And.intro (Aside0.mk (blk_kept (bk_ BK256) hkp (fun hs_ => (fun e_ => (Kd.R_ne HO_20.out BK256.out (by decide)) e_) hs_))) (And.intro (Aside0.mk (blk_kept (bk_ BK257) hkp (fun hs_ => (fun e_ => (Kd.R_ne HO_20.out BK257.out (by decide)) e_) hs_))) (And.intro (Aside0.mk (blk_kept (bk_ BK287) hkp (fun hs_ => (fun e_ => (Kd.R_ne HO_20.out BK287.out (by decide)) e_) hs_))) (And.intro (Aside0.mk (blk_kept (bk_ BK292) hkp (fun hs_ => (fun e_ => (Kd.R_ne HO_20.out BK292.out (by decide)) e_) hs_))) (And.intro (Aside0.mk (blk_kept (bk_ BK297) hkp (fun hs_ => (fun e_ => (Kd.R_ne HO_20.out BK297.out (by decide)) e_) hs_))) (Aside0.mk (hb)))))))))))))); clear HO_14 HO_19 HO_20 HO_21 HO_288001 HO_293001 HO_298001 BK255 BK256 BK257 BK287 BK292 BK297 HB; obtain ⟨HO_14, HO_19, HO_20, HO_21, HO_288001, HO_293001, HO_298001, BK255, BK256, BK257, BK287, BK292, BK297, HB⟩ := n_; (try clear hb); (try clear hkp); (try clear hy0)))
 (try simp only [Act.put, List.setIfInBounds_toArray, List.set_cons_zero, List.set_cons_succ])
 go_cut [145] (fun v145 wc => ∃ (kq : Nat) (x145_146 : Bool), v145 = .bool x145_146 ∧ Aside0 (laws_FnExactAfterMap.j12 kq l3 l4 a5 t279 t282 t304 x145_146 a0_0 l0_1 a1_0 l1_1 a2_0 l2_1 = some r) ∧ Aside0 (kq ≤ kj137) ∧ Aside0 (Kd.R (Kd.int .i64) 3 wc w.heap.size (fun k_ => some k_ ≠ (v305 : Value).ownBlock) v280 t279) ∧ Aside0 (Kd.R (Kd.int .i64) 3 wc w.heap.size (fun k_ => some k_ ≠ (v280 : Value).ownBlock) v305 t304) ∧ Aside0 (Kd.R k78 78 wc w.heap.size (fun k_ => some k_ ≠ ((.slice Ao79 t289.length co79) : Value).ownBlock ∧ some k_ ≠ ((.slice Ao89 t294.length co89) : Value).ownBlock) (.slice Ao69 t284.length co69) t333) ∧ Aside0 (Kd.R k78 78 wc w.heap.size (fun k_ => some k_ ≠ ((.slice Ao69 t284.length co69) : Value).ownBlock ∧ some k_ ≠ ((.slice Ao89 t294.length co89) : Value).ownBlock) (.slice Ao79 t289.length co79) t335) ∧ Aside0 (Kd.R k78 78 wc w.heap.size (fun k_ => some k_ ≠ ((.slice Ao69 t284.length co69) : Value).ownBlock ∧ some k_ ≠ ((.slice Ao79 t289.length co79) : Value).ownBlock) (.slice Ao89 t294.length co89) t337) ∧ Aside0 (wc.heap[gb255]? = some (.cells #[.int .i64 a0_0, (.slice A0_1 l0_1.length c0_1)] 24 (0, 0))) ∧ Aside0 (wc.heap[gb256]? = some (.cells #[.int .i64 a1_0, (.slice A1_1 l1_1.length c1_1)] 24 (0, 0))) ∧ Aside0 (wc.heap[gb257]? = some (.cells #[.int .i64 a2_0, (.slice A2_1 l2_1.length c2_1)] 24 (0, 0))) ∧ Aside0 (wc.heap[gb287]? = some (.cells #[.int .i64 t283, (.slice Ao69 t284.length co69)] 29 (0, 0))) ∧ Aside0 (wc.heap[gb292]? = some (.cells #[.int .i64 t288, (.slice Ao79 t289.length co79)] 29 (0, 0))) ∧ Aside0 (wc.heap[gb297]? = some (.cells #[.int .i64 t293, (.slice Ao89 t294.length co89)] 29 (0, 0))) ∧ Aside0 (Below w.heap.size w wc))
 case first =>
  have H := HC147.out
  clear HC147
  by_cases c168 : t340 < 0
  ·rw [if_pos c168] at H
   have c168b0 : decide (t340 < 0) = true := decide_eq_true c168
   clear c168
   (first | rw [c168b0] | (simp only [i64_w, i32_w]; rw [c168b0]) | skip)
   have H' := Aside0.mk H
   clear H
   go_wp2
   go_meet
   case rel => exact ⟨_, (true), (by first | rfl | (simp; done) | (simp [*]; done)), H', ⟨by have := HJ6.out; have := HJ11.out; have := HJ14.out; have := HJ21.out; have := HJ28.out; have := HJ46.out; have := HJ103.out; have := HJ107.out; have := HJ115.out; have := HJ123.out; have := HJ131.out; have := HJ137.out; first | omega | exact Nat.le_refl _⟩, ⟨by (with_reducible repeat (first | apply Kd.R_alloc | apply Kd.R_drewN | apply Kd.R_drew)); exact Kd.R_mono HO_14.out (fun _ hk => hk.2.2)⟩, ⟨by (with_reducible repeat (first | apply Kd.R_alloc | apply Kd.R_drewN | apply Kd.R_drew)); exact Kd.R_mono HO_21.out (fun _ hk => hk.1)⟩, ⟨by (with_reducible repeat (first | apply Kd.R_alloc | apply Kd.R_drewN | apply Kd.R_drew)); exact HO_288001.out⟩, ⟨by (with_reducible repeat (first | apply Kd.R_alloc | apply Kd.R_drewN | apply Kd.R_drew)); exact HO_293001.out⟩, ⟨by (with_reducible repeat (first | apply Kd.R_alloc | apply Kd.R_drewN | apply Kd.R_drew)); exact HO_298001.out⟩, ⟨bk_ BK255⟩, ⟨bk_ BK256⟩, ⟨bk_ BK257⟩, ⟨bk_ BK287⟩, ⟨bk_ BK292⟩, ⟨bk_ BK297⟩, ⟨by repeat (first | (with_reducible first | exact HB.out | apply below_alloc | apply pw_below_drewN | apply below_drew1 | refine below_set ?_ GE255.out | refine below_set ?_ GE256.out | refine below_set ?_ GE257.out | refine below_set ?_ GE287.out | refine below_set ?_ GE292.out | refine below_set ?_ GE297.out) | exact HB.out)⟩⟩
  ·rw [if_neg c168] at H
   have c168b0 : decide (t340 < 0) = false := decide_eq_false c168
   clear c168
   (first | rw [c168b0] | (simp only [i64_w, i32_w]; rw [c168b0]) | skip)
   replace H := Option.bind_eq_some_iff.mp H
   obtain ⟨t342, A1690, H⟩ := H
   (try dsimp only at H)
   have A169 := Aside0.mk A1690
   clear A1690
   by_cases c170 : t342 = true
   ·subst c170
    have H1 : (laws_FnExactAfterMap.j12 kj137 l3 l4 a5 t279 t282 t304 (t307 != t282) a0_0 l0_1 a1_0 l1_1 a2_0 l2_1) = some r := by rw [if_pos rfl] at H; exact H
    clear H
    have H := H1
    clear H1
    have H' := Aside0.mk H
    clear H
    obtain ⟨Ao171, co171, eo171⟩ := Kd.R_slice HO_21.out
    subst eo171
    obtain ⟨Ao172, co172, eo172⟩ := Kd.R_slice HO_14.out
    subst eo172
    go_wp2_with (first | (go_at_call 21; (with_reducible refine (laws_eqIntS.calls kj137 _ _ t304 _ _ t279 true _ ?side1 ?side2 ?side3 ?side4 A169.out).mono ?_); (case side1 => repeat (first | exact (Kd.R_reads' HO_21.out).2.2 | (with_reducible refine Kd.C_alloc ?_ _) | (with_reducible refine Kd.C_drewN ?_ _) | (with_reducible refine Kd.C_drew ?_))); (case side2 => exact (Kd.R_reads' HO_21.out).2.1); (case side3 => repeat (first | exact (Kd.R_reads' HO_14.out).2.2 | (with_reducible refine Kd.C_alloc ?_ _) | (with_reducible refine Kd.C_drewN ?_ _) | (with_reducible refine Kd.C_drew ?_))); (case side4 => exact (Kd.R_reads' HO_14.out).2.1); rintro e w' ⟨rfl, ⟨nd, rfl⟩⟩))
    go_meet
    case rel => exact ⟨_, ((t307 != t282)), (by first | rfl | (simp; done) | (simp [*]; done)), H', ⟨by have := HJ6.out; have := HJ11.out; have := HJ14.out; have := HJ21.out; have := HJ28.out; have := HJ46.out; have := HJ103.out; have := HJ107.out; have := HJ115.out; have := HJ123.out; have := HJ131.out; have := HJ137.out; first | omega | exact Nat.le_refl _⟩, ⟨by (with_reducible repeat (first | apply Kd.R_alloc | apply Kd.R_drewN | apply Kd.R_drew)); exact Kd.R_mono HO_14.out (fun _ hk => hk.2.2)⟩, ⟨by (with_reducible repeat (first | apply Kd.R_alloc | apply Kd.R_drewN | apply Kd.R_drew)); exact Kd.R_mono HO_21.out (fun _ hk => hk.1)⟩, ⟨by (with_reducible repeat (first | apply Kd.R_alloc | apply Kd.R_drewN | apply Kd.R_drew)); exact HO_288001.out⟩, ⟨by (with_reducible repeat (first | apply Kd.R_alloc | apply Kd.R_drewN | apply Kd.R_drew)); exact HO_293001.out⟩, ⟨by (with_reducible repeat (first | apply Kd.R_alloc | apply Kd.R_drewN | apply Kd.R_drew)); exact HO_298001.out⟩, ⟨bk_ BK255⟩, ⟨bk_ BK256⟩, ⟨bk_ BK257⟩, ⟨bk_ BK287⟩, ⟨bk_ BK292⟩, ⟨bk_ BK297⟩, ⟨by repeat (first | (with_reducible first | exact HB.out | apply below_alloc | apply pw_below_drewN | apply below_drew1 | refine below_set ?_ GE255.out | refine below_set ?_ GE256.out | refine below_set ?_ GE257.out | refine below_set ?_ GE287.out | refine below_set ?_ GE292.out | refine below_set ?_ GE297.out) | exact HB.out)⟩⟩
   ·replace c170 := Bool.eq_false_iff.mpr c170
    subst c170
    have H1 : (laws_FnExactAfterMap.j12 kj137 l3 l4 a5 t279 t282 t304 true a0_0 l0_1 a1_0 l1_1 a2_0 l2_1) = some r := by rw [if_neg (show ¬ (false = true) by decide)] at H; exact H
    clear H
    have H := H1
    clear H1
    have H' := Aside0.mk H
    clear H
    obtain ⟨Ao173, co173, eo173⟩ := Kd.R_slice HO_21.out
    subst eo173
    obtain ⟨Ao174, co174, eo174⟩ := Kd.R_slice HO_14.out
    subst eo174
    go_wp2_with (first | (go_at_call 21; (with_reducible refine (laws_eqIntS.calls kj137 _ _ t304 _ _ t279 false _ ?side1 ?side2 ?side3 ?side4 A169.out).mono ?_); (case side1 => repeat (first | exact (Kd.R_reads' HO_21.out).2.2 | (with_reducible refine Kd.C_alloc ?_ _) | (with_reducible refine Kd.C_drewN ?_ _) | (with_reducible refine Kd.C_drew ?_))); (case side2 => exact (Kd.R_reads' HO_21.out).2.1); (case side3 => repeat (first | exact (Kd.R_reads' HO_14.out).2.2 | (with_reducible refine Kd.C_alloc ?_ _) | (with_reducible refine Kd.C_drewN ?_ _) | (with_reducible refine Kd.C_drew ?_))); (case side4 => exact (Kd.R_reads' HO_14.out).2.1); rintro e w' ⟨rfl, ⟨nd, rfl⟩⟩))
    go_meet
    case rel => exact ⟨_, (true), (by first | rfl | (simp; done) | (simp [*]; done)), H', ⟨by have := HJ6.out; have := HJ11.out; have := HJ14.out; have := HJ21.out; have := HJ28.out; have := HJ46.out; have := HJ103.out; have := HJ107.out; have := HJ115.out; have := HJ123.out; have := HJ131.out; have := HJ137.out; first | omega | exact Nat.le_refl _⟩, ⟨by (with_reducible repeat (first | apply Kd.R_alloc | apply Kd.R_drewN | apply Kd.R_drew)); exact Kd.R_mono HO_14.out (fun _ hk => hk.2.2)⟩, ⟨by (with_reducible repeat (first | apply Kd.R_alloc | apply Kd.R_drewN | apply Kd.R_drew)); exact Kd.R_mono HO_21.out (fun _ hk => hk.1)⟩, ⟨by (with_reducible repeat (first | apply Kd.R_alloc | apply Kd.R_drewN | apply Kd.R_drew)); exact HO_288001.out⟩, ⟨by (with_reducible repeat (first | apply Kd.R_alloc | apply Kd.R_drewN | apply Kd.R_drew)); exact HO_293001.out⟩, ⟨by (with_reducible repeat (first | apply Kd.R_alloc | apply Kd.R_drewN | apply Kd.R_drew)); exact HO_298001.out⟩, ⟨bk_ BK255⟩, ⟨bk_ BK256⟩, ⟨bk_ BK257⟩, ⟨bk_ BK287⟩, ⟨bk_ BK292⟩, ⟨bk_ BK297⟩, ⟨by repeat (first | (with_reducible first | exact HB.out | apply below_alloc | apply pw_below_drewN | apply below_drew1 | refine below_set ?_ GE255.out | refine below_set ?_ GE256.out | refine below_set ?_ GE257.out | refine below_set ?_ GE287.out | refine below_set ?_ GE292.out | refine below_set ?_ GE297.out) | exact HB.out)⟩⟩
 clear HC147
 try clear hcz153_0
 try clear hcz153_1
 try clear hcz159_0
 try clear hcz159_1
 try clear hcz164_0
 try clear hcz164_1
 try clear hfz153_0
 try clear hfz153_1
 try clear hfz159_0
 try clear hfz159_1
 try clear hfz164_0
 try clear hfz164_1
 obtain ⟨kq, x145_146, rfl, HA, HJ146, HO_14, HO_21, HO_288001, HO_293001, HO_298001, BK255, BK256, BK257, BK287, BK292, BK297, HB⟩ := hcut
 have hl288001_146 := (Kd.R_reads' HO_288001.out).1
 rw [hl288001_146] at HO_288001
 (try simp only [hl288001_146])
 (try simp only [hl288001_146] at BK255)
 (try simp only [hl288001_146] at BK256)
 (try simp only [hl288001_146] at BK257)
 (try simp only [hl288001_146] at BK287)
 (try simp only [hl288001_146] at BK292)
 (try simp only [hl288001_146] at BK297)
 (try simp only [hl288001_146] at HO_14)
 (try simp only [hl288001_146] at HO_21)
 (try simp only [hl288001_146] at HO_293001)
 (try simp only [hl288001_146] at HO_298001)
 have hl293001_146 := (Kd.R_reads' HO_293001.out).1
 rw [hl293001_146] at HO_293001
 (try simp only [hl293001_146])
 (try simp only [hl293001_146] at BK255)
 (try simp only [hl293001_146] at BK256)
 (try simp only [hl293001_146] at BK257)
 (try simp only [hl293001_146] at BK287)
 (try simp only [hl293001_146] at BK292)
 (try simp only [hl293001_146] at BK297)
 (try simp only [hl293001_146] at HO_14)
 (try simp only [hl293001_146] at HO_21)
 (try simp only [hl293001_146] at HO_288001)
 (try simp only [hl293001_146] at HO_298001)
 have hl298001_146 := (Kd.R_reads' HO_298001.out).1
 rw [hl298001_146] at HO_298001
 (try simp only [hl298001_146])
 (try simp only [hl298001_146] at BK255)
 (try simp only [hl298001_146] at BK256)
 (try simp only [hl298001_146] at BK257)
 (try simp only [hl298001_146] at BK287)
 (try simp only [hl298001_146] at BK292)
 (try simp only [hl298001_146] at BK297)
 (try simp only [hl298001_146] at HO_14)
 (try simp only [hl298001_146] at HO_21)
 (try simp only [hl298001_146] at HO_288001)
 (try simp only [hl298001_146] at HO_293001)
 cases kq
 case zero => exact absurd HA.out (by simp [laws_FnExactAfterMap.j12])
 case' succ kj146 => skip
 as_aux_lemma =>
 have H := HA.out
 clear HA
 simp only [laws_FnExactAfterMap.j12] at H
 have HC175 := Aside0.mk H
 clear H
 go_upto_if 145 with (fail)
 go_cut [] (fun wc => ∃ (kq : Nat), Aside0 (laws_FnExactAfterMap.j13 kq l3 l4 a5 t279 t282 t304 a0_0 l0_1 a1_0 l1_1 a2_0 l2_1 = some r) ∧ Aside0 (kq ≤ kj146) ∧ Aside0 (Kd.R (Kd.int .i64) 3 wc w.heap.size (fun k_ => some k_ ≠ (v305 : Value).ownBlock) v280 t279) ∧ Aside0 (Kd.R (Kd.int .i64) 3 wc w.heap.size (fun k_ => some k_ ≠ (v280 : Value).ownBlock) v305 t304) ∧ Aside0 (Kd.R k78 78 wc w.heap.size (fun k_ => some k_ ≠ ((.slice Ao79 t335.length co79) : Value).ownBlock ∧ some k_ ≠ ((.slice Ao89 t337.length co89) : Value).ownBlock) (.slice Ao69 t333.length co69) t333) ∧ Aside0 (Kd.R k78 78 wc w.heap.size (fun k_ => some k_ ≠ ((.slice Ao69 t333.length co69) : Value).ownBlock ∧ some k_ ≠ ((.slice Ao89 t337.length co89) : Value).ownBlock) (.slice Ao79 t335.length co79) t335) ∧ Aside0 (Kd.R k78 78 wc w.heap.size (fun k_ => some k_ ≠ ((.slice Ao69 t333.length co69) : Value).ownBlock ∧ some k_ ≠ ((.slice Ao79 t335.length co79) : Value).ownBlock) (.slice Ao89 t337.length co89) t337) ∧ Aside0 (wc.heap[gb255]? = some (.cells #[.int .i64 a0_0, (.slice A0_1 l0_1.length c0_1)] 24 (0, 0))) ∧ Aside0 (wc.heap[gb256]? = some (.cells #[.int .i64 a1_0, (.slice A1_1 l1_1.length c1_1)] 24 (0, 0))) ∧ Aside0 (wc.heap[gb257]? = some (.cells #[.int .i64 a2_0, (.slice A2_1 l2_1.length c2_1)] 24 (0, 0))) ∧ Aside0 (wc.heap[gb287]? = some (.cells #[.int .i64 t283, (.slice Ao69 t333.length co69)] 29 (0, 0))) ∧ Aside0 (wc.heap[gb292]? = some (.cells #[.int .i64 t288, (.slice Ao79 t335.length co79)] 29 (0, 0))) ∧ Aside0 (wc.heap[gb297]? = some (.cells #[.int .i64 t293, (.slice Ao89 t337.length co89)] 29 (0, 0))) ∧ Aside0 (Below w.heap.size w wc))
 case first =>
  have H := HC175.out
  clear HC175
  by_cases c176 : x145_146 = true
  ·subst c176
   have H1 : (some false) = some r := by rw [if_pos rfl] at H; exact H
   clear H
   have H := H1
   clear H1
   obtain rfl := Option.some.inj H
   go_wp2
   go_ret
   exact ⟨by first | rfl | (simp [errW_none, errW_some] <;> rfl) | (simp [*, errW_none, errW_some] <;> rfl), by repeat (first | (with_reducible first | exact HB.out | apply below_alloc | apply pw_below_drewN | apply below_drew1 | refine below_set ?_ GE255.out | refine below_set ?_ GE256.out | refine below_set ?_ GE257.out | refine below_set ?_ GE287.out | refine below_set ?_ GE292.out | refine below_set ?_ GE297.out) | exact HB.out)⟩
  ·replace c176 := Bool.eq_false_iff.mpr c176
   subst c176
   have H1 : (laws_FnExactAfterMap.j13 kj146 l3 l4 a5 t279 t282 t304 a0_0 l0_1 a1_0 l1_1 a2_0 l2_1) = some r := by rw [if_neg (show ¬ (false = true) by decide)] at H; exact H
   clear H
   have H := H1
   clear H1
   have H' := Aside0.mk H
   clear H
   go_wp2
   go_meet
   case rel => exact ⟨_, H', ⟨by have := HJ6.out; have := HJ11.out; have := HJ14.out; have := HJ21.out; have := HJ28.out; have := HJ46.out; have := HJ103.out; have := HJ107.out; have := HJ115.out; have := HJ123.out; have := HJ131.out; have := HJ137.out; have := HJ146.out; first | omega | exact Nat.le_refl _⟩, ⟨by (try simp only [hl288001_146]); (try simp only [hl293001_146]); (try simp only [hl298001_146]); (with_reducible repeat (first | apply Kd.R_alloc | apply Kd.R_drewN | apply Kd.R_drew)); exact HO_14.out⟩, ⟨by (try simp only [hl288001_146]); (try simp only [hl293001_146]); (try simp only [hl298001_146]); (with_reducible repeat (first | apply Kd.R_alloc | apply Kd.R_drewN | apply Kd.R_drew)); exact HO_21.out⟩, ⟨by (try simp only [hl288001_146]); (try simp only [hl293001_146]); (try simp only [hl298001_146]); (with_reducible repeat (first | apply Kd.R_alloc | apply Kd.R_drewN | apply Kd.R_drew)); exact HO_288001.out⟩, ⟨by (try simp only [hl288001_146]); (try simp only [hl293001_146]); (try simp only [hl298001_146]); (with_reducible repeat (first | apply Kd.R_alloc | apply Kd.R_drewN | apply Kd.R_drew)); exact HO_293001.out⟩, ⟨by (try simp only [hl288001_146]); (try simp only [hl293001_146]); (try simp only [hl298001_146]); (with_reducible repeat (first | apply Kd.R_alloc | apply Kd.R_drewN | apply Kd.R_drew)); exact HO_298001.out⟩, ⟨by (try simp only [hl288001_146]); (try simp only [hl293001_146]); (try simp only [hl298001_146]); (with_reducible repeat (first | refine blk_drewN ?_ _ | refine blk_drew ?_ | refine blk_alloc ?_ _)); exact BK255.out⟩, ⟨by (try simp only [hl288001_146]); (try simp only [hl293001_146]); (try simp only [hl298001_146]); (with_reducible repeat (first | refine blk_drewN ?_ _ | refine blk_drew ?_ | refine blk_alloc ?_ _)); exact BK256.out⟩, ⟨by (try simp only [hl288001_146]); (try simp only [hl293001_146]); (try simp only [hl298001_146]); (with_reducible repeat (first | refine blk_drewN ?_ _ | refine blk_drew ?_ | refine blk_alloc ?_ _)); exact BK257.out⟩, ⟨by (try simp only [hl288001_146]); (try simp only [hl293001_146]); (try simp only [hl298001_146]); (with_reducible repeat (first | refine blk_drewN ?_ _ | refine blk_drew ?_ | refine blk_alloc ?_ _)); exact BK287.out⟩, ⟨by (try simp only [hl288001_146]); (try simp only [hl293001_146]); (try simp only [hl298001_146]); (with_reducible repeat (first | refine blk_drewN ?_ _ | refine blk_drew ?_ | refine blk_alloc ?_ _)); exact BK292.out⟩, ⟨by (try simp only [hl288001_146]); (try simp only [hl293001_146]); (try simp only [hl298001_146]); (with_reducible repeat (first | refine blk_drewN ?_ _ | refine blk_drew ?_ | refine blk_alloc ?_ _)); exact BK297.out⟩, ⟨by repeat (first | (with_reducible first | exact HB.out | apply below_alloc | apply pw_below_drewN | apply below_drew1 | refine below_set ?_ GE255.out | refine below_set ?_ GE256.out | refine below_set ?_ GE257.out | refine below_set ?_ GE287.out | refine below_set ?_ GE292.out | refine below_set ?_ GE297.out) | exact HB.out)⟩⟩
 clear HC175
 obtain ⟨kq, HA, HJ174, HO_14, HO_21, HO_288001, HO_293001, HO_298001, BK255, BK256, BK257, BK287, BK292, BK297, HB⟩ := hcut
 cases kq
 case zero => exact absurd HA.out (by simp [laws_FnExactAfterMap.j13])
 case' succ kj174 => skip
 as_aux_lemma =>
 have H := HA.out
 clear HA
 simp only [laws_FnExactAfterMap.j13] at H
 replace H := Option.bind_eq_some_iff.mp H
 obtain ⟨⟨t343, t344⟩, A1770, H⟩ := H
 (try dsimp only at H)
 have A177 := Aside0.mk A1770
 clear A1770
 replace H := Option.bind_eq_some_iff.mp H
 obtain ⟨t345, A1780, H⟩ := H
 (try dsimp only at H)
 have A178 := Aside0.mk A1780
 clear A1780
 have HC179 := Aside0.mk H
 clear H
 obtain ⟨Ao180, co180, eo180⟩ := Kd.R_slice HO_21.out
 subst eo180
 go_upto_if 153 with (first | ((with_reducible refine gate_callee (f := 27) rfl ?_); refine gL_ (some 148) Try.func27 #[.slice Ao180 t304.length co180, .int .i64 1] ?_ rfl rfl; (with_reducible refine (laws_markIntS.calls kj174 (fun k_ => some k_ = (.slice Ao180 t304.length co180 : Value).ownBlock) (.slice Ao180 t304.length co180) t304 1 t343 t344 w _ ?side1 ?side2 A177.out).mono ?_); (case side1 => repeat (first | (with_reducible first | exact HB.out | apply below_alloc | apply pw_below_drewN | apply below_drew1 | refine below_set ?_ GE255.out | refine below_set ?_ GE256.out | refine below_set ?_ GE257.out | refine below_set ?_ GE287.out | refine below_set ?_ GE292.out | refine below_set ?_ GE297.out) | exact HB.out)); (case side2 => exact Kd.R_tight rfl HO_21.out); rintro e w181 ⟨rfl, hy0, hb, hkp⟩; refine ⟨_, rfl, ?_⟩; have n_ := And.intro (Aside0.mk (Kd.R_mono (ok' := fun k_ => some k_ ≠ (.slice Ao180 t304.length co180 : Value).ownBlock) (Kd.R_keptB (HO_14.out) hkp (fun k_ hk_ hs_ => (hk_) hs_)) (fun k_ hk_ => hk_.1))) (And.intro (Aside0.mk (Kd.R_reok rfl hy0 (fun k_ e_ => HO_21.out.1 k_ e_))) (And.intro (Aside0.mk (Kd.R_mono (ok' := fun k_ => some k_ ≠ (.slice Ao79 t335.length co79 : Value).ownBlock ∧ some k_ ≠ (.slice Ao89 t337.length co89 : Value).ownBlock) (Kd.R_keptB ((Kd.R_apart' HO_288001.out (Kd.R_typed HO_21.out) (by decide))) hkp (fun k_ hk_ hs_ => (hk_.2) hs_)) (fun k_ hk_ => ⟨hk_.1.1.1, hk_.1.1.2⟩))) (And.intro (Aside0.mk (Kd.R_mono (ok' := fun k_ => some k_ ≠ (.slice Ao69 t333.length co69 : Value).ownBlock ∧ some k_ ≠ (.slice Ao89 t337.length co89 : Value).ownBlock) (Kd.R_keptB ((Kd.R_apart' HO_293001.out (Kd.R_typed HO_21.out) (by decide))) hkp (fun k_ hk_ hs_ => (hk_.2) hs_)) (fun k_ hk_ => ⟨hk_.1.1.1, hk_.1.1.2⟩))) (And.intro (Aside0.mk (Kd.R_mono (ok' := fun k_ => some k_ ≠ (.slice Ao69 t333.length co69 : Value).ownBlock ∧ some k_ ≠ (.slice Ao79 t335.length co79 : Value).ownBlock) (Kd.R_keptB ((Kd.R_apart' HO_298001.out (Kd.R_typed HO_21.out) (by decide))) hkp (fun k_ hk_ hs_ => (hk_.2) hs_)) (fun k_ hk_ => ⟨hk_.1.1.1, hk_.1.1.2⟩))) (And.intro (Aside0.mk (blk_kept (bk_ BK255) hkp (fun hs_ => (fun e_ => (Kd.R_ne HO_21.out BK255.out (by decide)) e_) hs_))) (And.intro (Aside0.mk (blk_kept (bk_ BK256) hkp (fun hs_ => (fun e_ => (Kd.R_ne HO_21.out BK256.out (by decide)) e_) hs_))) (And.intro (Aside0.mk (blk_kept (bk_ BK257) hkp (fun hs_ => (fun e_ => (Kd.R_ne HO_21.out BK257.out (by decide)) e_) hs_))) (And.intro (Aside0.mk (blk_kept (bk_ BK287) hkp (fun hs_ => (fun e_ => (Kd.R_ne HO_21.out BK287.out (by decide)) e_) hs_))) (And.intro (Aside0.mk (blk_kept (bk_ BK292) hkp (fun hs_ => (fun e_ => (Kd.R_ne HO_21.out BK292.out (by decide)) e_) hs_))) (And.intro (Aside0.mk (blk_kept (bk_ BK297) hkp (fun hs_ => (fun e_ => (Kd.R_ne HO_21.out BK297.out (by decide)) e_) hs_))) (Aside0.mk (hb)))))))))))); clear HO_14 HO_21 HO_288001 HO_293001 HO_298001 BK255 BK256 BK257 BK287 BK292 BK297 HB; obtain ⟨HO_14, HO_21, HO_288001, HO_293001, HO_298001, BK255, BK256, BK257, BK287, BK292, BK297, HB⟩ := n_; (try clear hb); (try clear hkp); (try clear hy0)) | ((with_reducible refine gate_callee (f := 28) rfl ?_); refine goesL_ (some 151) rfl rfl Try.func28 (by kernel_rfl) rfl #[.slice Ao180 t344.length co180, .int .i64 1] rfl (by (try simp only [List.map_toArray, List.map_cons, List.map_nil]); first | done | (rw [show t344.length = t304.length from (Kd.R_reads' HO_21.out).1.symm] <;> rfl) | rfl | (simp only [List.length_drop, List.length_take]; rfl)) ?_; (with_reducible refine (laws_heldIntS.calls kj174 _ _ t344 1 t345 _ ?side1 ?side2 A178.out).mono ?_); (case side1 => repeat (first | exact (Kd.R_reads' HO_21.out).2.2 | (with_reducible refine Kd.C_alloc ?_ _) | (with_reducible refine Kd.C_drewN ?_ _) | (with_reducible refine Kd.C_drew ?_))); (case side2 => rw [show t344.length = t304.length from (Kd.R_reads' HO_21.out).1.symm]; exact (Kd.R_reads' HO_21.out).2.1); rintro e w' ⟨rfl, ⟨nd, rfl⟩⟩; refine ⟨_, rfl, ?_⟩))
 (try simp only [Act.put, List.setIfInBounds_toArray, List.set_cons_zero, List.set_cons_succ])
 go_cut [] (fun wc => ∃ (kq : Nat), Aside0 (laws_FnExactAfterMap.j14 kq l3 l4 a5 t279 t282 t344 t343 t345 a0_0 l0_1 a1_0 l1_1 a2_0 l2_1 = some r) ∧ Aside0 (kq ≤ kj174) ∧ Aside0 (Kd.R (Kd.int .i64) 3 wc w.heap.size (fun k_ => some k_ ≠ ((.slice Ao180 t304.length co180) : Value).ownBlock) v280 t279) ∧ Aside0 (Kd.R (Kd.int .i64) 3 wc w.heap.size (fun k_ => some k_ ≠ (v280 : Value).ownBlock) (.slice Ao180 t304.length co180) t344) ∧ Aside0 (Kd.R k78 78 wc w.heap.size (fun k_ => some k_ ≠ ((.slice Ao79 t335.length co79) : Value).ownBlock ∧ some k_ ≠ ((.slice Ao89 t337.length co89) : Value).ownBlock) (.slice Ao69 t333.length co69) t333) ∧ Aside0 (Kd.R k78 78 wc w.heap.size (fun k_ => some k_ ≠ ((.slice Ao69 t333.length co69) : Value).ownBlock ∧ some k_ ≠ ((.slice Ao89 t337.length co89) : Value).ownBlock) (.slice Ao79 t335.length co79) t335) ∧ Aside0 (Kd.R k78 78 wc w.heap.size (fun k_ => some k_ ≠ ((.slice Ao69 t333.length co69) : Value).ownBlock ∧ some k_ ≠ ((.slice Ao79 t335.length co79) : Value).ownBlock) (.slice Ao89 t337.length co89) t337) ∧ Aside0 (wc.heap[gb255]? = some (.cells #[.int .i64 a0_0, (.slice A0_1 l0_1.length c0_1)] 24 (0, 0))) ∧ Aside0 (wc.heap[gb256]? = some (.cells #[.int .i64 a1_0, (.slice A1_1 l1_1.length c1_1)] 24 (0, 0))) ∧ Aside0 (wc.heap[gb257]? = some (.cells #[.int .i64 a2_0, (.slice A2_1 l2_1.length c2_1)] 24 (0, 0))) ∧ Aside0 (wc.heap[gb287]? = some (.cells #[.int .i64 t283, (.slice Ao69 t333.length co69)] 29 (0, 0))) ∧ Aside0 (wc.heap[gb292]? = some (.cells #[.int .i64 t288, (.slice Ao79 t335.length co79)] 29 (0, 0))) ∧ Aside0 (wc.heap[gb297]? = some (.cells #[.int .i64 t293, (.slice Ao89 t337.length co89)] 29 (0, 0))) ∧ Aside0 (Below w.heap.size w wc))
 case first =>
  have H := HC179.out
  clear HC179
  by_cases c182 : t345 < 0
  ·rw [if_pos c182] at H
   have c182b0 : decide (t345 < 0) = true := decide_eq_true c182
   clear c182
   (first | rw [c182b0] | (simp only [i64_w, i32_w]; rw [c182b0]) | skip)
   obtain rfl := Option.some.inj H
   go_wp2
   go_ret
   exact ⟨by first | rfl | (simp [errW_none, errW_some] <;> rfl) | (simp [*, errW_none, errW_some] <;> rfl), by repeat (first | (with_reducible first | exact HB.out | apply below_alloc | apply pw_below_drewN | apply below_drew1 | refine below_set ?_ GE255.out | refine below_set ?_ GE256.out | refine below_set ?_ GE257.out | refine below_set ?_ GE287.out | refine below_set ?_ GE292.out | refine below_set ?_ GE297.out) | exact HB.out)⟩
  ·rw [if_neg c182] at H
   have c182b0 : decide (t345 < 0) = false := decide_eq_false c182
   clear c182
   (first | rw [c182b0] | (simp only [i64_w, i32_w]; rw [c182b0]) | skip)
   have H' := Aside0.mk H
   clear H
   go_wp2
   go_meet
   case rel => exact ⟨_, H', ⟨by have := HJ6.out; have := HJ11.out; have := HJ14.out; have := HJ21.out; have := HJ28.out; have := HJ46.out; have := HJ103.out; have := HJ107.out; have := HJ115.out; have := HJ123.out; have := HJ131.out; have := HJ137.out; have := HJ146.out; have := HJ174.out; first | omega | exact Nat.le_refl _⟩, ⟨by (try simp only [hl288001_146]); (try simp only [hl293001_146]); (try simp only [hl298001_146]); (with_reducible repeat (first | apply Kd.R_alloc | apply Kd.R_drewN | apply Kd.R_drew)); exact HO_14.out⟩, ⟨by (try simp only [hl288001_146]); (try simp only [hl293001_146]); (try simp only [hl298001_146]); (with_reducible repeat (first | apply Kd.R_alloc | apply Kd.R_drewN | apply Kd.R_drew)); exact HO_21.out⟩, ⟨by (try simp only [hl288001_146]); (try simp only [hl293001_146]); (try simp only [hl298001_146]); (with_reducible repeat (first | apply Kd.R_alloc | apply Kd.R_drewN | apply Kd.R_drew)); exact HO_288001.out⟩, ⟨by (try simp only [hl288001_146]); (try simp only [hl293001_146]); (try simp only [hl298001_146]); (with_reducible repeat (first | apply Kd.R_alloc | apply Kd.R_drewN | apply Kd.R_drew)); exact HO_293001.out⟩, ⟨by (try simp only [hl288001_146]); (try simp only [hl293001_146]); (try simp only [hl298001_146]); (with_reducible repeat (first | apply Kd.R_alloc | apply Kd.R_drewN | apply Kd.R_drew)); exact HO_298001.out⟩, ⟨by (try simp only [hl288001_146]); (try simp only [hl293001_146]); (try simp only [hl298001_146]); (with_reducible repeat (first | refine blk_drewN ?_ _ | refine blk_drew ?_ | refine blk_alloc ?_ _)); exact BK255.out⟩, ⟨by (try simp only [hl288001_146]); (try simp only [hl293001_146]); (try simp only [hl298001_146]); (with_reducible repeat (first | refine blk_drewN ?_ _ | refine blk_drew ?_ | refine blk_alloc ?_ _)); exact BK256.out⟩, ⟨by (try simp only [hl288001_146]); (try simp only [hl293001_146]); (try simp only [hl298001_146]); (with_reducible repeat (first | refine blk_drewN ?_ _ | refine blk_drew ?_ | refine blk_alloc ?_ _)); exact BK257.out⟩, ⟨by (try simp only [hl288001_146]); (try simp only [hl293001_146]); (try simp only [hl298001_146]); (with_reducible repeat (first | refine blk_drewN ?_ _ | refine blk_drew ?_ | refine blk_alloc ?_ _)); exact BK287.out⟩, ⟨by (try simp only [hl288001_146]); (try simp only [hl293001_146]); (try simp only [hl298001_146]); (with_reducible repeat (first | refine blk_drewN ?_ _ | refine blk_drew ?_ | refine blk_alloc ?_ _)); exact BK292.out⟩, ⟨by (try simp only [hl288001_146]); (try simp only [hl293001_146]); (try simp only [hl298001_146]); (with_reducible repeat (first | refine blk_drewN ?_ _ | refine blk_drew ?_ | refine blk_alloc ?_ _)); exact BK297.out⟩, ⟨by repeat (first | (with_reducible first | exact HB.out | apply below_alloc | apply pw_below_drewN | apply below_drew1 | refine below_set ?_ GE255.out | refine below_set ?_ GE256.out | refine below_set ?_ GE257.out | refine below_set ?_ GE287.out | refine below_set ?_ GE292.out | refine below_set ?_ GE297.out) | exact HB.out)⟩⟩
 clear HC179
 obtain ⟨kq, HA, HJ178, HO_14, HO_21, HO_288001, HO_293001, HO_298001, BK255, BK256, BK257, BK287, BK292, BK297, HB⟩ := hcut
 have hl21_178 := (Kd.R_reads' HO_21.out).1
 rw [hl21_178] at HO_21
 (try simp only [hl21_178])
 (try simp only [hl21_178] at BK255)
 (try simp only [hl21_178] at BK256)
 (try simp only [hl21_178] at BK257)
 (try simp only [hl21_178] at BK287)
 (try simp only [hl21_178] at BK292)
 (try simp only [hl21_178] at BK297)
 (try simp only [hl21_178] at HO_14)
 (try simp only [hl21_178] at HO_288001)
 (try simp only [hl21_178] at HO_293001)
 (try simp only [hl21_178] at HO_298001)
 cases kq
 case zero => exact absurd HA.out (by simp [laws_FnExactAfterMap.j14])
 case' succ kj178 => skip
 as_aux_lemma =>
 have H := HA.out
 clear HA
 simp only [laws_FnExactAfterMap.j14] at H
 have HC183 := Aside0.mk H
 clear H
 go_upto_if 156 with (fail)
 go_cut [] (fun wc => ∃ (kq : Nat), Aside0 (laws_FnExactAfterMap.j15 kq l3 l4 a5 t279 t282 t344 t343 a0_0 l0_1 a1_0 l1_1 a2_0 l2_1 = some r) ∧ Aside0 (kq ≤ kj178) ∧ Aside0 (Kd.R (Kd.int .i64) 3 wc w.heap.size (fun k_ => some k_ ≠ ((.slice Ao180 t344.length co180) : Value).ownBlock) v280 t279) ∧ Aside0 (Kd.R (Kd.int .i64) 3 wc w.heap.size (fun k_ => some k_ ≠ (v280 : Value).ownBlock) (.slice Ao180 t344.length co180) t344) ∧ Aside0 (Kd.R k78 78 wc w.heap.size (fun k_ => some k_ ≠ ((.slice Ao79 t335.length co79) : Value).ownBlock ∧ some k_ ≠ ((.slice Ao89 t337.length co89) : Value).ownBlock) (.slice Ao69 t333.length co69) t333) ∧ Aside0 (Kd.R k78 78 wc w.heap.size (fun k_ => some k_ ≠ ((.slice Ao69 t333.length co69) : Value).ownBlock ∧ some k_ ≠ ((.slice Ao89 t337.length co89) : Value).ownBlock) (.slice Ao79 t335.length co79) t335) ∧ Aside0 (Kd.R k78 78 wc w.heap.size (fun k_ => some k_ ≠ ((.slice Ao69 t333.length co69) : Value).ownBlock ∧ some k_ ≠ ((.slice Ao79 t335.length co79) : Value).ownBlock) (.slice Ao89 t337.length co89) t337) ∧ Aside0 (wc.heap[gb255]? = some (.cells #[.int .i64 a0_0, (.slice A0_1 l0_1.length c0_1)] 24 (0, 0))) ∧ Aside0 (wc.heap[gb256]? = some (.cells #[.int .i64 a1_0, (.slice A1_1 l1_1.length c1_1)] 24 (0, 0))) ∧ Aside0 (wc.heap[gb257]? = some (.cells #[.int .i64 a2_0, (.slice A2_1 l2_1.length c2_1)] 24 (0, 0))) ∧ Aside0 (wc.heap[gb287]? = some (.cells #[.int .i64 t283, (.slice Ao69 t333.length co69)] 29 (0, 0))) ∧ Aside0 (wc.heap[gb292]? = some (.cells #[.int .i64 t288, (.slice Ao79 t335.length co79)] 29 (0, 0))) ∧ Aside0 (wc.heap[gb297]? = some (.cells #[.int .i64 t293, (.slice Ao89 t337.length co89)] 29 (0, 0))) ∧ Aside0 (Below w.heap.size w wc))
 case first =>
  have H := HC183.out
  clear HC183
  by_cases c184 : t345 = t343
  ·rw [if_pos c184] at H
   have c184b0 : (t345 == t343) = true := beq_iff_eq.mpr c184
   have c184b1 : (t345 != t343) = false := bne_eq_false_iff_eq.mpr c184
   clear c184
   (first | rw [c184b0] | (simp only [i64_w, i32_w]; rw [c184b0]) | skip)
   have H' := Aside0.mk H
   clear H
   go_wp2
   go_meet
   case rel => exact ⟨_, H', ⟨by have := HJ6.out; have := HJ11.out; have := HJ14.out; have := HJ21.out; have := HJ28.out; have := HJ46.out; have := HJ103.out; have := HJ107.out; have := HJ115.out; have := HJ123.out; have := HJ131.out; have := HJ137.out; have := HJ146.out; have := HJ174.out; have := HJ178.out; first | omega | exact Nat.le_refl _⟩, ⟨by (try simp only [hl288001_146]); (try simp only [hl293001_146]); (try simp only [hl298001_146]); (try simp only [hl21_178]); (with_reducible repeat (first | apply Kd.R_alloc | apply Kd.R_drewN | apply Kd.R_drew)); exact HO_14.out⟩, ⟨by (try simp only [hl288001_146]); (try simp only [hl293001_146]); (try simp only [hl298001_146]); (try simp only [hl21_178]); (with_reducible repeat (first | apply Kd.R_alloc | apply Kd.R_drewN | apply Kd.R_drew)); exact HO_21.out⟩, ⟨by (try simp only [hl288001_146]); (try simp only [hl293001_146]); (try simp only [hl298001_146]); (try simp only [hl21_178]); (with_reducible repeat (first | apply Kd.R_alloc | apply Kd.R_drewN | apply Kd.R_drew)); exact HO_288001.out⟩, ⟨by (try simp only [hl288001_146]); (try simp only [hl293001_146]); (try simp only [hl298001_146]); (try simp only [hl21_178]); (with_reducible repeat (first | apply Kd.R_alloc | apply Kd.R_drewN | apply Kd.R_drew)); exact HO_293001.out⟩, ⟨by (try simp only [hl288001_146]); (try simp only [hl293001_146]); (try simp only [hl298001_146]); (try simp only [hl21_178]); (with_reducible repeat (first | apply Kd.R_alloc | apply Kd.R_drewN | apply Kd.R_drew)); exact HO_298001.out⟩, ⟨by (try simp only [hl288001_146]); (try simp only [hl293001_146]); (try simp only [hl298001_146]); (try simp only [hl21_178]); (with_reducible repeat (first | refine blk_drewN ?_ _ | refine blk_drew ?_ | refine blk_alloc ?_ _)); exact BK255.out⟩, ⟨by (try simp only [hl288001_146]); (try simp only [hl293001_146]); (try simp only [hl298001_146]); (try simp only [hl21_178]); (with_reducible repeat (first | refine blk_drewN ?_ _ | refine blk_drew ?_ | refine blk_alloc ?_ _)); exact BK256.out⟩, ⟨by (try simp only [hl288001_146]); (try simp only [hl293001_146]); (try simp only [hl298001_146]); (try simp only [hl21_178]); (with_reducible repeat (first | refine blk_drewN ?_ _ | refine blk_drew ?_ | refine blk_alloc ?_ _)); exact BK257.out⟩, ⟨by (try simp only [hl288001_146]); (try simp only [hl293001_146]); (try simp only [hl298001_146]); (try simp only [hl21_178]); (with_reducible repeat (first | refine blk_drewN ?_ _ | refine blk_drew ?_ | refine blk_alloc ?_ _)); exact BK287.out⟩, ⟨by (try simp only [hl288001_146]); (try simp only [hl293001_146]); (try simp only [hl298001_146]); (try simp only [hl21_178]); (with_reducible repeat (first | refine blk_drewN ?_ _ | refine blk_drew ?_ | refine blk_alloc ?_ _)); exact BK292.out⟩, ⟨by (try simp only [hl288001_146]); (try simp only [hl293001_146]); (try simp only [hl298001_146]); (try simp only [hl21_178]); (with_reducible repeat (first | refine blk_drewN ?_ _ | refine blk_drew ?_ | refine blk_alloc ?_ _)); exact BK297.out⟩, ⟨by repeat (first | (with_reducible first | exact HB.out | apply below_alloc | apply pw_below_drewN | apply below_drew1 | refine below_set ?_ GE255.out | refine below_set ?_ GE256.out | refine below_set ?_ GE257.out | refine below_set ?_ GE287.out | refine below_set ?_ GE292.out | refine below_set ?_ GE297.out) | exact HB.out)⟩⟩
  ·rw [if_neg c184] at H
   have c184b0 : (t345 == t343) = false := beq_eq_false_iff_ne.mpr c184
   have c184b1 : (t345 != t343) = true := bne_iff_ne.mpr c184
   (first | rw [c184b0] | (simp only [i64_w, i32_w]; rw [c184b0]) | skip)
   obtain rfl := Option.some.inj H
   go_wp2
   go_ret
   exact ⟨by first | rfl | (simp [errW_none, errW_some] <;> rfl) | (simp [*, errW_none, errW_some] <;> rfl), by repeat (first | (with_reducible first | exact HB.out | apply below_alloc | apply pw_below_drewN | apply below_drew1 | refine below_set ?_ GE255.out | refine below_set ?_ GE256.out | refine below_set ?_ GE257.out | refine below_set ?_ GE287.out | refine below_set ?_ GE292.out | refine below_set ?_ GE297.out) | exact HB.out)⟩
 clear HC183
 obtain ⟨kq, HA, HJ182, HO_14, HO_21, HO_288001, HO_293001, HO_298001, BK255, BK256, BK257, BK287, BK292, BK297, HB⟩ := hcut
 cases kq
 case zero => exact absurd HA.out (by simp [laws_FnExactAfterMap.j15])
 case' succ kj182 => skip
 as_aux_lemma =>
 have H := HA.out
 clear HA
 simp only [laws_FnExactAfterMap.j15] at H
 replace H := Option.bind_eq_some_iff.mp H
 obtain ⟨⟨t346, t347⟩, A1850, H⟩ := H
 (try dsimp only at H)
 have A185 := Aside0.mk A1850
 clear A1850
 replace H := Option.bind_eq_some_iff.mp H
 obtain ⟨⟨t350, t351⟩, A1860, H⟩ := H
 (try dsimp only at H)
 have A186 := Aside0.mk A1860
 clear A1860
 replace H := Option.bind_eq_some_iff.mp H
 obtain ⟨⟨t354, t355⟩, A1870, H⟩ := H
 (try dsimp only at H)
 have A187 := Aside0.mk A1870
 clear A1870
 replace H := Option.bind_eq_some_iff.mp H
 obtain ⟨t358, A1880, H⟩ := H
 (try dsimp only at H)
 have A188 := Aside0.mk A1880
 clear A1880
 replace H := Option.bind_eq_some_iff.mp H
 obtain ⟨t361, A1890, H⟩ := H
 (try dsimp only at H)
 have A189 := Aside0.mk A1890
 clear A1890
 replace H := Option.bind_eq_some_iff.mp H
 obtain ⟨⟨t364, t367⟩, A1900, H⟩ := H
 (try dsimp only at H)
 have A190 := Aside0.mk A1900
 clear A1900
 have HC191 := Aside0.mk H
 clear H
 try go_wp2
 have n_ := And.intro (Aside0.mk (Kd.R_drew HO_14.out)) (And.intro (Aside0.mk (Kd.R_drew HO_21.out)) (And.intro (Aside0.mk (Kd.R_drew HO_288001.out)) (And.intro (Aside0.mk (Kd.R_drew HO_293001.out)) (And.intro (Aside0.mk (Kd.R_drew HO_298001.out)) (And.intro (Aside0.mk (blk_drew BK255.out)) (And.intro (Aside0.mk (blk_drew BK256.out)) (And.intro (Aside0.mk (blk_drew BK257.out)) (And.intro (Aside0.mk (blk_drew BK287.out)) (And.intro (Aside0.mk (blk_drew BK292.out)) (And.intro (Aside0.mk (blk_drew BK297.out)) (Aside0.mk (below_drew1 HB.out))))))))))))
 clear HO_14 HO_21 HO_288001 HO_293001 HO_298001 BK255 BK256 BK257 BK287 BK292 BK297 HB; obtain ⟨HO_14, HO_21, HO_288001, HO_293001, HO_298001, BK255, BK256, BK257, BK287, BK292, BK297, HB⟩ := n_
 refine start_ (n := 17) (S := fun w' => w'.cell? ⟨gb255, 0, none⟩ = some (.int .i64 a0_0) ∧ w'.cell? ⟨gb255, 1, none⟩ = some (.slice A0_1 l0_1.length c0_1) ∧ w'.cell? ⟨gb256, 0, none⟩ = some (.int .i64 a1_0) ∧ w'.cell? ⟨gb256, 1, none⟩ = some (.slice A1_1 l1_1.length c1_1) ∧ w'.cell? ⟨gb257, 0, none⟩ = some (.int .i64 a2_0) ∧ w'.cell? ⟨gb257, 1, none⟩ = some (.slice A2_1 l2_1.length c2_1)) (ds := []) (bm 17 0) (by kernel_rfl) rfl rfl ⟨(blk_cell BK255.out 0).trans rfl, (blk_cell BK255.out 1).trans rfl, (blk_cell BK256.out 0).trans rfl, (blk_cell BK256.out 1).trans rfl, (blk_cell BK257.out 0).trans rfl, (blk_cell BK257.out 1).trans rfl⟩ (fun hHeld => ?_); refine with_tabW laws_FnExactAfterMap.tab50 laws_FnExactAfterMap.bits50 (fun HT_ HW_ => ?_)
 generalize wc.drew = w192 at HO_14 HO_21 HO_288001 HO_293001 HO_298001 BK255 BK256 BK257 BK287 BK292 BK297 HB hHeld ⊢
 refine pa_ 6 (some 164) (bm 17 64) rfl rfl HT_.out ?_
 refine pa_ 8 (some 166) (bm 17 320) rfl rfl HT_.out ?_
 refine pa_ 10 (some 168) (bm 17 1344) rfl rfl HT_.out ?_
 refine take_ (i := 0) (N := some 158) (v := ?_) (a' := ?_) (bm 17 1345) rfl rfl (take_ofW HT_.out HW_.out (by kernel_rfl)) (fun _ _ _ h => h) (Or.inl ⟨by rfl, ?_⟩) hHeld ?_ ?_
 rotate_left
 ·rintro w' ⟨s0, s1, s2, s3, s4, s5⟩
  go_simp
  with_reducible rfl
 rotate_left
 ·simp only [Act.put, List.setIfInBounds_toArray, List.set_cons_zero, List.set_cons_succ, i64_w, i32_w]
  rfl
 refine take_ (i := 2) (N := some 160) (v := ?_) (a' := ?_) (bm 17 1349) rfl rfl (take_ofW HT_.out HW_.out (by kernel_rfl)) (fun _ _ _ h => h) (Or.inl ⟨by rfl, ?_⟩) hHeld ?_ ?_
 rotate_left
 ·rintro w' ⟨s0, s1, s2, s3, s4, s5⟩
  go_simp
  with_reducible rfl
 rotate_left
 ·simp only [Act.put, List.setIfInBounds_toArray, List.set_cons_zero, List.set_cons_succ, i64_w, i32_w]
  rfl
 refine take_ (i := 4) (N := some 162) (v := ?_) (a' := ?_) (bm 17 1365) rfl rfl (take_ofW HT_.out HW_.out (by kernel_rfl)) (fun _ _ _ h => h) (Or.inl ⟨by rfl, ?_⟩) hHeld ?_ ?_
 rotate_left
 ·rintro w' ⟨s0, s1, s2, s3, s4, s5⟩
  go_simp
  with_reducible rfl
 rotate_left
 ·simp only [Act.put, List.setIfInBounds_toArray, List.set_cons_zero, List.set_cons_succ, i64_w, i32_w]
  rfl
 refine one_ (i := 1) (N := some 159) (bm 17 1367) rfl rfl (one_of HT_.out (by kernel_rfl)) (by decide) (fun K hK => ?_)
 refine goes_ Try.func17 (by kernel_rfl) rfl #[.agg #[.int .i64 a0_0, .slice A0_1 l0_1.length c0_1]] (by rfl) rfl rfl (by (try simp only [List.map_toArray, List.map_cons, List.map_nil]); first | done | rfl | (simp only [List.length_drop, List.length_take]; rfl)) ?_
 with_reducible refine (laws_toGraph.calls kj182 a0_0 _ _ l0_1 t346 t347 _ ?side1 ?side2 A185.out).mono ?_
 (case side1 => exact cb_ HR0_1)
 (case side2 => exact HC0_1.out)
 rintro e w193 ⟨v348, rfl, ho0, hb⟩
 refine ⟨_, rfl, ?_⟩
 have n_ := And.intro (Aside0.mk (Kd.R_below (rk_ HO_14) hb)) (And.intro (Aside0.mk (Kd.R_below (rk_ HO_21) hb)) (And.intro (Aside0.mk (Kd.R_elder' (rk_ HO_288001) (Kd.R_base ho0) hb)) (And.intro (Aside0.mk (Kd.R_elder' (rk_ HO_293001) (Kd.R_base ho0) hb)) (And.intro (Aside0.mk (Kd.R_elder' (rk_ HO_298001) (Kd.R_base ho0) hb)) (And.intro (Aside0.mk (Kd.R_lower (Kd.R_new' (Kd.R_new' (Kd.R_new' ho0 (Kd.R_lt (rk_ HO_288001))) (Kd.R_lt (rk_ HO_293001))) (Kd.R_lt (rk_ HO_298001))) (below_size bg_))) (And.intro (Aside0.mk (blk_below (g := gb255) (o := .cells #[.int .i64 a0_0, .slice A0_1 l0_1.length c0_1] 24 (0, 0)) (bk_ BK255) hb)) (And.intro (Aside0.mk (blk_below (g := gb256) (o := .cells #[.int .i64 a1_0, .slice A1_1 l1_1.length c1_1] 24 (0, 0)) (bk_ BK256) hb)) (And.intro (Aside0.mk (blk_below (g := gb257) (o := .cells #[.int .i64 a2_0, .slice A2_1 l2_1.length c2_1] 24 (0, 0)) (bk_ BK257) hb)) (And.intro (Aside0.mk (blk_below (g := gb287) (o := .cells #[.int .i64 t283, .slice Ao69 t333.length co69] 29 (0, 0)) (bk_ BK287) hb)) (And.intro (Aside0.mk (blk_below (g := gb292) (o := .cells #[.int .i64 t288, .slice Ao79 t335.length co79] 29 (0, 0)) (bk_ BK292) hb)) (And.intro (Aside0.mk (blk_below (g := gb297) (o := .cells #[.int .i64 t293, .slice Ao89 t337.length co89] 29 (0, 0)) (bk_ BK297) hb)) (Aside0.mk (below_step bg_ hb)))))))))))))
 clear HO_14 HO_21 HO_288001 HO_293001 HO_298001 BK255 BK256 BK257 BK287 BK292 BK297 HB; obtain ⟨HO_14, HO_21, HO_288001, HO_293001, HO_298001, HO349, BK255, BK256, BK257, BK287, BK292, BK297, HB⟩ := n_
 (try clear hb)
 (try clear hb2)
 (try clear hk)
 (try clear hi)
 (try clear ho0)
 refine hK.out _ _ ⟨(blk_cell BK255.out 0).trans rfl, (blk_cell BK255.out 1).trans rfl, (blk_cell BK256.out 0).trans rfl, (blk_cell BK256.out 1).trans rfl, (blk_cell BK257.out 0).trans rfl, (blk_cell BK257.out 1).trans rfl⟩ (fun hHeld => ?_)
 clear hK K
 refine norm_ (a' := ?_) ?_ ?_
 rotate_left
 ·show Act.put _ (some 159) _ = _
  simp only [Act.put, List.setIfInBounds_toArray, List.set_cons_zero, List.set_cons_succ, i64_w, i32_w]
  rfl
 refine one_ (i := 3) (N := some 161) (bm 17 1375) rfl rfl (one_of HT_.out (by kernel_rfl)) (by decide) (fun K hK => ?_)
 refine goes_ Try.func17 (by kernel_rfl) rfl #[.agg #[.int .i64 a1_0, .slice A1_1 l1_1.length c1_1]] (by rfl) rfl rfl (by (try simp only [List.map_toArray, List.map_cons, List.map_nil]); first | done | rfl | (simp only [List.length_drop, List.length_take]; rfl)) ?_
 with_reducible refine (laws_toGraph.calls kj182 a1_0 _ _ l1_1 t350 t351 _ ?side1 ?side2 A186.out).mono ?_
 (case side1 => exact cb_ HR1_1)
 (case side2 => exact HC1_1.out)
 rintro e w194 ⟨v352, rfl, ho0, hb⟩
 refine ⟨_, rfl, ?_⟩
 have n_ := And.intro (Aside0.mk (Kd.R_below (rk_ HO_14) hb)) (And.intro (Aside0.mk (Kd.R_below (rk_ HO_21) hb)) (And.intro (Aside0.mk (Kd.R_elder' (rk_ HO_288001) (Kd.R_base ho0) hb)) (And.intro (Aside0.mk (Kd.R_elder' (rk_ HO_293001) (Kd.R_base ho0) hb)) (And.intro (Aside0.mk (Kd.R_elder' (rk_ HO_298001) (Kd.R_base ho0) hb)) (And.intro (Aside0.mk (Kd.R_elder' (rk_ HO349) (Kd.R_base ho0) hb)) (And.intro (Aside0.mk (Kd.R_lower (Kd.R_new' (Kd.R_new' (Kd.R_new' (Kd.R_new' ho0 (Kd.R_lt (rk_ HO_288001))) (Kd.R_lt (rk_ HO_293001))) (Kd.R_lt (rk_ HO_298001))) (Kd.R_lt (rk_ HO349))) (below_size bg_))) (And.intro (Aside0.mk (blk_below (g := gb255) (o := .cells #[.int .i64 a0_0, .slice A0_1 l0_1.length c0_1] 24 (0, 0)) (bk_ BK255) hb)) (And.intro (Aside0.mk (blk_below (g := gb256) (o := .cells #[.int .i64 a1_0, .slice A1_1 l1_1.length c1_1] 24 (0, 0)) (bk_ BK256) hb)) (And.intro (Aside0.mk (blk_below (g := gb257) (o := .cells #[.int .i64 a2_0, .slice A2_1 l2_1.length c2_1] 24 (0, 0)) (bk_ BK257) hb)) (And.intro (Aside0.mk (blk_below (g := gb287) (o := .cells #[.int .i64 t283, .slice Ao69 t333.length co69] 29 (0, 0)) (bk_ BK287) hb)) (And.intro (Aside0.mk (blk_below (g := gb292) (o := .cells #[.int .i64 t288, .slice Ao79 t335.length co79] 29 (0, 0)) (bk_ BK292) hb)) (And.intro (Aside0.mk (blk_below (g := gb297) (o := .cells #[.int .i64 t293, .slice Ao89 t337.length co89] 29 (0, 0)) (bk_ BK297) hb)) (Aside0.mk (below_step bg_ hb))))))))))))))
 clear HO_14 HO_21 HO_288001 HO_293001 HO_298001 HO349 BK255 BK256 BK257 BK287 BK292 BK297 HB; obtain ⟨HO_14, HO_21, HO_288001, HO_293001, HO_298001, HO349, HO353, BK255, BK256, BK257, BK287, BK292, BK297, HB⟩ := n_
 (try clear hb)
 (try clear hb2)
 (try clear hk)
 (try clear hi)
 (try clear ho0)
 refine hK.out _ _ ⟨(blk_cell BK255.out 0).trans rfl, (blk_cell BK255.out 1).trans rfl, (blk_cell BK256.out 0).trans rfl, (blk_cell BK256.out 1).trans rfl, (blk_cell BK257.out 0).trans rfl, (blk_cell BK257.out 1).trans rfl⟩ (fun hHeld => ?_)
 clear hK K
 refine norm_ (a' := ?_) ?_ ?_
 rotate_left
 ·show Act.put _ (some 161) _ = _
  simp only [Act.put, List.setIfInBounds_toArray, List.set_cons_zero, List.set_cons_succ, i64_w, i32_w]
  rfl
 refine one_ (i := 5) (N := some 163) (bm 17 1407) rfl rfl (one_of HT_.out (by kernel_rfl)) (by decide) (fun K hK => ?_)
 refine goes_ Try.func17 (by kernel_rfl) rfl #[.agg #[.int .i64 a2_0, .slice A2_1 l2_1.length c2_1]] (by rfl) rfl rfl (by (try simp only [List.map_toArray, List.map_cons, List.map_nil]); first | done | rfl | (simp only [List.length_drop, List.length_take]; rfl)) ?_
 with_reducible refine (laws_toGraph.calls kj182 a2_0 _ _ l2_1 t354 t355 _ ?side1 ?side2 A187.out).mono ?_
 (case side1 => exact cb_ HR2_1)
 (case side2 => exact HC2_1.out)
 rintro e w195 ⟨v356, rfl, ho0, hb⟩
 refine ⟨_, rfl, ?_⟩
 have n_ := And.intro (Aside0.mk (Kd.R_below (rk_ HO_14) hb)) (And.intro (Aside0.mk (Kd.R_below (rk_ HO_21) hb)) (And.intro (Aside0.mk (Kd.R_elder' (rk_ HO_288001) (Kd.R_base ho0) hb)) (And.intro (Aside0.mk (Kd.R_elder' (rk_ HO_293001) (Kd.R_base ho0) hb)) (And.intro (Aside0.mk (Kd.R_elder' (rk_ HO_298001) (Kd.R_base ho0) hb)) (And.intro (Aside0.mk (Kd.R_elder' (rk_ HO349) (Kd.R_base ho0) hb)) (And.intro (Aside0.mk (Kd.R_elder' (rk_ HO353) (Kd.R_base ho0) hb)) (And.intro (Aside0.mk (Kd.R_lower (Kd.R_new' (Kd.R_new' (Kd.R_new' (Kd.R_new' (Kd.R_new' ho0 (Kd.R_lt (rk_ HO_288001))) (Kd.R_lt (rk_ HO_293001))) (Kd.R_lt (rk_ HO_298001))) (Kd.R_lt (rk_ HO349))) (Kd.R_lt (rk_ HO353))) (below_size bg_))) (And.intro (Aside0.mk (blk_below (g := gb255) (o := .cells #[.int .i64 a0_0, .slice A0_1 l0_1.length c0_1] 24 (0, 0)) (bk_ BK255) hb)) (And.intro (Aside0.mk (blk_below (g := gb256) (o := .cells #[.int .i64 a1_0, .slice A1_1 l1_1.length c1_1] 24 (0, 0)) (bk_ BK256) hb)) (And.intro (Aside0.mk (blk_below (g := gb257) (o := .cells #[.int .i64 a2_0, .slice A2_1 l2_1.length c2_1] 24 (0, 0)) (bk_ BK257) hb)) (And.intro (Aside0.mk (blk_below (g := gb287) (o := .cells #[.int .i64 t283, .slice Ao69 t333.length co69] 29 (0, 0)) (bk_ BK287) hb)) (And.intro (Aside0.mk (blk_below (g := gb292) (o := .cells #[.int .i64 t288, .slice Ao79 t335.length co79] 29 (0, 0)) (bk_ BK292) hb)) (And.intro (Aside0.mk (blk_below (g := gb297) (o := .cells #[.int .i64 t293, .slice Ao89 t337.length co89] 29 (0, 0)) (bk_ BK297) hb)) (Aside0.mk (below_step bg_ hb)))))))))))))))
 clear HO_14 HO_21 HO_288001 HO_293001 HO_298001 HO349 HO353 BK255 BK256 BK257 BK287 BK292 BK297 HB; obtain ⟨HO_14, HO_21, HO_288001, HO_293001, HO_298001, HO349, HO353, HO357, BK255, BK256, BK257, BK287, BK292, BK297, HB⟩ := n_
 (try clear hb)
 (try clear hb2)
 (try clear hk)
 (try clear hi)
 (try clear ho0)
 refine hK.out _ _ ⟨(blk_cell BK255.out 0).trans rfl, (blk_cell BK255.out 1).trans rfl, (blk_cell BK256.out 0).trans rfl, (blk_cell BK256.out 1).trans rfl, (blk_cell BK257.out 0).trans rfl, (blk_cell BK257.out 1).trans rfl⟩ (fun hHeld => ?_)
 clear hK K
 refine norm_ (a' := ?_) ?_ ?_
 rotate_left
 ·show Act.put _ (some 163) _ = _
  simp only [Act.put, List.setIfInBounds_toArray, List.set_cons_zero, List.set_cons_succ, i64_w, i32_w]
  rfl
 refine one_ (i := 7) (N := some 165) (bm 17 1535) rfl rfl (one_of HT_.out (by kernel_rfl)) (by decide) (fun K hK => ?_)
 refine goes_ Try.func18 (by kernel_rfl) rfl #[.slice A3 l3.length c3] (by rfl) rfl rfl (by (try simp only [List.map_toArray, List.map_cons, List.map_nil]); first | done | rfl | (simp only [List.length_drop, List.length_take]; rfl)) ?_
 with_reducible refine (laws_toIntS.calls kj182 _ _ l3 t358 _ ?side1 ?side2 A188.out).mono ?_
 (case side1 => exact cb_ HR3)
 (case side2 => exact HC3.out)
 rintro e w196 ⟨v359, rfl, ho0, hb⟩
 refine ⟨_, rfl, ?_⟩
 have n_ := And.intro (Aside0.mk (Kd.R_elder' (rk_ HO_14) (Kd.R_base ho0) hb)) (And.intro (Aside0.mk (Kd.R_elder' (rk_ HO_21) (Kd.R_base ho0) hb)) (And.intro (Aside0.mk (Kd.R_below (rk_ HO_288001) hb)) (And.intro (Aside0.mk (Kd.R_below (rk_ HO_293001) hb)) (And.intro (Aside0.mk (Kd.R_below (rk_ HO_298001) hb)) (And.intro (Aside0.mk (Kd.R_below (rk_ HO349) hb)) (And.intro (Aside0.mk (Kd.R_below (rk_ HO353) hb)) (And.intro (Aside0.mk (Kd.R_below (rk_ HO357) hb)) (And.intro (Aside0.mk (Kd.R_lower (Kd.R_new' (Kd.R_new' ho0 (Kd.R_lt (rk_ HO_14))) (Kd.R_lt (rk_ HO_21))) (below_size bg_))) (And.intro (Aside0.mk (blk_below (g := gb255) (o := .cells #[.int .i64 a0_0, .slice A0_1 l0_1.length c0_1] 24 (0, 0)) (bk_ BK255) hb)) (And.intro (Aside0.mk (blk_below (g := gb256) (o := .cells #[.int .i64 a1_0, .slice A1_1 l1_1.length c1_1] 24 (0, 0)) (bk_ BK256) hb)) (And.intro (Aside0.mk (blk_below (g := gb257) (o := .cells #[.int .i64 a2_0, .slice A2_1 l2_1.length c2_1] 24 (0, 0)) (bk_ BK257) hb)) (And.intro (Aside0.mk (blk_below (g := gb287) (o := .cells #[.int .i64 t283, .slice Ao69 t333.length co69] 29 (0, 0)) (bk_ BK287) hb)) (And.intro (Aside0.mk (blk_below (g := gb292) (o := .cells #[.int .i64 t288, .slice Ao79 t335.length co79] 29 (0, 0)) (bk_ BK292) hb)) (And.intro (Aside0.mk (blk_below (g := gb297) (o := .cells #[.int .i64 t293, .slice Ao89 t337.length co89] 29 (0, 0)) (bk_ BK297) hb)) (Aside0.mk (below_step bg_ hb))))))))))))))))
 clear HO_14 HO_21 HO_288001 HO_293001 HO_298001 HO349 HO353 HO357 BK255 BK256 BK257 BK287 BK292 BK297 HB; obtain ⟨HO_14, HO_21, HO_288001, HO_293001, HO_298001, HO349, HO353, HO357, HO360, BK255, BK256, BK257, BK287, BK292, BK297, HB⟩ := n_
 (try clear hb)
 (try clear hb2)
 (try clear hk)
 (try clear hi)
 (try clear ho0)
 refine hK.out _ _ ⟨(blk_cell BK255.out 0).trans rfl, (blk_cell BK255.out 1).trans rfl, (blk_cell BK256.out 0).trans rfl, (blk_cell BK256.out 1).trans rfl, (blk_cell BK257.out 0).trans rfl, (blk_cell BK257.out 1).trans rfl⟩ (fun hHeld => ?_)
 clear hK K
 refine norm_ (a' := ?_) ?_ ?_
 rotate_left
 ·show Act.put _ (some 165) _ = _
  simp only [Act.put, List.setIfInBounds_toArray, List.set_cons_zero, List.set_cons_succ, i64_w, i32_w]
  rfl
 refine one_ (i := 9) (N := some 167) (bm 17 2047) rfl rfl (one_of HT_.out (by kernel_rfl)) (by decide) (fun K hK => ?_)
 refine goes_ Try.func18 (by kernel_rfl) rfl #[.slice A4 l4.length c4] (by rfl) rfl rfl (by (try simp only [List.map_toArray, List.map_cons, List.map_nil]); first | done | rfl | (simp only [List.length_drop, List.length_take]; rfl)) ?_
 with_reducible refine (laws_toIntS.calls kj182 _ _ l4 t361 _ ?side1 ?side2 A189.out).mono ?_
 (case side1 => exact cb_ HR4)
 (case side2 => exact HC4.out)
 rintro e w197 ⟨v362, rfl, ho0, hb⟩
 refine ⟨_, rfl, ?_⟩
 have n_ := And.intro (Aside0.mk (Kd.R_elder' (rk_ HO_14) (Kd.R_base ho0) hb)) (And.intro (Aside0.mk (Kd.R_elder' (rk_ HO_21) (Kd.R_base ho0) hb)) (And.intro (Aside0.mk (Kd.R_below (rk_ HO_288001) hb)) (And.intro (Aside0.mk (Kd.R_below (rk_ HO_293001) hb)) (And.intro (Aside0.mk (Kd.R_below (rk_ HO_298001) hb)) (And.intro (Aside0.mk (Kd.R_below (rk_ HO349) hb)) (And.intro (Aside0.mk (Kd.R_below (rk_ HO353) hb)) (And.intro (Aside0.mk (Kd.R_below (rk_ HO357) hb)) (And.intro (Aside0.mk (Kd.R_elder' (rk_ HO360) (Kd.R_base ho0) hb)) (And.intro (Aside0.mk (Kd.R_lower (Kd.R_new' (Kd.R_new' (Kd.R_new' ho0 (Kd.R_lt (rk_ HO_14))) (Kd.R_lt (rk_ HO_21))) (Kd.R_lt (rk_ HO360))) (below_size bg_))) (And.intro (Aside0.mk (blk_below (g := gb255) (o := .cells #[.int .i64 a0_0, .slice A0_1 l0_1.length c0_1] 24 (0, 0)) (bk_ BK255) hb)) (And.intro (Aside0.mk (blk_below (g := gb256) (o := .cells #[.int .i64 a1_0, .slice A1_1 l1_1.length c1_1] 24 (0, 0)) (bk_ BK256) hb)) (And.intro (Aside0.mk (blk_below (g := gb257) (o := .cells #[.int .i64 a2_0, .slice A2_1 l2_1.length c2_1] 24 (0, 0)) (bk_ BK257) hb)) (And.intro (Aside0.mk (blk_below (g := gb287) (o := .cells #[.int .i64 t283, .slice Ao69 t333.length co69] 29 (0, 0)) (bk_ BK287) hb)) (And.intro (Aside0.mk (blk_below (g := gb292) (o := .cells #[.int .i64 t288, .slice Ao79 t335.length co79] 29 (0, 0)) (bk_ BK292) hb)) (And.intro (Aside0.mk (blk_below (g := gb297) (o := .cells #[.int .i64 t293, .slice Ao89 t337.length co89] 29 (0, 0)) (bk_ BK297) hb)) (Aside0.mk (below_step bg_ hb)))))))))))))))))
 clear HO_14 HO_21 HO_288001 HO_293001 HO_298001 HO349 HO353 HO357 HO360 BK255 BK256 BK257 BK287 BK292 BK297 HB; obtain ⟨HO_14, HO_21, HO_288001, HO_293001, HO_298001, HO349, HO353, HO357, HO360, HO363, BK255, BK256, BK257, BK287, BK292, BK297, HB⟩ := n_
 (try clear hb)
 (try clear hb2)
 (try clear hk)
 (try clear hi)
 (try clear ho0)
 obtain ⟨Ao198, co198, eo198⟩ := Kd.R_slice HO349.out
 (first | subst eo198 | (injection eo198 with f1_ f2_ f3_; have f4_ := f1_.symm; have f5_ := f3_.symm; clear f1_ f2_ f3_; subst f4_; subst f5_))
 obtain ⟨Ao199, co199, eo199⟩ := Kd.R_slice HO353.out
 (first | subst eo199 | (injection eo199 with f1_ f2_ f3_; have f4_ := f1_.symm; have f5_ := f3_.symm; clear f1_ f2_ f3_; subst f4_; subst f5_))
 obtain ⟨Ao200, co200, eo200⟩ := Kd.R_slice HO357.out
 (first | subst eo200 | (injection eo200 with f1_ f2_ f3_; have f4_ := f1_.symm; have f5_ := f3_.symm; clear f1_ f2_ f3_; subst f4_; subst f5_))
 obtain ⟨Ao201, co201, eo201⟩ := Kd.R_slice HO360.out
 (first | subst eo201 | (injection eo201 with f1_ f2_ f3_; have f4_ := f1_.symm; have f5_ := f3_.symm; clear f1_ f2_ f3_; subst f4_; subst f5_))
 obtain ⟨Ao202, co202, eo202⟩ := Kd.R_slice HO363.out
 (first | subst eo202 | (injection eo202 with f1_ f2_ f3_; have f4_ := f1_.symm; have f5_ := f3_.symm; clear f1_ f2_ f3_; subst f4_; subst f5_))
 refine hK.out _ _ ⟨(blk_cell BK255.out 0).trans rfl, (blk_cell BK255.out 1).trans rfl, (blk_cell BK256.out 0).trans rfl, (blk_cell BK256.out 1).trans rfl, (blk_cell BK257.out 0).trans rfl, (blk_cell BK257.out 1).trans rfl⟩ (fun hHeld => ?_)
 clear hK K
 refine norm_ (a' := ?_) ?_ ?_
 rotate_left
 ·show Act.put _ (some 167) _ = _
  simp only [Act.put, List.setIfInBounds_toArray, List.set_cons_zero, List.set_cons_succ, i64_w, i32_w]
  rfl
 refine one_ (i := 11) (N := some 169) (bm 17 4095) rfl rfl (one_of HT_.out (by kernel_rfl)) (by decide) (fun K hK => ?_)
 refine goes_ Try.func25 (by kernel_rfl) rfl #[.agg #[.int .i64 t346, .slice Ao198 t347.length co198], .agg #[.int .i64 t350, .slice Ao199 t351.length co199], .agg #[.int .i64 t354, .slice Ao200 t355.length co200], .slice Ao201 t358.length co201, .slice Ao202 t361.length co202, .bool a5] (by rfl) rfl rfl (by (try simp only [List.map_toArray, List.map_cons, List.map_nil]); first | done | rfl | (simp only [List.length_drop, List.length_take]; rfl)) ?_
 with_reducible refine (impl_AfterMap.calls kj182 t346 _ _ t347 t350 _ _ t351 t354 _ _ t355 _ _ t358 _ _ t361 a5 t364 t367 _ ?side1 ?side2 ?side3 ?side4 ?side5 ?side6 ?side7 ?side8 ?side9 ?side10 A190.out).mono ?_
 (case side1 => repeat (first | exact (Kd.R_reads' HO349.out).2.2 | (with_reducible refine Kd.C_alloc ?_ _) | (with_reducible refine Kd.C_drewN ?_ _) | (with_reducible refine Kd.C_drew ?_)))
 (case side2 => exact (Kd.R_reads' HO349.out).2.1)
 (case side3 => repeat (first | exact (Kd.R_reads' HO353.out).2.2 | (with_reducible refine Kd.C_alloc ?_ _) | (with_reducible refine Kd.C_drewN ?_ _) | (with_reducible refine Kd.C_drew ?_)))
 (case side4 => exact (Kd.R_reads' HO353.out).2.1)
 (case side5 => repeat (first | exact (Kd.R_reads' HO357.out).2.2 | (with_reducible refine Kd.C_alloc ?_ _) | (with_reducible refine Kd.C_drewN ?_ _) | (with_reducible refine Kd.C_drew ?_)))
 (case side6 => exact (Kd.R_reads' HO357.out).2.1)
 (case side7 => repeat (first | exact (Kd.R_reads' HO360.out).2.2 | (with_reducible refine Kd.C_alloc ?_ _) | (with_reducible refine Kd.C_drewN ?_ _) | (with_reducible refine Kd.C_drew ?_)))
 (case side8 => exact (Kd.R_reads' HO360.out).2.1)
 (case side9 => repeat (first | exact (Kd.R_reads' HO363.out).2.2 | (with_reducible refine Kd.C_alloc ?_ _) | (with_reducible refine Kd.C_drewN ?_ _) | (with_reducible refine Kd.C_drew ?_)))
 (case side10 => exact (Kd.R_reads' HO363.out).2.1)
 rintro e w203 ⟨v365, rfl, ho0, hb⟩
 refine ⟨_, rfl, ?_⟩
 have n_ := And.intro (Aside0.mk (Kd.R_elder' (rk_ HO_14) (Kd.R_base ho0) hb)) (And.intro (Aside0.mk (Kd.R_elder' (rk_ HO_21) (Kd.R_base ho0) hb)) (And.intro (Aside0.mk (Kd.R_below (rk_ HO_288001) hb)) (And.intro (Aside0.mk (Kd.R_below (rk_ HO_293001) hb)) (And.intro (Aside0.mk (Kd.R_below (rk_ HO_298001) hb)) (And.intro (Aside0.mk (Kd.R_below (rk_ HO349) hb)) (And.intro (Aside0.mk (Kd.R_below (rk_ HO353) hb)) (And.intro (Aside0.mk (Kd.R_below (rk_ HO357) hb)) (And.intro (Aside0.mk (Kd.R_elder' (rk_ HO360) (Kd.R_base ho0) hb)) (And.intro (Aside0.mk (Kd.R_elder' (rk_ HO363) (Kd.R_base ho0) hb)) (And.intro (Aside0.mk (Kd.R_lower (Kd.R_new' (Kd.R_new' (Kd.R_new' (Kd.R_new' ho0 (Kd.R_lt (rk_ HO_14))) (Kd.R_lt (rk_ HO_21))) (Kd.R_lt (rk_ HO360))) (Kd.R_lt (rk_ HO363))) (below_size bg_))) (And.intro (Aside0.mk (blk_below (g := gb255) (o := .cells #[.int .i64 a0_0, .slice A0_1 l0_1.length c0_1] 24 (0, 0)) (bk_ BK255) hb)) (And.intro (Aside0.mk (blk_below (g := gb256) (o := .cells #[.int .i64 a1_0, .slice A1_1 l1_1.length c1_1] 24 (0, 0)) (bk_ BK256) hb)) (And.intro (Aside0.mk (blk_below (g := gb257) (o := .cells #[.int .i64 a2_0, .slice A2_1 l2_1.length c2_1] 24 (0, 0)) (bk_ BK257) hb)) (And.intro (Aside0.mk (blk_below (g := gb287) (o := .cells #[.int .i64 t283, .slice Ao69 t333.length co69] 29 (0, 0)) (bk_ BK287) hb)) (And.intro (Aside0.mk (blk_below (g := gb292) (o := .cells #[.int .i64 t288, .slice Ao79 t335.length co79] 29 (0, 0)) (bk_ BK292) hb)) (And.intro (Aside0.mk (blk_below (g := gb297) (o := .cells #[.int .i64 t293, .slice Ao89 t337.length co89] 29 (0, 0)) (bk_ BK297) hb)) (Aside0.mk (below_step bg_ hb))))))))))))))))))
 clear HO_14 HO_21 HO_288001 HO_293001 HO_298001 HO349 HO353 HO357 HO360 HO363 BK255 BK256 BK257 BK287 BK292 BK297 HB; obtain ⟨HO_14, HO_21, HO_288001, HO_293001, HO_298001, HO349, HO353, HO357, HO360, HO363, HO366, BK255, BK256, BK257, BK287, BK292, BK297, HB⟩ := n_
 (try clear hb)
 (try clear hb2)
 (try clear hk)
 (try clear hi)
 (try clear ho0)
 refine hK.out _ _ ⟨(blk_cell BK255.out 0).trans rfl, (blk_cell BK255.out 1).trans rfl, (blk_cell BK256.out 0).trans rfl, (blk_cell BK256.out 1).trans rfl, (blk_cell BK257.out 0).trans rfl, (blk_cell BK257.out 1).trans rfl⟩ (fun hHeld => ?_)
 clear hK K
 refine norm_ (a' := ?_) ?_ ?_
 rotate_left
 ·show Act.put _ (some 169) _ = _
  simp only [Act.put, List.setIfInBounds_toArray, List.set_cons_zero, List.set_cons_succ, i64_w, i32_w]
  rfl
 refine pa_ 12 (some 157) (bm 17 8191) rfl rfl HT_.out ?_
 refine pa_ 13 (some 170) (bm 17 16383) rfl rfl HT_.out ?_
 refine pa_ 14 (some 171) (bm 17 32767) rfl rfl HT_.out ?_
 refine pa_ 15 (some 26) (bm 17 65535) rfl rfl HT_.out ?_
 refine pa_ 16 (some 27) (bm 17 131071) rfl rfl HT_.out ?_
 refine done_ (done_of HT_.out (by kernel_rfl)) ?_
 go_upto_region 51 with (fail)
 go_cut [180] (fun v180 wc => ∃ (kq : Nat) (x180_190 : Bool), v180 = .bool x180_190 ∧ Aside0 (laws_FnExactAfterMap.j16 kq t344 t343 x180_190 = some r) ∧ Aside0 (kq ≤ kj182) ∧ Aside0 (Kd.R (Kd.int .i64) 3 wc w.heap.size (fun _ => True) (.slice Ao180 t344.length co180) t344) ∧ Aside0 (Kd.R k78 78 wc w.heap.size (fun k_ => some k_ ≠ ((.slice Ao79 t335.length co79) : Value).ownBlock ∧ some k_ ≠ ((.slice Ao89 t337.length co89) : Value).ownBlock) (.slice Ao69 t333.length co69) t333) ∧ Aside0 (Kd.R k78 78 wc w.heap.size (fun k_ => some k_ ≠ ((.slice Ao69 t333.length co69) : Value).ownBlock ∧ some k_ ≠ ((.slice Ao89 t337.length co89) : Value).ownBlock) (.slice Ao79 t335.length co79) t335) ∧ Aside0 (Kd.R k78 78 wc w.heap.size (fun k_ => some k_ ≠ ((.slice Ao69 t333.length co69) : Value).ownBlock ∧ some k_ ≠ ((.slice Ao79 t335.length co79) : Value).ownBlock) (.slice Ao89 t337.length co89) t337) ∧ Aside0 (wc.heap[gb255]? = some (.cells #[.int .i64 a0_0, (.slice A0_1 l0_1.length c0_1)] 24 (0, 0))) ∧ Aside0 (wc.heap[gb256]? = some (.cells #[.int .i64 a1_0, (.slice A1_1 l1_1.length c1_1)] 24 (0, 0))) ∧ Aside0 (wc.heap[gb257]? = some (.cells #[.int .i64 a2_0, (.slice A2_1 l2_1.length c2_1)] 24 (0, 0))) ∧ Aside0 (wc.heap[gb287]? = some (.cells #[.int .i64 t283, (.slice Ao69 t333.length co69)] 29 (0, 0))) ∧ Aside0 (wc.heap[gb292]? = some (.cells #[.int .i64 t288, (.slice Ao79 t335.length co79)] 29 (0, 0))) ∧ Aside0 (wc.heap[gb297]? = some (.cells #[.int .i64 t293, (.slice Ao89 t337.length co89)] 29 (0, 0))) ∧ Aside0 (Below w.heap.size w wc))
 case first =>
  have H := HC191.out
  clear HC191
  replace H := Option.bind_eq_some_iff.mp H
  obtain ⟨t368, A2040, H⟩ := H
  (try dsimp only at H)
  have A204 := Aside0.mk A2040
  clear A2040
  by_cases c205 : t368 = true
  ·subst c205
   have H1 : (laws_FnExactAfterMap.j16 kj182 t344 t343 (t367 != t282)) = some r := by rw [if_pos rfl] at H; exact H
   clear H
   have H := H1
   clear H1
   have H' := Aside0.mk H
   clear H
   obtain ⟨Ao206, co206, eo206⟩ := Kd.R_slice HO366.out
   subst eo206
   obtain ⟨Ao207, co207, eo207⟩ := Kd.R_slice HO_14.out
   subst eo207
   go_wp2_with (first | ((with_reducible refine gate_callee (f := 21) rfl ?_); refine gL_ (some 174) Try.func21 #[.slice Ao206 t364.length co206, .slice Ao207 t279.length co207] ?_ rfl rfl; (with_reducible refine (laws_eqIntS.calls kj182 _ _ t364 _ _ t279 true _ ?side1 ?side2 ?side3 ?side4 A204.out).mono ?_); (case side1 => repeat (first | exact (Kd.R_reads' HO366.out).2.2 | (with_reducible refine Kd.C_alloc ?_ _) | (with_reducible refine Kd.C_drewN ?_ _) | (with_reducible refine Kd.C_drew ?_))); (case side2 => exact (Kd.R_reads' HO366.out).2.1); (case side3 => repeat (first | exact (Kd.R_reads' HO_14.out).2.2 | (with_reducible refine Kd.C_alloc ?_ _) | (with_reducible refine Kd.C_drewN ?_ _) | (with_reducible refine Kd.C_drew ?_))); (case side4 => exact (Kd.R_reads' HO_14.out).2.1); rintro e w' ⟨rfl, ⟨nd, rfl⟩⟩; refine ⟨_, rfl, ?_⟩))
   go_meet
   case rel => exact ⟨_, ((t367 != t282)), (by first | rfl | (simp; done) | (simp [*]; done)), H', ⟨by have := HJ6.out; have := HJ11.out; have := HJ14.out; have := HJ21.out; have := HJ28.out; have := HJ46.out; have := HJ103.out; have := HJ107.out; have := HJ115.out; have := HJ123.out; have := HJ131.out; have := HJ137.out; have := HJ146.out; have := HJ174.out; have := HJ178.out; have := HJ182.out; first | omega | exact Nat.le_refl _⟩, ⟨by (try simp only [hl288001_146]); (try simp only [hl293001_146]); (try simp only [hl298001_146]); (try simp only [hl21_178]); (with_reducible repeat (first | apply Kd.R_alloc | apply Kd.R_drewN | apply Kd.R_drew)); exact Kd.R_mono HO_21.out (fun _ hk => trivial)⟩, ⟨by (try simp only [hl288001_146]); (try simp only [hl293001_146]); (try simp only [hl298001_146]); (try simp only [hl21_178]); (with_reducible repeat (first | apply Kd.R_alloc | apply Kd.R_drewN | apply Kd.R_drew)); exact Kd.R_mono HO_288001.out (fun _ hk => ⟨hk.1.1.1.1, hk.1.1.1.2⟩)⟩, ⟨by (try simp only [hl288001_146]); (try simp only [hl293001_146]); (try simp only [hl298001_146]); (try simp only [hl21_178]); (with_reducible repeat (first | apply Kd.R_alloc | apply Kd.R_drewN | apply Kd.R_drew)); exact Kd.R_mono HO_293001.out (fun _ hk => ⟨hk.1.1.1.1, hk.1.1.1.2⟩)⟩, ⟨by (try simp only [hl288001_146]); (try simp only [hl293001_146]); (try simp only [hl298001_146]); (try simp only [hl21_178]); (with_reducible repeat (first | apply Kd.R_alloc | apply Kd.R_drewN | apply Kd.R_drew)); exact Kd.R_mono HO_298001.out (fun _ hk => ⟨hk.1.1.1.1, hk.1.1.1.2⟩)⟩, ⟨by (try simp only [hl288001_146]); (try simp only [hl293001_146]); (try simp only [hl298001_146]); (try simp only [hl21_178]); (with_reducible repeat (first | refine blk_drewN ?_ _ | refine blk_drew ?_ | refine blk_alloc ?_ _)); exact BK255.out⟩, ⟨by (try simp only [hl288001_146]); (try simp only [hl293001_146]); (try simp only [hl298001_146]); (try simp only [hl21_178]); (with_reducible repeat (first | refine blk_drewN ?_ _ | refine blk_drew ?_ | refine blk_alloc ?_ _)); exact BK256.out⟩, ⟨by (try simp only [hl288001_146]); (try simp only [hl293001_146]); (try simp only [hl298001_146]); (try simp only [hl21_178]); (with_reducible repeat (first | refine blk_drewN ?_ _ | refine blk_drew ?_ | refine blk_alloc ?_ _)); exact BK257.out⟩, ⟨by (try simp only [hl288001_146]); (try simp only [hl293001_146]); (try simp only [hl298001_146]); (try simp only [hl21_178]); (with_reducible repeat (first | refine blk_drewN ?_ _ | refine blk_drew ?_ | refine blk_alloc ?_ _)); exact BK287.out⟩, ⟨by (try simp only [hl288001_146]); (try simp only [hl293001_146]); (try simp only [hl298001_146]); (try simp only [hl21_178]); (with_reducible repeat (first | refine blk_drewN ?_ _ | refine blk_drew ?_ | refine blk_alloc ?_ _)); exact BK292.out⟩, ⟨by (try simp only [hl288001_146]); (try simp only [hl293001_146]); (try simp only [hl298001_146]); (try simp only [hl21_178]); (with_reducible repeat (first | refine blk_drewN ?_ _ | refine blk_drew ?_ | refine blk_alloc ?_ _)); exact BK297.out⟩, ⟨by repeat (first | (with_reducible first | exact HB.out | apply below_alloc | apply pw_below_drewN | apply below_drew1 | refine below_set ?_ GE255.out | refine below_set ?_ GE256.out | refine below_set ?_ GE257.out | refine below_set ?_ GE287.out | refine below_set ?_ GE292.out | refine below_set ?_ GE297.out) | exact HB.out)⟩⟩
  ·replace c205 := Bool.eq_false_iff.mpr c205
   subst c205
   have H1 : (laws_FnExactAfterMap.j16 kj182 t344 t343 true) = some r := by rw [if_neg (show ¬ (false = true) by decide)] at H; exact H
   clear H
   have H := H1
   clear H1
   have H' := Aside0.mk H
   clear H
   obtain ⟨Ao208, co208, eo208⟩ := Kd.R_slice HO366.out
   subst eo208
   obtain ⟨Ao209, co209, eo209⟩ := Kd.R_slice HO_14.out
   subst eo209
   go_wp2_with (first | ((with_reducible refine gate_callee (f := 21) rfl ?_); refine gL_ (some 174) Try.func21 #[.slice Ao208 t364.length co208, .slice Ao209 t279.length co209] ?_ rfl rfl; (with_reducible refine (laws_eqIntS.calls kj182 _ _ t364 _ _ t279 false _ ?side1 ?side2 ?side3 ?side4 A204.out).mono ?_); (case side1 => repeat (first | exact (Kd.R_reads' HO366.out).2.2 | (with_reducible refine Kd.C_alloc ?_ _) | (with_reducible refine Kd.C_drewN ?_ _) | (with_reducible refine Kd.C_drew ?_))); (case side2 => exact (Kd.R_reads' HO366.out).2.1); (case side3 => repeat (first | exact (Kd.R_reads' HO_14.out).2.2 | (with_reducible refine Kd.C_alloc ?_ _) | (with_reducible refine Kd.C_drewN ?_ _) | (with_reducible refine Kd.C_drew ?_))); (case side4 => exact (Kd.R_reads' HO_14.out).2.1); rintro e w' ⟨rfl, ⟨nd, rfl⟩⟩; refine ⟨_, rfl, ?_⟩))
   go_meet
   case rel => exact ⟨_, (true), (by first | rfl | (simp; done) | (simp [*]; done)), H', ⟨by have := HJ6.out; have := HJ11.out; have := HJ14.out; have := HJ21.out; have := HJ28.out; have := HJ46.out; have := HJ103.out; have := HJ107.out; have := HJ115.out; have := HJ123.out; have := HJ131.out; have := HJ137.out; have := HJ146.out; have := HJ174.out; have := HJ178.out; have := HJ182.out; first | omega | exact Nat.le_refl _⟩, ⟨by (try simp only [hl288001_146]); (try simp only [hl293001_146]); (try simp only [hl298001_146]); (try simp only [hl21_178]); (with_reducible repeat (first | apply Kd.R_alloc | apply Kd.R_drewN | apply Kd.R_drew)); exact Kd.R_mono HO_21.out (fun _ hk => trivial)⟩, ⟨by (try simp only [hl288001_146]); (try simp only [hl293001_146]); (try simp only [hl298001_146]); (try simp only [hl21_178]); (with_reducible repeat (first | apply Kd.R_alloc | apply Kd.R_drewN | apply Kd.R_drew)); exact Kd.R_mono HO_288001.out (fun _ hk => ⟨hk.1.1.1.1, hk.1.1.1.2⟩)⟩, ⟨by (try simp only [hl288001_146]); (try simp only [hl293001_146]); (try simp only [hl298001_146]); (try simp only [hl21_178]); (with_reducible repeat (first | apply Kd.R_alloc | apply Kd.R_drewN | apply Kd.R_drew)); exact Kd.R_mono HO_293001.out (fun _ hk => ⟨hk.1.1.1.1, hk.1.1.1.2⟩)⟩, ⟨by (try simp only [hl288001_146]); (try simp only [hl293001_146]); (try simp only [hl298001_146]); (try simp only [hl21_178]); (with_reducible repeat (first | apply Kd.R_alloc | apply Kd.R_drewN | apply Kd.R_drew)); exact Kd.R_mono HO_298001.out (fun _ hk => ⟨hk.1.1.1.1, hk.1.1.1.2⟩)⟩, ⟨by (try simp only [hl288001_146]); (try simp only [hl293001_146]); (try simp only [hl298001_146]); (try simp only [hl21_178]); (with_reducible repeat (first | refine blk_drewN ?_ _ | refine blk_drew ?_ | refine blk_alloc ?_ _)); exact BK255.out⟩, ⟨by (try simp only [hl288001_146]); (try simp only [hl293001_146]); (try simp only [hl298001_146]); (try simp only [hl21_178]); (with_reducible repeat (first | refine blk_drewN ?_ _ | refine blk_drew ?_ | refine blk_alloc ?_ _)); exact BK256.out⟩, ⟨by (try simp only [hl288001_146]); (try simp only [hl293001_146]); (try simp only [hl298001_146]); (try simp only [hl21_178]); (with_reducible repeat (first | refine blk_drewN ?_ _ | refine blk_drew ?_ | refine blk_alloc ?_ _)); exact BK257.out⟩, ⟨by (try simp only [hl288001_146]); (try simp only [hl293001_146]); (try simp only [hl298001_146]); (try simp only [hl21_178]); (with_reducible repeat (first | refine blk_drewN ?_ _ | refine blk_drew ?_ | refine blk_alloc ?_ _)); exact BK287.out⟩, ⟨by (try simp only [hl288001_146]); (try simp only [hl293001_146]); (try simp only [hl298001_146]); (try simp only [hl21_178]); (with_reducible repeat (first | refine blk_drewN ?_ _ | refine blk_drew ?_ | refine blk_alloc ?_ _)); exact BK292.out⟩, ⟨by (try simp only [hl288001_146]); (try simp only [hl293001_146]); (try simp only [hl298001_146]); (try simp only [hl21_178]); (with_reducible repeat (first | refine blk_drewN ?_ _ | refine blk_drew ?_ | refine blk_alloc ?_ _)); exact BK297.out⟩, ⟨by repeat (first | (with_reducible first | exact HB.out | apply below_alloc | apply pw_below_drewN | apply below_drew1 | refine below_set ?_ GE255.out | refine below_set ?_ GE256.out | refine below_set ?_ GE257.out | refine below_set ?_ GE287.out | refine below_set ?_ GE292.out | refine below_set ?_ GE297.out) | exact HB.out)⟩⟩
 clear HC191
 try clear c3
 try clear c4
 obtain ⟨kq, x180_190, rfl, HA, HJ190, HO_21, HO_288001, HO_293001, HO_298001, BK255, BK256, BK257, BK287, BK292, BK297, HB⟩ := hcut
 cases kq
 case zero => exact absurd HA.out (by simp [laws_FnExactAfterMap.j16])
 case' succ kj190 => skip
 as_aux_lemma =>
 have H := HA.out
 clear HA
 simp only [laws_FnExactAfterMap.j16] at H
 have HC210 := Aside0.mk H
 clear H
 go_upto_if 180 with (fail)
 go_cut [] (fun wc => ∃ (kq : Nat), Aside0 (laws_FnExactAfterMap.j17 kq t344 t343 = some r) ∧ Aside0 (kq ≤ kj190) ∧ Aside0 (Kd.R (Kd.int .i64) 3 wc w.heap.size (fun _ => True) (.slice Ao180 t344.length co180) t344) ∧ Aside0 (Kd.R k78 78 wc w.heap.size (fun k_ => some k_ ≠ ((.slice Ao79 t335.length co79) : Value).ownBlock ∧ some k_ ≠ ((.slice Ao89 t337.length co89) : Value).ownBlock) (.slice Ao69 t333.length co69) t333) ∧ Aside0 (Kd.R k78 78 wc w.heap.size (fun k_ => some k_ ≠ ((.slice Ao69 t333.length co69) : Value).ownBlock ∧ some k_ ≠ ((.slice Ao89 t337.length co89) : Value).ownBlock) (.slice Ao79 t335.length co79) t335) ∧ Aside0 (Kd.R k78 78 wc w.heap.size (fun k_ => some k_ ≠ ((.slice Ao69 t333.length co69) : Value).ownBlock ∧ some k_ ≠ ((.slice Ao79 t335.length co79) : Value).ownBlock) (.slice Ao89 t337.length co89) t337) ∧ Aside0 (wc.heap[gb255]? = some (.cells #[.int .i64 a0_0, (.slice A0_1 l0_1.length c0_1)] 24 (0, 0))) ∧ Aside0 (wc.heap[gb256]? = some (.cells #[.int .i64 a1_0, (.slice A1_1 l1_1.length c1_1)] 24 (0, 0))) ∧ Aside0 (wc.heap[gb257]? = some (.cells #[.int .i64 a2_0, (.slice A2_1 l2_1.length c2_1)] 24 (0, 0))) ∧ Aside0 (wc.heap[gb287]? = some (.cells #[.int .i64 t283, (.slice Ao69 t333.length co69)] 29 (0, 0))) ∧ Aside0 (wc.heap[gb292]? = some (.cells #[.int .i64 t288, (.slice Ao79 t335.length co79)] 29 (0, 0))) ∧ Aside0 (wc.heap[gb297]? = some (.cells #[.int .i64 t293, (.slice Ao89 t337.length co89)] 29 (0, 0))) ∧ Aside0 (Below w.heap.size w wc))
 case first =>
  have H := HC210.out
  clear HC210
  by_cases c211 : x180_190 = true
  ·subst c211
   have H1 : (some false) = some r := by rw [if_pos rfl] at H; exact H
   clear H
   have H := H1
   clear H1
   obtain rfl := Option.some.inj H
   go_wp2
   go_ret
   exact ⟨by first | rfl | (simp [errW_none, errW_some] <;> rfl) | (simp [*, errW_none, errW_some] <;> rfl), by repeat (first | (with_reducible first | exact HB.out | apply below_alloc | apply pw_below_drewN | apply below_drew1 | refine below_set ?_ GE255.out | refine below_set ?_ GE256.out | refine below_set ?_ GE257.out | refine below_set ?_ GE287.out | refine below_set ?_ GE292.out | refine below_set ?_ GE297.out) | exact HB.out)⟩
  ·replace c211 := Bool.eq_false_iff.mpr c211
   subst c211
   have H1 : (laws_FnExactAfterMap.j17 kj190 t344 t343) = some r := by rw [if_neg (show ¬ (false = true) by decide)] at H; exact H
   clear H
   have H := H1
   clear H1
   have H' := Aside0.mk H
   clear H
   go_wp2
   go_meet
   case rel => exact ⟨_, H', ⟨by have := HJ6.out; have := HJ11.out; have := HJ14.out; have := HJ21.out; have := HJ28.out; have := HJ46.out; have := HJ103.out; have := HJ107.out; have := HJ115.out; have := HJ123.out; have := HJ131.out; have := HJ137.out; have := HJ146.out; have := HJ174.out; have := HJ178.out; have := HJ182.out; have := HJ190.out; first | omega | exact Nat.le_refl _⟩, ⟨by (try simp only [hl288001_146]); (try simp only [hl293001_146]); (try simp only [hl298001_146]); (try simp only [hl21_178]); (with_reducible repeat (first | apply Kd.R_alloc | apply Kd.R_drewN | apply Kd.R_drew)); exact HO_21.out⟩, ⟨by (try simp only [hl288001_146]); (try simp only [hl293001_146]); (try simp only [hl298001_146]); (try simp only [hl21_178]); (with_reducible repeat (first | apply Kd.R_alloc | apply Kd.R_drewN | apply Kd.R_drew)); exact HO_288001.out⟩, ⟨by (try simp only [hl288001_146]); (try simp only [hl293001_146]); (try simp only [hl298001_146]); (try simp only [hl21_178]); (with_reducible repeat (first | apply Kd.R_alloc | apply Kd.R_drewN | apply Kd.R_drew)); exact HO_293001.out⟩, ⟨by (try simp only [hl288001_146]); (try simp only [hl293001_146]); (try simp only [hl298001_146]); (try simp only [hl21_178]); (with_reducible repeat (first | apply Kd.R_alloc | apply Kd.R_drewN | apply Kd.R_drew)); exact HO_298001.out⟩, ⟨by (try simp only [hl288001_146]); (try simp only [hl293001_146]); (try simp only [hl298001_146]); (try simp only [hl21_178]); (with_reducible repeat (first | refine blk_drewN ?_ _ | refine blk_drew ?_ | refine blk_alloc ?_ _)); exact BK255.out⟩, ⟨by (try simp only [hl288001_146]); (try simp only [hl293001_146]); (try simp only [hl298001_146]); (try simp only [hl21_178]); (with_reducible repeat (first | refine blk_drewN ?_ _ | refine blk_drew ?_ | refine blk_alloc ?_ _)); exact BK256.out⟩, ⟨by (try simp only [hl288001_146]); (try simp only [hl293001_146]); (try simp only [hl298001_146]); (try simp only [hl21_178]); (with_reducible repeat (first | refine blk_drewN ?_ _ | refine blk_drew ?_ | refine blk_alloc ?_ _)); exact BK257.out⟩, ⟨by (try simp only [hl288001_146]); (try simp only [hl293001_146]); (try simp only [hl298001_146]); (try simp only [hl21_178]); (with_reducible repeat (first | refine blk_drewN ?_ _ | refine blk_drew ?_ | refine blk_alloc ?_ _)); exact BK287.out⟩, ⟨by (try simp only [hl288001_146]); (try simp only [hl293001_146]); (try simp only [hl298001_146]); (try simp only [hl21_178]); (with_reducible repeat (first | refine blk_drewN ?_ _ | refine blk_drew ?_ | refine blk_alloc ?_ _)); exact BK292.out⟩, ⟨by (try simp only [hl288001_146]); (try simp only [hl293001_146]); (try simp only [hl298001_146]); (try simp only [hl21_178]); (with_reducible repeat (first | refine blk_drewN ?_ _ | refine blk_drew ?_ | refine blk_alloc ?_ _)); exact BK297.out⟩, ⟨by repeat (first | (with_reducible first | exact HB.out | apply below_alloc | apply pw_below_drewN | apply below_drew1 | refine below_set ?_ GE255.out | refine below_set ?_ GE256.out | refine below_set ?_ GE257.out | refine below_set ?_ GE287.out | refine below_set ?_ GE292.out | refine below_set ?_ GE297.out) | exact HB.out)⟩⟩
 clear HC210
 obtain ⟨kq, HA, HJ209, HO_21, HO_288001, HO_293001, HO_298001, BK255, BK256, BK257, BK287, BK292, BK297, HB⟩ := hcut
 cases kq
 case zero => exact absurd HA.out (by simp [laws_FnExactAfterMap.j17])
 case' succ kj209 => skip
 as_aux_lemma =>
 have H := HA.out
 clear HA
 simp only [laws_FnExactAfterMap.j17] at H
 replace H := Option.bind_eq_some_iff.mp H
 obtain ⟨t369, A2120, H⟩ := H
 (try dsimp only at H)
 have A212 := Aside0.mk A2120
 clear A2120
 by_cases c213 : t369 < 0
 ·rw [if_pos c213] at H
  have c213b0 : decide (t369 < 0) = true := decide_eq_true c213
  clear c213
  obtain rfl := Option.some.inj H
  go_wp2_with (first | ((with_reducible refine gate_callee (f := 28) rfl ?_); refine gL_ (some 183) Try.func28 #[.slice Ao180 t344.length co180, .int .i64 1] ?_ rfl rfl; (with_reducible refine (laws_heldIntS.calls kj209 _ _ t344 1 t369 _ ?side1 ?side2 A212.out).mono ?_); (case side1 => repeat (first | exact (Kd.R_reads' HO_21.out).2.2 | (with_reducible refine Kd.C_alloc ?_ _) | (with_reducible refine Kd.C_drewN ?_ _) | (with_reducible refine Kd.C_drew ?_))); (case side2 => exact (Kd.R_reads' HO_21.out).2.1); rintro e w' ⟨rfl, ⟨nd, rfl⟩⟩; refine ⟨_, rfl, ?_⟩))
  go_ret
  exact ⟨by first | rfl | (simp [errW_none, errW_some] <;> rfl) | (simp [*, errW_none, errW_some] <;> rfl), by repeat (first | (with_reducible first | exact HB.out | apply below_alloc | apply pw_below_drewN | apply below_drew1 | refine below_set ?_ GE255.out | refine below_set ?_ GE256.out | refine below_set ?_ GE257.out | refine below_set ?_ GE287.out | refine below_set ?_ GE292.out | refine below_set ?_ GE297.out) | exact HB.out)⟩
 ·rw [if_neg c213] at H
  have c213b0 : decide (t369 < 0) = false := decide_eq_false c213
  clear c213
  by_cases c214 : t369 = t343
  ·rw [if_pos c214] at H
   have c214b0 : (t369 == t343) = true := beq_iff_eq.mpr c214
   have c214b1 : (t369 != t343) = false := bne_eq_false_iff_eq.mpr c214
   clear c214
   obtain rfl := Option.some.inj H
   go_wp2_with (first | ((with_reducible refine gate_callee (f := 28) rfl ?_); refine gL_ (some 183) Try.func28 #[.slice Ao180 t344.length co180, .int .i64 1] ?_ rfl rfl; (with_reducible refine (laws_heldIntS.calls kj209 _ _ t344 1 t369 _ ?side1 ?side2 A212.out).mono ?_); (case side1 => repeat (first | exact (Kd.R_reads' HO_21.out).2.2 | (with_reducible refine Kd.C_alloc ?_ _) | (with_reducible refine Kd.C_drewN ?_ _) | (with_reducible refine Kd.C_drew ?_))); (case side2 => exact (Kd.R_reads' HO_21.out).2.1); rintro e w' ⟨rfl, ⟨nd, rfl⟩⟩; refine ⟨_, rfl, ?_⟩))
   go_ret
   exact ⟨by first | rfl | (simp [errW_none, errW_some] <;> rfl) | (simp [*, errW_none, errW_some] <;> rfl), by repeat (first | (with_reducible first | exact HB.out | apply below_alloc | apply pw_below_drewN | apply below_drew1 | refine below_set ?_ GE255.out | refine below_set ?_ GE256.out | refine below_set ?_ GE257.out | refine below_set ?_ GE287.out | refine below_set ?_ GE292.out | refine below_set ?_ GE297.out) | exact HB.out)⟩
  ·rw [if_neg c214] at H
   have c214b0 : (t369 == t343) = false := beq_eq_false_iff_ne.mpr c214
   have c214b1 : (t369 != t343) = true := bne_iff_ne.mpr c214
   obtain rfl := Option.some.inj H
   go_wp2_with (first | ((with_reducible refine gate_callee (f := 28) rfl ?_); refine gL_ (some 183) Try.func28 #[.slice Ao180 t344.length co180, .int .i64 1] ?_ rfl rfl; (with_reducible refine (laws_heldIntS.calls kj209 _ _ t344 1 t369 _ ?side1 ?side2 A212.out).mono ?_); (case side1 => repeat (first | exact (Kd.R_reads' HO_21.out).2.2 | (with_reducible refine Kd.C_alloc ?_ _) | (with_reducible refine Kd.C_drewN ?_ _) | (with_reducible refine Kd.C_drew ?_))); (case side2 => exact (Kd.R_reads' HO_21.out).2.1); rintro e w' ⟨rfl, ⟨nd, rfl⟩⟩; refine ⟨_, rfl, ?_⟩))
   go_ret
   exact ⟨by first | rfl | (simp [errW_none, errW_some] <;> rfl) | (simp [*, errW_none, errW_some] <;> rfl), by repeat (first | (with_reducible first | exact HB.out | apply below_alloc | apply pw_below_drewN | apply below_drew1 | refine below_set ?_ GE255.out | refine below_set ?_ GE256.out | refine below_set ?_ GE257.out | refine below_set ?_ GE287.out | refine below_set ?_ GE292.out | refine below_set ?_ GE297.out) | exact HB.out)⟩

end Go.Proofs.Ytiiaadgibkpaaaa.PFnExactAfterMap
