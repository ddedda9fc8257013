-- written by wip/tools of this repo out of the translation (a turned copy of the kit's print): checked by Lean alone
import Derived.Test.YtklolnaonampeaaDoorPFnLogsx0
import Derived.Test.YtklolnaonampeaaDoorWU
import Derived.Test.YtklolnaonampeaaDoorPFnLogsx1
import Derived.Test.YtklolnaonampeaaDoorPFnLogsx2
import Derived.Test.YtklolnaonampeaaDoorPFnLogsx3
import Derived.Test.YtklolnaonampeaaDoorPFnLogsx4
import Derived.Test.YtklolnaonampeaaDoorPFnLogsx6
import Derived.Test.YtklolnaonampeaaDoorPFnLogsx7
import Derived.Test.YtklolnaonampeaaDoorPFnLogsx8
import Derived.Test.YtklolnaonampeaaDoorPFnLogsx9
namespace Go.Proofs.YtklolnaonampeaaDoor.PFnLogs
open Go.RowKit Go.Proofs.YtklolnaonampeaaDoorW.PrintWords Go.Proofs.YtklolnaonampeaaDoorW.PrintLast Go.Proofs.YtklolnaonampeaaDoorW.PrintMore
attribute [local go_sem] max2_int min2_int max_two min_two max_three min_three max_four min_four   -- for this text's walks alone
set_option linter.unusedVariables false
set_option linter.unusedSimpArgs false

attribute [local go_sem high] eqA27 eqA31
/-! ### laws_FnLogs: function 10 -/
mutual
def laws_FnLogs.j0 : Nat → List Int → Option (Bool)
 | 0, _ => none
 | k + 1, x0 => (spec_DrawIsValidRecord.f x0).bind fun bt419 => ((laws_vCut.f x0 1).bind fun t422 => ((spec_DrawEncodeRecord.f t422).bind fun bt425 => ((impl_EncodeRecord.f k bt425.1 bt425.2.1 bt425.2.2).bind fun bt429 => ((spec_EncodeRecord.f k bt425.1 bt425.2.1 bt425.2.2).bind fun bt431 => ((laws_vCut.f x0 2).bind fun t433 => ((spec_DrawIsValidLog.f k t433).bind fun bt436 => ((laws_vCut.f x0 3).bind fun t440 => ((spec_DrawAppendRecord.f k t440).bind fun bt443 => ((impl_AppendRecord.f k bt443.1 bt443.2.1 bt443.2.2.1 bt443.2.2.2.1 bt443.2.2.2.2).bind fun bt450 => ((spec_AppendRecord.f k bt443.1 bt443.2.1 bt443.2.2.1 bt443.2.2.2.1 bt443.2.2.2.2).bind fun bt455 => ((impl_IsValidRecord.f k bt419.1 bt419.2).bind fun t460 => ((spec_IsValidRecord.f k bt419.1 bt419.2).bind fun t461 => (if (t460 != t461) = true then (laws_FnLogs.j1 k bt450.2.2.2 true bt443.1 bt443.2.1 bt443.2.2.1 bt443.2.2.2.1 bt443.2.2.2.2 bt450.1 bt450.2.1 bt450.2.2.1) else (if bt429.1.toList = bt431.1.toList then (if (bt429.2 != bt431.2) = true then (laws_FnLogs.j1 k bt450.2.2.2 true bt443.1 bt443.2.1 bt443.2.2.1 bt443.2.2.2.1 bt443.2.2.2.2 bt450.1 bt450.2.1 bt450.2.2.1) else ((impl_IsValidLog.f k bt436.1 bt436.2.1 bt436.2.2).bind fun t462 => ((spec_IsValidLog.f k bt436.1 bt436.2.1 bt436.2.2).bind fun t463 => (if (t462 != t463) = true then (laws_FnLogs.j1 k bt450.2.2.2 true bt443.1 bt443.2.1 bt443.2.2.1 bt443.2.2.2.1 bt443.2.2.2.2 bt450.1 bt450.2.1 bt450.2.2.1) else (if (!(bt450.1.toList == bt455.1.toList) || (!(bt450.2.1.toList == bt455.2.1.toList) || (!(bt450.2.2.1 == bt455.2.2.1)))) = true then (laws_FnLogs.j1 k bt450.2.2.2 true bt443.1 bt443.2.1 bt443.2.2.1 bt443.2.2.2.1 bt443.2.2.2.2 bt450.1 bt450.2.1 bt450.2.2.1) else (laws_FnLogs.j1 k bt450.2.2.2 (bt450.2.2.2 != bt455.2.2.2) bt443.1 bt443.2.1 bt443.2.2.1 bt443.2.2.2.1 bt443.2.2.2.2 bt450.1 bt450.2.1 bt450.2.2.1)))))) else (laws_FnLogs.j1 k bt450.2.2.2 true bt443.1 bt443.2.1 bt443.2.2.1 bt443.2.2.2.1 bt443.2.2.2.2 bt450.1 bt450.2.1 bt450.2.2.1)))))))))))))))
def laws_FnLogs.j1 : Nat → Int → Bool → ByteArray → ByteArray → Int → ByteArray → ByteArray → ByteArray → ByteArray → Int → Option (Bool)
 | 0, _, _, _, _, _, _, _, _, _, _ => none
 | k + 1, x14, x103, x449000, x449001, x449002, x450000, x450001, x455000, x455001, x455002 => if x103 = true then (some false) else (laws_FnLogs.j2 k x14 x449000 x449001 x449002 x450000 x450001 x455000 x455001 x455002)
def laws_FnLogs.j2 : Nat → Int → ByteArray → ByteArray → Int → ByteArray → ByteArray → ByteArray → ByteArray → Int → Option (Bool)
 | 0, _, _, _, _, _, _, _, _, _ => none
 | k + 1, x14, x449000, x449001, x449002, x450000, x450001, x455000, x455001, x455002 => (impl_SyncLog.f k x449000 x449001 x449002).bind fun bt464 => ((spec_SyncLog.f k x449000 x449001 x449002).bind fun bt469 => ((impl_LogRecords.f k x449000 x449001 x449002).bind fun bt474 => ((spec_LogRecords.f k x449000 x449001 x449002).bind fun bt478 => (if (!(bt464.1.toList == bt469.1.toList) || (!(bt464.2.1.toList == bt469.2.1.toList) || (!(bt464.2.2.1 == bt469.2.2.1)))) = true then (laws_FnLogs.j3 k x14 bt464.2.2.2 bt474.1 true x449000 x449001 x449002 x450000 x450001 x455000 x455001 x455002 bt464.1 bt464.2.1 bt464.2.2.1) else (if (bt464.2.2.2 != bt469.2.2.2) = true then (laws_FnLogs.j3 k x14 bt464.2.2.2 bt474.1 true x449000 x449001 x449002 x450000 x450001 x455000 x455001 x455002 bt464.1 bt464.2.1 bt464.2.2.1) else (if (bt474.2 != bt478.2) = true then (laws_FnLogs.j3 k x14 bt464.2.2.2 bt474.1 true x449000 x449001 x449002 x450000 x450001 x455000 x455001 x455002 bt464.1 bt464.2.1 bt464.2.2.1) else ((laws_vRecords.f k bt474.1 bt478.1).bind fun t482 => (laws_FnLogs.j3 k x14 bt464.2.2.2 bt474.1 (!t482) x449000 x449001 x449002 x450000 x450001 x455000 x455001 x455002 bt464.1 bt464.2.1 bt464.2.2.1))))))))
def laws_FnLogs.j3 : Nat → Int → Bool → List (S27) → Bool → ByteArray → ByteArray → Int → ByteArray → ByteArray → ByteArray → ByteArray → Int → ByteArray → ByteArray → Int → Option (Bool)
 | 0, _, _, _, _, _, _, _, _, _, _, _, _, _, _, _ => none
 | k + 1, x14, x18, x21, x142, x449000, x449001, x449002, x450000, x450001, x455000, x455001, x455002, x469000, x469001, x469002 => if x142 = true then (some false) else (laws_FnLogs.j4 k x14 x18 x21 x449000 x449001 x449002 x450000 x450001 x455000 x455001 x455002 x469000 x469001 x469002)
def laws_FnLogs.j4 : Nat → Int → Bool → List (S27) → ByteArray → ByteArray → Int → ByteArray → ByteArray → ByteArray → ByteArray → Int → ByteArray → ByteArray → Int → Option (Bool)
 | 0, _, _, _, _, _, _, _, _, _, _, _, _, _, _ => none
 | k + 1, x14, x18, x21, x449000, x449001, x449002, x450000, x450001, x455000, x455001, x455002, x469000, x469001, x469002 => (impl_LogRecords.f k x469000 x469001 x469002).bind fun bt483 => (if x18 = true then ((laws_vRecords.f k bt483.1 x21).bind fun t487 => (laws_FnLogs.j5 k x14 x21 (!t487) x449000 x449001 x449002 x450000 x450001 x455000 x455001 x455002)) else (laws_FnLogs.j5 k x14 x21 false x449000 x449001 x449002 x450000 x450001 x455000 x455001 x455002))
def laws_FnLogs.j5 : Nat → Int → List (S27) → Bool → ByteArray → ByteArray → Int → ByteArray → ByteArray → ByteArray → ByteArray → Int → Option (Bool)
 | 0, _, _, _, _, _, _, _, _, _, _, _ => none
 | k + 1, x14, x21, x154, x449000, x449001, x449002, x450000, x450001, x455000, x455001, x455002 => if x154 = true then (some false) else (laws_FnLogs.j6 k x14 x21 x449000 x449001 x449002 x450000 x450001 x455000 x455001 x455002)
def laws_FnLogs.j6 : Nat → Int → List (S27) → ByteArray → ByteArray → Int → ByteArray → ByteArray → ByteArray → ByteArray → Int → Option (Bool)
 | 0, _, _, _, _, _, _, _, _, _, _ => none
 | k + 1, x14, x21, x449000, x449001, x449002, x450000, x450001, x455000, x455001, x455002 => if x14 = 0 then ((impl_LogRecords.f k x455000 x455001 x455002).bind fun bt488 => ((impl_IsValidLog.f k x455000 x455001 x455002).bind fun t492 => (if t492 = true then (if (bt488.1.length : Int) = (wrap64 ((x21.length : Int) + 1)) then (if 0 ≤ (x21.length : Int) then (if (x21.length : Int) ≤ (bt488.1.length : Int) then ((laws_vRecords.f k (bt488.1.take ((x21.length : Int) : Int).toNat) x21).bind fun t497 => (if t497 = true then (if (x21.length : Int) < (bt488.1.length : Int) then (some ((((rd_T27 bt488.1 (x21.length : Int)).f0).toList) == x450000.toList && ((((rd_T27 bt488.1 (x21.length : Int)).f1).toList) == x450001.toList))) else (none)) else (some false))) else (none)) else (none)) else (some false)) else (some false)))) else (some (x455000.toList == x449000.toList && (x455001.toList == x449001.toList && (x455002 == x449002))))
end
def laws_FnLogs.f (k : Nat) (l0 : List Int) : Option (Bool) := (laws_vBig.f l0).bind fun t418 => (if t418 = true then (some true) else (laws_FnLogs.j0 k l0))
def laws_FnLogs.T11 : Bool × List (List Nat × List Nat) := (true, [([], []), ([0], [0]), ([], []), ([2, 1], [2]), ([1, 3], [1, 3]), ([4, 3], [4]), ([5], [5]), ([5], [5]), ([6, 7, 5], [5, 6, 7]), ([5, 8], [5, 8]), ([9, 5], [9]), ([10], [10]), ([10], [10]), ([11, 12, 10], [10, 11, 12]), ([10, 13], [10, 13]), ([14, 10], [14]), ([15], [15]), ([16, 15, 15], [15, 16]), ([15], [15]), ([18, 17, 15], [15, 18]), ([17, 19, 15], [15, 17, 19]), ([15, 20], [15, 20]), ([21, 19], [21]), ([22], [22]), ([22], [22]), ([23, 24, 22], [22, 23, 24]), ([22, 25], [22, 25]), ([26, 22], [26]), ([27], [27]), ([27], [27]), ([28, 29, 27], [27, 28, 29]), ([27, 30], [27, 30])])
def laws_FnLogs.B11 : List Nat := [0, 1, 0, 7, 15, 31, 63, 63, 255, 511, 1023, 2047, 2047, 8191, 16383, 32767, 65535, 131071, 65535, 524287, 1048575, 2097151, 4194303, 8388607, 8388607, 33554431, 67108863, 134217727, 268435455, 268435455, 1073741823, 2147483647]
theorem laws_FnLogs.tab11 : rtab .any (opsOf Tryd.f10 11) = laws_FnLogs.T11 := by kernel_rfl
theorem laws_FnLogs.bits11 : waitsOk laws_FnLogs.T11.2 laws_FnLogs.B11 = true := by kernel_rfl
def laws_FnLogs.T25 : Bool × List (List Nat × List Nat) := (true, [([], []), ([0], [0]), ([1, 1], [1]), ([2], [2]), ([3, 2], [2, 3]), ([2], [2]), ([5, 2], [2, 5]), ([6, 2], [2, 6]), ([4, 7, 2], [2, 4, 7]), ([2, 8], [2, 8]), ([9, 2], [9]), ([10], [10]), ([10], [10]), ([12, 10], [10, 12]), ([11, 13, 10], [10, 11, 13]), ([10], [10]), ([14, 15, 10, 10], [10, 14, 15]), ([10, 16], [10, 16]), ([17, 16], [17]), ([18], [18]), ([18], [18]), ([20, 18], [18, 20]), ([19, 21, 18], [18, 19, 21]), ([22, 18], [18, 22]), ([18], [18]), ([23, 24, 18], [18, 23, 24]), ([18, 25], [18, 25]), ([26, 18, 0, 1, 2, 3, 4, 5, 6, 7, 8, 9, 10, 11, 12, 13, 14, 15, 16, 17, 18, 19, 20, 21, 22, 23, 24, 25, 26], [26])])
def laws_FnLogs.B25 : List Nat := [0, 1, 3, 7, 15, 7, 39, 103, 255, 511, 1023, 2047, 2047, 6143, 16383, 2047, 65535, 131071, 262143, 524287, 524287, 1572863, 4194303, 8388607, 524287, 33554431, 67108863, 134217727]
theorem laws_FnLogs.tab25 : rtab .any (opsOf Tryd.f10 25) = laws_FnLogs.T25 := by kernel_rfl
theorem laws_FnLogs.bits25 : waitsOk laws_FnLogs.T25.2 laws_FnLogs.B25 = true := by kernel_rfl
set_option maxHeartbeats 8000000 in
set_option maxRecDepth 100000 in
theorem laws_FnLogs.calls (k : Nat) (A0 : Option Addr) (c0 : Nat) (l0 : List Int) (r : Bool) (w : World) (hr0 : Kd.C (Kd.int .u8) w A0 l0.length l0) (hc0 : l0.length ≤ c0) (hE : EnvW w) (h : laws_FnLogs.f k l0 = some r) :
  Calls Tryd.prog 10 #[.slice A0 l0.length c0] w fun e w' => e = .returned (.bool r) ∧ Below w.heap.size w w' := by
 have hu27 := Tryd.underlying27
 have hu31 := Tryd.underlying31
 have HR0 := Aside0.mk hr0
 have HC0 := Aside0.mk hc0
 clear hr0 hc0
 have HENV := Aside0.mk hE
 clear hE
 have HB := Aside0.mk (Below.refl w.heap.size w)
 have H : ((laws_vBig.f l0).bind fun t418 => (if t418 = true then (some true) else (laws_FnLogs.j0 k l0))) = some r := h
 clear h
 replace H := Option.bind_eq_some_iff.mp H
 obtain ⟨t418, A20, H⟩ := H
 (try dsimp only at H)
 have A2 := Aside0.mk A20
 clear A20
 have HC3 := Aside0.mk H
 clear H
 go_enter Tryd.func10, Tryd.ntmps10
 go_upto_if 30 with (first | ((with_reducible refine gate_callee (f := 34) rfl ?_); refine gL_ (some 30) Tryd.func34 #[.slice A0 l0.length c0] ?_ rfl rfl; (with_reducible refine (laws_vBig.calls _ _ l0 t418 _ ?side1 ?side2 A2.out).mono ?_); (case side1 => repeat (first | exact HR0.out | (with_reducible refine Kd.C_alloc ?_ _) | (with_reducible refine Kd.C_drewN ?_ _) | (with_reducible refine Kd.C_drew ?_))); (case side2 => exact HC0.out); rintro e w' ⟨rfl, ⟨nd, rfl⟩⟩; refine ⟨_, rfl, ?_⟩))
 (try simp only [Act.put, List.setIfInBounds_toArray, List.set_cons_zero, List.set_cons_succ])
 go_cut [] (fun wc => ∃ (kq : Nat), Aside0 (laws_FnLogs.j0 kq l0 = some r) ∧ Aside0 (kq ≤ k) ∧ Aside0 (Below w.heap.size w wc))
 case first =>
  have H := HC3.out
  clear HC3
  by_cases c4 : t418 = true
  ·subst c4
   have H1 : (some true) = some r := by rw [if_pos rfl] at H; exact H
   clear H
   have H := H1
   clear H1
   obtain rfl := Option.some.inj H
   go_wp2
   go_ret
   exact ⟨by first | rfl | (simp [errW_none, errW_some] <;> rfl) | (simp [*, errW_none, errW_some] <;> rfl), by repeat (first | (with_reducible first | exact HB.out | apply below_alloc | apply pw_below_drewN | apply below_drew1) | exact HB.out)⟩
  ·replace c4 := Bool.eq_false_iff.mpr c4
   subst c4
   have H1 : (laws_FnLogs.j0 k l0) = some r := by rw [if_neg (show ¬ (false = true) by decide)] at H; exact H
   clear H
   have H := H1
   clear H1
   have H' := Aside0.mk H
   clear H
   go_wp2
   go_meet
   case rel => exact ⟨_, H', ⟨by first | omega | exact Nat.le_refl _⟩, ⟨by repeat (first | (with_reducible first | exact HB.out | apply below_alloc | apply pw_below_drewN | apply below_drew1) | exact HB.out)⟩⟩
 clear HC3
 obtain ⟨kq, HA, HJ2, HB⟩ := hcut
 cases kq
 case zero => exact absurd HA.out (by simp [laws_FnLogs.j0])
 case' succ kj2 => skip
 as_aux_lemma =>
 have H := HA.out
 clear HA
 simp only [laws_FnLogs.j0] at H
 replace H := Option.bind_eq_some_iff.mp H
 obtain ⟨⟨t419, t420⟩, A50, H⟩ := H
 (try dsimp only at H)
 have A5 := Aside0.mk A50
 clear A50
 replace H := Option.bind_eq_some_iff.mp H
 obtain ⟨t422, A60, H⟩ := H
 (try dsimp only at H)
 have A6 := Aside0.mk A60
 clear A60
 replace H := Option.bind_eq_some_iff.mp H
 obtain ⟨⟨t425, t426, t427⟩, A70, H⟩ := H
 (try dsimp only at H)
 have A7 := Aside0.mk A70
 clear A70
 replace H := Option.bind_eq_some_iff.mp H
 obtain ⟨⟨t429, t430⟩, A80, H⟩ := H
 (try dsimp only at H)
 have A8 := Aside0.mk A80
 clear A80
 replace H := Option.bind_eq_some_iff.mp H
 obtain ⟨⟨t431, t432⟩, A90, H⟩ := H
 (try dsimp only at H)
 have A9 := Aside0.mk A90
 clear A90
 replace H := Option.bind_eq_some_iff.mp H
 obtain ⟨t433, A100, H⟩ := H
 (try dsimp only at H)
 have A10 := Aside0.mk A100
 clear A100
 replace H := Option.bind_eq_some_iff.mp H
 obtain ⟨⟨t436, t437, t438⟩, A110, H⟩ := H
 (try dsimp only at H)
 have A11 := Aside0.mk A110
 clear A110
 replace H := Option.bind_eq_some_iff.mp H
 obtain ⟨t440, A120, H⟩ := H
 (try dsimp only at H)
 have A12 := Aside0.mk A120
 clear A120
 replace H := Option.bind_eq_some_iff.mp H
 obtain ⟨⟨t443, t444, t445, t446, t447⟩, A130, H⟩ := H
 (try dsimp only at H)
 have A13 := Aside0.mk A130
 clear A130
 replace H := Option.bind_eq_some_iff.mp H
 obtain ⟨⟨t450, t451, t452, t453⟩, A140, H⟩ := H
 (try dsimp only at H)
 have A14 := Aside0.mk A140
 clear A140
 replace H := Option.bind_eq_some_iff.mp H
 obtain ⟨⟨t455, t456, t457, t458⟩, A150, H⟩ := H
 (try dsimp only at H)
 have A15 := Aside0.mk A150
 clear A150
 have HC16 := Aside0.mk H
 clear H
 go_upto_region 11 with (first | ((with_reducible refine gate_callee (f := 35) rfl ?_); refine gL_ (some 32) Tryd.func35 #[.slice A0 l0.length c0] ?_ rfl rfl; (with_reducible refine (spec_DrawIsValidRecord.calls _ _ l0 t419 t420 _ ?side1 ?side2 A5.out).mono ?_); (case side1 => exact cb_ HR0); (case side2 => exact HC0.out); rintro e w17 ⟨rfl, hb⟩; refine ⟨_, rfl, ?_⟩; have n0_ := Aside0.mk (below_step bl_ hb); clear HB; have HB := n0_; clear n0_; (try clear hb); (try clear hb2); (try clear hk); (try clear hi)) | ((with_reducible refine gate_dst (N := 3) rfl ?_); (try (refine gate_guard (by rfl) ?_; dsimp only)); refine box_event ?hg (N := 3) ?hd (cs := #[.string (⟨#[]⟩ : ByteArray), .string (⟨#[]⟩ : ByteArray)]) (t := 27) ?hr ?_; (case hd => rfl); (case hg => rfl); (case hr => first | (go_simp; done) | (go_simp; rfl)); intro gb421 hg w18 hbox hb; have n_ := And.intro (Aside0.mk (below_step bl_ hb)) (And.intro (Aside0.mk (hbox)) (And.intro (Aside0.mk ((by rw [hg]; exact (below_size bl_) : w.heap.size ≤ gb421))) (Aside0.mk ((by rw [hg]; exact (below_size bl_) : w.heap.size ≤ gb421))))); clear HB; obtain ⟨HB, BK421, GW421, GE421⟩ := n_; clear hb hbox hg; have hcz19_0 : w18.cell? ⟨gb421, 0, none⟩ = some (.string (⟨#[]⟩ : ByteArray)) := (blk_cell BK421.out 0).trans rfl; have hcz19_1 : w18.cell? ⟨gb421, 1, none⟩ = some (.string (⟨#[]⟩ : ByteArray)) := (blk_cell BK421.out 1).trans rfl; have hfz19_0 := blk_frozen BK421.out 0; have hfz19_1 := blk_frozen BK421.out 1) | ((with_reducible refine gate_callee (f := 37) rfl ?_); refine gL_ (some 35) Tryd.func37 #[.slice A0 l0.length c0, .int .i64 1] ?_ rfl rfl; (with_reducible refine (laws_vCut.calls _ _ l0 1 t422 _ ?side1 ?side2 A6.out).mono ?_); (case side1 => exact Kd.C_below HR0.out bg_); (case side2 => exact HC0.out); rintro e w20 ⟨v423, rfl, ho0, hb⟩; refine ⟨_, rfl, ?_⟩; have n_ := And.intro (Aside0.mk (Kd.R_lower ho0 (below_size bg_))) (And.intro (Aside0.mk (blk_below (g := gb421) (o := .cells #[.string t419, .string t420] 27 (0, 0)) (by (with_reducible repeat (first | refine blk_drewN ?_ _ | refine blk_drew ?_ | refine blk_alloc ?_ _)); refine blk_put (cs := #[.string t419, .string (⟨#[]⟩ : ByteArray)]) ?_ 1 _ rfl; (with_reducible repeat (first | refine blk_drewN ?_ _ | refine blk_drew ?_ | refine blk_alloc ?_ _)); refine blk_put (cs := #[.string (⟨#[]⟩ : ByteArray), .string (⟨#[]⟩ : ByteArray)]) ?_ 0 _ rfl; (with_reducible repeat (first | refine blk_drewN ?_ _ | refine blk_drew ?_ | refine blk_alloc ?_ _)); exact BK421.out) hb)) (Aside0.mk (below_step bg_ hb))); clear BK421 HB; obtain ⟨HO424, BK421, HB⟩ := n_; (try clear hb); (try clear hb2); (try clear hk); (try clear hi); (try clear ho0); obtain ⟨Ao21, co21, eo21⟩ := Kd.R_slice HO424.out; subst eo21) | ((with_reducible refine gate_callee (f := 36) rfl ?_); refine gL_ (some 36) Tryd.func36 #[.slice Ao21 t422.length co21] ?_ rfl rfl; (with_reducible refine (spec_DrawEncodeRecord.calls _ _ t422 t425 t426 t427 _ ?side1 ?side2 A7.out).mono ?_); (case side1 => repeat (first | exact (Kd.R_reads' HO424.out).2.2 | (with_reducible refine Kd.C_alloc ?_ _) | (with_reducible refine Kd.C_drewN ?_ _) | (with_reducible refine Kd.C_drew ?_))); (case side2 => exact (Kd.R_reads' HO424.out).2.1); rintro e w22 ⟨rfl, hb⟩; refine ⟨_, rfl, ?_⟩; have n_ := And.intro (Aside0.mk (Kd.R_below (rk_ HO424) hb)) (And.intro (Aside0.mk (bb_ BK421 hb)) (Aside0.mk (below_step bg_ hb))); clear HO424 BK421 HB; obtain ⟨HO424, BK421, HB⟩ := n_; (try clear hb); (try clear hb2); (try clear hk); (try clear hi)) | ((with_reducible refine gate_dst (N := 5) rfl ?_); (try (refine gate_guard (by rfl) ?_; dsimp only)); refine box_event ?hg (N := 5) ?hd (cs := #[.string (⟨#[]⟩ : ByteArray), .string (⟨#[]⟩ : ByteArray)]) (t := 27) ?hr ?_; (case hd => rfl); (case hg => rfl); (case hr => first | (go_simp; done) | (go_simp; rfl)); intro gb428 hg w23 hbox hb; have n_ := And.intro (Aside0.mk (Kd.R_below (rk_ HO424) hb)) (And.intro (Aside0.mk (bb_ BK421 hb)) (And.intro (Aside0.mk (below_step bg_ hb)) (And.intro (Aside0.mk (hbox)) (And.intro (Aside0.mk ((by rw [hg]; exact (below_size bg_) : w.heap.size ≤ gb428))) (And.intro (Aside0.mk ((by rw [hg]; exact (below_size bg_) : w.heap.size ≤ gb428))) (And.intro (Aside0.mk (nl_ BK421 hg)) (Aside0.mk (ng_ BK421 hg)))))))); clear HO424 BK421 HB; obtain ⟨HO424, BK421, HB, BK428, GW428, GE428, NB421_428, NB428_421⟩ := n_; clear hb hbox hg; have hnb24 := NB428_421.out; have hnc24 := NB421_428.out; have hcz25_0 : w23.cell? ⟨gb428, 0, none⟩ = some (.string (⟨#[]⟩ : ByteArray)) := (blk_cell BK428.out 0).trans rfl; have hcz25_1 : w23.cell? ⟨gb428, 1, none⟩ = some (.string (⟨#[]⟩ : ByteArray)) := (blk_cell BK428.out 1).trans rfl; have hfz25_0 := blk_frozen BK428.out 0; have hfz25_1 := blk_frozen BK428.out 1) | ((with_reducible refine gate_callee (f := 15) rfl ?_); refine gL_ (some 42) Tryd.func15 #[.int .i64 t425, .agg #[.string t426, .string t427]] ?_ rfl rfl; (with_reducible refine (impl_EncodeRecord.calls kj2 t425 t426 t427 t429 t430 _ ?side1 A8.out).mono ?_); (case side1 => exact EnvW.below HENV.out bg_); rintro e w26 ⟨rfl, hb⟩; refine ⟨_, rfl, ?_⟩; have n_ := And.intro (Aside0.mk (Kd.R_below (by (with_reducible repeat (first | apply Kd.R_alloc | apply Kd.R_drewN | apply Kd.R_drew)); exact (Kd.R_mono (Kd.R_far (p := ⟨gb428, 1, none⟩) (Kd.R_far (p := ⟨gb428, 0, none⟩) (Kd.R_types HO424.out BK428.out (by decide)) (fun _ hk => hk.2) (.string t426)) (fun _ hk => hk.2) (.string t427)) (fun _ h_ => h_.1))) hb)) (And.intro (Aside0.mk (blk_below (g := gb421) (o := .cells #[.string t419, .string t420] 27 (0, 0)) (by (with_reducible repeat (first | refine blk_drewN ?_ _ | refine blk_drew ?_ | refine blk_alloc ?_ _)); refine blk_far ?_ NB421_428.out _; (with_reducible repeat (first | refine blk_drewN ?_ _ | refine blk_drew ?_ | refine blk_alloc ?_ _)); refine blk_far ?_ NB421_428.out _; (with_reducible repeat (first | refine blk_drewN ?_ _ | refine blk_drew ?_ | refine blk_alloc ?_ _)); exact BK421.out) hb)) (And.intro (Aside0.mk (blk_below (g := gb428) (o := .cells #[.string t426, .string t427] 27 (0, 0)) (by (with_reducible repeat (first | refine blk_drewN ?_ _ | refine blk_drew ?_ | refine blk_alloc ?_ _)); refine blk_put (cs := #[.string t426, .string (⟨#[]⟩ : ByteArray)]) ?_ 1 _ rfl; (with_reducible repeat (first | refine blk_drewN ?_ _ | refine blk_drew ?_ | refine blk_alloc ?_ _)); refine blk_put (cs := #[.string (⟨#[]⟩ : ByteArray), .string (⟨#[]⟩ : ByteArray)]) ?_ 0 _ rfl; (with_reducible repeat (first | refine blk_drewN ?_ _ | refine blk_drew ?_ | refine blk_alloc ?_ _)); exact BK428.out) hb)) (Aside0.mk (below_step bg_ hb)))); clear HO424 BK421 BK428 HB; obtain ⟨HO424, BK421, BK428, HB⟩ := n_; (try clear hb); (try clear hb2); (try clear hk); (try clear hi); have hcz27_0 : w26.cell? ⟨gb428, 0, none⟩ = some (.string t426) := (blk_cell BK428.out 0).trans rfl; have hcz27_1 : w26.cell? ⟨gb428, 1, none⟩ = some (.string t427) := (blk_cell BK428.out 1).trans rfl; have hfz27_0 := blk_frozen BK428.out 0; have hfz27_1 := blk_frozen BK428.out 1) | ((with_reducible refine gate_callee (f := 13) rfl ?_); refine gL_ (some 48) Tryd.func13 #[.int .i64 t425, .agg #[.string t426, .string t427]] ?_ rfl rfl; (with_reducible refine (spec_EncodeRecord.calls kj2 t425 t426 t427 t431 t432 _ A9.out).mono ?_); rintro e w28 ⟨rfl, hb⟩; refine ⟨_, rfl, ?_⟩; have n_ := And.intro (Aside0.mk (Kd.R_below (rk_ HO424) hb)) (And.intro (Aside0.mk (bb_ BK421 hb)) (And.intro (Aside0.mk (bb_ BK428 hb)) (Aside0.mk (below_step bg_ hb)))); clear HO424 BK421 BK428 HB; obtain ⟨HO424, BK421, BK428, HB⟩ := n_; (try clear hb); (try clear hb2); (try clear hk); (try clear hi)) | ((with_reducible refine gate_callee (f := 37) rfl ?_); refine gL_ (some 52) Tryd.func37 #[.slice A0 l0.length c0, .int .i64 2] ?_ rfl rfl; (with_reducible refine (laws_vCut.calls _ _ l0 2 t433 _ ?side1 ?side2 A10.out).mono ?_); (case side1 => exact cb_ HR0); (case side2 => exact HC0.out); rintro e w29 ⟨v434, rfl, ho0, hb⟩; refine ⟨_, rfl, ?_⟩; have n_ := And.intro (Aside0.mk (Kd.R_elder' (rk_ HO424) (Kd.R_base ho0) hb)) (And.intro (Aside0.mk (Kd.R_lower (Kd.R_new' ho0 (Kd.R_lt (rk_ HO424))) (below_size bg_))) (And.intro (Aside0.mk (bb_ BK421 hb)) (And.intro (Aside0.mk (bb_ BK428 hb)) (Aside0.mk (below_step bg_ hb))))); clear HO424 BK421 BK428 HB; obtain ⟨HO424, HO435, BK421, BK428, HB⟩ := n_; (try clear hb); (try clear hb2); (try clear hk); (try clear hi); (try clear ho0); obtain ⟨Ao30, co30, eo30⟩ := Kd.R_slice HO435.out; subst eo30) | ((with_reducible refine gate_callee (f := 38) rfl ?_); refine gL_ (some 53) Tryd.func38 #[.slice Ao30 t433.length co30] ?_ rfl rfl; (with_reducible refine (spec_DrawIsValidLog.calls kj2 _ _ t433 t436 t437 t438 _ ?side1 ?side2 A11.out).mono ?_); (case side1 => repeat (first | exact (Kd.R_reads' HO435.out).2.2 | (with_reducible refine Kd.C_alloc ?_ _) | (with_reducible refine Kd.C_drewN ?_ _) | (with_reducible refine Kd.C_drew ?_))); (case side2 => exact (Kd.R_reads' HO435.out).2.1); rintro e w31 ⟨rfl, hb⟩; refine ⟨_, rfl, ?_⟩; have n_ := And.intro (Aside0.mk (Kd.R_below (rk_ HO424) hb)) (And.intro (Aside0.mk (Kd.R_below (rk_ HO435) hb)) (And.intro (Aside0.mk (bb_ BK421 hb)) (And.intro (Aside0.mk (bb_ BK428 hb)) (Aside0.mk (below_step bg_ hb))))); clear HO424 HO435 BK421 BK428 HB; obtain ⟨HO424, HO435, BK421, BK428, HB⟩ := n_; (try clear hb); (try clear hb2); (try clear hk); (try clear hi)) | ((with_reducible refine gate_dst (N := 10) rfl ?_); (try (refine gate_guard (by rfl) ?_; dsimp only)); refine box_event ?hg (N := 10) ?hd (cs := #[.string (⟨#[]⟩ : ByteArray), .string (⟨#[]⟩ : ByteArray), .int .i64 0]) (t := 31) ?hr ?_; (case hd => rfl); (case hg => rfl); (case hr => first | (go_simp; done) | (go_simp; rfl)); intro gb439 hg w32 hbox hb; have n_ := And.intro (Aside0.mk (Kd.R_below (rk_ HO424) hb)) (And.intro (Aside0.mk (Kd.R_below (rk_ HO435) hb)) (And.intro (Aside0.mk (bb_ BK421 hb)) (And.intro (Aside0.mk (bb_ BK428 hb)) (And.intro (Aside0.mk (below_step bg_ hb)) (And.intro (Aside0.mk (hbox)) (And.intro (Aside0.mk ((by rw [hg]; exact (below_size bg_) : w.heap.size ≤ gb439))) (And.intro (Aside0.mk ((by rw [hg]; exact (below_size bg_) : w.heap.size ≤ gb439))) (And.intro (Aside0.mk (nl_ BK421 hg)) (And.intro (Aside0.mk (ng_ BK421 hg)) (And.intro (Aside0.mk (nl_ BK428 hg)) (Aside0.mk (ng_ BK428 hg)))))))))))); clear HO424 HO435 BK421 BK428 HB; obtain ⟨HO424, HO435, BK421, BK428, HB, BK439, GW439, GE439, NB421_439, NB439_421, NB428_439, NB439_428⟩ := n_; clear hb hbox hg; have hnb33 := NB439_421.out; have hnc33 := NB421_439.out; have hnb34 := NB439_428.out; have hnc34 := NB428_439.out; have hcz35_0 : w32.cell? ⟨gb439, 0, none⟩ = some (.string (⟨#[]⟩ : ByteArray)) := (blk_cell BK439.out 0).trans rfl; have hcz35_1 : w32.cell? ⟨gb439, 1, none⟩ = some (.string (⟨#[]⟩ : ByteArray)) := (blk_cell BK439.out 1).trans rfl; have hcz35_2 : w32.cell? ⟨gb439, 2, none⟩ = some (.int .i64 0) := (blk_cell BK439.out 2).trans rfl; have hfz35_0 := blk_frozen BK439.out 0; have hfz35_1 := blk_frozen BK439.out 1; have hfz35_2 := blk_frozen BK439.out 2) | ((with_reducible refine gate_callee (f := 37) rfl ?_); refine gL_ (some 56) Tryd.func37 #[.slice A0 l0.length c0, .int .i64 3] ?_ rfl rfl; (with_reducible refine (laws_vCut.calls _ _ l0 3 t440 _ ?side1 ?side2 A12.out).mono ?_); (case side1 => exact Kd.C_below HR0.out bg_); (case side2 => exact HC0.out); rintro e w36 ⟨v441, rfl, ho0, hb⟩; refine ⟨_, rfl, ?_⟩; have n_ := And.intro (Aside0.mk (Kd.R_elder' (by (with_reducible repeat (first | apply Kd.R_alloc | apply Kd.R_drewN | apply Kd.R_drew)); exact (Kd.R_mono (Kd.R_far (p := ⟨gb439, 2, none⟩) (Kd.R_far (p := ⟨gb439, 1, none⟩) (Kd.R_far (p := ⟨gb439, 0, none⟩) (Kd.R_types HO424.out BK439.out (by decide)) (fun _ hk => hk.2) (.string t436)) (fun _ hk => hk.2) (.string t437)) (fun _ hk => hk.2) (.int .i64 t438)) (fun _ h_ => h_.1))) (Kd.R_base ho0) hb)) (And.intro (Aside0.mk (Kd.R_elder' (by (with_reducible repeat (first | apply Kd.R_alloc | apply Kd.R_drewN | apply Kd.R_drew)); exact (Kd.R_mono (Kd.R_far (p := ⟨gb439, 2, none⟩) (Kd.R_far (p := ⟨gb439, 1, none⟩) (Kd.R_far (p := ⟨gb439, 0, none⟩) (Kd.R_types HO435.out BK439.out (by decide)) (fun _ hk => hk.2) (.string t436)) (fun _ hk => hk.2) (.string t437)) (fun _ hk => hk.2) (.int .i64 t438)) (fun _ h_ => h_.1))) (Kd.R_base ho0) hb)) (And.intro (Aside0.mk (Kd.R_lower (Kd.R_new' (Kd.R_new' ho0 (Kd.R_lt (by (with_reducible repeat (first | apply Kd.R_alloc | apply Kd.R_drewN | apply Kd.R_drew)); exact (Kd.R_mono (Kd.R_far (p := ⟨gb439, 2, none⟩) (Kd.R_far (p := ⟨gb439, 1, none⟩) (Kd.R_far (p := ⟨gb439, 0, none⟩) (Kd.R_types HO424.out BK439.out (by decide)) (fun _ hk => hk.2) (.string t436)) (fun _ hk => hk.2) (.string t437)) (fun _ hk => hk.2) (.int .i64 t438)) (fun _ h_ => h_.1))))) (Kd.R_lt (by (with_reducible repeat (first | apply Kd.R_alloc | apply Kd.R_drewN | apply Kd.R_drew)); exact (Kd.R_mono (Kd.R_far (p := ⟨gb439, 2, none⟩) (Kd.R_far (p := ⟨gb439, 1, none⟩) (Kd.R_far (p := ⟨gb439, 0, none⟩) (Kd.R_types HO435.out BK439.out (by decide)) (fun _ hk => hk.2) (.string t436)) (fun _ hk => hk.2) (.string t437)) (fun _ hk => hk.2) (.int .i64 t438)) (fun _ h_ => h_.1))))) (below_size bg_))) (And.intro (Aside0.mk (blk_below (g := gb421) (o := .cells #[.string t419, .string t420] 27 (0, 0)) (by (with_reducible repeat (first | refine blk_drewN ?_ _ | refine blk_drew ?_ | refine blk_alloc ?_ _)); refine blk_far ?_ NB421_439.out _; (with_reducible repeat (first | refine blk_drewN ?_ _ | refine blk_drew ?_ | refine blk_alloc ?_ _)); refine blk_far ?_ NB421_439.out _; (with_reducible repeat (first | refine blk_drewN ?_ _ | refine blk_drew ?_ | refine blk_alloc ?_ _)); refine blk_far ?_ NB421_439.out _; (with_reducible repeat (first | refine blk_drewN ?_ _ | refine blk_drew ?_ | refine blk_alloc ?_ _)); exact BK421.out) hb)) (And.intro (Aside0.mk (blk_below (g := gb428) (o := .cells #[.string t426, .string t427] 27 (0, 0)) (by (with_reducible repeat (first | refine blk_drewN ?_ _ | refine blk_drew ?_ | refine blk_alloc ?_ _)); refine blk_far ?_ NB428_439.out _; (with_reducible repeat (first | refine blk_drewN ?_ _ | refine blk_drew ?_ | refine blk_alloc ?_ _)); refine blk_far ?_ NB428_439.out _; (with_reducible repeat (first | refine blk_drewN ?_ _ | refine blk_drew ?_ | refine blk_alloc ?_ _)); refine blk_far ?_ NB428_439.out _; (with_reducible repeat (first | refine blk_drewN ?_ _ | refine blk_drew ?_ | refine blk_alloc ?_ _)); exact BK428.out) hb)) (And.intro (Aside0.mk (blk_below (g := gb439) (o := .cells #[.string t436, .string t437, .int .i64 t438] 31 (0, 0)) (by (with_reducible repeat (first | refine blk_drewN ?_ _ | refine blk_drew ?_ | refine blk_alloc ?_ _)); refine blk_put (cs := #[.string t436, .string t437, .int .i64 0]) ?_ 2 _ rfl; (with_reducible repeat (first | refine blk_drewN ?_ _ | refine blk_drew ?_ | refine blk_alloc ?_ _)); refine blk_put (cs := #[.string t436, .string (⟨#[]⟩ : ByteArray), .int .i64 0]) ?_ 1 _ rfl; (with_reducible repeat (first | refine blk_drewN ?_ _ | refine blk_drew ?_ | refine blk_alloc ?_ _)); refine blk_put (cs := #[.string (⟨#[]⟩ : ByteArray), .string (⟨#[]⟩ : ByteArray), .int .i64 0]) ?_ 0 _ rfl; (with_reducible repeat (first | refine blk_drewN ?_ _ | refine blk_drew ?_ | refine blk_alloc ?_ _)); exact BK439.out) hb)) (Aside0.mk (below_step bg_ hb))))))); clear HO424 HO435 BK421 BK428 BK439 HB; obtain ⟨HO424, HO435, HO442, BK421, BK428, BK439, HB⟩ := n_; (try clear hb); (try clear hb2); (try clear hk); (try clear hi); (try clear ho0); obtain ⟨Ao37, co37, eo37⟩ := Kd.R_slice HO442.out; subst eo37) | ((with_reducible refine gate_callee (f := 39) rfl ?_); refine gL_ (some 57) Tryd.func39 #[.slice Ao37 t440.length co37] ?_ rfl rfl; (with_reducible refine (spec_DrawAppendRecord.calls kj2 _ _ t440 t443 t444 t445 t446 t447 _ ?side1 ?side2 A13.out).mono ?_); (case side1 => repeat (first | exact (Kd.R_reads' HO442.out).2.2 | (with_reducible refine Kd.C_alloc ?_ _) | (with_reducible refine Kd.C_drewN ?_ _) | (with_reducible refine Kd.C_drew ?_))); (case side2 => exact (Kd.R_reads' HO442.out).2.1); rintro e w38 ⟨rfl, hb⟩; refine ⟨_, rfl, ?_⟩; have n_ := And.intro (Aside0.mk (Kd.R_below (rk_ HO424) hb)) (And.intro (Aside0.mk (Kd.R_below (rk_ HO435) hb)) (And.intro (Aside0.mk (Kd.R_below (rk_ HO442) hb)) (And.intro (Aside0.mk (bb_ BK421 hb)) (And.intro (Aside0.mk (bb_ BK428 hb)) (And.intro (Aside0.mk (bb_ BK439 hb)) (Aside0.mk (below_step bg_ hb))))))); clear HO424 HO435 HO442 BK421 BK428 BK439 HB; obtain ⟨HO424, HO435, HO442, BK421, BK428, BK439, HB⟩ := n_; (try clear hb); (try clear hb2); (try clear hk); (try clear hi)) | ((with_reducible refine gate_dst (N := 11) rfl ?_); (try (refine gate_guard (by rfl) ?_; dsimp only)); refine box_event ?hg (N := 11) ?hd (cs := #[.string (⟨#[]⟩ : ByteArray), .string (⟨#[]⟩ : ByteArray), .int .i64 0]) (t := 31) ?hr ?_; (case hd => rfl); (case hg => rfl); (case hr => first | (go_simp; done) | (go_simp; rfl)); intro gb448 hg w39 hbox hb; have n_ := And.intro (Aside0.mk (Kd.R_below (rk_ HO424) hb)) (And.intro (Aside0.mk (Kd.R_below (rk_ HO435) hb)) (And.intro (Aside0.mk (Kd.R_below (rk_ HO442) hb)) (And.intro (Aside0.mk (bb_ BK421 hb)) (And.intro (Aside0.mk (bb_ BK428 hb)) (And.intro (Aside0.mk (bb_ BK439 hb)) (And.intro (Aside0.mk (below_step bg_ hb)) (And.intro (Aside0.mk (hbox)) (And.intro (Aside0.mk ((by rw [hg]; exact (below_size bg_) : w.heap.size ≤ gb448))) (And.intro (Aside0.mk ((by rw [hg]; exact (below_size bg_) : w.heap.size ≤ gb448))) (And.intro (Aside0.mk (nl_ BK421 hg)) (And.intro (Aside0.mk (ng_ BK421 hg)) (And.intro (Aside0.mk (nl_ BK428 hg)) (And.intro (Aside0.mk (ng_ BK428 hg)) (And.intro (Aside0.mk (nl_ BK439 hg)) (Aside0.mk (ng_ BK439 hg)))))))))))))))); clear HO424 HO435 HO442 BK421 BK428 BK439 HB; obtain ⟨HO424, HO435, HO442, BK421, BK428, BK439, HB, BK448, GW448, GE448, NB421_448, NB448_421, NB428_448, NB448_428, NB439_448, NB448_439⟩ := n_; clear hb hbox hg) | ((with_reducible refine gate_dst (N := 12) rfl ?_); (try (refine gate_guard (by rfl) ?_; dsimp only)); refine box_event ?hg (N := 12) ?hd (cs := #[.string (⟨#[]⟩ : ByteArray), .string (⟨#[]⟩ : ByteArray)]) (t := 27) ?hr ?_; (case hd => rfl); (case hg => rfl); (case hr => first | (go_simp; done) | (go_simp; rfl)); intro gb449 hg w40 hbox hb; have n_ := And.intro (Aside0.mk (Kd.R_below (rk_ HO424) hb)) (And.intro (Aside0.mk (Kd.R_below (rk_ HO435) hb)) (And.intro (Aside0.mk (Kd.R_below (rk_ HO442) hb)) (And.intro (Aside0.mk (bb_ BK421 hb)) (And.intro (Aside0.mk (bb_ BK428 hb)) (And.intro (Aside0.mk (bb_ BK439 hb)) (And.intro (Aside0.mk (bb_ BK448 hb)) (And.intro (Aside0.mk (below_step bg_ hb)) (And.intro (Aside0.mk (hbox)) (And.intro (Aside0.mk ((by rw [hg]; exact (below_size bg_) : w.heap.size ≤ gb449))) (And.intro (Aside0.mk ((by rw [hg]; exact (below_size bg_) : w.heap.size ≤ gb449))) (And.intro (Aside0.mk (nl_ BK421 hg)) (And.intro (Aside0.mk (ng_ BK421 hg)) (And.intro (Aside0.mk (nl_ BK428 hg)) (And.intro (Aside0.mk (ng_ BK428 hg)) (And.intro (Aside0.mk (nl_ BK439 hg)) (And.intro (Aside0.mk (ng_ BK439 hg)) (And.intro (Aside0.mk (nl_ BK448 hg)) (Aside0.mk (ng_ BK448 hg))))))))))))))))))); clear HO424 HO435 HO442 BK421 BK428 BK439 BK448 HB; obtain ⟨HO424, HO435, HO442, BK421, BK428, BK439, BK448, HB, BK449, GW449, GE449, NB421_449, NB449_421, NB428_449, NB449_428, NB439_449, NB449_439, NB448_449, NB449_448⟩ := n_; clear hb hbox hg; have hnb41 := NB448_421.out; have hnc41 := NB421_448.out; have hnb42 := NB448_428.out; have hnc42 := NB428_448.out; have hnb43 := NB448_439.out; have hnc43 := NB439_448.out; have hnb44 := NB448_449.out; have hnc44 := NB449_448.out; have hcz45_0 : w40.cell? ⟨gb448, 0, none⟩ = some (.string (⟨#[]⟩ : ByteArray)) := (blk_cell BK448.out 0).trans rfl; have hcz45_1 : w40.cell? ⟨gb448, 1, none⟩ = some (.string (⟨#[]⟩ : ByteArray)) := (blk_cell BK448.out 1).trans rfl; have hcz45_2 : w40.cell? ⟨gb448, 2, none⟩ = some (.int .i64 0) := (blk_cell BK448.out 2).trans rfl; have hfz45_0 := blk_frozen BK448.out 0; have hfz45_1 := blk_frozen BK448.out 1; have hfz45_2 := blk_frozen BK448.out 2; have hnb46 := NB449_421.out; have hnc46 := NB421_449.out; have hnb47 := NB449_428.out; have hnc47 := NB428_449.out; have hnb48 := NB449_439.out; have hnc48 := NB439_449.out; have hcz49_0 : w40.cell? ⟨gb449, 0, none⟩ = some (.string (⟨#[]⟩ : ByteArray)) := (blk_cell BK449.out 0).trans rfl; have hcz49_1 : w40.cell? ⟨gb449, 1, none⟩ = some (.string (⟨#[]⟩ : ByteArray)) := (blk_cell BK449.out 1).trans rfl; have hfz49_0 := blk_frozen BK449.out 0; have hfz49_1 := blk_frozen BK449.out 1) | ((with_reducible refine gate_callee (f := 28) rfl ?_); refine gL_ (some 63) Tryd.func28 #[.agg #[.string t443, .string t444, .int .i64 t445], .agg #[.string t446, .string t447]] ?_ rfl rfl; (with_reducible refine (impl_AppendRecord.calls kj2 t443 t444 t445 t446 t447 t450 t451 t452 t453 _ ?side1 A14.out).mono ?_); (case side1 => exact EnvW.below HENV.out bg_); rintro e w50 ⟨rfl, hb⟩; refine ⟨_, rfl, ?_⟩; have n_ := And.intro (Aside0.mk (Kd.R_below (by (with_reducible repeat (first | apply Kd.R_alloc | apply Kd.R_drewN | apply Kd.R_drew)); exact (Kd.R_mono (Kd.R_mono (Kd.R_far (p := ⟨gb449, 1, none⟩) (Kd.R_far (p := ⟨gb449, 0, none⟩) (Kd.R_far (p := ⟨gb448, 2, none⟩) (Kd.R_far (p := ⟨gb448, 1, none⟩) (Kd.R_far (p := ⟨gb448, 0, none⟩) (Kd.R_types (Kd.R_types HO424.out BK448.out (by decide)) BK449.out (by decide)) (fun _ hk => hk.1.2) (.string t443)) (fun _ hk => hk.1.2) (.string t444)) (fun _ hk => hk.1.2) (.int .i64 t445)) (fun _ hk => hk.2) (.string t446)) (fun _ hk => hk.2) (.string t447)) (fun _ h_ => h_.1)) (fun _ h_ => h_.1))) hb)) (And.intro (Aside0.mk (Kd.R_below (by (with_reducible repeat (first | apply Kd.R_alloc | apply Kd.R_drewN | apply Kd.R_drew)); exact (Kd.R_mono (Kd.R_mono (Kd.R_far (p := ⟨gb449, 1, none⟩) (Kd.R_far (p := ⟨gb449, 0, none⟩) (Kd.R_far (p := ⟨gb448, 2, none⟩) (Kd.R_far (p := ⟨gb448, 1, none⟩) (Kd.R_far (p := ⟨gb448, 0, none⟩) (Kd.R_types (Kd.R_types HO435.out BK448.out (by decide)) BK449.out (by decide)) (fun _ hk => hk.1.2) (.string t443)) (fun _ hk => hk.1.2) (.string t444)) (fun _ hk => hk.1.2) (.int .i64 t445)) (fun _ hk => hk.2) (.string t446)) (fun _ hk => hk.2) (.string t447)) (fun _ h_ => h_.1)) (fun _ h_ => h_.1))) hb)) (And.intro (Aside0.mk (Kd.R_below (by (with_reducible repeat (first | apply Kd.R_alloc | apply Kd.R_drewN | apply Kd.R_drew)); exact (Kd.R_mono (Kd.R_mono (Kd.R_far (p := ⟨gb449, 1, none⟩) (Kd.R_far (p := ⟨gb449, 0, none⟩) (Kd.R_far (p := ⟨gb448, 2, none⟩) (Kd.R_far (p := ⟨gb448, 1, none⟩) (Kd.R_far (p := ⟨gb448, 0, none⟩) (Kd.R_types (Kd.R_types HO442.out BK448.out (by decide)) BK449.out (by decide)) (fun _ hk => hk.1.2) (.string t443)) (fun _ hk => hk.1.2) (.string t444)) (fun _ hk => hk.1.2) (.int .i64 t445)) (fun _ hk => hk.2) (.string t446)) (fun _ hk => hk.2) (.string t447)) (fun _ h_ => h_.1)) (fun _ h_ => h_.1))) hb)) (And.intro (Aside0.mk (blk_below (g := gb421) (o := .cells #[.string t419, .string t420] 27 (0, 0)) (by (with_reducible repeat (first | refine blk_drewN ?_ _ | refine blk_drew ?_ | refine blk_alloc ?_ _)); refine blk_far ?_ NB421_449.out _; (with_reducible repeat (first | refine blk_drewN ?_ _ | refine blk_drew ?_ | refine blk_alloc ?_ _)); refine blk_far ?_ NB421_449.out _; (with_reducible repeat (first | refine blk_drewN ?_ _ | refine blk_drew ?_ | refine blk_alloc ?_ _)); refine blk_far ?_ NB421_448.out _; (with_reducible repeat (first | refine blk_drewN ?_ _ | refine blk_drew ?_ | refine blk_alloc ?_ _)); refine blk_far ?_ NB421_448.out _; (with_reducible repeat (first | refine blk_drewN ?_ _ | refine blk_drew ?_ | refine blk_alloc ?_ _)); refine blk_far ?_ NB421_448.out _; (with_reducible repeat (first | refine blk_drewN ?_ _ | refine blk_drew ?_ | refine blk_alloc ?_ _)); exact BK421.out) hb)) (And.intro (Aside0.mk (blk_below (g := gb428) (o := .cells #[.string t426, .string t427] 27 (0, 0)) (by (with_reducible repeat (first | refine blk_drewN ?_ _ | refine blk_drew ?_ | refine blk_alloc ?_ _)); refine blk_far ?_ NB428_449.out _; (with_reducible repeat (first | refine blk_drewN ?_ _ | refine blk_drew ?_ | refine blk_alloc ?_ _)); refine blk_far ?_ NB428_449.out _; (with_reducible repeat (first | refine blk_drewN ?_ _ | refine blk_drew ?_ | refine blk_alloc ?_ _)); refine blk_far ?_ NB428_448.out _; (with_reducible repeat (first | refine blk_drewN ?_ _ | refine blk_drew ?_ | refine blk_alloc ?_ _)); refine blk_far ?_ NB428_448.out _; (with_reducible repeat (first | refine blk_drewN ?_ _ | refine blk_drew ?_ | refine blk_alloc ?_ _)); refine blk_far ?_ NB428_448.out _; (with_reducible repeat (first | refine blk_drewN ?_ _ | refine blk_drew ?_ | refine blk_alloc ?_ _)); exact BK428.out) hb)) (And.intro (Aside0.mk (blk_below (g := gb439) (o := .cells #[.string t436, .string t437, .int .i64 t438] 31 (0, 0)) (by (with_reducible repeat (first | refine blk_drewN ?_ _ | refine blk_drew ?_ | refine blk_alloc ?_ _)); refine blk_far ?_ NB439_449.out _; (with_reducible repeat (first | refine blk_drewN ?_ _ | refine blk_drew ?_ | refine blk_alloc ?_ _)); refine blk_far ?_ NB439_449.out _; (with_reducible repeat (first | refine blk_drewN ?_ _ | refine blk_drew ?_ | refine blk_alloc ?_ _)); refine blk_far ?_ NB439_448.out _; (with_reducible repeat (first | refine blk_drewN ?_ _ | refine blk_drew ?_ | refine blk_alloc ?_ _)); refine blk_far ?_ NB439_448.out _; (with_reducible repeat (first | refine blk_drewN ?_ _ | refine blk_drew ?_ | refine blk_alloc ?_ _)); refine blk_far ?_ NB439_448.out _; (with_reducible repeat (first | refine blk_drewN ?_ _ | refine blk_drew ?_ | refine blk_alloc ?_ _)); exact BK439.out) hb)) (And.intro (Aside0.mk (blk_below (g := gb448) (o := .cells #[.string t443, .string t444, .int .i64 t445] 31 (0, 0)) (by (with_reducible repeat (first | refine blk_drewN ?_ _ | refine blk_drew ?_ | refine blk_alloc ?_ _)); refine blk_far ?_ NB448_449.out _; (with_reducible repeat (first | refine blk_drewN ?_ _ | refine blk_drew ?_ | refine blk_alloc ?_ _)); refine blk_far ?_ NB448_449.out _; (with_reducible repeat (first | refine blk_drewN ?_ _ | refine blk_drew ?_ | refine blk_alloc ?_ _)); refine blk_put (cs := #[.string t443, .string t444, .int .i64 0]) ?_ 2 _ rfl; (with_reducible repeat (first | refine blk_drewN ?_ _ | refine blk_drew ?_ | refine blk_alloc ?_ _)); refine blk_put (cs := #[.string t443, .string (⟨#[]⟩ : ByteArray), .int .i64 0]) ?_ 1 _ rfl; (with_reducible repeat (first | refine blk_drewN ?_ _ | refine blk_drew ?_ | refine blk_alloc ?_ _)); refine blk_put (cs := #[.string (⟨#[]⟩ : ByteArray), .string (⟨#[]⟩ : ByteArray), .int .i64 0]) ?_ 0 _ rfl; (with_reducible repeat (first | refine blk_drewN ?_ _ | refine blk_drew ?_ | refine blk_alloc ?_ _)); exact BK448.out) hb)) (And.intro (Aside0.mk (blk_below (g := gb449) (o := .cells #[.string t446, .string t447] 27 (0, 0)) (by (with_reducible repeat (first | refine blk_drewN ?_ _ | refine blk_drew ?_ | refine blk_alloc ?_ _)); refine blk_put (cs := #[.string t446, .string (⟨#[]⟩ : ByteArray)]) ?_ 1 _ rfl; (with_reducible repeat (first | refine blk_drewN ?_ _ | refine blk_drew ?_ | refine blk_alloc ?_ _)); refine blk_put (cs := #[.string (⟨#[]⟩ : ByteArray), .string (⟨#[]⟩ : ByteArray)]) ?_ 0 _ rfl; (with_reducible repeat (first | refine blk_drewN ?_ _ | refine blk_drew ?_ | refine blk_alloc ?_ _)); refine blk_far ?_ NB449_448.out _; (with_reducible repeat (first | refine blk_drewN ?_ _ | refine blk_drew ?_ | refine blk_alloc ?_ _)); refine blk_far ?_ NB449_448.out _; (with_reducible repeat (first | refine blk_drewN ?_ _ | refine blk_drew ?_ | refine blk_alloc ?_ _)); refine blk_far ?_ NB449_448.out _; (with_reducible repeat (first | refine blk_drewN ?_ _ | refine blk_drew ?_ | refine blk_alloc ?_ _)); exact BK449.out) hb)) (Aside0.mk (below_step bg_ hb))))))))); clear HO424 HO435 HO442 BK421 BK428 BK439 BK448 BK449 HB; obtain ⟨HO424, HO435, HO442, BK421, BK428, BK439, BK448, BK449, HB⟩ := n_; (try clear hb); (try clear hb2); (try clear hk); (try clear hi)) | ((with_reducible refine gate_dst (N := 13) rfl ?_); (try (refine gate_guard (by rfl) ?_; dsimp only)); refine box_event ?hg (N := 13) ?hd (cs := #[.string (⟨#[]⟩ : ByteArray), .string (⟨#[]⟩ : ByteArray), .int .i64 0]) (t := 31) ?hr ?_; (case hd => rfl); (case hg => rfl); (case hr => first | (go_simp; done) | (go_simp; rfl)); intro gb454 hg w51 hbox hb; have n_ := And.intro (Aside0.mk (Kd.R_below (rk_ HO424) hb)) (And.intro (Aside0.mk (Kd.R_below (rk_ HO435) hb)) (And.intro (Aside0.mk (Kd.R_below (rk_ HO442) hb)) (And.intro (Aside0.mk (bb_ BK421 hb)) (And.intro (Aside0.mk (bb_ BK428 hb)) (And.intro (Aside0.mk (bb_ BK439 hb)) (And.intro (Aside0.mk (bb_ BK448 hb)) (And.intro (Aside0.mk (bb_ BK449 hb)) (And.intro (Aside0.mk (below_step bg_ hb)) (And.intro (Aside0.mk (hbox)) (And.intro (Aside0.mk ((by rw [hg]; exact (below_size bg_) : w.heap.size ≤ gb454))) (And.intro (Aside0.mk ((by rw [hg]; exact (below_size bg_) : w.heap.size ≤ gb454))) (And.intro (Aside0.mk (nl_ BK421 hg)) (And.intro (Aside0.mk (ng_ BK421 hg)) (And.intro (Aside0.mk (nl_ BK428 hg)) (And.intro (Aside0.mk (ng_ BK428 hg)) (And.intro (Aside0.mk (nl_ BK439 hg)) (And.intro (Aside0.mk (ng_ BK439 hg)) (And.intro (Aside0.mk (nl_ BK448 hg)) (And.intro (Aside0.mk (ng_ BK448 hg)) (And.intro (Aside0.mk (nl_ BK449 hg)) (Aside0.mk (ng_ BK449 hg)))))))))))))))))))))); clear HO424 HO435 HO442 BK421 BK428 BK439 BK448 BK449 HB; obtain ⟨HO424, HO435, HO442, BK421, BK428, BK439, BK448, BK449, HB, BK454, GW454, GE454, NB421_454, NB454_421, NB428_454, NB454_428, NB439_454, NB454_439, NB448_454, NB454_448, NB449_454, NB454_449⟩ := n_; clear hb hbox hg; have hnb52 := NB454_421.out; have hnc52 := NB421_454.out; have hnb53 := NB454_428.out; have hnc53 := NB428_454.out; have hnb54 := NB454_439.out; have hnc54 := NB439_454.out; have hnb55 := NB454_448.out; have hnc55 := NB448_454.out; have hnb56 := NB454_449.out; have hnc56 := NB449_454.out; have hcz57_0 : w51.cell? ⟨gb454, 0, none⟩ = some (.string (⟨#[]⟩ : ByteArray)) := (blk_cell BK454.out 0).trans rfl; have hcz57_1 : w51.cell? ⟨gb454, 1, none⟩ = some (.string (⟨#[]⟩ : ByteArray)) := (blk_cell BK454.out 1).trans rfl; have hcz57_2 : w51.cell? ⟨gb454, 2, none⟩ = some (.int .i64 0) := (blk_cell BK454.out 2).trans rfl; have hfz57_0 := blk_frozen BK454.out 0; have hfz57_1 := blk_frozen BK454.out 1; have hfz57_2 := blk_frozen BK454.out 2; have hcz58_0 : w51.cell? ⟨gb448, 0, none⟩ = some (.string t443) := (blk_cell BK448.out 0).trans rfl; have hcz58_1 : w51.cell? ⟨gb448, 1, none⟩ = some (.string t444) := (blk_cell BK448.out 1).trans rfl; have hcz58_2 : w51.cell? ⟨gb448, 2, none⟩ = some (.int .i64 t445) := (blk_cell BK448.out 2).trans rfl; have hfz58_0 := blk_frozen BK448.out 0; have hfz58_1 := blk_frozen BK448.out 1; have hfz58_2 := blk_frozen BK448.out 2; have hcz59_0 : w51.cell? ⟨gb449, 0, none⟩ = some (.string t446) := (blk_cell BK449.out 0).trans rfl; have hcz59_1 : w51.cell? ⟨gb449, 1, none⟩ = some (.string t447) := (blk_cell BK449.out 1).trans rfl; have hfz59_0 := blk_frozen BK449.out 0; have hfz59_1 := blk_frozen BK449.out 1) | ((with_reducible refine gate_callee (f := 27) rfl ?_); refine gL_ (some 69) Tryd.func27 #[.agg #[.string t443, .string t444, .int .i64 t445], .agg #[.string t446, .string t447]] ?_ rfl rfl; (with_reducible refine (spec_AppendRecord.calls kj2 t443 t444 t445 t446 t447 t455 t456 t457 t458 _ A15.out).mono ?_); rintro e w60 ⟨rfl, hb⟩; refine ⟨_, rfl, ?_⟩; have n_ := And.intro (Aside0.mk (Kd.R_below (by (with_reducible repeat (first | apply Kd.R_alloc | apply Kd.R_drewN | apply Kd.R_drew)); exact (Kd.R_mono (Kd.R_far (p := ⟨gb454, 2, none⟩) (Kd.R_far (p := ⟨gb454, 1, none⟩) (Kd.R_far (p := ⟨gb454, 0, none⟩) (Kd.R_types HO424.out BK454.out (by decide)) (fun _ hk => hk.2) (.string t450)) (fun _ hk => hk.2) (.string t451)) (fun _ hk => hk.2) (.int .i64 t452)) (fun _ h_ => h_.1))) hb)) (And.intro (Aside0.mk (Kd.R_below (by (with_reducible repeat (first | apply Kd.R_alloc | apply Kd.R_drewN | apply Kd.R_drew)); exact (Kd.R_mono (Kd.R_far (p := ⟨gb454, 2, none⟩) (Kd.R_far (p := ⟨gb454, 1, none⟩) (Kd.R_far (p := ⟨gb454, 0, none⟩) (Kd.R_types HO435.out BK454.out (by decide)) (fun _ hk => hk.2) (.string t450)) (fun _ hk => hk.2) (.string t451)) (fun _ hk => hk.2) (.int .i64 t452)) (fun _ h_ => h_.1))) hb)) (And.intro (Aside0.mk (Kd.R_below (by (with_reducible repeat (first | apply Kd.R_alloc | apply Kd.R_drewN | apply Kd.R_drew)); exact (Kd.R_mono (Kd.R_far (p := ⟨gb454, 2, none⟩) (Kd.R_far (p := ⟨gb454, 1, none⟩) (Kd.R_far (p := ⟨gb454, 0, none⟩) (Kd.R_types HO442.out BK454.out (by decide)) (fun _ hk => hk.2) (.string t450)) (fun _ hk => hk.2) (.string t451)) (fun _ hk => hk.2) (.int .i64 t452)) (fun _ h_ => h_.1))) hb)) (And.intro (Aside0.mk (blk_below (g := gb421) (o := .cells #[.string t419, .string t420] 27 (0, 0)) (by (with_reducible repeat (first | refine blk_drewN ?_ _ | refine blk_drew ?_ | refine blk_alloc ?_ _)); refine blk_far ?_ NB421_454.out _; (with_reducible repeat (first | refine blk_drewN ?_ _ | refine blk_drew ?_ | refine blk_alloc ?_ _)); refine blk_far ?_ NB421_454.out _; (with_reducible repeat (first | refine blk_drewN ?_ _ | refine blk_drew ?_ | refine blk_alloc ?_ _)); refine blk_far ?_ NB421_454.out _; (with_reducible repeat (first | refine blk_drewN ?_ _ | refine blk_drew ?_ | refine blk_alloc ?_ _)); exact BK421.out) hb)) (And.intro (Aside0.mk (blk_below (g := gb428) (o := .cells #[.string t426, .string t427] 27 (0, 0)) (by (with_reducible repeat (first | refine blk_drewN ?_ _ | refine blk_drew ?_ | refine blk_alloc ?_ _)); refine blk_far ?_ NB428_454.out _; (with_reducible repeat (first | refine blk_drewN ?_ _ | refine blk_drew ?_ | refine blk_alloc ?_ _)); refine blk_far ?_ NB428_454.out _; (with_reducible repeat (first | refine blk_drewN ?_ _ | refine blk_drew ?_ | refine blk_alloc ?_ _)); refine blk_far ?_ NB428_454.out _; (with_reducible repeat (first | refine blk_drewN ?_ _ | refine blk_drew ?_ | refine blk_alloc ?_ _)); exact BK428.out) hb)) (And.intro (Aside0.mk (blk_below (g := gb439) (o := .cells #[.string t436, .string t437, .int .i64 t438] 31 (0, 0)) (by (with_reducible repeat (first | refine blk_drewN ?_ _ | refine blk_drew ?_ | refine blk_alloc ?_ _)); refine blk_far ?_ NB439_454.out _; (with_reducible repeat (first | refine blk_drewN ?_ _ | refine blk_drew ?_ | refine blk_alloc ?_ _)); refine blk_far ?_ NB439_454.out _; (with_reducible repeat (first | refine blk_drewN ?_ _ | refine blk_drew ?_ | refine blk_alloc ?_ _)); refine blk_far ?_ NB439_454.out _; (with_reducible repeat (first | refine blk_drewN ?_ _ | refine blk_drew ?_ | refine blk_alloc ?_ _)); exact BK439.out) hb)) (And.intro (Aside0.mk (blk_below (g := gb448) (o := .cells #[.string t443, .string t444, .int .i64 t445] 31 (0, 0)) (by (with_reducible repeat (first | refine blk_drewN ?_ _ | refine blk_drew ?_ | refine blk_alloc ?_ _)); refine blk_far ?_ NB448_454.out _; (with_reducible repeat (first | refine blk_drewN ?_ _ | refine blk_drew ?_ | refine blk_alloc ?_ _)); refine blk_far ?_ NB448_454.out _; (with_reducible repeat (first | refine blk_drewN ?_ _ | refine blk_drew ?_ | refine blk_alloc ?_ _)); refine blk_far ?_ NB448_454.out _; (with_reducible repeat (first | refine blk_drewN ?_ _ | refine blk_drew ?_ | refine blk_alloc ?_ _)); exact BK448.out) hb)) (And.intro (Aside0.mk (blk_below (g := gb449) (o := .cells #[.string t446, .string t447] 27 (0, 0)) (by (with_reducible repeat (first | refine blk_drewN ?_ _ | refine blk_drew ?_ | refine blk_alloc ?_ _)); refine blk_far ?_ NB449_454.out _; (with_reducible repeat (first | refine blk_drewN ?_ _ | refine blk_drew ?_ | refine blk_alloc ?_ _)); refine blk_far ?_ NB449_454.out _; (with_reducible repeat (first | refine blk_drewN ?_ _ | refine blk_drew ?_ | refine blk_alloc ?_ _)); refine blk_far ?_ NB449_454.out _; (with_reducible repeat (first | refine blk_drewN ?_ _ | refine blk_drew ?_ | refine blk_alloc ?_ _)); exact BK449.out) hb)) (And.intro (Aside0.mk (blk_below (g := gb454) (o := .cells #[.string t450, .string t451, .int .i64 t452] 31 (0, 0)) (by (with_reducible repeat (first | refine blk_drewN ?_ _ | refine blk_drew ?_ | refine blk_alloc ?_ _)); refine blk_put (cs := #[.string t450, .string t451, .int .i64 0]) ?_ 2 _ rfl; (with_reducible repeat (first | refine blk_drewN ?_ _ | refine blk_drew ?_ | refine blk_alloc ?_ _)); refine blk_put (cs := #[.string t450, .string (⟨#[]⟩ : ByteArray), .int .i64 0]) ?_ 1 _ rfl; (with_reducible repeat (first | refine blk_drewN ?_ _ | refine blk_drew ?_ | refine blk_alloc ?_ _)); refine blk_put (cs := #[.string (⟨#[]⟩ : ByteArray), .string (⟨#[]⟩ : ByteArray), .int .i64 0]) ?_ 0 _ rfl; (with_reducible repeat (first | refine blk_drewN ?_ _ | refine blk_drew ?_ | refine blk_alloc ?_ _)); exact BK454.out) hb)) (Aside0.mk (below_step bg_ hb)))))))))); clear HO424 HO435 HO442 BK421 BK428 BK439 BK448 BK449 BK454 HB; obtain ⟨HO424, HO435, HO442, BK421, BK428, BK439, BK448, BK449, BK454, HB⟩ := n_; (try clear hb); (try clear hb2); (try clear hk); (try clear hi)) | ((with_reducible refine gate_dst (N := 15) rfl ?_); (try (refine gate_guard (by rfl) ?_; dsimp only)); refine box_event ?hg (N := 15) ?hd (cs := #[.string (⟨#[]⟩ : ByteArray), .string (⟨#[]⟩ : ByteArray), .int .i64 0]) (t := 31) ?hr ?_; (case hd => rfl); (case hg => rfl); (case hr => first | (go_simp; done) | (go_simp; rfl)); intro gb459 hg w61 hbox hb; have n_ := And.intro (Aside0.mk (Kd.R_below (rk_ HO424) hb)) (And.intro (Aside0.mk (Kd.R_below (rk_ HO435) hb)) (And.intro (Aside0.mk (Kd.R_below (rk_ HO442) hb)) (And.intro (Aside0.mk (bb_ BK421 hb)) (And.intro (Aside0.mk (bb_ BK428 hb)) (And.intro (Aside0.mk (bb_ BK439 hb)) (And.intro (Aside0.mk (bb_ BK448 hb)) (And.intro (Aside0.mk (bb_ BK449 hb)) (And.intro (Aside0.mk (bb_ BK454 hb)) (And.intro (Aside0.mk (below_step bg_ hb)) (And.intro (Aside0.mk (hbox)) (And.intro (Aside0.mk ((by rw [hg]; exact (below_size bg_) : w.heap.size ≤ gb459))) (And.intro (Aside0.mk ((by rw [hg]; exact (below_size bg_) : w.heap.size ≤ gb459))) (And.intro (Aside0.mk (nl_ BK421 hg)) (And.intro (Aside0.mk (ng_ BK421 hg)) (And.intro (Aside0.mk (nl_ BK428 hg)) (And.intro (Aside0.mk (ng_ BK428 hg)) (And.intro (Aside0.mk (nl_ BK439 hg)) (And.intro (Aside0.mk (ng_ BK439 hg)) (And.intro (Aside0.mk (nl_ BK448 hg)) (And.intro (Aside0.mk (ng_ BK448 hg)) (And.intro (Aside0.mk (nl_ BK449 hg)) (And.intro (Aside0.mk (ng_ BK449 hg)) (And.intro (Aside0.mk (nl_ BK454 hg)) (Aside0.mk (ng_ BK454 hg))))))))))))))))))))))))); clear HO424 HO435 HO442 BK421 BK428 BK439 BK448 BK449 BK454 HB; obtain ⟨HO424, HO435, HO442, BK421, BK428, BK439, BK448, BK449, BK454, HB, BK459, GW459, GE459, NB421_459, NB459_421, NB428_459, NB459_428, NB439_459, NB459_439, NB448_459, NB459_448, NB449_459, NB459_449, NB454_459, NB459_454⟩ := n_; clear hb hbox hg; have hnb62 := NB459_421.out; have hnc62 := NB421_459.out; have hnb63 := NB459_428.out; have hnc63 := NB428_459.out; have hnb64 := NB459_439.out; have hnc64 := NB439_459.out; have hnb65 := NB459_448.out; have hnc65 := NB448_459.out; have hnb66 := NB459_449.out; have hnc66 := NB449_459.out; have hnb67 := NB459_454.out; have hnc67 := NB454_459.out; have hcz68_0 : w61.cell? ⟨gb459, 0, none⟩ = some (.string (⟨#[]⟩ : ByteArray)) := (blk_cell BK459.out 0).trans rfl; have hcz68_1 : w61.cell? ⟨gb459, 1, none⟩ = some (.string (⟨#[]⟩ : ByteArray)) := (blk_cell BK459.out 1).trans rfl; have hcz68_2 : w61.cell? ⟨gb459, 2, none⟩ = some (.int .i64 0) := (blk_cell BK459.out 2).trans rfl; have hfz68_0 := blk_frozen BK459.out 0; have hfz68_1 := blk_frozen BK459.out 1; have hfz68_2 := blk_frozen BK459.out 2))
 (try simp only [Act.put, List.setIfInBounds_toArray, List.set_cons_zero, List.set_cons_succ])
 go_cut [103] (fun v103 wc => ∃ (kq : Nat) (x103_15 : Bool), v103 = .bool x103_15 ∧ Aside0 (laws_FnLogs.j1 kq t453 x103_15 t443 t444 t445 t446 t447 t450 t451 t452 = some r) ∧ Aside0 (kq ≤ kj2) ∧ Aside0 (wc.heap[gb421]? = some (.cells #[.string t419, .string t420] 27 (0, 0))) ∧ Aside0 (wc.heap[gb428]? = some (.cells #[.string t426, .string t427] 27 (0, 0))) ∧ Aside0 (wc.heap[gb439]? = some (.cells #[.string t436, .string t437, .int .i64 t438] 31 (0, 0))) ∧ Aside0 (wc.heap[gb448]? = some (.cells #[.string t443, .string t444, .int .i64 t445] 31 (0, 0))) ∧ Aside0 (wc.heap[gb449]? = some (.cells #[.string t446, .string t447] 27 (0, 0))) ∧ Aside0 (wc.heap[gb454]? = some (.cells #[.string t450, .string t451, .int .i64 t452] 31 (0, 0))) ∧ Aside0 (wc.heap[gb459]? = some (.cells #[.string t455, .string t456, .int .i64 t457] 31 (0, 0))) ∧ Aside0 (Below w.heap.size w wc))
 case first =>
  have H := HC16.out
  clear HC16
  replace H := Option.bind_eq_some_iff.mp H
  obtain ⟨t460, A690, H⟩ := H
  (try dsimp only at H)
  have A69 := Aside0.mk A690
  clear A690
  replace H := Option.bind_eq_some_iff.mp H
  obtain ⟨t461, A700, H⟩ := H
  (try dsimp only at H)
  have A70 := Aside0.mk A700
  clear A700
  by_cases c71 : (t460 != t461) = true
  ·rw [if_pos c71] at H
   have c71b0 : (t460 != t461) = true := c71
   (try (have c71b1 : decide (t460 = t461) = false := by simpa using c71))
   (try (have c71b2 : (t460 == t461) = false := by simpa using c71))
   (try (have c71b3 : ¬ (t460 = t461) := by simpa using c71))
   clear c71
   (first | rw [c71b0] | (simp only [i64_w, i32_w]; rw [c71b0]) | skip)
   have H' := Aside0.mk H
   clear H
   try go_wp2
   have n0_ : Aside0 (Kd.R (Kd.int .u8) 5 (((w61.setCell ⟨gb459, 0, none⟩ (.string t455)).setCell ⟨gb459, 1, none⟩ (.string t456)).setCell ⟨gb459, 2, none⟩ (.int .i64 t457)) w.heap.size (fun k_ => some k_ ≠ (.slice Ao30 t433.length co30 : Value).ownBlock ∧ some k_ ≠ (.slice Ao37 t440.length co37 : Value).ownBlock) (.slice Ao21 t422.length co21) t422) := ⟨by (with_reducible repeat (first | apply Kd.R_alloc | apply Kd.R_drewN | apply Kd.R_drew)); exact Kd.R_mono (Kd.R_far (p := ⟨gb459, 2, none⟩) (Kd.R_far (p := ⟨gb459, 1, none⟩) (Kd.R_far (p := ⟨gb459, 0, none⟩) (Kd.R_types HO424.out BK459.out (by decide)) (fun _ hk => hk.2) (.string t455)) (fun _ hk => hk.2) (.string t456)) (fun _ hk => hk.2) (.int .i64 t457)) (fun _ hk => ⟨hk.1.1.2, hk.1.2⟩)⟩
   have n1_ : Aside0 (Kd.R (Kd.int .u8) 5 (((w61.setCell ⟨gb459, 0, none⟩ (.string t455)).setCell ⟨gb459, 1, none⟩ (.string t456)).setCell ⟨gb459, 2, none⟩ (.int .i64 t457)) w.heap.size (fun k_ => some k_ ≠ (.slice Ao21 t422.length co21 : Value).ownBlock ∧ some k_ ≠ (.slice Ao37 t440.length co37 : Value).ownBlock) (.slice Ao30 t433.length co30) t433) := ⟨by (with_reducible repeat (first | apply Kd.R_alloc | apply Kd.R_drewN | apply Kd.R_drew)); exact Kd.R_mono (Kd.R_far (p := ⟨gb459, 2, none⟩) (Kd.R_far (p := ⟨gb459, 1, none⟩) (Kd.R_far (p := ⟨gb459, 0, none⟩) (Kd.R_types HO435.out BK459.out (by decide)) (fun _ hk => hk.2) (.string t455)) (fun _ hk => hk.2) (.string t456)) (fun _ hk => hk.2) (.int .i64 t457)) (fun _ hk => ⟨hk.1.1.2, hk.1.2⟩)⟩
   have n2_ : Aside0 (Kd.R (Kd.int .u8) 5 (((w61.setCell ⟨gb459, 0, none⟩ (.string t455)).setCell ⟨gb459, 1, none⟩ (.string t456)).setCell ⟨gb459, 2, none⟩ (.int .i64 t457)) w.heap.size (fun k_ => some k_ ≠ (.slice Ao21 t422.length co21 : Value).ownBlock ∧ some k_ ≠ (.slice Ao30 t433.length co30 : Value).ownBlock) (.slice Ao37 t440.length co37) t440) := ⟨by (with_reducible repeat (first | apply Kd.R_alloc | apply Kd.R_drewN | apply Kd.R_drew)); exact Kd.R_mono (Kd.R_far (p := ⟨gb459, 2, none⟩) (Kd.R_far (p := ⟨gb459, 1, none⟩) (Kd.R_far (p := ⟨gb459, 0, none⟩) (Kd.R_types HO442.out BK459.out (by decide)) (fun _ hk => hk.2) (.string t455)) (fun _ hk => hk.2) (.string t456)) (fun _ hk => hk.2) (.int .i64 t457)) (fun _ hk => ⟨hk.1.1.2, hk.1.2⟩)⟩
   have n3_ : Aside0 ((((w61.setCell ⟨gb459, 0, none⟩ (.string t455)).setCell ⟨gb459, 1, none⟩ (.string t456)).setCell ⟨gb459, 2, none⟩ (.int .i64 t457)).heap[gb421]? = some (.cells #[.string t419, .string t420] 27 (0, 0))) := ⟨by (with_reducible repeat (first | refine blk_drewN ?_ _ | refine blk_drew ?_ | refine blk_alloc ?_ _)); refine blk_far ?_ NB421_459.out _; (with_reducible repeat (first | refine blk_drewN ?_ _ | refine blk_drew ?_ | refine blk_alloc ?_ _)); refine blk_far ?_ NB421_459.out _; (with_reducible repeat (first | refine blk_drewN ?_ _ | refine blk_drew ?_ | refine blk_alloc ?_ _)); refine blk_far ?_ NB421_459.out _; (with_reducible repeat (first | refine blk_drewN ?_ _ | refine blk_drew ?_ | refine blk_alloc ?_ _)); exact BK421.out⟩
   have n4_ : Aside0 ((((w61.setCell ⟨gb459, 0, none⟩ (.string t455)).setCell ⟨gb459, 1, none⟩ (.string t456)).setCell ⟨gb459, 2, none⟩ (.int .i64 t457)).heap[gb428]? = some (.cells #[.string t426, .string t427] 27 (0, 0))) := ⟨by (with_reducible repeat (first | refine blk_drewN ?_ _ | refine blk_drew ?_ | refine blk_alloc ?_ _)); refine blk_far ?_ NB428_459.out _; (with_reducible repeat (first | refine blk_drewN ?_ _ | refine blk_drew ?_ | refine blk_alloc ?_ _)); refine blk_far ?_ NB428_459.out _; (with_reducible repeat (first | refine blk_drewN ?_ _ | refine blk_drew ?_ | refine blk_alloc ?_ _)); refine blk_far ?_ NB428_459.out _; (with_reducible repeat (first | refine blk_drewN ?_ _ | refine blk_drew ?_ | refine blk_alloc ?_ _)); exact BK428.out⟩
   have n5_ : Aside0 ((((w61.setCell ⟨gb459, 0, none⟩ (.string t455)).setCell ⟨gb459, 1, none⟩ (.string t456)).setCell ⟨gb459, 2, none⟩ (.int .i64 t457)).heap[gb439]? = some (.cells #[.string t436, .string t437, .int .i64 t438] 31 (0, 0))) := ⟨by (with_reducible repeat (first | refine blk_drewN ?_ _ | refine blk_drew ?_ | refine blk_alloc ?_ _)); refine blk_far ?_ NB439_459.out _; (with_reducible repeat (first | refine blk_drewN ?_ _ | refine blk_drew ?_ | refine blk_alloc ?_ _)); refine blk_far ?_ NB439_459.out _; (with_reducible repeat (first | refine blk_drewN ?_ _ | refine blk_drew ?_ | refine blk_alloc ?_ _)); refine blk_far ?_ NB439_459.out _; (with_reducible repeat (first | refine blk_drewN ?_ _ | refine blk_drew ?_ | refine blk_alloc ?_ _)); exact BK439.out⟩
   have n6_ : Aside0 ((((w61.setCell ⟨gb459, 0, none⟩ (.string t455)).setCell ⟨gb459, 1, none⟩ (.string t456)).setCell ⟨gb459, 2, none⟩ (.int .i64 t457)).heap[gb448]? = some (.cells #[.string t443, .string t444, .int .i64 t445] 31 (0, 0))) := ⟨by (with_reducible repeat (first | refine blk_drewN ?_ _ | refine blk_drew ?_ | refine blk_alloc ?_ _)); refine blk_far ?_ NB448_459.out _; (with_reducible repeat (first | refine blk_drewN ?_ _ | refine blk_drew ?_ | refine blk_alloc ?_ _)); refine blk_far ?_ NB448_459.out _; (with_reducible repeat (first | refine blk_drewN ?_ _ | refine blk_drew ?_ | refine blk_alloc ?_ _)); refine blk_far ?_ NB448_459.out _; (with_reducible repeat (first | refine blk_drewN ?_ _ | refine blk_drew ?_ | refine blk_alloc ?_ _)); exact BK448.out⟩
   have n7_ : Aside0 ((((w61.setCell ⟨gb459, 0, none⟩ (.string t455)).setCell ⟨gb459, 1, none⟩ (.string t456)).setCell ⟨gb459, 2, none⟩ (.int .i64 t457)).heap[gb449]? = some (.cells #[.string t446, .string t447] 27 (0, 0))) := ⟨by (with_reducible repeat (first | refine blk_drewN ?_ _ | refine blk_drew ?_ | refine blk_alloc ?_ _)); refine blk_far ?_ NB449_459.out _; (with_reducible repeat (first | refine blk_drewN ?_ _ | refine blk_drew ?_ | refine blk_alloc ?_ _)); refine blk_far ?_ NB449_459.out _; (with_reducible repeat (first | refine blk_drewN ?_ _ | refine blk_drew ?_ | refine blk_alloc ?_ _)); refine blk_far ?_ NB449_459.out _; (with_reducible repeat (first | refine blk_drewN ?_ _ | refine blk_drew ?_ | refine blk_alloc ?_ _)); exact BK449.out⟩
   have n8_ : Aside0 ((((w61.setCell ⟨gb459, 0, none⟩ (.string t455)).setCell ⟨gb459, 1, none⟩ (.string t456)).setCell ⟨gb459, 2, none⟩ (.int .i64 t457)).heap[gb454]? = some (.cells #[.string t450, .string t451, .int .i64 t452] 31 (0, 0))) := ⟨by (with_reducible repeat (first | refine blk_drewN ?_ _ | refine blk_drew ?_ | refine blk_alloc ?_ _)); refine blk_far ?_ NB454_459.out _; (with_reducible repeat (first | refine blk_drewN ?_ _ | refine blk_drew ?_ | refine blk_alloc ?_ _)); refine blk_far ?_ NB454_459.out _; (with_reducible repeat (first | refine blk_drewN ?_ _ | refine blk_drew ?_ | refine blk_alloc ?_ _)); refine blk_far ?_ NB454_459.out _; (with_reducible repeat (first | refine blk_drewN ?_ _ | refine blk_drew ?_ | refine blk_alloc ?_ _)); exact BK454.out⟩
   have n9_ : Aside0 ((((w61.setCell ⟨gb459, 0, none⟩ (.string t455)).setCell ⟨gb459, 1, none⟩ (.string t456)).setCell ⟨gb459, 2, none⟩ (.int .i64 t457)).heap[gb459]? = some (.cells #[.string t455, .string t456, .int .i64 t457] 31 (0, 0))) := ⟨by (with_reducible repeat (first | refine blk_drewN ?_ _ | refine blk_drew ?_ | refine blk_alloc ?_ _)); refine blk_put (cs := #[.string t455, .string t456, .int .i64 0]) ?_ 2 _ rfl; (with_reducible repeat (first | refine blk_drewN ?_ _ | refine blk_drew ?_ | refine blk_alloc ?_ _)); refine blk_put (cs := #[.string t455, .string (⟨#[]⟩ : ByteArray), .int .i64 0]) ?_ 1 _ rfl; (with_reducible repeat (first | refine blk_drewN ?_ _ | refine blk_drew ?_ | refine blk_alloc ?_ _)); refine blk_put (cs := #[.string (⟨#[]⟩ : ByteArray), .string (⟨#[]⟩ : ByteArray), .int .i64 0]) ?_ 0 _ rfl; (with_reducible repeat (first | refine blk_drewN ?_ _ | refine blk_drew ?_ | refine blk_alloc ?_ _)); exact BK459.out⟩
   have n10_ : Aside0 (Below w.heap.size w (((w61.setCell ⟨gb459, 0, none⟩ (.string t455)).setCell ⟨gb459, 1, none⟩ (.string t456)).setCell ⟨gb459, 2, none⟩ (.int .i64 t457))) := ⟨by repeat (first | (with_reducible first | exact HB.out | apply below_alloc | apply pw_below_drewN | apply below_drew1 | refine below_set ?_ GE421.out | refine below_set ?_ GE428.out | refine below_set ?_ GE439.out | refine below_set ?_ GE448.out | refine below_set ?_ GE449.out | refine below_set ?_ GE454.out | refine below_set ?_ GE459.out) | exact HB.out)⟩
   (try clear HO424)
   (try clear HO435)
   (try clear HO442)
   (try clear BK421)
   (try clear BK428)
   (try clear BK439)
   (try clear BK448)
   (try clear BK449)
   (try clear BK454)
   (try clear BK459)
   (try clear HB)
   generalize (((w61.setCell ⟨gb459, 0, none⟩ (.string t455)).setCell ⟨gb459, 1, none⟩ (.string t456)).setCell ⟨gb459, 2, none⟩ (.int .i64 t457)) = w72 at n0_ n1_ n2_ n3_ n4_ n5_ n6_ n7_ n8_ n9_ n10_ ⊢
   have HO424 := n0_
   have HO435 := n1_
   have HO442 := n2_
   have BK421 := n3_
   have BK428 := n4_
   have BK439 := n5_
   have BK448 := n6_
   have BK449 := n7_
   have BK454 := n8_
   have BK459 := n9_
   have HB := n10_
   clear n0_ n1_ n2_ n3_ n4_ n5_ n6_ n7_ n8_ n9_ n10_
   have n_ := And.intro (Aside0.mk (Kd.R_drew HO424.out)) (And.intro (Aside0.mk (Kd.R_drew HO435.out)) (And.intro (Aside0.mk (Kd.R_drew HO442.out)) (And.intro (Aside0.mk (blk_drew BK421.out)) (And.intro (Aside0.mk (blk_drew BK428.out)) (And.intro (Aside0.mk (blk_drew BK439.out)) (And.intro (Aside0.mk (blk_drew BK448.out)) (And.intro (Aside0.mk (blk_drew BK449.out)) (And.intro (Aside0.mk (blk_drew BK454.out)) (And.intro (Aside0.mk (blk_drew BK459.out)) (Aside0.mk (below_drew1 HB.out)))))))))))
   clear HO424 HO435 HO442 BK421 BK428 BK439 BK448 BK449 BK454 BK459 HB; obtain ⟨HO424, HO435, HO442, BK421, BK428, BK439, BK448, BK449, BK454, BK459, HB⟩ := n_
   refine start_ (n := 32) (S := fun w' => w'.cell? ⟨gb421, 0, none⟩ = some (.string t419) ∧ w'.cell? ⟨gb421, 1, none⟩ = some (.string t420)) (ds := []) (bm 32 0) (by kernel_rfl) rfl rfl ⟨(blk_cell BK421.out 0).trans rfl, (blk_cell BK421.out 1).trans rfl⟩ (fun hHeld => ?_); refine with_tabW laws_FnLogs.tab11 laws_FnLogs.bits11 (fun HT_ HW_ => ?_)
   generalize w72.drew = w73 at HO424 HO435 HO442 BK421 BK428 BK439 BK448 BK449 BK454 BK459 HB hHeld ⊢
   refine take_ (i := 0) (N := some 72) (v := ?_) (a' := ?_) (bm 32 1) rfl rfl (take_ofW HT_.out HW_.out (by kernel_rfl)) (fun _ _ _ h => h) (Or.inl ⟨by rfl, ?_⟩) hHeld ?_ ?_
   rotate_left
   ·rintro w' ⟨s0, s1⟩
    go_simp
    with_reducible rfl
   rotate_left
   ·simp only [Act.put, List.setIfInBounds_toArray, List.set_cons_zero, List.set_cons_succ, i64_w, i32_w]
    rfl
   refine take_ (i := 2) (N := some 74) (v := ?_) (a' := ?_) (bm 32 5) rfl rfl (take_ofW HT_.out HW_.out (by kernel_rfl)) (fun _ _ _ h => h) (Or.inl ⟨by rfl, ?_⟩) hHeld ?_ ?_
   rotate_left
   ·rintro w' ⟨s0, s1⟩
    go_simp
    with_reducible rfl
   rotate_left
   ·simp only [Act.put, List.setIfInBounds_toArray, List.set_cons_zero, List.set_cons_succ, i64_w, i32_w]
    rfl
   refine one_ (i := 1) (N := some 73) (bm 32 7) rfl rfl (one_of HT_.out (by kernel_rfl)) (by decide) (fun K hK => ?_)
   refine goes_ Tryd.func40 (by kernel_rfl) rfl #[.agg #[.string t419, .string t420]] (by rfl) rfl rfl (by (try simp only [List.map_toArray, List.map_cons, List.map_nil]); first | done | rfl | (simp only [List.length_drop, List.length_take]; rfl)) ?_
   with_reducible refine (impl_IsValidRecord.calls kj2 t419 t420 t460 _ A69.out).mono ?_
   rintro e w74 ⟨rfl, hb⟩
   refine ⟨_, rfl, ?_⟩
   have n_ := And.intro (Aside0.mk (Kd.R_below (rk_ HO424) hb)) (And.intro (Aside0.mk (Kd.R_below (rk_ HO435) hb)) (And.intro (Aside0.mk (Kd.R_below (rk_ HO442) hb)) (And.intro (Aside0.mk (bb_ BK421 hb)) (And.intro (Aside0.mk (bb_ BK428 hb)) (And.intro (Aside0.mk (bb_ BK439 hb)) (And.intro (Aside0.mk (bb_ BK448 hb)) (And.intro (Aside0.mk (bb_ BK449 hb)) (And.intro (Aside0.mk (bb_ BK454 hb)) (And.intro (Aside0.mk (bb_ BK459 hb)) (Aside0.mk (below_step bg_ hb)))))))))))
   clear HO424 HO435 HO442 BK421 BK428 BK439 BK448 BK449 BK454 BK459 HB; obtain ⟨HO424, HO435, HO442, BK421, BK428, BK439, BK448, BK449, BK454, BK459, HB⟩ := n_
   (try clear hb)
   (try clear hb2)
   (try clear hk)
   (try clear hi)
   refine hK.out _ _ ⟨(blk_cell BK421.out 0).trans rfl, (blk_cell BK421.out 1).trans rfl⟩ (fun hHeld => ?_)
   clear hK K
   refine norm_ (a' := ?_) ?_ ?_
   rotate_left
   ·show Act.put _ (some 73) _ = _
    simp only [Act.put, List.setIfInBounds_toArray, List.set_cons_zero, List.set_cons_succ, i64_w, i32_w]
    rfl
   refine one_ (i := 3) (N := some 75) (bm 32 15) rfl rfl (one_of HT_.out (by kernel_rfl)) (by decide) (fun K hK => ?_)
   refine goes_ Tryd.func41 (by kernel_rfl) rfl #[.agg #[.string t419, .string t420]] (by rfl) rfl rfl (by (try simp only [List.map_toArray, List.map_cons, List.map_nil]); first | done | rfl | (simp only [List.length_drop, List.length_take]; rfl)) ?_
   with_reducible refine (spec_IsValidRecord.calls kj2 t419 t420 t461 _ A70.out).mono ?_
   rintro e w75 ⟨rfl, hb⟩
   refine ⟨_, rfl, ?_⟩
   have n_ := And.intro (Aside0.mk (Kd.R_below (rk_ HO424) hb)) (And.intro (Aside0.mk (Kd.R_below (rk_ HO435) hb)) (And.intro (Aside0.mk (Kd.R_below (rk_ HO442) hb)) (And.intro (Aside0.mk (bb_ BK421 hb)) (And.intro (Aside0.mk (bb_ BK428 hb)) (And.intro (Aside0.mk (bb_ BK439 hb)) (And.intro (Aside0.mk (bb_ BK448 hb)) (And.intro (Aside0.mk (bb_ BK449 hb)) (And.intro (Aside0.mk (bb_ BK454 hb)) (And.intro (Aside0.mk (bb_ BK459 hb)) (Aside0.mk (below_step bg_ hb)))))))))))
   clear HO424 HO435 HO442 BK421 BK428 BK439 BK448 BK449 BK454 BK459 HB; obtain ⟨HO424, HO435, HO442, BK421, BK428, BK439, BK448, BK449, BK454, BK459, HB⟩ := n_
   (try clear hb)
   (try clear hb2)
   (try clear hk)
   (try clear hi)
   refine hK.out _ _ ⟨(blk_cell BK421.out 0).trans rfl, (blk_cell BK421.out 1).trans rfl⟩ (fun hHeld => ?_)
   clear hK K
   refine norm_ (a' := ?_) ?_ ?_
   rotate_left
   ·show Act.put _ (some 75) _ = _
    simp only [Act.put, List.setIfInBounds_toArray, List.set_cons_zero, List.set_cons_succ, i64_w, i32_w]
    rfl
   refine pa_ 4 (some 76) (bm 32 31) rfl rfl HT_.out ?_
   refine pa_ 5 (some 77) (bm 32 63) rfl rfl HT_.out ?_
   refine pu_ 6 (some 78) (bm 32 127) rfl rfl HT_.out ?_
   refine pu_ 7 (some 79) (bm 32 255) rfl rfl HT_.out ?_
   refine pu_ 8 (some 80) (bm 32 511) rfl rfl HT_.out ?_
   refine pa_ 9 (some 81) (bm 32 1023) rfl rfl HT_.out ?_
   refine pa_ 10 (some 82) (bm 32 2047) rfl rfl HT_.out ?_
   refine pu_ 11 (some 83) (bm 32 4095) rfl rfl HT_.out ?_
   refine pu_ 12 (some 84) (bm 32 8191) rfl rfl HT_.out ?_
   refine pu_ 13 (some 85) (bm 32 16383) rfl rfl HT_.out ?_
   refine pa_ 14 (some 86) (bm 32 32767) rfl rfl HT_.out ?_
   refine pa_ 15 (some 87) (bm 32 65535) rfl rfl HT_.out ?_
   refine pu_ 16 (some 88) (bm 32 131071) rfl rfl HT_.out ?_
   refine pu_ 17 (some 89) (bm 32 262143) rfl rfl HT_.out ?_
   refine pu_ 18 (some 90) (bm 32 524287) rfl rfl HT_.out ?_
   refine pu_ 19 (some 91) (bm 32 1048575) rfl rfl HT_.out ?_
   refine pu_ 20 (some 92) (bm 32 2097151) rfl rfl HT_.out ?_
   refine pa_ 21 (some 93) (bm 32 4194303) rfl rfl HT_.out ?_
   refine pa_ 22 (some 94) (bm 32 8388607) rfl rfl HT_.out ?_
   refine pu_ 23 (some 95) (bm 32 16777215) rfl rfl HT_.out ?_
   refine pu_ 24 (some 96) (bm 32 33554431) rfl rfl HT_.out ?_
   refine pu_ 25 (some 97) (bm 32 67108863) rfl rfl HT_.out ?_
   refine pa_ 26 (some 98) (bm 32 134217727) rfl rfl HT_.out ?_
   refine pa_ 27 (some 99) (bm 32 268435455) rfl rfl HT_.out ?_
   refine pu_ 28 (some 100) (bm 32 536870911) rfl rfl HT_.out ?_
   refine pu_ 29 (some 101) (bm 32 1073741823) rfl rfl HT_.out ?_
   refine pu_ 30 (some 102) (bm 32 2147483647) rfl rfl HT_.out ?_
   refine pa_ 31 (some 103) (bm 32 4294967295) rfl rfl HT_.out ?_
   refine done_ (done_of HT_.out (by kernel_rfl)) ?_
   try go_wp2
   go_meet
   case rel => exact ⟨_, (true), (by first | rfl | (simp; done) | (simp [*]; done)), H', ⟨by have := HJ2.out; first | omega | exact Nat.le_refl _⟩, ⟨bk_ BK421⟩, ⟨bk_ BK428⟩, ⟨bk_ BK439⟩, ⟨bk_ BK448⟩, ⟨bk_ BK449⟩, ⟨bk_ BK454⟩, ⟨bk_ BK459⟩, ⟨by repeat (first | (with_reducible first | exact HB.out | apply below_alloc | apply pw_below_drewN | apply below_drew1 | refine below_set ?_ GE421.out | refine below_set ?_ GE428.out | refine below_set ?_ GE439.out | refine below_set ?_ GE448.out | refine below_set ?_ GE449.out | refine below_set ?_ GE454.out | refine below_set ?_ GE459.out) | exact HB.out)⟩⟩
  ·rw [if_neg c71] at H
   have c71b0 : (t460 != t461) = false := by simpa using c71
   (try (have c71b1 : decide (t460 = t461) = true := by simpa using c71))
   (try (have c71b2 : (t460 == t461) = true := by simpa using c71))
   clear c71
   (first | rw [c71b0] | (simp only [i64_w, i32_w]; rw [c71b0]) | skip)
   by_cases c76 : t429.toList = t431.toList
   ·rw [if_pos c76] at H
    have c76b0 : (t429.toList == t431.toList) = true := beq_iff_eq.mpr c76
    have c76b1 : (t429.toList != t431.toList) = false := bne_eq_false_iff_eq.mpr c76
    clear c76
    by_cases c77 : (t430 != t432) = true
    ·rw [if_pos c77] at H
     have c77b0 : (t430 != t432) = true := c77
     (try (have c77b1 : decide (t430 = t432) = false := by simpa using c77))
     (try (have c77b2 : (t430 == t432) = false := by simpa using c77))
     (try (have c77b3 : ¬ (t430 = t432) := by simpa using c77))
     clear c77
     have H' := Aside0.mk H
     clear H
     try go_wp2
     have n0_ : Aside0 (Kd.R (Kd.int .u8) 5 (((w61.setCell ⟨gb459, 0, none⟩ (.string t455)).setCell ⟨gb459, 1, none⟩ (.string t456)).setCell ⟨gb459, 2, none⟩ (.int .i64 t457)) w.heap.size (fun k_ => some k_ ≠ (.slice Ao30 t433.length co30 : Value).ownBlock ∧ some k_ ≠ (.slice Ao37 t440.length co37 : Value).ownBlock) (.slice Ao21 t422.length co21) t422) := ⟨by (with_reducible repeat (first | apply Kd.R_alloc | apply Kd.R_drewN | apply Kd.R_drew)); exact Kd.R_mono (Kd.R_far (p := ⟨gb459, 2, none⟩) (Kd.R_far (p := ⟨gb459, 1, none⟩) (Kd.R_far (p := ⟨gb459, 0, none⟩) (Kd.R_types HO424.out BK459.out (by decide)) (fun _ hk => hk.2) (.string t455)) (fun _ hk => hk.2) (.string t456)) (fun _ hk => hk.2) (.int .i64 t457)) (fun _ hk => ⟨hk.1.1.2, hk.1.2⟩)⟩
     have n1_ : Aside0 (Kd.R (Kd.int .u8) 5 (((w61.setCell ⟨gb459, 0, none⟩ (.string t455)).setCell ⟨gb459, 1, none⟩ (.string t456)).setCell ⟨gb459, 2, none⟩ (.int .i64 t457)) w.heap.size (fun k_ => some k_ ≠ (.slice Ao21 t422.length co21 : Value).ownBlock ∧ some k_ ≠ (.slice Ao37 t440.length co37 : Value).ownBlock) (.slice Ao30 t433.length co30) t433) := ⟨by (with_reducible repeat (first | apply Kd.R_alloc | apply Kd.R_drewN | apply Kd.R_drew)); exact Kd.R_mono (Kd.R_far (p := ⟨gb459, 2, none⟩) (Kd.R_far (p := ⟨gb459, 1, none⟩) (Kd.R_far (p := ⟨gb459, 0, none⟩) (Kd.R_types HO435.out BK459.out (by decide)) (fun _ hk => hk.2) (.string t455)) (fun _ hk => hk.2) (.string t456)) (fun _ hk => hk.2) (.int .i64 t457)) (fun _ hk => ⟨hk.1.1.2, hk.1.2⟩)⟩
     have n2_ : Aside0 (Kd.R (Kd.int .u8) 5 (((w61.setCell ⟨gb459, 0, none⟩ (.string t455)).setCell ⟨gb459, 1, none⟩ (.string t456)).setCell ⟨gb459, 2, none⟩ (.int .i64 t457)) w.heap.size (fun k_ => some k_ ≠ (.slice Ao21 t422.length co21 : Value).ownBlock ∧ some k_ ≠ (.slice Ao30 t433.length co30 : Value).ownBlock) (.slice Ao37 t440.length co37) t440) := ⟨by (with_reducible repeat (first | apply Kd.R_alloc | apply Kd.R_drewN | apply Kd.R_drew)); exact Kd.R_mono (Kd.R_far (p := ⟨gb459, 2, none⟩) (Kd.R_far (p := ⟨gb459, 1, none⟩) (Kd.R_far (p := ⟨gb459, 0, none⟩) (Kd.R_types HO442.out BK459.out (by decide)) (fun _ hk => hk.2) (.string t455)) (fun _ hk => hk.2) (.string t456)) (fun _ hk => hk.2) (.int .i64 t457)) (fun _ hk => ⟨hk.1.1.2, hk.1.2⟩)⟩
     have n3_ : Aside0 ((((w61.setCell ⟨gb459, 0, none⟩ (.string t455)).setCell ⟨gb459, 1, none⟩ (.string t456)).setCell ⟨gb459, 2, none⟩ (.int .i64 t457)).heap[gb421]? = some (.cells #[.string t419, .string t420] 27 (0, 0))) := ⟨by (with_reducible repeat (first | refine blk_drewN ?_ _ | refine blk_drew ?_ | refine blk_alloc ?_ _)); refine blk_far ?_ NB421_459.out _; (with_reducible repeat (first | refine blk_drewN ?_ _ | refine blk_drew ?_ | refine blk_alloc ?_ _)); refine blk_far ?_ NB421_459.out _; (with_reducible repeat (first | refine blk_drewN ?_ _ | refine blk_drew ?_ | refine blk_alloc ?_ _)); refine blk_far ?_ NB421_459.out _; (with_reducible repeat (first | refine blk_drewN ?_ _ | refine blk_drew ?_ | refine blk_alloc ?_ _)); exact BK421.out⟩
     have n4_ : Aside0 ((((w61.setCell ⟨gb459, 0, none⟩ (.string t455)).setCell ⟨gb459, 1, none⟩ (.string t456)).setCell ⟨gb459, 2, none⟩ (.int .i64 t457)).heap[gb428]? = some (.cells #[.string t426, .string t427] 27 (0, 0))) := ⟨by (with_reducible repeat (first | refine blk_drewN ?_ _ | refine blk_drew ?_ | refine blk_alloc ?_ _)); refine blk_far ?_ NB428_459.out _; (with_reducible repeat (first | refine blk_drewN ?_ _ | refine blk_drew ?_ | refine blk_alloc ?_ _)); refine blk_far ?_ NB428_459.out _; (with_reducible repeat (first | refine blk_drewN ?_ _ | refine blk_drew ?_ | refine blk_alloc ?_ _)); refine blk_far ?_ NB428_459.out _; (with_reducible repeat (first | refine blk_drewN ?_ _ | refine blk_drew ?_ | refine blk_alloc ?_ _)); exact BK428.out⟩
     have n5_ : Aside0 ((((w61.setCell ⟨gb459, 0, none⟩ (.string t455)).setCell ⟨gb459, 1, none⟩ (.string t456)).setCell ⟨gb459, 2, none⟩ (.int .i64 t457)).heap[gb439]? = some (.cells #[.string t436, .string t437, .int .i64 t438] 31 (0, 0))) := ⟨by (with_reducible repeat (first | refine blk_drewN ?_ _ | refine blk_drew ?_ | refine blk_alloc ?_ _)); refine blk_far ?_ NB439_459.out _; (with_reducible repeat (first | refine blk_drewN ?_ _ | refine blk_drew ?_ | refine blk_alloc ?_ _)); refine blk_far ?_ NB439_459.out _; (with_reducible repeat (first | refine blk_drewN ?_ _ | refine blk_drew ?_ | refine blk_alloc ?_ _)); refine blk_far ?_ NB439_459.out _; (with_reducible repeat (first | refine blk_drewN ?_ _ | refine blk_drew ?_ | refine blk_alloc ?_ _)); exact BK439.out⟩
     have n6_ : Aside0 ((((w61.setCell ⟨gb459, 0, none⟩ (.string t455)).setCell ⟨gb459, 1, none⟩ (.string t456)).setCell ⟨gb459, 2, none⟩ (.int .i64 t457)).heap[gb448]? = some (.cells #[.string t443, .string t444, .int .i64 t445] 31 (0, 0))) := ⟨by (with_reducible repeat (first | refine blk_drewN ?_ _ | refine blk_drew ?_ | refine blk_alloc ?_ _)); refine blk_far ?_ NB448_459.out _; (with_reducible repeat (first | refine blk_drewN ?_ _ | refine blk_drew ?_ | refine blk_alloc ?_ _)); refine blk_far ?_ NB448_459.out _; (with_reducible repeat (first | refine blk_drewN ?_ _ | refine blk_drew ?_ | refine blk_alloc ?_ _)); refine blk_far ?_ NB448_459.out _; (with_reducible repeat (first | refine blk_drewN ?_ _ | refine blk_drew ?_ | refine blk_alloc ?_ _)); exact BK448.out⟩
     have n7_ : Aside0 ((((w61.setCell ⟨gb459, 0, none⟩ (.string t455)).setCell ⟨gb459, 1, none⟩ (.string t456)).setCell ⟨gb459, 2, none⟩ (.int .i64 t457)).heap[gb449]? = some (.cells #[.string t446, .string t447] 27 (0, 0))) := ⟨by (with_reducible repeat (first | refine blk_drewN ?_ _ | refine blk_drew ?_ | refine blk_alloc ?_ _)); refine blk_far ?_ NB449_459.out _; (with_reducible repeat (first | refine blk_drewN ?_ _ | refine blk_drew ?_ | refine blk_alloc ?_ _)); refine blk_far ?_ NB449_459.out _; (with_reducible repeat (first | refine blk_drewN ?_ _ | refine blk_drew ?_ | refine blk_alloc ?_ _)); refine blk_far ?_ NB449_459.out _; (with_reducible repeat (first | refine blk_drewN ?_ _ | refine blk_drew ?_ | refine blk_alloc ?_ _)); exact BK449.out⟩
     have n8_ : Aside0 ((((w61.setCell ⟨gb459, 0, none⟩ (.string t455)).setCell ⟨gb459, 1, none⟩ (.string t456)).setCell ⟨gb459, 2, none⟩ (.int .i64 t457)).heap[gb454]? = some (.cells #[.string t450, .string t451, .int .i64 t452] 31 (0, 0))) := ⟨by (with_reducible repeat (first | refine blk_drewN ?_ _ | refine blk_drew ?_ | refine blk_alloc ?_ _)); refine blk_far ?_ NB454_459.out _; (with_reducible repeat (first | refine blk_drewN ?_ _ | refine blk_drew ?_ | refine blk_alloc ?_ _)); refine blk_far ?_ NB454_459.out _; (with_reducible repeat (first | refine blk_drewN ?_ _ | refine blk_drew ?_ | refine blk_alloc ?_ _)); refine blk_far ?_ NB454_459.out _; (with_reducible repeat (first | refine blk_drewN ?_ _ | refine blk_drew ?_ | refine blk_alloc ?_ _)); exact BK454.out⟩
     have n9_ : Aside0 ((((w61.setCell ⟨gb459, 0, none⟩ (.string t455)).setCell ⟨gb459, 1, none⟩ (.string t456)).setCell ⟨gb459, 2, none⟩ (.int .i64 t457)).heap[gb459]? = some (.cells #[.string t455, .string t456, .int .i64 t457] 31 (0, 0))) := ⟨by (with_reducible repeat (first | refine blk_drewN ?_ _ | refine blk_drew ?_ | refine blk_alloc ?_ _)); refine blk_put (cs := #[.string t455, .string t456, .int .i64 0]) ?_ 2 _ rfl; (with_reducible repeat (first | refine blk_drewN ?_ _ | refine blk_drew ?_ | refine blk_alloc ?_ _)); refine blk_put (cs := #[.string t455, .string (⟨#[]⟩ : ByteArray), .int .i64 0]) ?_ 1 _ rfl; (with_reducible repeat (first | refine blk_drewN ?_ _ | refine blk_drew ?_ | refine blk_alloc ?_ _)); refine blk_put (cs := #[.string (⟨#[]⟩ : ByteArray), .string (⟨#[]⟩ : ByteArray), .int .i64 0]) ?_ 0 _ rfl; (with_reducible repeat (first | refine blk_drewN ?_ _ | refine blk_drew ?_ | refine blk_alloc ?_ _)); exact BK459.out⟩
     have n10_ : Aside0 (Below w.heap.size w (((w61.setCell ⟨gb459, 0, none⟩ (.string t455)).setCell ⟨gb459, 1, none⟩ (.string t456)).setCell ⟨gb459, 2, none⟩ (.int .i64 t457))) := ⟨by repeat (first | (with_reducible first | exact HB.out | apply below_alloc | apply pw_below_drewN | apply below_drew1 | refine below_set ?_ GE421.out | refine below_set ?_ GE428.out | refine below_set ?_ GE439.out | refine below_set ?_ GE448.out | refine below_set ?_ GE449.out | refine below_set ?_ GE454.out | refine below_set ?_ GE459.out) | exact HB.out)⟩
     (try clear HO424)
     (try clear HO435)
     (try clear HO442)
     (try clear BK421)
     (try clear BK428)
     (try clear BK439)
     (try clear BK448)
     (try clear BK449)
     (try clear BK454)
     (try clear BK459)
     (try clear HB)
     generalize (((w61.setCell ⟨gb459, 0, none⟩ (.string t455)).setCell ⟨gb459, 1, none⟩ (.string t456)).setCell ⟨gb459, 2, none⟩ (.int .i64 t457)) = w78 at n0_ n1_ n2_ n3_ n4_ n5_ n6_ n7_ n8_ n9_ n10_ ⊢
     have HO424 := n0_
     have HO435 := n1_
     have HO442 := n2_
     have BK421 := n3_
     have BK428 := n4_
     have BK439 := n5_
     have BK448 := n6_
     have BK449 := n7_
     have BK454 := n8_
     have BK459 := n9_
     have HB := n10_
     clear n0_ n1_ n2_ n3_ n4_ n5_ n6_ n7_ n8_ n9_ n10_
     have n_ := And.intro (Aside0.mk (Kd.R_drew HO424.out)) (And.intro (Aside0.mk (Kd.R_drew HO435.out)) (And.intro (Aside0.mk (Kd.R_drew HO442.out)) (And.intro (Aside0.mk (blk_drew BK421.out)) (And.intro (Aside0.mk (blk_drew BK428.out)) (And.intro (Aside0.mk (blk_drew BK439.out)) (And.intro (Aside0.mk (blk_drew BK448.out)) (And.intro (Aside0.mk (blk_drew BK449.out)) (And.intro (Aside0.mk (blk_drew BK454.out)) (And.intro (Aside0.mk (blk_drew BK459.out)) (Aside0.mk (below_drew1 HB.out)))))))))))
     clear HO424 HO435 HO442 BK421 BK428 BK439 BK448 BK449 BK454 BK459 HB; obtain ⟨HO424, HO435, HO442, BK421, BK428, BK439, BK448, BK449, BK454, BK459, HB⟩ := n_
     refine start_ (n := 32) (S := fun w' => w'.cell? ⟨gb421, 0, none⟩ = some (.string t419) ∧ w'.cell? ⟨gb421, 1, none⟩ = some (.string t420)) (ds := []) (bm 32 0) (by kernel_rfl) rfl rfl ⟨(blk_cell BK421.out 0).trans rfl, (blk_cell BK421.out 1).trans rfl⟩ (fun hHeld => ?_); refine with_tabW laws_FnLogs.tab11 laws_FnLogs.bits11 (fun HT_ HW_ => ?_)
     generalize w78.drew = w79 at HO424 HO435 HO442 BK421 BK428 BK439 BK448 BK449 BK454 BK459 HB hHeld ⊢
     refine take_ (i := 0) (N := some 72) (v := ?_) (a' := ?_) (bm 32 1) rfl rfl (take_ofW HT_.out HW_.out (by kernel_rfl)) (fun _ _ _ h => h) (Or.inl ⟨by rfl, ?_⟩) hHeld ?_ ?_
     rotate_left
     ·rintro w' ⟨s0, s1⟩
      go_simp
      with_reducible rfl
     rotate_left
     ·simp only [Act.put, List.setIfInBounds_toArray, List.set_cons_zero, List.set_cons_succ, i64_w, i32_w]
      rfl
     refine take_ (i := 2) (N := some 74) (v := ?_) (a' := ?_) (bm 32 5) rfl rfl (take_ofW HT_.out HW_.out (by kernel_rfl)) (fun _ _ _ h => h) (Or.inl ⟨by rfl, ?_⟩) hHeld ?_ ?_
     rotate_left
     ·rintro w' ⟨s0, s1⟩
      go_simp
      with_reducible rfl
     rotate_left
     ·simp only [Act.put, List.setIfInBounds_toArray, List.set_cons_zero, List.set_cons_succ, i64_w, i32_w]
      rfl
     refine one_ (i := 1) (N := some 73) (bm 32 7) rfl rfl (one_of HT_.out (by kernel_rfl)) (by decide) (fun K hK => ?_)
     refine goes_ Tryd.func40 (by kernel_rfl) rfl #[.agg #[.string t419, .string t420]] (by rfl) rfl rfl (by (try simp only [List.map_toArray, List.map_cons, List.map_nil]); first | done | rfl | (simp only [List.length_drop, List.length_take]; rfl)) ?_
     with_reducible refine (impl_IsValidRecord.calls kj2 t419 t420 t460 _ A69.out).mono ?_
     rintro e w80 ⟨rfl, hb⟩
     refine ⟨_, rfl, ?_⟩
     have n_ := And.intro (Aside0.mk (Kd.R_below (rk_ HO424) hb)) (And.intro (Aside0.mk (Kd.R_below (rk_ HO435) hb)) (And.intro (Aside0.mk (Kd.R_below (rk_ HO442) hb)) (And.intro (Aside0.mk (bb_ BK421 hb)) (And.intro (Aside0.mk (bb_ BK428 hb)) (And.intro (Aside0.mk (bb_ BK439 hb)) (And.intro (Aside0.mk (bb_ BK448 hb)) (And.intro (Aside0.mk (bb_ BK449 hb)) (And.intro (Aside0.mk (bb_ BK454 hb)) (And.intro (Aside0.mk (bb_ BK459 hb)) (Aside0.mk (below_step bg_ hb)))))))))))
     clear HO424 HO435 HO442 BK421 BK428 BK439 BK448 BK449 BK454 BK459 HB; obtain ⟨HO424, HO435, HO442, BK421, BK428, BK439, BK448, BK449, BK454, BK459, HB⟩ := n_
     (try clear hb)
     (try clear hb2)
     (try clear hk)
     (try clear hi)
     refine hK.out _ _ ⟨(blk_cell BK421.out 0).trans rfl, (blk_cell BK421.out 1).trans rfl⟩ (fun hHeld => ?_)
     clear hK K
     refine norm_ (a' := ?_) ?_ ?_
     rotate_left
     ·show Act.put _ (some 73) _ = _
      simp only [Act.put, List.setIfInBounds_toArray, List.set_cons_zero, List.set_cons_succ, i64_w, i32_w]
      rfl
     refine one_ (i := 3) (N := some 75) (bm 32 15) rfl rfl (one_of HT_.out (by kernel_rfl)) (by decide) (fun K hK => ?_)
     refine goes_ Tryd.func41 (by kernel_rfl) rfl #[.agg #[.string t419, .string t420]] (by rfl) rfl rfl (by (try simp only [List.map_toArray, List.map_cons, List.map_nil]); first | done | rfl | (simp only [List.length_drop, List.length_take]; rfl)) ?_
     with_reducible refine (spec_IsValidRecord.calls kj2 t419 t420 t461 _ A70.out).mono ?_
     rintro e w81 ⟨rfl, hb⟩
     refine ⟨_, rfl, ?_⟩
     have n_ := And.intro (Aside0.mk (Kd.R_below (rk_ HO424) hb)) (And.intro (Aside0.mk (Kd.R_below (rk_ HO435) hb)) (And.intro (Aside0.mk (Kd.R_below (rk_ HO442) hb)) (And.intro (Aside0.mk (bb_ BK421 hb)) (And.intro (Aside0.mk (bb_ BK428 hb)) (And.intro (Aside0.mk (bb_ BK439 hb)) (And.intro (Aside0.mk (bb_ BK448 hb)) (And.intro (Aside0.mk (bb_ BK449 hb)) (And.intro (Aside0.mk (bb_ BK454 hb)) (And.intro (Aside0.mk (bb_ BK459 hb)) (Aside0.mk (below_step bg_ hb)))))))))))
     clear HO424 HO435 HO442 BK421 BK428 BK439 BK448 BK449 BK454 BK459 HB; obtain ⟨HO424, HO435, HO442, BK421, BK428, BK439, BK448, BK449, BK454, BK459, HB⟩ := n_
     (try clear hb)
     (try clear hb2)
     (try clear hk)
     (try clear hi)
     refine hK.out _ _ ⟨(blk_cell BK421.out 0).trans rfl, (blk_cell BK421.out 1).trans rfl⟩ (fun hHeld => ?_)
     clear hK K
     refine norm_ (a' := ?_) ?_ ?_
     rotate_left
     ·show Act.put _ (some 75) _ = _
      simp only [Act.put, List.setIfInBounds_toArray, List.set_cons_zero, List.set_cons_succ, i64_w, i32_w]
      rfl
     refine pa_ 4 (some 76) (bm 32 31) rfl rfl HT_.out ?_
     refine pa_ 5 (some 77) (bm 32 63) rfl rfl HT_.out ?_
     refine pa_ 6 (some 78) (bm 32 127) rfl rfl HT_.out ?_
     refine pa_ 7 (some 79) (bm 32 255) rfl rfl HT_.out ?_
     refine pa_ 8 (some 80) (bm 32 511) rfl rfl HT_.out ?_
     refine pa_ 9 (some 81) (bm 32 1023) rfl rfl HT_.out ?_
     refine pa_ 10 (some 82) (bm 32 2047) rfl rfl HT_.out ?_
     refine pa_ 11 (some 83) (bm 32 4095) rfl rfl HT_.out ?_
     refine pa_ 12 (some 84) (bm 32 8191) rfl rfl HT_.out ?_
     refine pa_ 13 (some 85) (bm 32 16383) rfl rfl HT_.out ?_
     refine pa_ 14 (some 86) (bm 32 32767) rfl rfl HT_.out ?_
     refine pa_ 15 (some 87) (bm 32 65535) rfl rfl HT_.out ?_
     refine pu_ 16 (some 88) (bm 32 131071) rfl rfl HT_.out ?_
     refine pu_ 17 (some 89) (bm 32 262143) rfl rfl HT_.out ?_
     refine pu_ 18 (some 90) (bm 32 524287) rfl rfl HT_.out ?_
     refine pu_ 19 (some 91) (bm 32 1048575) rfl rfl HT_.out ?_
     refine pu_ 20 (some 92) (bm 32 2097151) rfl rfl HT_.out ?_
     refine pa_ 21 (some 93) (bm 32 4194303) rfl rfl HT_.out ?_
     refine pa_ 22 (some 94) (bm 32 8388607) rfl rfl HT_.out ?_
     refine pu_ 23 (some 95) (bm 32 16777215) rfl rfl HT_.out ?_
     refine pu_ 24 (some 96) (bm 32 33554431) rfl rfl HT_.out ?_
     refine pu_ 25 (some 97) (bm 32 67108863) rfl rfl HT_.out ?_
     refine pa_ 26 (some 98) (bm 32 134217727) rfl rfl HT_.out ?_
     refine pa_ 27 (some 99) (bm 32 268435455) rfl rfl HT_.out ?_
     refine pu_ 28 (some 100) (bm 32 536870911) rfl rfl HT_.out ?_
     refine pu_ 29 (some 101) (bm 32 1073741823) rfl rfl HT_.out ?_
     refine pu_ 30 (some 102) (bm 32 2147483647) rfl rfl HT_.out ?_
     refine pa_ 31 (some 103) (bm 32 4294967295) rfl rfl HT_.out ?_
     refine done_ (done_of HT_.out (by kernel_rfl)) ?_
     try go_wp2
     go_meet
     case rel => exact ⟨_, (true), (by first | rfl | (simp; done) | (simp [*]; done)), H', ⟨by have := HJ2.out; first | omega | exact Nat.le_refl _⟩, ⟨bk_ BK421⟩, ⟨bk_ BK428⟩, ⟨bk_ BK439⟩, ⟨bk_ BK448⟩, ⟨bk_ BK449⟩, ⟨bk_ BK454⟩, ⟨bk_ BK459⟩, ⟨by repeat (first | (with_reducible first | exact HB.out | apply below_alloc | apply pw_below_drewN | apply below_drew1 | refine below_set ?_ GE421.out | refine below_set ?_ GE428.out | refine below_set ?_ GE439.out | refine below_set ?_ GE448.out | refine below_set ?_ GE449.out | refine below_set ?_ GE454.out | refine below_set ?_ GE459.out) | exact HB.out)⟩⟩
    ·rw [if_neg c77] at H
     have c77b0 : (t430 != t432) = false := by simpa using c77
     (try (have c77b1 : decide (t430 = t432) = true := by simpa using c77))
     (try (have c77b2 : (t430 == t432) = true := by simpa using c77))
     clear c77
     replace H := Option.bind_eq_some_iff.mp H
     obtain ⟨t462, A820, H⟩ := H
     (try dsimp only at H)
     have A82 := Aside0.mk A820
     clear A820
     replace H := Option.bind_eq_some_iff.mp H
     obtain ⟨t463, A830, H⟩ := H
     (try dsimp only at H)
     have A83 := Aside0.mk A830
     clear A830
     by_cases c84 : (t462 != t463) = true
     ·rw [if_pos c84] at H
      have c84b0 : (t462 != t463) = true := c84
      (try (have c84b1 : decide (t462 = t463) = false := by simpa using c84))
      (try (have c84b2 : (t462 == t463) = false := by simpa using c84))
      (try (have c84b3 : ¬ (t462 = t463) := by simpa using c84))
      clear c84
      have H' := Aside0.mk H
      clear H
      try go_wp2
      have n0_ : Aside0 (Kd.R (Kd.int .u8) 5 (((w61.setCell ⟨gb459, 0, none⟩ (.string t455)).setCell ⟨gb459, 1, none⟩ (.string t456)).setCell ⟨gb459, 2, none⟩ (.int .i64 t457)) w.heap.size (fun k_ => some k_ ≠ (.slice Ao30 t433.length co30 : Value).ownBlock ∧ some k_ ≠ (.slice Ao37 t440.length co37 : Value).ownBlock) (.slice Ao21 t422.length co21) t422) := ⟨by (with_reducible repeat (first | apply Kd.R_alloc | apply Kd.R_drewN | apply Kd.R_drew)); exact Kd.R_mono (Kd.R_far (p := ⟨gb459, 2, none⟩) (Kd.R_far (p := ⟨gb459, 1, none⟩) (Kd.R_far (p := ⟨gb459, 0, none⟩) (Kd.R_types HO424.out BK459.out (by decide)) (fun _ hk => hk.2) (.string t455)) (fun _ hk => hk.2) (.string t456)) (fun _ hk => hk.2) (.int .i64 t457)) (fun _ hk => ⟨hk.1.1.2, hk.1.2⟩)⟩
      have n1_ : Aside0 (Kd.R (Kd.int .u8) 5 (((w61.setCell ⟨gb459, 0, none⟩ (.string t455)).setCell ⟨gb459, 1, none⟩ (.string t456)).setCell ⟨gb459, 2, none⟩ (.int .i64 t457)) w.heap.size (fun k_ => some k_ ≠ (.slice Ao21 t422.length co21 : Value).ownBlock ∧ some k_ ≠ (.slice Ao37 t440.length co37 : Value).ownBlock) (.slice Ao30 t433.length co30) t433) := ⟨by (with_reducible repeat (first | apply Kd.R_alloc | apply Kd.R_drewN | apply Kd.R_drew)); exact Kd.R_mono (Kd.R_far (p := ⟨gb459, 2, none⟩) (Kd.R_far (p := ⟨gb459, 1, none⟩) (Kd.R_far (p := ⟨gb459, 0, none⟩) (Kd.R_types HO435.out BK459.out (by decide)) (fun _ hk => hk.2) (.string t455)) (fun _ hk => hk.2) (.string t456)) (fun _ hk => hk.2) (.int .i64 t457)) (fun _ hk => ⟨hk.1.1.2, hk.1.2⟩)⟩
      have n2_ : Aside0 (Kd.R (Kd.int .u8) 5 (((w61.setCell ⟨gb459, 0, none⟩ (.string t455)).setCell ⟨gb459, 1, none⟩ (.string t456)).setCell ⟨gb459, 2, none⟩ (.int .i64 t457)) w.heap.size (fun k_ => some k_ ≠ (.slice Ao21 t422.length co21 : Value).ownBlock ∧ some k_ ≠ (.slice Ao30 t433.length co30 : Value).ownBlock) (.slice Ao37 t440.length co37) t440) := ⟨by (with_reducible repeat (first | apply Kd.R_alloc | apply Kd.R_drewN | apply Kd.R_drew)); exact Kd.R_mono (Kd.R_far (p := ⟨gb459, 2, none⟩) (Kd.R_far (p := ⟨gb459, 1, none⟩) (Kd.R_far (p := ⟨gb459, 0, none⟩) (Kd.R_types HO442.out BK459.out (by decide)) (fun _ hk => hk.2) (.string t455)) (fun _ hk => hk.2) (.string t456)) (fun _ hk => hk.2) (.int .i64 t457)) (fun _ hk => ⟨hk.1.1.2, hk.1.2⟩)⟩
      have n3_ : Aside0 ((((w61.setCell ⟨gb459, 0, none⟩ (.string t455)).setCell ⟨gb459, 1, none⟩ (.string t456)).setCell ⟨gb459, 2, none⟩ (.int .i64 t457)).heap[gb421]? = some (.cells #[.string t419, .string t420] 27 (0, 0))) := ⟨by (with_reducible repeat (first | refine blk_drewN ?_ _ | refine blk_drew ?_ | refine blk_alloc ?_ _)); refine blk_far ?_ NB421_459.out _; (with_reducible repeat (first | refine blk_drewN ?_ _ | refine blk_drew ?_ | refine blk_alloc ?_ _)); refine blk_far ?_ NB421_459.out _; (with_reducible repeat (first | refine blk_drewN ?_ _ | refine blk_drew ?_ | refine blk_alloc ?_ _)); refine blk_far ?_ NB421_459.out _; (with_reducible repeat (first | refine blk_drewN ?_ _ | refine blk_drew ?_ | refine blk_alloc ?_ _)); exact BK421.out⟩
      have n4_ : Aside0 ((((w61.setCell ⟨gb459, 0, none⟩ (.string t455)).setCell ⟨gb459, 1, none⟩ (.string t456)).setCell ⟨gb459, 2, none⟩ (.int .i64 t457)).heap[gb428]? = some (.cells #[.string t426, .string t427] 27 (0, 0))) := ⟨by (with_reducible repeat (first | refine blk_drewN ?_ _ | refine blk_drew ?_ | refine blk_alloc ?_ _)); refine blk_far ?_ NB428_459.out _; (with_reducible repeat (first | refine blk_drewN ?_ _ | refine blk_drew ?_ | refine blk_alloc ?_ _)); refine blk_far ?_ NB428_459.out _; (with_reducible repeat (first | refine blk_drewN ?_ _ | refine blk_drew ?_ | refine blk_alloc ?_ _)); refine blk_far ?_ NB428_459.out _; (with_reducible repeat (first | refine blk_drewN ?_ _ | refine blk_drew ?_ | refine blk_alloc ?_ _)); exact BK428.out⟩
      have n5_ : Aside0 ((((w61.setCell ⟨gb459, 0, none⟩ (.string t455)).setCell ⟨gb459, 1, none⟩ (.string t456)).setCell ⟨gb459, 2, none⟩ (.int .i64 t457)).heap[gb439]? = some (.cells #[.string t436, .string t437, .int .i64 t438] 31 (0, 0))) := ⟨by (with_reducible repeat (first | refine blk_drewN ?_ _ | refine blk_drew ?_ | refine blk_alloc ?_ _)); refine blk_far ?_ NB439_459.out _; (with_reducible repeat (first | refine blk_drewN ?_ _ | refine blk_drew ?_ | refine blk_alloc ?_ _)); refine blk_far ?_ NB439_459.out _; (with_reducible repeat (first | refine blk_drewN ?_ _ | refine blk_drew ?_ | refine blk_alloc ?_ _)); refine blk_far ?_ NB439_459.out _; (with_reducible repeat (first | refine blk_drewN ?_ _ | refine blk_drew ?_ | refine blk_alloc ?_ _)); exact BK439.out⟩
      have n6_ : Aside0 ((((w61.setCell ⟨gb459, 0, none⟩ (.string t455)).setCell ⟨gb459, 1, none⟩ (.string t456)).setCell ⟨gb459, 2, none⟩ (.int .i64 t457)).heap[gb448]? = some (.cells #[.string t443, .string t444, .int .i64 t445] 31 (0, 0))) := ⟨by (with_reducible repeat (first | refine blk_drewN ?_ _ | refine blk_drew ?_ | refine blk_alloc ?_ _)); refine blk_far ?_ NB448_459.out _; (with_reducible repeat (first | refine blk_drewN ?_ _ | refine blk_drew ?_ | refine blk_alloc ?_ _)); refine blk_far ?_ NB448_459.out _; (with_reducible repeat (first | refine blk_drewN ?_ _ | refine blk_drew ?_ | refine blk_alloc ?_ _)); refine blk_far ?_ NB448_459.out _; (with_reducible repeat (first | refine blk_drewN ?_ _ | refine blk_drew ?_ | refine blk_alloc ?_ _)); exact BK448.out⟩
      have n7_ : Aside0 ((((w61.setCell ⟨gb459, 0, none⟩ (.string t455)).setCell ⟨gb459, 1, none⟩ (.string t456)).setCell ⟨gb459, 2, none⟩ (.int .i64 t457)).heap[gb449]? = some (.cells #[.string t446, .string t447] 27 (0, 0))) := ⟨by (with_reducible repeat (first | refine blk_drewN ?_ _ | refine blk_drew ?_ | refine blk_alloc ?_ _)); refine blk_far ?_ NB449_459.out _; (with_reducible repeat (first | refine blk_drewN ?_ _ | refine blk_drew ?_ | refine blk_alloc ?_ _)); refine blk_far ?_ NB449_459.out _; (with_reducible repeat (first | refine blk_drewN ?_ _ | refine blk_drew ?_ | refine blk_alloc ?_ _)); refine blk_far ?_ NB449_459.out _; (with_reducible repeat (first | refine blk_drewN ?_ _ | refine blk_drew ?_ | refine blk_alloc ?_ _)); exact BK449.out⟩
      have n8_ : Aside0 ((((w61.setCell ⟨gb459, 0, none⟩ (.string t455)).setCell ⟨gb459, 1, none⟩ (.string t456)).setCell ⟨gb459, 2, none⟩ (.int .i64 t457)).heap[gb454]? = some (.cells #[.string t450, .string t451, .int .i64 t452] 31 (0, 0))) := ⟨by (with_reducible repeat (first | refine blk_drewN ?_ _ | refine blk_drew ?_ | refine blk_alloc ?_ _)); refine blk_far ?_ NB454_459.out _; (with_reducible repeat (first | refine blk_drewN ?_ _ | refine blk_drew ?_ | refine blk_alloc ?_ _)); refine blk_far ?_ NB454_459.out _; (with_reducible repeat (first | refine blk_drewN ?_ _ | refine blk_drew ?_ | refine blk_alloc ?_ _)); refine blk_far ?_ NB454_459.out _; (with_reducible repeat (first | refine blk_drewN ?_ _ | refine blk_drew ?_ | refine blk_alloc ?_ _)); exact BK454.out⟩
      have n9_ : Aside0 ((((w61.setCell ⟨gb459, 0, none⟩ (.string t455)).setCell ⟨gb459, 1, none⟩ (.string t456)).setCell ⟨gb459, 2, none⟩ (.int .i64 t457)).heap[gb459]? = some (.cells #[.string t455, .string t456, .int .i64 t457] 31 (0, 0))) := ⟨by (with_reducible repeat (first | refine blk_drewN ?_ _ | refine blk_drew ?_ | refine blk_alloc ?_ _)); refine blk_put (cs := #[.string t455, .string t456, .int .i64 0]) ?_ 2 _ rfl; (with_reducible repeat (first | refine blk_drewN ?_ _ | refine blk_drew ?_ | refine blk_alloc ?_ _)); refine blk_put (cs := #[.string t455, .string (⟨#[]⟩ : ByteArray), .int .i64 0]) ?_ 1 _ rfl; (with_reducible repeat (first | refine blk_drewN ?_ _ | refine blk_drew ?_ | refine blk_alloc ?_ _)); refine blk_put (cs := #[.string (⟨#[]⟩ : ByteArray), .string (⟨#[]⟩ : ByteArray), .int .i64 0]) ?_ 0 _ rfl; (with_reducible repeat (first | refine blk_drewN ?_ _ | refine blk_drew ?_ | refine blk_alloc ?_ _)); exact BK459.out⟩
      have n10_ : Aside0 (Below w.heap.size w (((w61.setCell ⟨gb459, 0, none⟩ (.string t455)).setCell ⟨gb459, 1, none⟩ (.string t456)).setCell ⟨gb459, 2, none⟩ (.int .i64 t457))) := ⟨by repeat (first | (with_reducible first | exact HB.out | apply below_alloc | apply pw_below_drewN | apply below_drew1 | refine below_set ?_ GE421.out | refine below_set ?_ GE428.out | refine below_set ?_ GE439.out | refine below_set ?_ GE448.out | refine below_set ?_ GE449.out | refine below_set ?_ GE454.out | refine below_set ?_ GE459.out) | exact HB.out)⟩
      (try clear HO424)
      (try clear HO435)
      (try clear HO442)
      (try clear BK421)
      (try clear BK428)
      (try clear BK439)
      (try clear BK448)
      (try clear BK449)
      (try clear BK454)
      (try clear BK459)
      (try clear HB)
      generalize (((w61.setCell ⟨gb459, 0, none⟩ (.string t455)).setCell ⟨gb459, 1, none⟩ (.string t456)).setCell ⟨gb459, 2, none⟩ (.int .i64 t457)) = w85 at n0_ n1_ n2_ n3_ n4_ n5_ n6_ n7_ n8_ n9_ n10_ ⊢
      have HO424 := n0_
      have HO435 := n1_
      have HO442 := n2_
      have BK421 := n3_
      have BK428 := n4_
      have BK439 := n5_
      have BK448 := n6_
      have BK449 := n7_
      have BK454 := n8_
      have BK459 := n9_
      have HB := n10_
      clear n0_ n1_ n2_ n3_ n4_ n5_ n6_ n7_ n8_ n9_ n10_
      have n_ := And.intro (Aside0.mk (Kd.R_drew HO424.out)) (And.intro (Aside0.mk (Kd.R_drew HO435.out)) (And.intro (Aside0.mk (Kd.R_drew HO442.out)) (And.intro (Aside0.mk (blk_drew BK421.out)) (And.intro (Aside0.mk (blk_drew BK428.out)) (And.intro (Aside0.mk (blk_drew BK439.out)) (And.intro (Aside0.mk (blk_drew BK448.out)) (And.intro (Aside0.mk (blk_drew BK449.out)) (And.intro (Aside0.mk (blk_drew BK454.out)) (And.intro (Aside0.mk (blk_drew BK459.out)) (Aside0.mk (below_drew1 HB.out)))))))))))
      clear HO424 HO435 HO442 BK421 BK428 BK439 BK448 BK449 BK454 BK459 HB; obtain ⟨HO424, HO435, HO442, BK421, BK428, BK439, BK448, BK449, BK454, BK459, HB⟩ := n_
      refine start_ (n := 32) (S := fun w' => w'.cell? ⟨gb421, 0, none⟩ = some (.string t419) ∧ w'.cell? ⟨gb421, 1, none⟩ = some (.string t420) ∧ w'.cell? ⟨gb439, 0, none⟩ = some (.string t436) ∧ w'.cell? ⟨gb439, 1, none⟩ = some (.string t437) ∧ w'.cell? ⟨gb439, 2, none⟩ = some (.int .i64 t438)) (ds := []) (bm 32 0) (by kernel_rfl) rfl rfl ⟨(blk_cell BK421.out 0).trans rfl, (blk_cell BK421.out 1).trans rfl, (blk_cell BK439.out 0).trans rfl, (blk_cell BK439.out 1).trans rfl, (blk_cell BK439.out 2).trans rfl⟩ (fun hHeld => ?_); refine with_tabW laws_FnLogs.tab11 laws_FnLogs.bits11 (fun HT_ HW_ => ?_)
      generalize w85.drew = w86 at HO424 HO435 HO442 BK421 BK428 BK439 BK448 BK449 BK454 BK459 HB hHeld ⊢
      refine take_ (i := 0) (N := some 72) (v := ?_) (a' := ?_) (bm 32 1) rfl rfl (take_ofW HT_.out HW_.out (by kernel_rfl)) (fun _ _ _ h => h) (Or.inl ⟨by rfl, ?_⟩) hHeld ?_ ?_
      rotate_left
      ·rintro w' ⟨s0, s1, s2, s3, s4⟩
       go_simp
       with_reducible rfl
      rotate_left
      ·simp only [Act.put, List.setIfInBounds_toArray, List.set_cons_zero, List.set_cons_succ, i64_w, i32_w]
       rfl
      refine take_ (i := 2) (N := some 74) (v := ?_) (a' := ?_) (bm 32 5) rfl rfl (take_ofW HT_.out HW_.out (by kernel_rfl)) (fun _ _ _ h => h) (Or.inl ⟨by rfl, ?_⟩) hHeld ?_ ?_
      rotate_left
      ·rintro w' ⟨s0, s1, s2, s3, s4⟩
       go_simp
       with_reducible rfl
      rotate_left
      ·simp only [Act.put, List.setIfInBounds_toArray, List.set_cons_zero, List.set_cons_succ, i64_w, i32_w]
       rfl
      refine one_ (i := 1) (N := some 73) (bm 32 7) rfl rfl (one_of HT_.out (by kernel_rfl)) (by decide) (fun K hK => ?_)
      refine goes_ Tryd.func40 (by kernel_rfl) rfl #[.agg #[.string t419, .string t420]] (by rfl) rfl rfl (by (try simp only [List.map_toArray, List.map_cons, List.map_nil]); first | done | rfl | (simp only [List.length_drop, List.length_take]; rfl)) ?_
      with_reducible refine (impl_IsValidRecord.calls kj2 t419 t420 t460 _ A69.out).mono ?_
      rintro e w87 ⟨rfl, hb⟩
      refine ⟨_, rfl, ?_⟩
      have n_ := And.intro (Aside0.mk (Kd.R_below (rk_ HO424) hb)) (And.intro (Aside0.mk (Kd.R_below (rk_ HO435) hb)) (And.intro (Aside0.mk (Kd.R_below (rk_ HO442) hb)) (And.intro (Aside0.mk (bb_ BK421 hb)) (And.intro (Aside0.mk (bb_ BK428 hb)) (And.intro (Aside0.mk (bb_ BK439 hb)) (And.intro (Aside0.mk (bb_ BK448 hb)) (And.intro (Aside0.mk (bb_ BK449 hb)) (And.intro (Aside0.mk (bb_ BK454 hb)) (And.intro (Aside0.mk (bb_ BK459 hb)) (Aside0.mk (below_step bg_ hb)))))))))))
      clear HO424 HO435 HO442 BK421 BK428 BK439 BK448 BK449 BK454 BK459 HB; obtain ⟨HO424, HO435, HO442, BK421, BK428, BK439, BK448, BK449, BK454, BK459, HB⟩ := n_
      (try clear hb)
      (try clear hb2)
      (try clear hk)
      (try clear hi)
      refine hK.out _ _ ⟨(blk_cell BK421.out 0).trans rfl, (blk_cell BK421.out 1).trans rfl, (blk_cell BK439.out 0).trans rfl, (blk_cell BK439.out 1).trans rfl, (blk_cell BK439.out 2).trans rfl⟩ (fun hHeld => ?_)
      clear hK K
      refine norm_ (a' := ?_) ?_ ?_
      rotate_left
      ·show Act.put _ (some 73) _ = _
       simp only [Act.put, List.setIfInBounds_toArray, List.set_cons_zero, List.set_cons_succ, i64_w, i32_w]
       rfl
      refine one_ (i := 3) (N := some 75) (bm 32 15) rfl rfl (one_of HT_.out (by kernel_rfl)) (by decide) (fun K hK => ?_)
      refine goes_ Tryd.func41 (by kernel_rfl) rfl #[.agg #[.string t419, .string t420]] (by rfl) rfl rfl (by (try simp only [List.map_toArray, List.map_cons, List.map_nil]); first | done | rfl | (simp only [List.length_drop, List.length_take]; rfl)) ?_
      with_reducible refine (spec_IsValidRecord.calls kj2 t419 t420 t461 _ A70.out).mono ?_
      rintro e w88 ⟨rfl, hb⟩
      refine ⟨_, rfl, ?_⟩
      have n_ := And.intro (Aside0.mk (Kd.R_below (rk_ HO424) hb)) (And.intro (Aside0.mk (Kd.R_below (rk_ HO435) hb)) (And.intro (Aside0.mk (Kd.R_below (rk_ HO442) hb)) (And.intro (Aside0.mk (bb_ BK421 hb)) (And.intro (Aside0.mk (bb_ BK428 hb)) (And.intro (Aside0.mk (bb_ BK439 hb)) (And.intro (Aside0.mk (bb_ BK448 hb)) (And.intro (Aside0.mk (bb_ BK449 hb)) (And.intro (Aside0.mk (bb_ BK454 hb)) (And.intro (Aside0.mk (bb_ BK459 hb)) (Aside0.mk (below_step bg_ hb)))))))))))
      clear HO424 HO435 HO442 BK421 BK428 BK439 BK448 BK449 BK454 BK459 HB; obtain ⟨HO424, HO435, HO442, BK421, BK428, BK439, BK448, BK449, BK454, BK459, HB⟩ := n_
      (try clear hb)
      (try clear hb2)
      (try clear hk)
      (try clear hi)
      refine hK.out _ _ ⟨(blk_cell BK421.out 0).trans rfl, (blk_cell BK421.out 1).trans rfl, (blk_cell BK439.out 0).trans rfl, (blk_cell BK439.out 1).trans rfl, (blk_cell BK439.out 2).trans rfl⟩ (fun hHeld => ?_)
      clear hK K
      refine norm_ (a' := ?_) ?_ ?_
      rotate_left
      ·show Act.put _ (some 75) _ = _
       simp only [Act.put, List.setIfInBounds_toArray, List.set_cons_zero, List.set_cons_succ, i64_w, i32_w]
       rfl
      refine pa_ 4 (some 76) (bm 32 31) rfl rfl HT_.out ?_
      refine pa_ 5 (some 77) (bm 32 63) rfl rfl HT_.out ?_
      refine pa_ 6 (some 78) (bm 32 127) rfl rfl HT_.out ?_
      refine pa_ 7 (some 79) (bm 32 255) rfl rfl HT_.out ?_
      refine pa_ 8 (some 80) (bm 32 511) rfl rfl HT_.out ?_
      refine pa_ 9 (some 81) (bm 32 1023) rfl rfl HT_.out ?_
      refine pa_ 10 (some 82) (bm 32 2047) rfl rfl HT_.out ?_
      refine pa_ 11 (some 83) (bm 32 4095) rfl rfl HT_.out ?_
      refine pa_ 12 (some 84) (bm 32 8191) rfl rfl HT_.out ?_
      refine pa_ 13 (some 85) (bm 32 16383) rfl rfl HT_.out ?_
      refine pa_ 14 (some 86) (bm 32 32767) rfl rfl HT_.out ?_
      refine pa_ 15 (some 87) (bm 32 65535) rfl rfl HT_.out ?_
      refine take_ (i := 16) (N := some 88) (v := ?_) (a' := ?_) (bm 32 131071) rfl rfl (take_ofW HT_.out HW_.out (by kernel_rfl)) (fun _ _ _ h => h) (Or.inl ⟨by rfl, ?_⟩) hHeld ?_ ?_
      rotate_left
      ·rintro w' ⟨s0, s1, s2, s3, s4⟩
       go_simp
       with_reducible rfl
      rotate_left
      ·simp only [Act.put, List.setIfInBounds_toArray, List.set_cons_zero, List.set_cons_succ, i64_w, i32_w]
       rfl
      refine take_ (i := 18) (N := some 90) (v := ?_) (a' := ?_) (bm 32 393215) rfl rfl (take_ofW HT_.out HW_.out (by kernel_rfl)) (fun _ _ _ h => h) (Or.inl ⟨by rfl, ?_⟩) hHeld ?_ ?_
      rotate_left
      ·rintro w' ⟨s0, s1, s2, s3, s4⟩
       go_simp
       with_reducible rfl
      rotate_left
      ·simp only [Act.put, List.setIfInBounds_toArray, List.set_cons_zero, List.set_cons_succ, i64_w, i32_w]
       rfl
      refine one_ (i := 17) (N := some 89) (bm 32 524287) rfl rfl (one_of HT_.out (by kernel_rfl)) (by decide) (fun K hK => ?_)
      refine goes_ Tryd.func22 (by kernel_rfl) rfl #[.agg #[.string t436, .string t437, .int .i64 t438]] (by rfl) rfl rfl (by (try simp only [List.map_toArray, List.map_cons, List.map_nil]); first | done | rfl | (simp only [List.length_drop, List.length_take]; rfl)) ?_
      with_reducible refine (impl_IsValidLog.calls kj2 t436 t437 t438 t462 _ ?side1 A82.out).mono ?_
      (case side1 => exact EnvW.below HENV.out bg_)
      rintro e w89 ⟨rfl, hb⟩
      refine ⟨_, rfl, ?_⟩
      have n_ := And.intro (Aside0.mk (Kd.R_below (rk_ HO424) hb)) (And.intro (Aside0.mk (Kd.R_below (rk_ HO435) hb)) (And.intro (Aside0.mk (Kd.R_below (rk_ HO442) hb)) (And.intro (Aside0.mk (bb_ BK421 hb)) (And.intro (Aside0.mk (bb_ BK428 hb)) (And.intro (Aside0.mk (bb_ BK439 hb)) (And.intro (Aside0.mk (bb_ BK448 hb)) (And.intro (Aside0.mk (bb_ BK449 hb)) (And.intro (Aside0.mk (bb_ BK454 hb)) (And.intro (Aside0.mk (bb_ BK459 hb)) (Aside0.mk (below_step bg_ hb)))))))))))
      clear HO424 HO435 HO442 BK421 BK428 BK439 BK448 BK449 BK454 BK459 HB; obtain ⟨HO424, HO435, HO442, BK421, BK428, BK439, BK448, BK449, BK454, BK459, HB⟩ := n_
      (try clear hb)
      (try clear hb2)
      (try clear hk)
      (try clear hi)
      refine hK.out _ _ ⟨(blk_cell BK421.out 0).trans rfl, (blk_cell BK421.out 1).trans rfl, (blk_cell BK439.out 0).trans rfl, (blk_cell BK439.out 1).trans rfl, (blk_cell BK439.out 2).trans rfl⟩ (fun hHeld => ?_)
      clear hK K
      refine norm_ (a' := ?_) ?_ ?_
      rotate_left
      ·show Act.put _ (some 89) _ = _
       simp only [Act.put, List.setIfInBounds_toArray, List.set_cons_zero, List.set_cons_succ, i64_w, i32_w]
       rfl
      refine one_ (i := 19) (N := some 91) (bm 32 1048575) rfl rfl (one_of HT_.out (by kernel_rfl)) (by decide) (fun K hK => ?_)
      refine goes_ Tryd.func20 (by kernel_rfl) rfl #[.agg #[.string t436, .string t437, .int .i64 t438]] (by rfl) rfl rfl (by (try simp only [List.map_toArray, List.map_cons, List.map_nil]); first | done | rfl | (simp only [List.length_drop, List.length_take]; rfl)) ?_
      with_reducible refine (spec_IsValidLog.calls kj2 t436 t437 t438 t463 _ A83.out).mono ?_
      rintro e w90 ⟨rfl, hb⟩
      refine ⟨_, rfl, ?_⟩
      have n_ := And.intro (Aside0.mk (Kd.R_below (rk_ HO424) hb)) (And.intro (Aside0.mk (Kd.R_below (rk_ HO435) hb)) (And.intro (Aside0.mk (Kd.R_below (rk_ HO442) hb)) (And.intro (Aside0.mk (bb_ BK421 hb)) (And.intro (Aside0.mk (bb_ BK428 hb)) (And.intro (Aside0.mk (bb_ BK439 hb)) (And.intro (Aside0.mk (bb_ BK448 hb)) (And.intro (Aside0.mk (bb_ BK449 hb)) (And.intro (Aside0.mk (bb_ BK454 hb)) (And.intro (Aside0.mk (bb_ BK459 hb)) (Aside0.mk (below_step bg_ hb)))))))))))
      clear HO424 HO435 HO442 BK421 BK428 BK439 BK448 BK449 BK454 BK459 HB; obtain ⟨HO424, HO435, HO442, BK421, BK428, BK439, BK448, BK449, BK454, BK459, HB⟩ := n_
      (try clear hb)
      (try clear hb2)
      (try clear hk)
      (try clear hi)
      refine hK.out _ _ ⟨(blk_cell BK421.out 0).trans rfl, (blk_cell BK421.out 1).trans rfl, (blk_cell BK439.out 0).trans rfl, (blk_cell BK439.out 1).trans rfl, (blk_cell BK439.out 2).trans rfl⟩ (fun hHeld => ?_)
      clear hK K
      refine norm_ (a' := ?_) ?_ ?_
      rotate_left
      ·show Act.put _ (some 91) _ = _
       simp only [Act.put, List.setIfInBounds_toArray, List.set_cons_zero, List.set_cons_succ, i64_w, i32_w]
       rfl
      refine pa_ 20 (some 92) (bm 32 2097151) rfl rfl HT_.out ?_
      refine pa_ 21 (some 93) (bm 32 4194303) rfl rfl HT_.out ?_
      refine pa_ 22 (some 94) (bm 32 8388607) rfl rfl HT_.out ?_
      refine pu_ 23 (some 95) (bm 32 16777215) rfl rfl HT_.out ?_
      refine pu_ 24 (some 96) (bm 32 33554431) rfl rfl HT_.out ?_
      refine pu_ 25 (some 97) (bm 32 67108863) rfl rfl HT_.out ?_
      refine pa_ 26 (some 98) (bm 32 134217727) rfl rfl HT_.out ?_
      refine pa_ 27 (some 99) (bm 32 268435455) rfl rfl HT_.out ?_
      refine pu_ 28 (some 100) (bm 32 536870911) rfl rfl HT_.out ?_
      refine pu_ 29 (some 101) (bm 32 1073741823) rfl rfl HT_.out ?_
      refine pu_ 30 (some 102) (bm 32 2147483647) rfl rfl HT_.out ?_
      refine pa_ 31 (some 103) (bm 32 4294967295) rfl rfl HT_.out ?_
      refine done_ (done_of HT_.out (by kernel_rfl)) ?_
      try go_wp2
      go_meet
      case rel => exact ⟨_, (true), (by first | rfl | (simp; done) | (simp [*]; done)), H', ⟨by have := HJ2.out; first | omega | exact Nat.le_refl _⟩, ⟨bk_ BK421⟩, ⟨bk_ BK428⟩, ⟨bk_ BK439⟩, ⟨bk_ BK448⟩, ⟨bk_ BK449⟩, ⟨bk_ BK454⟩, ⟨bk_ BK459⟩, ⟨by repeat (first | (with_reducible first | exact HB.out | apply below_alloc | apply pw_below_drewN | apply below_drew1 | refine below_set ?_ GE421.out | refine below_set ?_ GE428.out | refine below_set ?_ GE439.out | refine below_set ?_ GE448.out | refine below_set ?_ GE449.out | refine below_set ?_ GE454.out | refine below_set ?_ GE459.out) | exact HB.out)⟩⟩
     ·rw [if_neg c84] at H
      have c84b0 : (t462 != t463) = false := by simpa using c84
      (try (have c84b1 : decide (t462 = t463) = true := by simpa using c84))
      (try (have c84b2 : (t462 == t463) = true := by simpa using c84))
      clear c84
      by_cases c91 : (!(t450.toList == t455.toList) || (!(t451.toList == t456.toList) || (!(t452 == t457)))) = true
      ·rw [if_pos c91] at H
       have c91b0 : (!(t450.toList == t455.toList) || (!(t451.toList == t456.toList) || (!(t452 == t457)))) = true := c91
       clear c91
       have H' := Aside0.mk H
       clear H
       try go_wp2
       have n0_ : Aside0 (Kd.R (Kd.int .u8) 5 (((w61.setCell ⟨gb459, 0, none⟩ (.string t455)).setCell ⟨gb459, 1, none⟩ (.string t456)).setCell ⟨gb459, 2, none⟩ (.int .i64 t457)) w.heap.size (fun k_ => some k_ ≠ (.slice Ao30 t433.length co30 : Value).ownBlock ∧ some k_ ≠ (.slice Ao37 t440.length co37 : Value).ownBlock) (.slice Ao21 t422.length co21) t422) := ⟨by (with_reducible repeat (first | apply Kd.R_alloc | apply Kd.R_drewN | apply Kd.R_drew)); exact Kd.R_mono (Kd.R_far (p := ⟨gb459, 2, none⟩) (Kd.R_far (p := ⟨gb459, 1, none⟩) (Kd.R_far (p := ⟨gb459, 0, none⟩) (Kd.R_types HO424.out BK459.out (by decide)) (fun _ hk => hk.2) (.string t455)) (fun _ hk => hk.2) (.string t456)) (fun _ hk => hk.2) (.int .i64 t457)) (fun _ hk => ⟨hk.1.1.2, hk.1.2⟩)⟩
       have n1_ : Aside0 (Kd.R (Kd.int .u8) 5 (((w61.setCell ⟨gb459, 0, none⟩ (.string t455)).setCell ⟨gb459, 1, none⟩ (.string t456)).setCell ⟨gb459, 2, none⟩ (.int .i64 t457)) w.heap.size (fun k_ => some k_ ≠ (.slice Ao21 t422.length co21 : Value).ownBlock ∧ some k_ ≠ (.slice Ao37 t440.length co37 : Value).ownBlock) (.slice Ao30 t433.length co30) t433) := ⟨by (with_reducible repeat (first | apply Kd.R_alloc | apply Kd.R_drewN | apply Kd.R_drew)); exact Kd.R_mono (Kd.R_far (p := ⟨gb459, 2, none⟩) (Kd.R_far (p := ⟨gb459, 1, none⟩) (Kd.R_far (p := ⟨gb459, 0, none⟩) (Kd.R_types HO435.out BK459.out (by decide)) (fun _ hk => hk.2) (.string t455)) (fun _ hk => hk.2) (.string t456)) (fun _ hk => hk.2) (.int .i64 t457)) (fun _ hk => ⟨hk.1.1.2, hk.1.2⟩)⟩
       have n2_ : Aside0 (Kd.R (Kd.int .u8) 5 (((w61.setCell ⟨gb459, 0, none⟩ (.string t455)).setCell ⟨gb459, 1, none⟩ (.string t456)).setCell ⟨gb459, 2, none⟩ (.int .i64 t457)) w.heap.size (fun k_ => some k_ ≠ (.slice Ao21 t422.length co21 : Value).ownBlock ∧ some k_ ≠ (.slice Ao30 t433.length co30 : Value).ownBlock) (.slice Ao37 t440.length co37) t440) := ⟨by (with_reducible repeat (first | apply Kd.R_alloc | apply Kd.R_drewN | apply Kd.R_drew)); exact Kd.R_mono (Kd.R_far (p := ⟨gb459, 2, none⟩) (Kd.R_far (p := ⟨gb459, 1, none⟩) (Kd.R_far (p := ⟨gb459, 0, none⟩) (Kd.R_types HO442.out BK459.out (by decide)) (fun _ hk => hk.2) (.string t455)) (fun _ hk => hk.2) (.string t456)) (fun _ hk => hk.2) (.int .i64 t457)) (fun _ hk => ⟨hk.1.1.2, hk.1.2⟩)⟩
       have n3_ : Aside0 ((((w61.setCell ⟨gb459, 0, none⟩ (.string t455)).setCell ⟨gb459, 1, none⟩ (.string t456)).setCell ⟨gb459, 2, none⟩ (.int .i64 t457)).heap[gb421]? = some (.cells #[.string t419, .string t420] 27 (0, 0))) := ⟨by (with_reducible repeat (first | refine blk_drewN ?_ _ | refine blk_drew ?_ | refine blk_alloc ?_ _)); refine blk_far ?_ NB421_459.out _; (with_reducible repeat (first | refine blk_drewN ?_ _ | refine blk_drew ?_ | refine blk_alloc ?_ _)); refine blk_far ?_ NB421_459.out _; (with_reducible repeat (first | refine blk_drewN ?_ _ | refine blk_drew ?_ | refine blk_alloc ?_ _)); refine blk_far ?_ NB421_459.out _; (with_reducible repeat (first | refine blk_drewN ?_ _ | refine blk_drew ?_ | refine blk_alloc ?_ _)); exact BK421.out⟩
       have n4_ : Aside0 ((((w61.setCell ⟨gb459, 0, none⟩ (.string t455)).setCell ⟨gb459, 1, none⟩ (.string t456)).setCell ⟨gb459, 2, none⟩ (.int .i64 t457)).heap[gb428]? = some (.cells #[.string t426, .string t427] 27 (0, 0))) := ⟨by (with_reducible repeat (first | refine blk_drewN ?_ _ | refine blk_drew ?_ | refine blk_alloc ?_ _)); refine blk_far ?_ NB428_459.out _; (with_reducible repeat (first | refine blk_drewN ?_ _ | refine blk_drew ?_ | refine blk_alloc ?_ _)); refine blk_far ?_ NB428_459.out _; (with_reducible repeat (first | refine blk_drewN ?_ _ | refine blk_drew ?_ | refine blk_alloc ?_ _)); refine blk_far ?_ NB428_459.out _; (with_reducible repeat (first | refine blk_drewN ?_ _ | refine blk_drew ?_ | refine blk_alloc ?_ _)); exact BK428.out⟩
       have n5_ : Aside0 ((((w61.setCell ⟨gb459, 0, none⟩ (.string t455)).setCell ⟨gb459, 1, none⟩ (.string t456)).setCell ⟨gb459, 2, none⟩ (.int .i64 t457)).heap[gb439]? = some (.cells #[.string t436, .string t437, .int .i64 t438] 31 (0, 0))) := ⟨by (with_reducible repeat (first | refine blk_drewN ?_ _ | refine blk_drew ?_ | refine blk_alloc ?_ _)); refine blk_far ?_ NB439_459.out _; (with_reducible repeat (first | refine blk_drewN ?_ _ | refine blk_drew ?_ | refine blk_alloc ?_ _)); refine blk_far ?_ NB439_459.out _; (with_reducible repeat (first | refine blk_drewN ?_ _ | refine blk_drew ?_ | refine blk_alloc ?_ _)); refine blk_far ?_ NB439_459.out _; (with_reducible repeat (first | refine blk_drewN ?_ _ | refine blk_drew ?_ | refine blk_alloc ?_ _)); exact BK439.out⟩
       have n6_ : Aside0 ((((w61.setCell ⟨gb459, 0, none⟩ (.string t455)).setCell ⟨gb459, 1, none⟩ (.string t456)).setCell ⟨gb459, 2, none⟩ (.int .i64 t457)).heap[gb448]? = some (.cells #[.string t443, .string t444, .int .i64 t445] 31 (0, 0))) := ⟨by (with_reducible repeat (first | refine blk_drewN ?_ _ | refine blk_drew ?_ | refine blk_alloc ?_ _)); refine blk_far ?_ NB448_459.out _; (with_reducible repeat (first | refine blk_drewN ?_ _ | refine blk_drew ?_ | refine blk_alloc ?_ _)); refine blk_far ?_ NB448_459.out _; (with_reducible repeat (first | refine blk_drewN ?_ _ | refine blk_drew ?_ | refine blk_alloc ?_ _)); refine blk_far ?_ NB448_459.out _; (with_reducible repeat (first | refine blk_drewN ?_ _ | refine blk_drew ?_ | refine blk_alloc ?_ _)); exact BK448.out⟩
       have n7_ : Aside0 ((((w61.setCell ⟨gb459, 0, none⟩ (.string t455)).setCell ⟨gb459, 1, none⟩ (.string t456)).setCell ⟨gb459, 2, none⟩ (.int .i64 t457)).heap[gb449]? = some (.cells #[.string t446, .string t447] 27 (0, 0))) := ⟨by (with_reducible repeat (first | refine blk_drewN ?_ _ | refine blk_drew ?_ | refine blk_alloc ?_ _)); refine blk_far ?_ NB449_459.out _; (with_reducible repeat (first | refine blk_drewN ?_ _ | refine blk_drew ?_ | refine blk_alloc ?_ _)); refine blk_far ?_ NB449_459.out _; (with_reducible repeat (first | refine blk_drewN ?_ _ | refine blk_drew ?_ | refine blk_alloc ?_ _)); refine blk_far ?_ NB449_459.out _; (with_reducible repeat (first | refine blk_drewN ?_ _ | refine blk_drew ?_ | refine blk_alloc ?_ _)); exact BK449.out⟩
       have n8_ : Aside0 ((((w61.setCell ⟨gb459, 0, none⟩ (.string t455)).setCell ⟨gb459, 1, none⟩ (.string t456)).setCell ⟨gb459, 2, none⟩ (.int .i64 t457)).heap[gb454]? = some (.cells #[.string t450, .string t451, .int .i64 t452] 31 (0, 0))) := ⟨by (with_reducible repeat (first | refine blk_drewN ?_ _ | refine blk_drew ?_ | refine blk_alloc ?_ _)); refine blk_far ?_ NB454_459.out _; (with_reducible repeat (first | refine blk_drewN ?_ _ | refine blk_drew ?_ | refine blk_alloc ?_ _)); refine blk_far ?_ NB454_459.out _; (with_reducible repeat (first | refine blk_drewN ?_ _ | refine blk_drew ?_ | refine blk_alloc ?_ _)); refine blk_far ?_ NB454_459.out _; (with_reducible repeat (first | refine blk_drewN ?_ _ | refine blk_drew ?_ | refine blk_alloc ?_ _)); exact BK454.out⟩
       have n9_ : Aside0 ((((w61.setCell ⟨gb459, 0, none⟩ (.string t455)).setCell ⟨gb459, 1, none⟩ (.string t456)).setCell ⟨gb459, 2, none⟩ (.int .i64 t457)).heap[gb459]? = some (.cells #[.string t455, .string t456, .int .i64 t457] 31 (0, 0))) := ⟨by (with_reducible repeat (first | refine blk_drewN ?_ _ | refine blk_drew ?_ | refine blk_alloc ?_ _)); refine blk_put (cs := #[.string t455, .string t456, .int .i64 0]) ?_ 2 _ rfl; (with_reducible repeat (first | refine blk_drewN ?_ _ | refine blk_drew ?_ | refine blk_alloc ?_ _)); refine blk_put (cs := #[.string t455, .string (⟨#[]⟩ : ByteArray), .int .i64 0]) ?_ 1 _ rfl; (with_reducible repeat (first | refine blk_drewN ?_ _ | refine blk_drew ?_ | refine blk_alloc ?_ _)); refine blk_put (cs := #[.string (⟨#[]⟩ : ByteArray), .string (⟨#[]⟩ : ByteArray), .int .i64 0]) ?_ 0 _ rfl; (with_reducible repeat (first | refine blk_drewN ?_ _ | refine blk_drew ?_ | refine blk_alloc ?_ _)); exact BK459.out⟩
       have n10_ : Aside0 (Below w.heap.size w (((w61.setCell ⟨gb459, 0, none⟩ (.string t455)).setCell ⟨gb459, 1, none⟩ (.string t456)).setCell ⟨gb459, 2, none⟩ (.int .i64 t457))) := ⟨by repeat (first | (with_reducible first | exact HB.out | apply below_alloc | apply pw_below_drewN | apply below_drew1 | refine below_set ?_ GE421.out | refine below_set ?_ GE428.out | refine below_set ?_ GE439.out | refine below_set ?_ GE448.out | refine below_set ?_ GE449.out | refine below_set ?_ GE454.out | refine below_set ?_ GE459.out) | exact HB.out)⟩
       (try clear HO424)
       (try clear HO435)
       (try clear HO442)
       (try clear BK421)
       (try clear BK428)
       (try clear BK439)
       (try clear BK448)
       (try clear BK449)
       (try clear BK454)
       (try clear BK459)
       (try clear HB)
       generalize (((w61.setCell ⟨gb459, 0, none⟩ (.string t455)).setCell ⟨gb459, 1, none⟩ (.string t456)).setCell ⟨gb459, 2, none⟩ (.int .i64 t457)) = w92 at n0_ n1_ n2_ n3_ n4_ n5_ n6_ n7_ n8_ n9_ n10_ ⊢
       have HO424 := n0_
       have HO435 := n1_
       have HO442 := n2_
       have BK421 := n3_
       have BK428 := n4_
       have BK439 := n5_
       have BK448 := n6_
       have BK449 := n7_
       have BK454 := n8_
       have BK459 := n9_
       have HB := n10_
       clear n0_ n1_ n2_ n3_ n4_ n5_ n6_ n7_ n8_ n9_ n10_
       have n_ := And.intro (Aside0.mk (Kd.R_drew HO424.out)) (And.intro (Aside0.mk (Kd.R_drew HO435.out)) (And.intro (Aside0.mk (Kd.R_drew HO442.out)) (And.intro (Aside0.mk (blk_drew BK421.out)) (And.intro (Aside0.mk (blk_drew BK428.out)) (And.intro (Aside0.mk (blk_drew BK439.out)) (And.intro (Aside0.mk (blk_drew BK448.out)) (And.intro (Aside0.mk (blk_drew BK449.out)) (And.intro (Aside0.mk (blk_drew BK454.out)) (And.intro (Aside0.mk (blk_drew BK459.out)) (Aside0.mk (below_drew1 HB.out)))))))))))
       clear HO424 HO435 HO442 BK421 BK428 BK439 BK448 BK449 BK454 BK459 HB; obtain ⟨HO424, HO435, HO442, BK421, BK428, BK439, BK448, BK449, BK454, BK459, HB⟩ := n_
       refine start_ (n := 32) (S := fun w' => w'.cell? ⟨gb421, 0, none⟩ = some (.string t419) ∧ w'.cell? ⟨gb421, 1, none⟩ = some (.string t420) ∧ w'.cell? ⟨gb439, 0, none⟩ = some (.string t436) ∧ w'.cell? ⟨gb439, 1, none⟩ = some (.string t437) ∧ w'.cell? ⟨gb439, 2, none⟩ = some (.int .i64 t438) ∧ w'.cell? ⟨gb454, 0, none⟩ = some (.string t450) ∧ w'.cell? ⟨gb454, 1, none⟩ = some (.string t451) ∧ w'.cell? ⟨gb454, 2, none⟩ = some (.int .i64 t452) ∧ w'.cell? ⟨gb459, 0, none⟩ = some (.string t455) ∧ w'.cell? ⟨gb459, 1, none⟩ = some (.string t456) ∧ w'.cell? ⟨gb459, 2, none⟩ = some (.int .i64 t457)) (ds := []) (bm 32 0) (by kernel_rfl) rfl rfl ⟨(blk_cell BK421.out 0).trans rfl, (blk_cell BK421.out 1).trans rfl, (blk_cell BK439.out 0).trans rfl, (blk_cell BK439.out 1).trans rfl, (blk_cell BK439.out 2).trans rfl, (blk_cell BK454.out 0).trans rfl, (blk_cell BK454.out 1).trans rfl, (blk_cell BK454.out 2).trans rfl, (blk_cell BK459.out 0).trans rfl, (blk_cell BK459.out 1).trans rfl, (blk_cell BK459.out 2).trans rfl⟩ (fun hHeld => ?_); refine with_tabW laws_FnLogs.tab11 laws_FnLogs.bits11 (fun HT_ HW_ => ?_)
       generalize w92.drew = w93 at HO424 HO435 HO442 BK421 BK428 BK439 BK448 BK449 BK454 BK459 HB hHeld ⊢
       refine take_ (i := 0) (N := some 72) (v := ?_) (a' := ?_) (bm 32 1) rfl rfl (take_ofW HT_.out HW_.out (by kernel_rfl)) (fun _ _ _ h => h) (Or.inl ⟨by rfl, ?_⟩) hHeld ?_ ?_
       rotate_left
       ·rintro w' ⟨s0, s1, s2, s3, s4, s5, s6, s7, s8, s9, s10⟩
        go_simp
        with_reducible rfl
       rotate_left
       ·simp only [Act.put, List.setIfInBounds_toArray, List.set_cons_zero, List.set_cons_succ, i64_w, i32_w]
        rfl
       refine take_ (i := 2) (N := some 74) (v := ?_) (a' := ?_) (bm 32 5) rfl rfl (take_ofW HT_.out HW_.out (by kernel_rfl)) (fun _ _ _ h => h) (Or.inl ⟨by rfl, ?_⟩) hHeld ?_ ?_
       rotate_left
       ·rintro w' ⟨s0, s1, s2, s3, s4, s5, s6, s7, s8, s9, s10⟩
        go_simp
        with_reducible rfl
       rotate_left
       ·simp only [Act.put, List.setIfInBounds_toArray, List.set_cons_zero, List.set_cons_succ, i64_w, i32_w]
        rfl
       refine one_ (i := 1) (N := some 73) (bm 32 7) rfl rfl (one_of HT_.out (by kernel_rfl)) (by decide) (fun K hK => ?_)
       refine goes_ Tryd.func40 (by kernel_rfl) rfl #[.agg #[.string t419, .string t420]] (by rfl) rfl rfl (by (try simp only [List.map_toArray, List.map_cons, List.map_nil]); first | done | rfl | (simp only [List.length_drop, List.length_take]; rfl)) ?_
       with_reducible refine (impl_IsValidRecord.calls kj2 t419 t420 t460 _ A69.out).mono ?_
       rintro e w94 ⟨rfl, hb⟩
       refine ⟨_, rfl, ?_⟩
       have n_ := And.intro (Aside0.mk (Kd.R_below (rk_ HO424) hb)) (And.intro (Aside0.mk (Kd.R_below (rk_ HO435) hb)) (And.intro (Aside0.mk (Kd.R_below (rk_ HO442) hb)) (And.intro (Aside0.mk (bb_ BK421 hb)) (And.intro (Aside0.mk (bb_ BK428 hb)) (And.intro (Aside0.mk (bb_ BK439 hb)) (And.intro (Aside0.mk (bb_ BK448 hb)) (And.intro (Aside0.mk (bb_ BK449 hb)) (And.intro (Aside0.mk (bb_ BK454 hb)) (And.intro (Aside0.mk (bb_ BK459 hb)) (Aside0.mk (below_step bg_ hb)))))))))))
       clear HO424 HO435 HO442 BK421 BK428 BK439 BK448 BK449 BK454 BK459 HB; obtain ⟨HO424, HO435, HO442, BK421, BK428, BK439, BK448, BK449, BK454, BK459, HB⟩ := n_
       (try clear hb)
       (try clear hb2)
       (try clear hk)
       (try clear hi)
       refine hK.out _ _ ⟨(blk_cell BK421.out 0).trans rfl, (blk_cell BK421.out 1).trans rfl, (blk_cell BK439.out 0).trans rfl, (blk_cell BK439.out 1).trans rfl, (blk_cell BK439.out 2).trans rfl, (blk_cell BK454.out 0).trans rfl, (blk_cell BK454.out 1).trans rfl, (blk_cell BK454.out 2).trans rfl, (blk_cell BK459.out 0).trans rfl, (blk_cell BK459.out 1).trans rfl, (blk_cell BK459.out 2).trans rfl⟩ (fun hHeld => ?_)
       clear hK K
       refine norm_ (a' := ?_) ?_ ?_
       rotate_left
       ·show Act.put _ (some 73) _ = _
        simp only [Act.put, List.setIfInBounds_toArray, List.set_cons_zero, List.set_cons_succ, i64_w, i32_w]
        rfl
       refine one_ (i := 3) (N := some 75) (bm 32 15) rfl rfl (one_of HT_.out (by kernel_rfl)) (by decide) (fun K hK => ?_)
       refine goes_ Tryd.func41 (by kernel_rfl) rfl #[.agg #[.string t419, .string t420]] (by rfl) rfl rfl (by (try simp only [List.map_toArray, List.map_cons, List.map_nil]); first | done | rfl | (simp only [List.length_drop, List.length_take]; rfl)) ?_
       with_reducible refine (spec_IsValidRecord.calls kj2 t419 t420 t461 _ A70.out).mono ?_
       rintro e w95 ⟨rfl, hb⟩
       refine ⟨_, rfl, ?_⟩
       have n_ := And.intro (Aside0.mk (Kd.R_below (rk_ HO424) hb)) (And.intro (Aside0.mk (Kd.R_below (rk_ HO435) hb)) (And.intro (Aside0.mk (Kd.R_below (rk_ HO442) hb)) (And.intro (Aside0.mk (bb_ BK421 hb)) (And.intro (Aside0.mk (bb_ BK428 hb)) (And.intro (Aside0.mk (bb_ BK439 hb)) (And.intro (Aside0.mk (bb_ BK448 hb)) (And.intro (Aside0.mk (bb_ BK449 hb)) (And.intro (Aside0.mk (bb_ BK454 hb)) (And.intro (Aside0.mk (bb_ BK459 hb)) (Aside0.mk (below_step bg_ hb)))))))))))
       clear HO424 HO435 HO442 BK421 BK428 BK439 BK448 BK449 BK454 BK459 HB; obtain ⟨HO424, HO435, HO442, BK421, BK428, BK439, BK448, BK449, BK454, BK459, HB⟩ := n_
       (try clear hb)
       (try clear hb2)
       (try clear hk)
       (try clear hi)
       refine hK.out _ _ ⟨(blk_cell BK421.out 0).trans rfl, (blk_cell BK421.out 1).trans rfl, (blk_cell BK439.out 0).trans rfl, (blk_cell BK439.out 1).trans rfl, (blk_cell BK439.out 2).trans rfl, (blk_cell BK454.out 0).trans rfl, (blk_cell BK454.out 1).trans rfl, (blk_cell BK454.out 2).trans rfl, (blk_cell BK459.out 0).trans rfl, (blk_cell BK459.out 1).trans rfl, (blk_cell BK459.out 2).trans rfl⟩ (fun hHeld => ?_)
       clear hK K
       refine norm_ (a' := ?_) ?_ ?_
       rotate_left
       ·show Act.put _ (some 75) _ = _
        simp only [Act.put, List.setIfInBounds_toArray, List.set_cons_zero, List.set_cons_succ, i64_w, i32_w]
        rfl
       refine pa_ 4 (some 76) (bm 32 31) rfl rfl HT_.out ?_
       refine pa_ 5 (some 77) (bm 32 63) rfl rfl HT_.out ?_
       refine pa_ 6 (some 78) (bm 32 127) rfl rfl HT_.out ?_
       refine pa_ 7 (some 79) (bm 32 255) rfl rfl HT_.out ?_
       refine pa_ 8 (some 80) (bm 32 511) rfl rfl HT_.out ?_
       refine pa_ 9 (some 81) (bm 32 1023) rfl rfl HT_.out ?_
       refine pa_ 10 (some 82) (bm 32 2047) rfl rfl HT_.out ?_
       refine pa_ 11 (some 83) (bm 32 4095) rfl rfl HT_.out ?_
       refine pa_ 12 (some 84) (bm 32 8191) rfl rfl HT_.out ?_
       refine pa_ 13 (some 85) (bm 32 16383) rfl rfl HT_.out ?_
       refine pa_ 14 (some 86) (bm 32 32767) rfl rfl HT_.out ?_
       refine pa_ 15 (some 87) (bm 32 65535) rfl rfl HT_.out ?_
       refine take_ (i := 16) (N := some 88) (v := ?_) (a' := ?_) (bm 32 131071) rfl rfl (take_ofW HT_.out HW_.out (by kernel_rfl)) (fun _ _ _ h => h) (Or.inl ⟨by rfl, ?_⟩) hHeld ?_ ?_
       rotate_left
       ·rintro w' ⟨s0, s1, s2, s3, s4, s5, s6, s7, s8, s9, s10⟩
        go_simp
        with_reducible rfl
       rotate_left
       ·simp only [Act.put, List.setIfInBounds_toArray, List.set_cons_zero, List.set_cons_succ, i64_w, i32_w]
        rfl
       refine take_ (i := 18) (N := some 90) (v := ?_) (a' := ?_) (bm 32 393215) rfl rfl (take_ofW HT_.out HW_.out (by kernel_rfl)) (fun _ _ _ h => h) (Or.inl ⟨by rfl, ?_⟩) hHeld ?_ ?_
       rotate_left
       ·rintro w' ⟨s0, s1, s2, s3, s4, s5, s6, s7, s8, s9, s10⟩
        go_simp
        with_reducible rfl
       rotate_left
       ·simp only [Act.put, List.setIfInBounds_toArray, List.set_cons_zero, List.set_cons_succ, i64_w, i32_w]
        rfl
       refine one_ (i := 17) (N := some 89) (bm 32 524287) rfl rfl (one_of HT_.out (by kernel_rfl)) (by decide) (fun K hK => ?_)
       refine goes_ Tryd.func22 (by kernel_rfl) rfl #[.agg #[.string t436, .string t437, .int .i64 t438]] (by rfl) rfl rfl (by (try simp only [List.map_toArray, List.map_cons, List.map_nil]); first | done | rfl | (simp only [List.length_drop, List.length_take]; rfl)) ?_
       with_reducible refine (impl_IsValidLog.calls kj2 t436 t437 t438 t462 _ ?side1 A82.out).mono ?_
       (case side1 => exact EnvW.below HENV.out bg_)
       rintro e w96 ⟨rfl, hb⟩
       refine ⟨_, rfl, ?_⟩
       have n_ := And.intro (Aside0.mk (Kd.R_below (rk_ HO424) hb)) (And.intro (Aside0.mk (Kd.R_below (rk_ HO435) hb)) (And.intro (Aside0.mk (Kd.R_below (rk_ HO442) hb)) (And.intro (Aside0.mk (bb_ BK421 hb)) (And.intro (Aside0.mk (bb_ BK428 hb)) (And.intro (Aside0.mk (bb_ BK439 hb)) (And.intro (Aside0.mk (bb_ BK448 hb)) (And.intro (Aside0.mk (bb_ BK449 hb)) (And.intro (Aside0.mk (bb_ BK454 hb)) (And.intro (Aside0.mk (bb_ BK459 hb)) (Aside0.mk (below_step bg_ hb)))))))))))
       clear HO424 HO435 HO442 BK421 BK428 BK439 BK448 BK449 BK454 BK459 HB; obtain ⟨HO424, HO435, HO442, BK421, BK428, BK439, BK448, BK449, BK454, BK459, HB⟩ := n_
       (try clear hb)
       (try clear hb2)
       (try clear hk)
       (try clear hi)
       refine hK.out _ _ ⟨(blk_cell BK421.out 0).trans rfl, (blk_cell BK421.out 1).trans rfl, (blk_cell BK439.out 0).trans rfl, (blk_cell BK439.out 1).trans rfl, (blk_cell BK439.out 2).trans rfl, (blk_cell BK454.out 0).trans rfl, (blk_cell BK454.out 1).trans rfl, (blk_cell BK454.out 2).trans rfl, (blk_cell BK459.out 0).trans rfl, (blk_cell BK459.out 1).trans rfl, (blk_cell BK459.out 2).trans rfl⟩ (fun hHeld => ?_)
       clear hK K
       refine norm_ (a' := ?_) ?_ ?_
       rotate_left
       ·show Act.put _ (some 89) _ = _
        simp only [Act.put, List.setIfInBounds_toArray, List.set_cons_zero, List.set_cons_succ, i64_w, i32_w]
        rfl
       refine one_ (i := 19) (N := some 91) (bm 32 1048575) rfl rfl (one_of HT_.out (by kernel_rfl)) (by decide) (fun K hK => ?_)
       refine goes_ Tryd.func20 (by kernel_rfl) rfl #[.agg #[.string t436, .string t437, .int .i64 t438]] (by rfl) rfl rfl (by (try simp only [List.map_toArray, List.map_cons, List.map_nil]); first | done | rfl | (simp only [List.length_drop, List.length_take]; rfl)) ?_
       with_reducible refine (spec_IsValidLog.calls kj2 t436 t437 t438 t463 _ A83.out).mono ?_
       rintro e w97 ⟨rfl, hb⟩
       refine ⟨_, rfl, ?_⟩
       have n_ := And.intro (Aside0.mk (Kd.R_below (rk_ HO424) hb)) (And.intro (Aside0.mk (Kd.R_below (rk_ HO435) hb)) (And.intro (Aside0.mk (Kd.R_below (rk_ HO442) hb)) (And.intro (Aside0.mk (bb_ BK421 hb)) (And.intro (Aside0.mk (bb_ BK428 hb)) (And.intro (Aside0.mk (bb_ BK439 hb)) (And.intro (Aside0.mk (bb_ BK448 hb)) (And.intro (Aside0.mk (bb_ BK449 hb)) (And.intro (Aside0.mk (bb_ BK454 hb)) (And.intro (Aside0.mk (bb_ BK459 hb)) (Aside0.mk (below_step bg_ hb)))))))))))
       clear HO424 HO435 HO442 BK421 BK428 BK439 BK448 BK449 BK454 BK459 HB; obtain ⟨HO424, HO435, HO442, BK421, BK428, BK439, BK448, BK449, BK454, BK459, HB⟩ := n_
       (try clear hb)
       (try clear hb2)
       (try clear hk)
       (try clear hi)
       refine hK.out _ _ ⟨(blk_cell BK421.out 0).trans rfl, (blk_cell BK421.out 1).trans rfl, (blk_cell BK439.out 0).trans rfl, (blk_cell BK439.out 1).trans rfl, (blk_cell BK439.out 2).trans rfl, (blk_cell BK454.out 0).trans rfl, (blk_cell BK454.out 1).trans rfl, (blk_cell BK454.out 2).trans rfl, (blk_cell BK459.out 0).trans rfl, (blk_cell BK459.out 1).trans rfl, (blk_cell BK459.out 2).trans rfl⟩ (fun hHeld => ?_)
       clear hK K
       refine norm_ (a' := ?_) ?_ ?_
       rotate_left
       ·show Act.put _ (some 91) _ = _
        simp only [Act.put, List.setIfInBounds_toArray, List.set_cons_zero, List.set_cons_succ, i64_w, i32_w]
        rfl
       refine pa_ 20 (some 92) (bm 32 2097151) rfl rfl HT_.out ?_
       refine pa_ 21 (some 93) (bm 32 4194303) rfl rfl HT_.out ?_
       refine pa_ 22 (some 94) (bm 32 8388607) rfl rfl HT_.out ?_
       refine take_ (i := 23) (N := some 95) (v := ?_) (a' := ?_) (bm 32 16777215) rfl rfl (take_ofW HT_.out HW_.out (by kernel_rfl)) (fun _ _ _ h => h) (Or.inl ⟨by rfl, ?_⟩) hHeld ?_ ?_
       rotate_left
       ·rintro w' ⟨s0, s1, s2, s3, s4, s5, s6, s7, s8, s9, s10⟩
        go_simp
        with_reducible rfl
       rotate_left
       ·simp only [Act.put, List.setIfInBounds_toArray, List.set_cons_zero, List.set_cons_succ, i64_w, i32_w]
        rfl
       refine take_ (i := 24) (N := some 96) (v := ?_) (a' := ?_) (bm 32 33554431) rfl rfl (take_ofW HT_.out HW_.out (by kernel_rfl)) (fun _ _ _ h => h) (Or.inl ⟨by rfl, ?_⟩) hHeld ?_ ?_
       rotate_left
       ·rintro w' ⟨s0, s1, s2, s3, s4, s5, s6, s7, s8, s9, s10⟩
        go_simp
        with_reducible rfl
       rotate_left
       ·simp only [Act.put, List.setIfInBounds_toArray, List.set_cons_zero, List.set_cons_succ, i64_w, i32_w]
        rfl
       refine pa_ 25 (some 97) (bm 32 67108863) rfl rfl HT_.out ?_
       refine pa_ 26 (some 98) (bm 32 134217727) rfl rfl HT_.out ?_
       refine pa_ 27 (some 99) (bm 32 268435455) rfl rfl HT_.out ?_
       refine pu_ 28 (some 100) (bm 32 536870911) rfl rfl HT_.out ?_
       refine pu_ 29 (some 101) (bm 32 1073741823) rfl rfl HT_.out ?_
       refine pu_ 30 (some 102) (bm 32 2147483647) rfl rfl HT_.out ?_
       refine pa_ 31 (some 103) (bm 32 4294967295) rfl rfl HT_.out ?_
       refine done_ (done_of HT_.out (by kernel_rfl)) ?_
       try go_wp2
       go_meet
       case rel => exact ⟨_, (true), (by first | rfl | (simp; done) | (simp [*]; done)), H', ⟨by have := HJ2.out; first | omega | exact Nat.le_refl _⟩, ⟨bk_ BK421⟩, ⟨bk_ BK428⟩, ⟨bk_ BK439⟩, ⟨bk_ BK448⟩, ⟨bk_ BK449⟩, ⟨bk_ BK454⟩, ⟨bk_ BK459⟩, ⟨by repeat (first | (with_reducible first | exact HB.out | apply below_alloc | apply pw_below_drewN | apply below_drew1 | refine below_set ?_ GE421.out | refine below_set ?_ GE428.out | refine below_set ?_ GE439.out | refine below_set ?_ GE448.out | refine below_set ?_ GE449.out | refine below_set ?_ GE454.out | refine below_set ?_ GE459.out) | exact HB.out)⟩⟩
      ·rw [if_neg c91] at H
       have c91b0 : (!(t450.toList == t455.toList) || (!(t451.toList == t456.toList) || (!(t452 == t457)))) = false := by simpa using c91
       clear c91
       have H' := Aside0.mk H
       clear H
       try go_wp2
       have n0_ : Aside0 (Kd.R (Kd.int .u8) 5 (((w61.setCell ⟨gb459, 0, none⟩ (.string t455)).setCell ⟨gb459, 1, none⟩ (.string t456)).setCell ⟨gb459, 2, none⟩ (.int .i64 t457)) w.heap.size (fun k_ => some k_ ≠ (.slice Ao30 t433.length co30 : Value).ownBlock ∧ some k_ ≠ (.slice Ao37 t440.length co37 : Value).ownBlock) (.slice Ao21 t422.length co21) t422) := ⟨by (with_reducible repeat (first | apply Kd.R_alloc | apply Kd.R_drewN | apply Kd.R_drew)); exact Kd.R_mono (Kd.R_far (p := ⟨gb459, 2, none⟩) (Kd.R_far (p := ⟨gb459, 1, none⟩) (Kd.R_far (p := ⟨gb459, 0, none⟩) (Kd.R_types HO424.out BK459.out (by decide)) (fun _ hk => hk.2) (.string t455)) (fun _ hk => hk.2) (.string t456)) (fun _ hk => hk.2) (.int .i64 t457)) (fun _ hk => ⟨hk.1.1.2, hk.1.2⟩)⟩
       have n1_ : Aside0 (Kd.R (Kd.int .u8) 5 (((w61.setCell ⟨gb459, 0, none⟩ (.string t455)).setCell ⟨gb459, 1, none⟩ (.string t456)).setCell ⟨gb459, 2, none⟩ (.int .i64 t457)) w.heap.size (fun k_ => some k_ ≠ (.slice Ao21 t422.length co21 : Value).ownBlock ∧ some k_ ≠ (.slice Ao37 t440.length co37 : Value).ownBlock) (.slice Ao30 t433.length co30) t433) := ⟨by (with_reducible repeat (first | apply Kd.R_alloc | apply Kd.R_drewN | apply Kd.R_drew)); exact Kd.R_mono (Kd.R_far (p := ⟨gb459, 2, none⟩) (Kd.R_far (p := ⟨gb459, 1, none⟩) (Kd.R_far (p := ⟨gb459, 0, none⟩) (Kd.R_types HO435.out BK459.out (by decide)) (fun _ hk => hk.2) (.string t455)) (fun _ hk => hk.2) (.string t456)) (fun _ hk => hk.2) (.int .i64 t457)) (fun _ hk => ⟨hk.1.1.2, hk.1.2⟩)⟩
       have n2_ : Aside0 (Kd.R (Kd.int .u8) 5 (((w61.setCell ⟨gb459, 0, none⟩ (.string t455)).setCell ⟨gb459, 1, none⟩ (.string t456)).setCell ⟨gb459, 2, none⟩ (.int .i64 t457)) w.heap.size (fun k_ => some k_ ≠ (.slice Ao21 t422.length co21 : Value).ownBlock ∧ some k_ ≠ (.slice Ao30 t433.length co30 : Value).ownBlock) (.slice Ao37 t440.length co37) t440) := ⟨by (with_reducible repeat (first | apply Kd.R_alloc | apply Kd.R_drewN | apply Kd.R_drew)); exact Kd.R_mono (Kd.R_far (p := ⟨gb459, 2, none⟩) (Kd.R_far (p := ⟨gb459, 1, none⟩) (Kd.R_far (p := ⟨gb459, 0, none⟩) (Kd.R_types HO442.out BK459.out (by decide)) (fun _ hk => hk.2) (.string t455)) (fun _ hk => hk.2) (.string t456)) (fun _ hk => hk.2) (.int .i64 t457)) (fun _ hk => ⟨hk.1.1.2, hk.1.2⟩)⟩
       have n3_ : Aside0 ((((w61.setCell ⟨gb459, 0, none⟩ (.string t455)).setCell ⟨gb459, 1, none⟩ (.string t456)).setCell ⟨gb459, 2, none⟩ (.int .i64 t457)).heap[gb421]? = some (.cells #[.string t419, .string t420] 27 (0, 0))) := ⟨by (with_reducible repeat (first | refine blk_drewN ?_ _ | refine blk_drew ?_ | refine blk_alloc ?_ _)); refine blk_far ?_ NB421_459.out _; (with_reducible repeat (first | refine blk_drewN ?_ _ | refine blk_drew ?_ | refine blk_alloc ?_ _)); refine blk_far ?_ NB421_459.out _; (with_reducible repeat (first | refine blk_drewN ?_ _ | refine blk_drew ?_ | refine blk_alloc ?_ _)); refine blk_far ?_ NB421_459.out _; (with_reducible repeat (first | refine blk_drewN ?_ _ | refine blk_drew ?_ | refine blk_alloc ?_ _)); exact BK421.out⟩
       have n4_ : Aside0 ((((w61.setCell ⟨gb459, 0, none⟩ (.string t455)).setCell ⟨gb459, 1, none⟩ (.string t456)).setCell ⟨gb459, 2, none⟩ (.int .i64 t457)).heap[gb428]? = some (.cells #[.string t426, .string t427] 27 (0, 0))) := ⟨by (with_reducible repeat (first | refine blk_drewN ?_ _ | refine blk_drew ?_ | refine blk_alloc ?_ _)); refine blk_far ?_ NB428_459.out _; (with_reducible repeat (first | refine blk_drewN ?_ _ | refine blk_drew ?_ | refine blk_alloc ?_ _)); refine blk_far ?_ NB428_459.out _; (with_reducible repeat (first | refine blk_drewN ?_ _ | refine blk_drew ?_ | refine blk_alloc ?_ _)); refine blk_far ?_ NB428_459.out _; (with_reducible repeat (first | refine blk_drewN ?_ _ | refine blk_drew ?_ | refine blk_alloc ?_ _)); exact BK428.out⟩
       have n5_ : Aside0 ((((w61.setCell ⟨gb459, 0, none⟩ (.string t455)).setCell ⟨gb459, 1, none⟩ (.string t456)).setCell ⟨gb459, 2, none⟩ (.int .i64 t457)).heap[gb439]? = some (.cells #[.string t436, .string t437, .int .i64 t438] 31 (0, 0))) := ⟨by (with_reducible repeat (first | refine blk_drewN ?_ _ | refine blk_drew ?_ | refine blk_alloc ?_ _)); refine blk_far ?_ NB439_459.out _; (with_reducible repeat (first | refine blk_drewN ?_ _ | refine blk_drew ?_ | refine blk_alloc ?_ _)); refine blk_far ?_ NB439_459.out _; (with_reducible repeat (first | refine blk_drewN ?_ _ | refine blk_drew ?_ | refine blk_alloc ?_ _)); refine blk_far ?_ NB439_459.out _; (with_reducible repeat (first | refine blk_drewN ?_ _ | refine blk_drew ?_ | refine blk_alloc ?_ _)); exact BK439.out⟩
       have n6_ : Aside0 ((((w61.setCell ⟨gb459, 0, none⟩ (.string t455)).setCell ⟨gb459, 1, none⟩ (.string t456)).setCell ⟨gb459, 2, none⟩ (.int .i64 t457)).heap[gb448]? = some (.cells #[.string t443, .string t444, .int .i64 t445] 31 (0, 0))) := ⟨by (with_reducible repeat (first | refine blk_drewN ?_ _ | refine blk_drew ?_ | refine blk_alloc ?_ _)); refine blk_far ?_ NB448_459.out _; (with_reducible repeat (first | refine blk_drewN ?_ _ | refine blk_drew ?_ | refine blk_alloc ?_ _)); refine blk_far ?_ NB448_459.out _; (with_reducible repeat (first | refine blk_drewN ?_ _ | refine blk_drew ?_ | refine blk_alloc ?_ _)); refine blk_far ?_ NB448_459.out _; (with_reducible repeat (first | refine blk_drewN ?_ _ | refine blk_drew ?_ | refine blk_alloc ?_ _)); exact BK448.out⟩
       have n7_ : Aside0 ((((w61.setCell ⟨gb459, 0, none⟩ (.string t455)).setCell ⟨gb459, 1, none⟩ (.string t456)).setCell ⟨gb459, 2, none⟩ (.int .i64 t457)).heap[gb449]? = some (.cells #[.string t446, .string t447] 27 (0, 0))) := ⟨by (with_reducible repeat (first | refine blk_drewN ?_ _ | refine blk_drew ?_ | refine blk_alloc ?_ _)); refine blk_far ?_ NB449_459.out _; (with_reducible repeat (first | refine blk_drewN ?_ _ | refine blk_drew ?_ | refine blk_alloc ?_ _)); refine blk_far ?_ NB449_459.out _; (with_reducible repeat (first | refine blk_drewN ?_ _ | refine blk_drew ?_ | refine blk_alloc ?_ _)); refine blk_far ?_ NB449_459.out _; (with_reducible repeat (first | refine blk_drewN ?_ _ | refine blk_drew ?_ | refine blk_alloc ?_ _)); exact BK449.out⟩
       have n8_ : Aside0 ((((w61.setCell ⟨gb459, 0, none⟩ (.string t455)).setCell ⟨gb459, 1, none⟩ (.string t456)).setCell ⟨gb459, 2, none⟩ (.int .i64 t457)).heap[gb454]? = some (.cells #[.string t450, .string t451, .int .i64 t452] 31 (0, 0))) := ⟨by (with_reducible repeat (first | refine blk_drewN ?_ _ | refine blk_drew ?_ | refine blk_alloc ?_ _)); refine blk_far ?_ NB454_459.out _; (with_reducible repeat (first | refine blk_drewN ?_ _ | refine blk_drew ?_ | refine blk_alloc ?_ _)); refine blk_far ?_ NB454_459.out _; (with_reducible repeat (first | refine blk_drewN ?_ _ | refine blk_drew ?_ | refine blk_alloc ?_ _)); refine blk_far ?_ NB454_459.out _; (with_reducible repeat (first | refine blk_drewN ?_ _ | refine blk_drew ?_ | refine blk_alloc ?_ _)); exact BK454.out⟩
       have n9_ : Aside0 ((((w61.setCell ⟨gb459, 0, none⟩ (.string t455)).setCell ⟨gb459, 1, none⟩ (.string t456)).setCell ⟨gb459, 2, none⟩ (.int .i64 t457)).heap[gb459]? = some (.cells #[.string t455, .string t456, .int .i64 t457] 31 (0, 0))) := ⟨by (with_reducible repeat (first | refine blk_drewN ?_ _ | refine blk_drew ?_ | refine blk_alloc ?_ _)); refine blk_put (cs := #[.string t455, .string t456, .int .i64 0]) ?_ 2 _ rfl; (with_reducible repeat (first | refine blk_drewN ?_ _ | refine blk_drew ?_ | refine blk_alloc ?_ _)); refine blk_put (cs := #[.string t455, .string (⟨#[]⟩ : ByteArray), .int .i64 0]) ?_ 1 _ rfl; (with_reducible repeat (first | refine blk_drewN ?_ _ | refine blk_drew ?_ | refine blk_alloc ?_ _)); refine blk_put (cs := #[.string (⟨#[]⟩ : ByteArray), .string (⟨#[]⟩ : ByteArray), .int .i64 0]) ?_ 0 _ rfl; (with_reducible repeat (first | refine blk_drewN ?_ _ | refine blk_drew ?_ | refine blk_alloc ?_ _)); exact BK459.out⟩
       have n10_ : Aside0 (Below w.heap.size w (((w61.setCell ⟨gb459, 0, none⟩ (.string t455)).setCell ⟨gb459, 1, none⟩ (.string t456)).setCell ⟨gb459, 2, none⟩ (.int .i64 t457))) := ⟨by repeat (first | (with_reducible first | exact HB.out | apply below_alloc | apply pw_below_drewN | apply below_drew1 | refine below_set ?_ GE421.out | refine below_set ?_ GE428.out | refine below_set ?_ GE439.out | refine below_set ?_ GE448.out | refine below_set ?_ GE449.out | refine below_set ?_ GE454.out | refine below_set ?_ GE459.out) | exact HB.out)⟩
       (try clear HO424)
       (try clear HO435)
       (try clear HO442)
       (try clear BK421)
       (try clear BK428)
       (try clear BK439)
       (try clear BK448)
       (try clear BK449)
       (try clear BK454)
       (try clear BK459)
       (try clear HB)
       generalize (((w61.setCell ⟨gb459, 0, none⟩ (.string t455)).setCell ⟨gb459, 1, none⟩ (.string t456)).setCell ⟨gb459, 2, none⟩ (.int .i64 t457)) = w98 at n0_ n1_ n2_ n3_ n4_ n5_ n6_ n7_ n8_ n9_ n10_ ⊢
       have HO424 := n0_
       have HO435 := n1_
       have HO442 := n2_
       have BK421 := n3_
       have BK428 := n4_
       have BK439 := n5_
       have BK448 := n6_
       have BK449 := n7_
       have BK454 := n8_
       have BK459 := n9_
       have HB := n10_
       clear n0_ n1_ n2_ n3_ n4_ n5_ n6_ n7_ n8_ n9_ n10_
       have n_ := And.intro (Aside0.mk (Kd.R_drew HO424.out)) (And.intro (Aside0.mk (Kd.R_drew HO435.out)) (And.intro (Aside0.mk (Kd.R_drew HO442.out)) (And.intro (Aside0.mk (blk_drew BK421.out)) (And.intro (Aside0.mk (blk_drew BK428.out)) (And.intro (Aside0.mk (blk_drew BK439.out)) (And.intro (Aside0.mk (blk_drew BK448.out)) (And.intro (Aside0.mk (blk_drew BK449.out)) (And.intro (Aside0.mk (blk_drew BK454.out)) (And.intro (Aside0.mk (blk_drew BK459.out)) (Aside0.mk (below_drew1 HB.out)))))))))))
       clear HO424 HO435 HO442 BK421 BK428 BK439 BK448 BK449 BK454 BK459 HB; obtain ⟨HO424, HO435, HO442, BK421, BK428, BK439, BK448, BK449, BK454, BK459, HB⟩ := n_
       refine start_ (n := 32) (S := fun w' => w'.cell? ⟨gb421, 0, none⟩ = some (.string t419) ∧ w'.cell? ⟨gb421, 1, none⟩ = some (.string t420) ∧ w'.cell? ⟨gb439, 0, none⟩ = some (.string t436) ∧ w'.cell? ⟨gb439, 1, none⟩ = some (.string t437) ∧ w'.cell? ⟨gb439, 2, none⟩ = some (.int .i64 t438) ∧ w'.cell? ⟨gb454, 0, none⟩ = some (.string t450) ∧ w'.cell? ⟨gb454, 1, none⟩ = some (.string t451) ∧ w'.cell? ⟨gb454, 2, none⟩ = some (.int .i64 t452) ∧ w'.cell? ⟨gb459, 0, none⟩ = some (.string t455) ∧ w'.cell? ⟨gb459, 1, none⟩ = some (.string t456) ∧ w'.cell? ⟨gb459, 2, none⟩ = some (.int .i64 t457)) (ds := []) (bm 32 0) (by kernel_rfl) rfl rfl ⟨(blk_cell BK421.out 0).trans rfl, (blk_cell BK421.out 1).trans rfl, (blk_cell BK439.out 0).trans rfl, (blk_cell BK439.out 1).trans rfl, (blk_cell BK439.out 2).trans rfl, (blk_cell BK454.out 0).trans rfl, (blk_cell BK454.out 1).trans rfl, (blk_cell BK454.out 2).trans rfl, (blk_cell BK459.out 0).trans rfl, (blk_cell BK459.out 1).trans rfl, (blk_cell BK459.out 2).trans rfl⟩ (fun hHeld => ?_); refine with_tabW laws_FnLogs.tab11 laws_FnLogs.bits11 (fun HT_ HW_ => ?_)
       generalize w98.drew = w99 at HO424 HO435 HO442 BK421 BK428 BK439 BK448 BK449 BK454 BK459 HB hHeld ⊢
       refine take_ (i := 0) (N := some 72) (v := ?_) (a' := ?_) (bm 32 1) rfl rfl (take_ofW HT_.out HW_.out (by kernel_rfl)) (fun _ _ _ h => h) (Or.inl ⟨by rfl, ?_⟩) hHeld ?_ ?_
       rotate_left
       ·rintro w' ⟨s0, s1, s2, s3, s4, s5, s6, s7, s8, s9, s10⟩
        go_simp
        with_reducible rfl
       rotate_left
       ·simp only [Act.put, List.setIfInBounds_toArray, List.set_cons_zero, List.set_cons_succ, i64_w, i32_w]
        rfl
       refine take_ (i := 2) (N := some 74) (v := ?_) (a' := ?_) (bm 32 5) rfl rfl (take_ofW HT_.out HW_.out (by kernel_rfl)) (fun _ _ _ h => h) (Or.inl ⟨by rfl, ?_⟩) hHeld ?_ ?_
       rotate_left
       ·rintro w' ⟨s0, s1, s2, s3, s4, s5, s6, s7, s8, s9, s10⟩
        go_simp
        with_reducible rfl
       rotate_left
       ·simp only [Act.put, List.setIfInBounds_toArray, List.set_cons_zero, List.set_cons_succ, i64_w, i32_w]
        rfl
       refine one_ (i := 1) (N := some 73) (bm 32 7) rfl rfl (one_of HT_.out (by kernel_rfl)) (by decide) (fun K hK => ?_)
       refine goes_ Tryd.func40 (by kernel_rfl) rfl #[.agg #[.string t419, .string t420]] (by rfl) rfl rfl (by (try simp only [List.map_toArray, List.map_cons, List.map_nil]); first | done | rfl | (simp only [List.length_drop, List.length_take]; rfl)) ?_
       with_reducible refine (impl_IsValidRecord.calls kj2 t419 t420 t460 _ A69.out).mono ?_
       rintro e w100 ⟨rfl, hb⟩
       refine ⟨_, rfl, ?_⟩
       have n_ := And.intro (Aside0.mk (Kd.R_below (rk_ HO424) hb)) (And.intro (Aside0.mk (Kd.R_below (rk_ HO435) hb)) (And.intro (Aside0.mk (Kd.R_below (rk_ HO442) hb)) (And.intro (Aside0.mk (bb_ BK421 hb)) (And.intro (Aside0.mk (bb_ BK428 hb)) (And.intro (Aside0.mk (bb_ BK439 hb)) (And.intro (Aside0.mk (bb_ BK448 hb)) (And.intro (Aside0.mk (bb_ BK449 hb)) (And.intro (Aside0.mk (bb_ BK454 hb)) (And.intro (Aside0.mk (bb_ BK459 hb)) (Aside0.mk (below_step bg_ hb)))))))))))
       clear HO424 HO435 HO442 BK421 BK428 BK439 BK448 BK449 BK454 BK459 HB; obtain ⟨HO424, HO435, HO442, BK421, BK428, BK439, BK448, BK449, BK454, BK459, HB⟩ := n_
       (try clear hb)
       (try clear hb2)
       (try clear hk)
       (try clear hi)
       refine hK.out _ _ ⟨(blk_cell BK421.out 0).trans rfl, (blk_cell BK421.out 1).trans rfl, (blk_cell BK439.out 0).trans rfl, (blk_cell BK439.out 1).trans rfl, (blk_cell BK439.out 2).trans rfl, (blk_cell BK454.out 0).trans rfl, (blk_cell BK454.out 1).trans rfl, (blk_cell BK454.out 2).trans rfl, (blk_cell BK459.out 0).trans rfl, (blk_cell BK459.out 1).trans rfl, (blk_cell BK459.out 2).trans rfl⟩ (fun hHeld => ?_)
       clear hK K
       refine norm_ (a' := ?_) ?_ ?_
       rotate_left
       ·show Act.put _ (some 73) _ = _
        simp only [Act.put, List.setIfInBounds_toArray, List.set_cons_zero, List.set_cons_succ, i64_w, i32_w]
        rfl
       refine one_ (i := 3) (N := some 75) (bm 32 15) rfl rfl (one_of HT_.out (by kernel_rfl)) (by decide) (fun K hK => ?_)
       refine goes_ Tryd.func41 (by kernel_rfl) rfl #[.agg #[.string t419, .string t420]] (by rfl) rfl rfl (by (try simp only [List.map_toArray, List.map_cons, List.map_nil]); first | done | rfl | (simp only [List.length_drop, List.length_take]; rfl)) ?_
       with_reducible refine (spec_IsValidRecord.calls kj2 t419 t420 t461 _ A70.out).mono ?_
       rintro e w101 ⟨rfl, hb⟩
       refine ⟨_, rfl, ?_⟩
       have n_ := And.intro (Aside0.mk (Kd.R_below (rk_ HO424) hb)) (And.intro (Aside0.mk (Kd.R_below (rk_ HO435) hb)) (And.intro (Aside0.mk (Kd.R_below (rk_ HO442) hb)) (And.intro (Aside0.mk (bb_ BK421 hb)) (And.intro (Aside0.mk (bb_ BK428 hb)) (And.intro (Aside0.mk (bb_ BK439 hb)) (And.intro (Aside0.mk (bb_ BK448 hb)) (And.intro (Aside0.mk (bb_ BK449 hb)) (And.intro (Aside0.mk (bb_ BK454 hb)) (And.intro (Aside0.mk (bb_ BK459 hb)) (Aside0.mk (below_step bg_ hb)))))))))))
       clear HO424 HO435 HO442 BK421 BK428 BK439 BK448 BK449 BK454 BK459 HB; obtain ⟨HO424, HO435, HO442, BK421, BK428, BK439, BK448, BK449, BK454, BK459, HB⟩ := n_
       (try clear hb)
       (try clear hb2)
       (try clear hk)
       (try clear hi)
       refine hK.out _ _ ⟨(blk_cell BK421.out 0).trans rfl, (blk_cell BK421.out 1).trans rfl, (blk_cell BK439.out 0).trans rfl, (blk_cell BK439.out 1).trans rfl, (blk_cell BK439.out 2).trans rfl, (blk_cell BK454.out 0).trans rfl, (blk_cell BK454.out 1).trans rfl, (blk_cell BK454.out 2).trans rfl, (blk_cell BK459.out 0).trans rfl, (blk_cell BK459.out 1).trans rfl, (blk_cell BK459.out 2).trans rfl⟩ (fun hHeld => ?_)
       clear hK K
       refine norm_ (a' := ?_) ?_ ?_
       rotate_left
       ·show Act.put _ (some 75) _ = _
        simp only [Act.put, List.setIfInBounds_toArray, List.set_cons_zero, List.set_cons_succ, i64_w, i32_w]
        rfl
       refine pa_ 4 (some 76) (bm 32 31) rfl rfl HT_.out ?_
       refine pa_ 5 (some 77) (bm 32 63) rfl rfl HT_.out ?_
       refine pa_ 6 (some 78) (bm 32 127) rfl rfl HT_.out ?_
       refine pa_ 7 (some 79) (bm 32 255) rfl rfl HT_.out ?_
       refine pa_ 8 (some 80) (bm 32 511) rfl rfl HT_.out ?_
       refine pa_ 9 (some 81) (bm 32 1023) rfl rfl HT_.out ?_
       refine pa_ 10 (some 82) (bm 32 2047) rfl rfl HT_.out ?_
       refine pa_ 11 (some 83) (bm 32 4095) rfl rfl HT_.out ?_
       refine pa_ 12 (some 84) (bm 32 8191) rfl rfl HT_.out ?_
       refine pa_ 13 (some 85) (bm 32 16383) rfl rfl HT_.out ?_
       refine pa_ 14 (some 86) (bm 32 32767) rfl rfl HT_.out ?_
       refine pa_ 15 (some 87) (bm 32 65535) rfl rfl HT_.out ?_
       refine take_ (i := 16) (N := some 88) (v := ?_) (a' := ?_) (bm 32 131071) rfl rfl (take_ofW HT_.out HW_.out (by kernel_rfl)) (fun _ _ _ h => h) (Or.inl ⟨by rfl, ?_⟩) hHeld ?_ ?_
       rotate_left
       ·rintro w' ⟨s0, s1, s2, s3, s4, s5, s6, s7, s8, s9, s10⟩
        go_simp
        with_reducible rfl
       rotate_left
       ·simp only [Act.put, List.setIfInBounds_toArray, List.set_cons_zero, List.set_cons_succ, i64_w, i32_w]
        rfl
       refine take_ (i := 18) (N := some 90) (v := ?_) (a' := ?_) (bm 32 393215) rfl rfl (take_ofW HT_.out HW_.out (by kernel_rfl)) (fun _ _ _ h => h) (Or.inl ⟨by rfl, ?_⟩) hHeld ?_ ?_
       rotate_left
       ·rintro w' ⟨s0, s1, s2, s3, s4, s5, s6, s7, s8, s9, s10⟩
        go_simp
        with_reducible rfl
       rotate_left
       ·simp only [Act.put, List.setIfInBounds_toArray, List.set_cons_zero, List.set_cons_succ, i64_w, i32_w]
        rfl
       refine one_ (i := 17) (N := some 89) (bm 32 524287) rfl rfl (one_of HT_.out (by kernel_rfl)) (by decide) (fun K hK => ?_)
       refine goes_ Tryd.func22 (by kernel_rfl) rfl #[.agg #[.string t436, .string t437, .int .i64 t438]] (by rfl) rfl rfl (by (try simp only [List.map_toArray, List.map_cons, List.map_nil]); first | done | rfl | (simp only [List.length_drop, List.length_take]; rfl)) ?_
       with_reducible refine (impl_IsValidLog.calls kj2 t436 t437 t438 t462 _ ?side1 A82.out).mono ?_
       (case side1 => exact EnvW.below HENV.out bg_)
       rintro e w102 ⟨rfl, hb⟩
       refine ⟨_, rfl, ?_⟩
       have n_ := And.intro (Aside0.mk (Kd.R_below (rk_ HO424) hb)) (And.intro (Aside0.mk (Kd.R_below (rk_ HO435) hb)) (And.intro (Aside0.mk (Kd.R_below (rk_ HO442) hb)) (And.intro (Aside0.mk (bb_ BK421 hb)) (And.intro (Aside0.mk (bb_ BK428 hb)) (And.intro (Aside0.mk (bb_ BK439 hb)) (And.intro (Aside0.mk (bb_ BK448 hb)) (And.intro (Aside0.mk (bb_ BK449 hb)) (And.intro (Aside0.mk (bb_ BK454 hb)) (And.intro (Aside0.mk (bb_ BK459 hb)) (Aside0.mk (below_step bg_ hb)))))))))))
       clear HO424 HO435 HO442 BK421 BK428 BK439 BK448 BK449 BK454 BK459 HB; obtain ⟨HO424, HO435, HO442, BK421, BK428, BK439, BK448, BK449, BK454, BK459, HB⟩ := n_
       (try clear hb)
       (try clear hb2)
       (try clear hk)
       (try clear hi)
       refine hK.out _ _ ⟨(blk_cell BK421.out 0).trans rfl, (blk_cell BK421.out 1).trans rfl, (blk_cell BK439.out 0).trans rfl, (blk_cell BK439.out 1).trans rfl, (blk_cell BK439.out 2).trans rfl, (blk_cell BK454.out 0).trans rfl, (blk_cell BK454.out 1).trans rfl, (blk_cell BK454.out 2).trans rfl, (blk_cell BK459.out 0).trans rfl, (blk_cell BK459.out 1).trans rfl, (blk_cell BK459.out 2).trans rfl⟩ (fun hHeld => ?_)
       clear hK K
       refine norm_ (a' := ?_) ?_ ?_
       rotate_left
       ·show Act.put _ (some 89) _ = _
        simp only [Act.put, List.setIfInBounds_toArray, List.set_cons_zero, List.set_cons_succ, i64_w, i32_w]
        rfl
       refine one_ (i := 19) (N := some 91) (bm 32 1048575) rfl rfl (one_of HT_.out (by kernel_rfl)) (by decide) (fun K hK => ?_)
       refine goes_ Tryd.func20 (by kernel_rfl) rfl #[.agg #[.string t436, .string t437, .int .i64 t438]] (by rfl) rfl rfl (by (try simp only [List.map_toArray, List.map_cons, List.map_nil]); first | done | rfl | (simp only [List.length_drop, List.length_take]; rfl)) ?_
       with_reducible refine (spec_IsValidLog.calls kj2 t436 t437 t438 t463 _ A83.out).mono ?_
       rintro e w103 ⟨rfl, hb⟩
       refine ⟨_, rfl, ?_⟩
       have n_ := And.intro (Aside0.mk (Kd.R_below (rk_ HO424) hb)) (And.intro (Aside0.mk (Kd.R_below (rk_ HO435) hb)) (And.intro (Aside0.mk (Kd.R_below (rk_ HO442) hb)) (And.intro (Aside0.mk (bb_ BK421 hb)) (And.intro (Aside0.mk (bb_ BK428 hb)) (And.intro (Aside0.mk (bb_ BK439 hb)) (And.intro (Aside0.mk (bb_ BK448 hb)) (And.intro (Aside0.mk (bb_ BK449 hb)) (And.intro (Aside0.mk (bb_ BK454 hb)) (And.intro (Aside0.mk (bb_ BK459 hb)) (Aside0.mk (below_step bg_ hb)))))))))))
       clear HO424 HO435 HO442 BK421 BK428 BK439 BK448 BK449 BK454 BK459 HB; obtain ⟨HO424, HO435, HO442, BK421, BK428, BK439, BK448, BK449, BK454, BK459, HB⟩ := n_
       (try clear hb)
       (try clear hb2)
       (try clear hk)
       (try clear hi)
       refine hK.out _ _ ⟨(blk_cell BK421.out 0).trans rfl, (blk_cell BK421.out 1).trans rfl, (blk_cell BK439.out 0).trans rfl, (blk_cell BK439.out 1).trans rfl, (blk_cell BK439.out 2).trans rfl, (blk_cell BK454.out 0).trans rfl, (blk_cell BK454.out 1).trans rfl, (blk_cell BK454.out 2).trans rfl, (blk_cell BK459.out 0).trans rfl, (blk_cell BK459.out 1).trans rfl, (blk_cell BK459.out 2).trans rfl⟩ (fun hHeld => ?_)
       clear hK K
       refine norm_ (a' := ?_) ?_ ?_
       rotate_left
       ·show Act.put _ (some 91) _ = _
        simp only [Act.put, List.setIfInBounds_toArray, List.set_cons_zero, List.set_cons_succ, i64_w, i32_w]
        rfl
       refine pa_ 20 (some 92) (bm 32 2097151) rfl rfl HT_.out ?_
       refine pa_ 21 (some 93) (bm 32 4194303) rfl rfl HT_.out ?_
       refine pa_ 22 (some 94) (bm 32 8388607) rfl rfl HT_.out ?_
       refine take_ (i := 23) (N := some 95) (v := ?_) (a' := ?_) (bm 32 16777215) rfl rfl (take_ofW HT_.out HW_.out (by kernel_rfl)) (fun _ _ _ h => h) (Or.inl ⟨by rfl, ?_⟩) hHeld ?_ ?_
       rotate_left
       ·rintro w' ⟨s0, s1, s2, s3, s4, s5, s6, s7, s8, s9, s10⟩
        go_simp
        with_reducible rfl
       rotate_left
       ·simp only [Act.put, List.setIfInBounds_toArray, List.set_cons_zero, List.set_cons_succ, i64_w, i32_w]
        rfl
       refine take_ (i := 24) (N := some 96) (v := ?_) (a' := ?_) (bm 32 33554431) rfl rfl (take_ofW HT_.out HW_.out (by kernel_rfl)) (fun _ _ _ h => h) (Or.inl ⟨by rfl, ?_⟩) hHeld ?_ ?_
       rotate_left
       ·rintro w' ⟨s0, s1, s2, s3, s4, s5, s6, s7, s8, s9, s10⟩
        go_simp
        with_reducible rfl
       rotate_left
       ·simp only [Act.put, List.setIfInBounds_toArray, List.set_cons_zero, List.set_cons_succ, i64_w, i32_w]
        rfl
       refine pa_ 25 (some 97) (bm 32 67108863) rfl rfl HT_.out ?_
       refine pa_ 26 (some 98) (bm 32 134217727) rfl rfl HT_.out ?_
       refine pa_ 27 (some 99) (bm 32 268435455) rfl rfl HT_.out ?_
       refine pa_ 28 (some 100) (bm 32 536870911) rfl rfl HT_.out ?_
       refine pa_ 29 (some 101) (bm 32 1073741823) rfl rfl HT_.out ?_
       refine pa_ 30 (some 102) (bm 32 2147483647) rfl rfl HT_.out ?_
       refine pa_ 31 (some 103) (bm 32 4294967295) rfl rfl HT_.out ?_
       refine done_ (done_of HT_.out (by kernel_rfl)) ?_
       try go_wp2
       go_meet
       case rel => exact ⟨_, ((t453 != t458)), (by first | rfl | (simp; done) | (simp [*]; done)), H', ⟨by have := HJ2.out; first | omega | exact Nat.le_refl _⟩, ⟨bk_ BK421⟩, ⟨bk_ BK428⟩, ⟨bk_ BK439⟩, ⟨bk_ BK448⟩, ⟨bk_ BK449⟩, ⟨bk_ BK454⟩, ⟨bk_ BK459⟩, ⟨by repeat (first | (with_reducible first | exact HB.out | apply below_alloc | apply pw_below_drewN | apply below_drew1 | refine below_set ?_ GE421.out | refine below_set ?_ GE428.out | refine below_set ?_ GE439.out | refine below_set ?_ GE448.out | refine below_set ?_ GE449.out | refine below_set ?_ GE454.out | refine below_set ?_ GE459.out) | exact HB.out)⟩⟩
   ·rw [if_neg c76] at H
    have c76b0 : (t429.toList == t431.toList) = false := beq_eq_false_iff_ne.mpr c76
    have c76b1 : (t429.toList != t431.toList) = true := bne_iff_ne.mpr c76
    have H' := Aside0.mk H
    clear H
    try go_wp2
    have n0_ : Aside0 (Kd.R (Kd.int .u8) 5 (((w61.setCell ⟨gb459, 0, none⟩ (.string t455)).setCell ⟨gb459, 1, none⟩ (.string t456)).setCell ⟨gb459, 2, none⟩ (.int .i64 t457)) w.heap.size (fun k_ => some k_ ≠ (.slice Ao30 t433.length co30 : Value).ownBlock ∧ some k_ ≠ (.slice Ao37 t440.length co37 : Value).ownBlock) (.slice Ao21 t422.length co21) t422) := ⟨by (with_reducible repeat (first | apply Kd.R_alloc | apply Kd.R_drewN | apply Kd.R_drew)); exact Kd.R_mono (Kd.R_far (p := ⟨gb459, 2, none⟩) (Kd.R_far (p := ⟨gb459, 1, none⟩) (Kd.R_far (p := ⟨gb459, 0, none⟩) (Kd.R_types HO424.out BK459.out (by decide)) (fun _ hk => hk.2) (.string t455)) (fun _ hk => hk.2) (.string t456)) (fun _ hk => hk.2) (.int .i64 t457)) (fun _ hk => ⟨hk.1.1.2, hk.1.2⟩)⟩
    have n1_ : Aside0 (Kd.R (Kd.int .u8) 5 (((w61.setCell ⟨gb459, 0, none⟩ (.string t455)).setCell ⟨gb459, 1, none⟩ (.string t456)).setCell ⟨gb459, 2, none⟩ (.int .i64 t457)) w.heap.size (fun k_ => some k_ ≠ (.slice Ao21 t422.length co21 : Value).ownBlock ∧ some k_ ≠ (.slice Ao37 t440.length co37 : Value).ownBlock) (.slice Ao30 t433.length co30) t433) := ⟨by (with_reducible repeat (first | apply Kd.R_alloc | apply Kd.R_drewN | apply Kd.R_drew)); exact Kd.R_mono (Kd.R_far (p := ⟨gb459, 2, none⟩) (Kd.R_far (p := ⟨gb459, 1, none⟩) (Kd.R_far (p := ⟨gb459, 0, none⟩) (Kd.R_types HO435.out BK459.out (by decide)) (fun _ hk => hk.2) (.string t455)) (fun _ hk => hk.2) (.string t456)) (fun _ hk => hk.2) (.int .i64 t457)) (fun _ hk => ⟨hk.1.1.2, hk.1.2⟩)⟩
    have n2_ : Aside0 (Kd.R (Kd.int .u8) 5 (((w61.setCell ⟨gb459, 0, none⟩ (.string t455)).setCell ⟨gb459, 1, none⟩ (.string t456)).setCell ⟨gb459, 2, none⟩ (.int .i64 t457)) w.heap.size (fun k_ => some k_ ≠ (.slice Ao21 t422.length co21 : Value).ownBlock ∧ some k_ ≠ (.slice Ao30 t433.length co30 : Value).ownBlock) (.slice Ao37 t440.length co37) t440) := ⟨by (with_reducible repeat (first | apply Kd.R_alloc | apply Kd.R_drewN | apply Kd.R_drew)); exact Kd.R_mono (Kd.R_far (p := ⟨gb459, 2, none⟩) (Kd.R_far (p := ⟨gb459, 1, none⟩) (Kd.R_far (p := ⟨gb459, 0, none⟩) (Kd.R_types HO442.out BK459.out (by decide)) (fun _ hk => hk.2) (.string t455)) (fun _ hk => hk.2) (.string t456)) (fun _ hk => hk.2) (.int .i64 t457)) (fun _ hk => ⟨hk.1.1.2, hk.1.2⟩)⟩
    have n3_ : Aside0 ((((w61.setCell ⟨gb459, 0, none⟩ (.string t455)).setCell ⟨gb459, 1, none⟩ (.string t456)).setCell ⟨gb459, 2, none⟩ (.int .i64 t457)).heap[gb421]? = some (.cells #[.string t419, .string t420] 27 (0, 0))) := ⟨by (with_reducible repeat (first | refine blk_drewN ?_ _ | refine blk_drew ?_ | refine blk_alloc ?_ _)); refine blk_far ?_ NB421_459.out _; (with_reducible repeat (first | refine blk_drewN ?_ _ | refine blk_drew ?_ | refine blk_alloc ?_ _)); refine blk_far ?_ NB421_459.out _; (with_reducible repeat (first | refine blk_drewN ?_ _ | refine blk_drew ?_ | refine blk_alloc ?_ _)); refine blk_far ?_ NB421_459.out _; (with_reducible repeat (first | refine blk_drewN ?_ _ | refine blk_drew ?_ | refine blk_alloc ?_ _)); exact BK421.out⟩
    have n4_ : Aside0 ((((w61.setCell ⟨gb459, 0, none⟩ (.string t455)).setCell ⟨gb459, 1, none⟩ (.string t456)).setCell ⟨gb459, 2, none⟩ (.int .i64 t457)).heap[gb428]? = some (.cells #[.string t426, .string t427] 27 (0, 0))) := ⟨by (with_reducible repeat (first | refine blk_drewN ?_ _ | refine blk_drew ?_ | refine blk_alloc ?_ _)); refine blk_far ?_ NB428_459.out _; (with_reducible repeat (first | refine blk_drewN ?_ _ | refine blk_drew ?_ | refine blk_alloc ?_ _)); refine blk_far ?_ NB428_459.out _; (with_reducible repeat (first | refine blk_drewN ?_ _ | refine blk_drew ?_ | refine blk_alloc ?_ _)); refine blk_far ?_ NB428_459.out _; (with_reducible repeat (first | refine blk_drewN ?_ _ | refine blk_drew ?_ | refine blk_alloc ?_ _)); exact BK428.out⟩
    have n5_ : Aside0 ((((w61.setCell ⟨gb459, 0, none⟩ (.string t455)).setCell ⟨gb459, 1, none⟩ (.string t456)).setCell ⟨gb459, 2, none⟩ (.int .i64 t457)).heap[gb439]? = some (.cells #[.string t436, .string t437, .int .i64 t438] 31 (0, 0))) := ⟨by (with_reducible repeat (first | refine blk_drewN ?_ _ | refine blk_drew ?_ | refine blk_alloc ?_ _)); refine blk_far ?_ NB439_459.out _; (with_reducible repeat (first | refine blk_drewN ?_ _ | refine blk_drew ?_ | refine blk_alloc ?_ _)); refine blk_far ?_ NB439_459.out _; (with_reducible repeat (first | refine blk_drewN ?_ _ | refine blk_drew ?_ | refine blk_alloc ?_ _)); refine blk_far ?_ NB439_459.out _; (with_reducible repeat (first | refine blk_drewN ?_ _ | refine blk_drew ?_ | refine blk_alloc ?_ _)); exact BK439.out⟩
    have n6_ : Aside0 ((((w61.setCell ⟨gb459, 0, none⟩ (.string t455)).setCell ⟨gb459, 1, none⟩ (.string t456)).setCell ⟨gb459, 2, none⟩ (.int .i64 t457)).heap[gb448]? = some (.cells #[.string t443, .string t444, .int .i64 t445] 31 (0, 0))) := ⟨by (with_reducible repeat (first | refine blk_drewN ?_ _ | refine blk_drew ?_ | refine blk_alloc ?_ _)); refine blk_far ?_ NB448_459.out _; (with_reducible repeat (first | refine blk_drewN ?_ _ | refine blk_drew ?_ | refine blk_alloc ?_ _)); refine blk_far ?_ NB448_459.out _; (with_reducible repeat (first | refine blk_drewN ?_ _ | refine blk_drew ?_ | refine blk_alloc ?_ _)); refine blk_far ?_ NB448_459.out _; (with_reducible repeat (first | refine blk_drewN ?_ _ | refine blk_drew ?_ | refine blk_alloc ?_ _)); exact BK448.out⟩
    have n7_ : Aside0 ((((w61.setCell ⟨gb459, 0, none⟩ (.string t455)).setCell ⟨gb459, 1, none⟩ (.string t456)).setCell ⟨gb459, 2, none⟩ (.int .i64 t457)).heap[gb449]? = some (.cells #[.string t446, .string t447] 27 (0, 0))) := ⟨by (with_reducible repeat (first | refine blk_drewN ?_ _ | refine blk_drew ?_ | refine blk_alloc ?_ _)); refine blk_far ?_ NB449_459.out _; (with_reducible repeat (first | refine blk_drewN ?_ _ | refine blk_drew ?_ | refine blk_alloc ?_ _)); refine blk_far ?_ NB449_459.out _; (with_reducible repeat (first | refine blk_drewN ?_ _ | refine blk_drew ?_ | refine blk_alloc ?_ _)); refine blk_far ?_ NB449_459.out _; (with_reducible repeat (first | refine blk_drewN ?_ _ | refine blk_drew ?_ | refine blk_alloc ?_ _)); exact BK449.out⟩
    have n8_ : Aside0 ((((w61.setCell ⟨gb459, 0, none⟩ (.string t455)).setCell ⟨gb459, 1, none⟩ (.string t456)).setCell ⟨gb459, 2, none⟩ (.int .i64 t457)).heap[gb454]? = some (.cells #[.string t450, .string t451, .int .i64 t452] 31 (0, 0))) := ⟨by (with_reducible repeat (first | refine blk_drewN ?_ _ | refine blk_drew ?_ | refine blk_alloc ?_ _)); refine blk_far ?_ NB454_459.out _; (with_reducible repeat (first | refine blk_drewN ?_ _ | refine blk_drew ?_ | refine blk_alloc ?_ _)); refine blk_far ?_ NB454_459.out _; (with_reducible repeat (first | refine blk_drewN ?_ _ | refine blk_drew ?_ | refine blk_alloc ?_ _)); refine blk_far ?_ NB454_459.out _; (with_reducible repeat (first | refine blk_drewN ?_ _ | refine blk_drew ?_ | refine blk_alloc ?_ _)); exact BK454.out⟩
    have n9_ : Aside0 ((((w61.setCell ⟨gb459, 0, none⟩ (.string t455)).setCell ⟨gb459, 1, none⟩ (.string t456)).setCell ⟨gb459, 2, none⟩ (.int .i64 t457)).heap[gb459]? = some (.cells #[.string t455, .string t456, .int .i64 t457] 31 (0, 0))) := ⟨by (with_reducible repeat (first | refine blk_drewN ?_ _ | refine blk_drew ?_ | refine blk_alloc ?_ _)); refine blk_put (cs := #[.string t455, .string t456, .int .i64 0]) ?_ 2 _ rfl; (with_reducible repeat (first | refine blk_drewN ?_ _ | refine blk_drew ?_ | refine blk_alloc ?_ _)); refine blk_put (cs := #[.string t455, .string (⟨#[]⟩ : ByteArray), .int .i64 0]) ?_ 1 _ rfl; (with_reducible repeat (first | refine blk_drewN ?_ _ | refine blk_drew ?_ | refine blk_alloc ?_ _)); refine blk_put (cs := #[.string (⟨#[]⟩ : ByteArray), .string (⟨#[]⟩ : ByteArray), .int .i64 0]) ?_ 0 _ rfl; (with_reducible repeat (first | refine blk_drewN ?_ _ | refine blk_drew ?_ | refine blk_alloc ?_ _)); exact BK459.out⟩
    have n10_ : Aside0 (Below w.heap.size w (((w61.setCell ⟨gb459, 0, none⟩ (.string t455)).setCell ⟨gb459, 1, none⟩ (.string t456)).setCell ⟨gb459, 2, none⟩ (.int .i64 t457))) := ⟨by repeat (first | (with_reducible first | exact HB.out | apply below_alloc | apply pw_below_drewN | apply below_drew1 | refine below_set ?_ GE421.out | refine below_set ?_ GE428.out | refine below_set ?_ GE439.out | refine below_set ?_ GE448.out | refine below_set ?_ GE449.out | refine below_set ?_ GE454.out | refine below_set ?_ GE459.out) | exact HB.out)⟩
    (try clear HO424)
    (try clear HO435)
    (try clear HO442)
    (try clear BK421)
    (try clear BK428)
    (try clear BK439)
    (try clear BK448)
    (try clear BK449)
    (try clear BK454)
    (try clear BK459)
    (try clear HB)
    generalize (((w61.setCell ⟨gb459, 0, none⟩ (.string t455)).setCell ⟨gb459, 1, none⟩ (.string t456)).setCell ⟨gb459, 2, none⟩ (.int .i64 t457)) = w104 at n0_ n1_ n2_ n3_ n4_ n5_ n6_ n7_ n8_ n9_ n10_ ⊢
    have HO424 := n0_
    have HO435 := n1_
    have HO442 := n2_
    have BK421 := n3_
    have BK428 := n4_
    have BK439 := n5_
    have BK448 := n6_
    have BK449 := n7_
    have BK454 := n8_
    have BK459 := n9_
    have HB := n10_
    clear n0_ n1_ n2_ n3_ n4_ n5_ n6_ n7_ n8_ n9_ n10_
    have n_ := And.intro (Aside0.mk (Kd.R_drew HO424.out)) (And.intro (Aside0.mk (Kd.R_drew HO435.out)) (And.intro (Aside0.mk (Kd.R_drew HO442.out)) (And.intro (Aside0.mk (blk_drew BK421.out)) (And.intro (Aside0.mk (blk_drew BK428.out)) (And.intro (Aside0.mk (blk_drew BK439.out)) (And.intro (Aside0.mk (blk_drew BK448.out)) (And.intro (Aside0.mk (blk_drew BK449.out)) (And.intro (Aside0.mk (blk_drew BK454.out)) (And.intro (Aside0.mk (blk_drew BK459.out)) (Aside0.mk (below_drew1 HB.out)))))))))))
    clear HO424 HO435 HO442 BK421 BK428 BK439 BK448 BK449 BK454 BK459 HB; obtain ⟨HO424, HO435, HO442, BK421, BK428, BK439, BK448, BK449, BK454, BK459, HB⟩ := n_
    refine start_ (n := 32) (S := fun w' => w'.cell? ⟨gb421, 0, none⟩ = some (.string t419) ∧ w'.cell? ⟨gb421, 1, none⟩ = some (.string t420)) (ds := []) (bm 32 0) (by kernel_rfl) rfl rfl ⟨(blk_cell BK421.out 0).trans rfl, (blk_cell BK421.out 1).trans rfl⟩ (fun hHeld => ?_); refine with_tabW laws_FnLogs.tab11 laws_FnLogs.bits11 (fun HT_ HW_ => ?_)
    generalize w104.drew = w105 at HO424 HO435 HO442 BK421 BK428 BK439 BK448 BK449 BK454 BK459 HB hHeld ⊢
    refine take_ (i := 0) (N := some 72) (v := ?_) (a' := ?_) (bm 32 1) rfl rfl (take_ofW HT_.out HW_.out (by kernel_rfl)) (fun _ _ _ h => h) (Or.inl ⟨by rfl, ?_⟩) hHeld ?_ ?_
    rotate_left
    ·rintro w' ⟨s0, s1⟩
     go_simp
     with_reducible rfl
    rotate_left
    ·simp only [Act.put, List.setIfInBounds_toArray, List.set_cons_zero, List.set_cons_succ, i64_w, i32_w]
     rfl
    refine take_ (i := 2) (N := some 74) (v := ?_) (a' := ?_) (bm 32 5) rfl rfl (take_ofW HT_.out HW_.out (by kernel_rfl)) (fun _ _ _ h => h) (Or.inl ⟨by rfl, ?_⟩) hHeld ?_ ?_
    rotate_left
    ·rintro w' ⟨s0, s1⟩
     go_simp
     with_reducible rfl
    rotate_left
    ·simp only [Act.put, List.setIfInBounds_toArray, List.set_cons_zero, List.set_cons_succ, i64_w, i32_w]
     rfl
    refine one_ (i := 1) (N := some 73) (bm 32 7) rfl rfl (one_of HT_.out (by kernel_rfl)) (by decide) (fun K hK => ?_)
    refine goes_ Tryd.func40 (by kernel_rfl) rfl #[.agg #[.string t419, .string t420]] (by rfl) rfl rfl (by (try simp only [List.map_toArray, List.map_cons, List.map_nil]); first | done | rfl | (simp only [List.length_drop, List.length_take]; rfl)) ?_
    with_reducible refine (impl_IsValidRecord.calls kj2 t419 t420 t460 _ A69.out).mono ?_
    rintro e w106 ⟨rfl, hb⟩
    refine ⟨_, rfl, ?_⟩
    have n_ := And.intro (Aside0.mk (Kd.R_below (rk_ HO424) hb)) (And.intro (Aside0.mk (Kd.R_below (rk_ HO435) hb)) (And.intro (Aside0.mk (Kd.R_below (rk_ HO442) hb)) (And.intro (Aside0.mk (bb_ BK421 hb)) (And.intro (Aside0.mk (bb_ BK428 hb)) (And.intro (Aside0.mk (bb_ BK439 hb)) (And.intro (Aside0.mk (bb_ BK448 hb)) (And.intro (Aside0.mk (bb_ BK449 hb)) (And.intro (Aside0.mk (bb_ BK454 hb)) (And.intro (Aside0.mk (bb_ BK459 hb)) (Aside0.mk (below_step bg_ hb)))))))))))
    clear HO424 HO435 HO442 BK421 BK428 BK439 BK448 BK449 BK454 BK459 HB; obtain ⟨HO424, HO435, HO442, BK421, BK428, BK439, BK448, BK449, BK454, BK459, HB⟩ := n_
    (try clear hb)
    (try clear hb2)
    (try clear hk)
    (try clear hi)
    refine hK.out _ _ ⟨(blk_cell BK421.out 0).trans rfl, (blk_cell BK421.out 1).trans rfl⟩ (fun hHeld => ?_)
    clear hK K
    refine norm_ (a' := ?_) ?_ ?_
    rotate_left
    ·show Act.put _ (some 73) _ = _
     simp only [Act.put, List.setIfInBounds_toArray, List.set_cons_zero, List.set_cons_succ, i64_w, i32_w]
     rfl
    refine one_ (i := 3) (N := some 75) (bm 32 15) rfl rfl (one_of HT_.out (by kernel_rfl)) (by decide) (fun K hK => ?_)
    refine goes_ Tryd.func41 (by kernel_rfl) rfl #[.agg #[.string t419, .string t420]] (by rfl) rfl rfl (by (try simp only [List.map_toArray, List.map_cons, List.map_nil]); first | done | rfl | (simp only [List.length_drop, List.length_take]; rfl)) ?_
    with_reducible refine (spec_IsValidRecord.calls kj2 t419 t420 t461 _ A70.out).mono ?_
    rintro e w107 ⟨rfl, hb⟩
    refine ⟨_, rfl, ?_⟩
    have n_ := And.intro (Aside0.mk (Kd.R_below (rk_ HO424) hb)) (And.intro (Aside0.mk (Kd.R_below (rk_ HO435) hb)) (And.intro (Aside0.mk (Kd.R_below (rk_ HO442) hb)) (And.intro (Aside0.mk (bb_ BK421 hb)) (And.intro (Aside0.mk (bb_ BK428 hb)) (And.intro (Aside0.mk (bb_ BK439 hb)) (And.intro (Aside0.mk (bb_ BK448 hb)) (And.intro (Aside0.mk (bb_ BK449 hb)) (And.intro (Aside0.mk (bb_ BK454 hb)) (And.intro (Aside0.mk (bb_ BK459 hb)) (Aside0.mk (below_step bg_ hb)))))))))))
    clear HO424 HO435 HO442 BK421 BK428 BK439 BK448 BK449 BK454 BK459 HB; obtain ⟨HO424, HO435, HO442, BK421, BK428, BK439, BK448, BK449, BK454, BK459, HB⟩ := n_
    (try clear hb)
    (try clear hb2)
    (try clear hk)
    (try clear hi)
    refine hK.out _ _ ⟨(blk_cell BK421.out 0).trans rfl, (blk_cell BK421.out 1).trans rfl⟩ (fun hHeld => ?_)
    clear hK K
    refine norm_ (a' := ?_) ?_ ?_
    rotate_left
    ·show Act.put _ (some 75) _ = _
     simp only [Act.put, List.setIfInBounds_toArray, List.set_cons_zero, List.set_cons_succ, i64_w, i32_w]
     rfl
    refine pa_ 4 (some 76) (bm 32 31) rfl rfl HT_.out ?_
    refine pa_ 5 (some 77) (bm 32 63) rfl rfl HT_.out ?_
    refine pa_ 6 (some 78) (bm 32 127) rfl rfl HT_.out ?_
    refine pa_ 7 (some 79) (bm 32 255) rfl rfl HT_.out ?_
    refine pa_ 8 (some 80) (bm 32 511) rfl rfl HT_.out ?_
    refine pa_ 9 (some 81) (bm 32 1023) rfl rfl HT_.out ?_
    refine pa_ 10 (some 82) (bm 32 2047) rfl rfl HT_.out ?_
    refine pu_ 11 (some 83) (bm 32 4095) rfl rfl HT_.out ?_
    refine pu_ 12 (some 84) (bm 32 8191) rfl rfl HT_.out ?_
    refine pu_ 13 (some 85) (bm 32 16383) rfl rfl HT_.out ?_
    refine pa_ 14 (some 86) (bm 32 32767) rfl rfl HT_.out ?_
    refine pa_ 15 (some 87) (bm 32 65535) rfl rfl HT_.out ?_
    refine pu_ 16 (some 88) (bm 32 131071) rfl rfl HT_.out ?_
    refine pu_ 17 (some 89) (bm 32 262143) rfl rfl HT_.out ?_
    refine pu_ 18 (some 90) (bm 32 524287) rfl rfl HT_.out ?_
    refine pu_ 19 (some 91) (bm 32 1048575) rfl rfl HT_.out ?_
    refine pu_ 20 (some 92) (bm 32 2097151) rfl rfl HT_.out ?_
    refine pa_ 21 (some 93) (bm 32 4194303) rfl rfl HT_.out ?_
    refine pa_ 22 (some 94) (bm 32 8388607) rfl rfl HT_.out ?_
    refine pu_ 23 (some 95) (bm 32 16777215) rfl rfl HT_.out ?_
    refine pu_ 24 (some 96) (bm 32 33554431) rfl rfl HT_.out ?_
    refine pu_ 25 (some 97) (bm 32 67108863) rfl rfl HT_.out ?_
    refine pa_ 26 (some 98) (bm 32 134217727) rfl rfl HT_.out ?_
    refine pa_ 27 (some 99) (bm 32 268435455) rfl rfl HT_.out ?_
    refine pu_ 28 (some 100) (bm 32 536870911) rfl rfl HT_.out ?_
    refine pu_ 29 (some 101) (bm 32 1073741823) rfl rfl HT_.out ?_
    refine pu_ 30 (some 102) (bm 32 2147483647) rfl rfl HT_.out ?_
    refine pa_ 31 (some 103) (bm 32 4294967295) rfl rfl HT_.out ?_
    refine done_ (done_of HT_.out (by kernel_rfl)) ?_
    try go_wp2
    go_meet
    case rel => exact ⟨_, (true), (by first | rfl | (simp; done) | (simp [*]; done)), H', ⟨by have := HJ2.out; first | omega | exact Nat.le_refl _⟩, ⟨bk_ BK421⟩, ⟨bk_ BK428⟩, ⟨bk_ BK439⟩, ⟨bk_ BK448⟩, ⟨bk_ BK449⟩, ⟨bk_ BK454⟩, ⟨bk_ BK459⟩, ⟨by repeat (first | (with_reducible first | exact HB.out | apply below_alloc | apply pw_below_drewN | apply below_drew1 | refine below_set ?_ GE421.out | refine below_set ?_ GE428.out | refine below_set ?_ GE439.out | refine below_set ?_ GE448.out | refine below_set ?_ GE449.out | refine below_set ?_ GE454.out | refine below_set ?_ GE459.out) | exact HB.out)⟩⟩
 clear HC16
 obtain ⟨kq, x103_15, rfl, HA, HJ15, BK421, BK428, BK439, BK448, BK449, BK454, BK459, HB⟩ := hcut
 cases kq
 case zero => exact absurd HA.out (by simp [laws_FnLogs.j1])
 case' succ kj15 => skip
 as_aux_lemma =>
 have H := HA.out
 clear HA
 simp only [laws_FnLogs.j1] at H
 have HC108 := Aside0.mk H
 clear H
 go_upto_if 103 with (fail)
 go_cut [] (fun wc => ∃ (kq : Nat), Aside0 (laws_FnLogs.j2 kq t453 t443 t444 t445 t446 t447 t450 t451 t452 = some r) ∧ Aside0 (kq ≤ kj15) ∧ Aside0 (wc.heap[gb421]? = some (.cells #[.string t419, .string t420] 27 (0, 0))) ∧ Aside0 (wc.heap[gb428]? = some (.cells #[.string t426, .string t427] 27 (0, 0))) ∧ Aside0 (wc.heap[gb439]? = some (.cells #[.string t436, .string t437, .int .i64 t438] 31 (0, 0))) ∧ Aside0 (wc.heap[gb448]? = some (.cells #[.string t443, .string t444, .int .i64 t445] 31 (0, 0))) ∧ Aside0 (wc.heap[gb449]? = some (.cells #[.string t446, .string t447] 27 (0, 0))) ∧ Aside0 (wc.heap[gb454]? = some (.cells #[.string t450, .string t451, .int .i64 t452] 31 (0, 0))) ∧ Aside0 (wc.heap[gb459]? = some (.cells #[.string t455, .string t456, .int .i64 t457] 31 (0, 0))) ∧ Aside0 (Below w.heap.size w wc))
 case first =>
  have H := HC108.out
  clear HC108
  by_cases c109 : x103_15 = true
  ·subst c109
   have H1 : (some false) = some r := by rw [if_pos rfl] at H; exact H
   clear H
   have H := H1
   clear H1
   obtain rfl := Option.some.inj H
   go_wp2
   go_ret
   exact ⟨by first | rfl | (simp [errW_none, errW_some] <;> rfl) | (simp [*, errW_none, errW_some] <;> rfl), by repeat (first | (with_reducible first | exact HB.out | apply below_alloc | apply pw_below_drewN | apply below_drew1 | refine below_set ?_ GE421.out | refine below_set ?_ GE428.out | refine below_set ?_ GE439.out | refine below_set ?_ GE448.out | refine below_set ?_ GE449.out | refine below_set ?_ GE454.out | refine below_set ?_ GE459.out) | exact HB.out)⟩
  ·replace c109 := Bool.eq_false_iff.mpr c109
   subst c109
   have H1 : (laws_FnLogs.j2 kj15 t453 t443 t444 t445 t446 t447 t450 t451 t452) = some r := by rw [if_neg (show ¬ (false = true) by decide)] at H; exact H
   clear H
   have H := H1
   clear H1
   have H' := Aside0.mk H
   clear H
   go_wp2
   go_meet
   case rel => exact ⟨_, H', ⟨by have := HJ2.out; have := HJ15.out; first | omega | exact Nat.le_refl _⟩, ⟨bk_ BK421⟩, ⟨bk_ BK428⟩, ⟨bk_ BK439⟩, ⟨bk_ BK448⟩, ⟨bk_ BK449⟩, ⟨bk_ BK454⟩, ⟨bk_ BK459⟩, ⟨by repeat (first | (with_reducible first | exact HB.out | apply below_alloc | apply pw_below_drewN | apply below_drew1 | refine below_set ?_ GE421.out | refine below_set ?_ GE428.out | refine below_set ?_ GE439.out | refine below_set ?_ GE448.out | refine below_set ?_ GE449.out | refine below_set ?_ GE454.out | refine below_set ?_ GE459.out) | exact HB.out)⟩⟩
 clear HC108
 obtain ⟨kq, HA, HJ107, BK421, BK428, BK439, BK448, BK449, BK454, BK459, HB⟩ := hcut
 cases kq
 case zero => exact absurd HA.out (by simp [laws_FnLogs.j2])
 case' succ kj107 => skip
 as_aux_lemma =>
 have H := HA.out
 clear HA
 simp only [laws_FnLogs.j2] at H
 replace H := Option.bind_eq_some_iff.mp H
 obtain ⟨⟨t464, t465, t466, t467⟩, A1100, H⟩ := H
 (try dsimp only at H)
 have A110 := Aside0.mk A1100
 clear A1100
 replace H := Option.bind_eq_some_iff.mp H
 obtain ⟨⟨t469, t470, t471, t472⟩, A1110, H⟩ := H
 (try dsimp only at H)
 have A111 := Aside0.mk A1110
 clear A1110
 replace H := Option.bind_eq_some_iff.mp H
 obtain ⟨⟨t474, t477⟩, A1120, H⟩ := H
 (try dsimp only at H)
 have A112 := Aside0.mk A1120
 clear A1120
 replace H := Option.bind_eq_some_iff.mp H
 obtain ⟨⟨t478, t481⟩, A1130, H⟩ := H
 (try dsimp only at H)
 have A113 := Aside0.mk A1130
 clear A1130
 have HC114 := Aside0.mk H
 clear H
 have hnb115 := NB448_421.out
 have hnc115 := NB421_448.out
 have hnb116 := NB448_428.out
 have hnc116 := NB428_448.out
 have hnb117 := NB448_439.out
 have hnc117 := NB439_448.out
 have hnb118 := NB448_449.out
 have hnc118 := NB449_448.out
 have hnb119 := NB448_454.out
 have hnc119 := NB454_448.out
 have hnb120 := NB448_459.out
 have hnc120 := NB459_448.out
 have hcz121_0 : wc.cell? ⟨gb448, 0, none⟩ = some (.string t443) := (blk_cell BK448.out 0).trans rfl
 have hcz121_1 : wc.cell? ⟨gb448, 1, none⟩ = some (.string t444) := (blk_cell BK448.out 1).trans rfl
 have hcz121_2 : wc.cell? ⟨gb448, 2, none⟩ = some (.int .i64 t445) := (blk_cell BK448.out 2).trans rfl
 have hfz121_0 := blk_frozen BK448.out 0
 have hfz121_1 := blk_frozen BK448.out 1
 have hfz121_2 := blk_frozen BK448.out 2
 go_upto_region 17 with (first | ((with_reducible refine gate_callee (f := 26) rfl ?_); refine gL_ (some 106) Tryd.func26 #[.agg #[.string t443, .string t444, .int .i64 t445]] ?_ rfl rfl; (with_reducible refine (impl_SyncLog.calls kj107 t443 t444 t445 t464 t465 t466 t467 _ ?side1 A110.out).mono ?_); (case side1 => exact EnvW.below HENV.out bg_); rintro e w122 ⟨rfl, hb⟩; refine ⟨_, rfl, ?_⟩; have n_ := And.intro (Aside0.mk (bb_ BK421 hb)) (And.intro (Aside0.mk (bb_ BK428 hb)) (And.intro (Aside0.mk (bb_ BK439 hb)) (And.intro (Aside0.mk (bb_ BK448 hb)) (And.intro (Aside0.mk (bb_ BK449 hb)) (And.intro (Aside0.mk (bb_ BK454 hb)) (And.intro (Aside0.mk (bb_ BK459 hb)) (Aside0.mk (below_step bg_ hb)))))))); clear BK421 BK428 BK439 BK448 BK449 BK454 BK459 HB; obtain ⟨BK421, BK428, BK439, BK448, BK449, BK454, BK459, HB⟩ := n_; (try clear hb); (try clear hb2); (try clear hk); (try clear hi)) | ((with_reducible refine gate_dst (N := 17) rfl ?_); (try (refine gate_guard (by rfl) ?_; dsimp only)); refine box_event ?hg (N := 17) ?hd (cs := #[.string (⟨#[]⟩ : ByteArray), .string (⟨#[]⟩ : ByteArray), .int .i64 0]) (t := 31) ?hr ?_; (case hd => rfl); (case hg => rfl); (case hr => first | (go_simp; done) | (go_simp; rfl)); intro gb468 hg w123 hbox hb; have n_ := And.intro (Aside0.mk (bb_ BK421 hb)) (And.intro (Aside0.mk (bb_ BK428 hb)) (And.intro (Aside0.mk (bb_ BK439 hb)) (And.intro (Aside0.mk (bb_ BK448 hb)) (And.intro (Aside0.mk (bb_ BK449 hb)) (And.intro (Aside0.mk (bb_ BK454 hb)) (And.intro (Aside0.mk (bb_ BK459 hb)) (And.intro (Aside0.mk (below_step bg_ hb)) (And.intro (Aside0.mk (hbox)) (And.intro (Aside0.mk ((by rw [hg]; exact (below_size bg_) : w.heap.size ≤ gb468))) (And.intro (Aside0.mk ((by rw [hg]; exact (below_size bg_) : w.heap.size ≤ gb468))) (And.intro (Aside0.mk (nl_ BK421 hg)) (And.intro (Aside0.mk (ng_ BK421 hg)) (And.intro (Aside0.mk (nl_ BK428 hg)) (And.intro (Aside0.mk (ng_ BK428 hg)) (And.intro (Aside0.mk (nl_ BK439 hg)) (And.intro (Aside0.mk (ng_ BK439 hg)) (And.intro (Aside0.mk (nl_ BK448 hg)) (And.intro (Aside0.mk (ng_ BK448 hg)) (And.intro (Aside0.mk (nl_ BK449 hg)) (And.intro (Aside0.mk (ng_ BK449 hg)) (And.intro (Aside0.mk (nl_ BK454 hg)) (And.intro (Aside0.mk (ng_ BK454 hg)) (And.intro (Aside0.mk (nl_ BK459 hg)) (Aside0.mk (ng_ BK459 hg))))))))))))))))))))))))); clear BK421 BK428 BK439 BK448 BK449 BK454 BK459 HB; obtain ⟨BK421, BK428, BK439, BK448, BK449, BK454, BK459, HB, BK468, GW468, GE468, NB421_468, NB468_421, NB428_468, NB468_428, NB439_468, NB468_439, NB448_468, NB468_448, NB449_468, NB468_449, NB454_468, NB468_454, NB459_468, NB468_459⟩ := n_; clear hb hbox hg; have hnb124 := NB468_421.out; have hnc124 := NB421_468.out; have hnb125 := NB468_428.out; have hnc125 := NB428_468.out; have hnb126 := NB468_439.out; have hnc126 := NB439_468.out; have hnb127 := NB468_448.out; have hnc127 := NB448_468.out; have hnb128 := NB468_449.out; have hnc128 := NB449_468.out; have hnb129 := NB468_454.out; have hnc129 := NB454_468.out; have hnb130 := NB468_459.out; have hnc130 := NB459_468.out; have hcz131_0 : w123.cell? ⟨gb468, 0, none⟩ = some (.string (⟨#[]⟩ : ByteArray)) := (blk_cell BK468.out 0).trans rfl; have hcz131_1 : w123.cell? ⟨gb468, 1, none⟩ = some (.string (⟨#[]⟩ : ByteArray)) := (blk_cell BK468.out 1).trans rfl; have hcz131_2 : w123.cell? ⟨gb468, 2, none⟩ = some (.int .i64 0) := (blk_cell BK468.out 2).trans rfl; have hfz131_0 := blk_frozen BK468.out 0; have hfz131_1 := blk_frozen BK468.out 1; have hfz131_2 := blk_frozen BK468.out 2; have hcz132_0 : w123.cell? ⟨gb448, 0, none⟩ = some (.string t443) := (blk_cell BK448.out 0).trans rfl; have hcz132_1 : w123.cell? ⟨gb448, 1, none⟩ = some (.string t444) := (blk_cell BK448.out 1).trans rfl; have hcz132_2 : w123.cell? ⟨gb448, 2, none⟩ = some (.int .i64 t445) := (blk_cell BK448.out 2).trans rfl; have hfz132_0 := blk_frozen BK448.out 0; have hfz132_1 := blk_frozen BK448.out 1; have hfz132_2 := blk_frozen BK448.out 2) | ((with_reducible refine gate_callee (f := 25) rfl ?_); refine gL_ (some 111) Tryd.func25 #[.agg #[.string t443, .string t444, .int .i64 t445]] ?_ rfl rfl; (with_reducible refine (spec_SyncLog.calls kj107 t443 t444 t445 t469 t470 t471 t472 _ A111.out).mono ?_); rintro e w133 ⟨rfl, hb⟩; refine ⟨_, rfl, ?_⟩; have n_ := And.intro (Aside0.mk (blk_below (g := gb421) (o := .cells #[.string t419, .string t420] 27 (0, 0)) (by (with_reducible repeat (first | refine blk_drewN ?_ _ | refine blk_drew ?_ | refine blk_alloc ?_ _)); refine blk_far ?_ NB421_468.out _; (with_reducible repeat (first | refine blk_drewN ?_ _ | refine blk_drew ?_ | refine blk_alloc ?_ _)); refine blk_far ?_ NB421_468.out _; (with_reducible repeat (first | refine blk_drewN ?_ _ | refine blk_drew ?_ | refine blk_alloc ?_ _)); refine blk_far ?_ NB421_468.out _; (with_reducible repeat (first | refine blk_drewN ?_ _ | refine blk_drew ?_ | refine blk_alloc ?_ _)); exact BK421.out) hb)) (And.intro (Aside0.mk (blk_below (g := gb428) (o := .cells #[.string t426, .string t427] 27 (0, 0)) (by (with_reducible repeat (first | refine blk_drewN ?_ _ | refine blk_drew ?_ | refine blk_alloc ?_ _)); refine blk_far ?_ NB428_468.out _; (with_reducible repeat (first | refine blk_drewN ?_ _ | refine blk_drew ?_ | refine blk_alloc ?_ _)); refine blk_far ?_ NB428_468.out _; (with_reducible repeat (first | refine blk_drewN ?_ _ | refine blk_drew ?_ | refine blk_alloc ?_ _)); refine blk_far ?_ NB428_468.out _; (with_reducible repeat (first | refine blk_drewN ?_ _ | refine blk_drew ?_ | refine blk_alloc ?_ _)); exact BK428.out) hb)) (And.intro (Aside0.mk (blk_below (g := gb439) (o := .cells #[.string t436, .string t437, .int .i64 t438] 31 (0, 0)) (by (with_reducible repeat (first | refine blk_drewN ?_ _ | refine blk_drew ?_ | refine blk_alloc ?_ _)); refine blk_far ?_ NB439_468.out _; (with_reducible repeat (first | refine blk_drewN ?_ _ | refine blk_drew ?_ | refine blk_alloc ?_ _)); refine blk_far ?_ NB439_468.out _; (with_reducible repeat (first | refine blk_drewN ?_ _ | refine blk_drew ?_ | refine blk_alloc ?_ _)); refine blk_far ?_ NB439_468.out _; (with_reducible repeat (first | refine blk_drewN ?_ _ | refine blk_drew ?_ | refine blk_alloc ?_ _)); exact BK439.out) hb)) (And.intro (Aside0.mk (blk_below (g := gb448) (o := .cells #[.string t443, .string t444, .int .i64 t445] 31 (0, 0)) (by (with_reducible repeat (first | refine blk_drewN ?_ _ | refine blk_drew ?_ | refine blk_alloc ?_ _)); refine blk_far ?_ NB448_468.out _; (with_reducible repeat (first | refine blk_drewN ?_ _ | refine blk_drew ?_ | refine blk_alloc ?_ _)); refine blk_far ?_ NB448_468.out _; (with_reducible repeat (first | refine blk_drewN ?_ _ | refine blk_drew ?_ | refine blk_alloc ?_ _)); refine blk_far ?_ NB448_468.out _; (with_reducible repeat (first | refine blk_drewN ?_ _ | refine blk_drew ?_ | refine blk_alloc ?_ _)); exact BK448.out) hb)) (And.intro (Aside0.mk (blk_below (g := gb449) (o := .cells #[.string t446, .string t447] 27 (0, 0)) (by (with_reducible repeat (first | refine blk_drewN ?_ _ | refine blk_drew ?_ | refine blk_alloc ?_ _)); refine blk_far ?_ NB449_468.out _; (with_reducible repeat (first | refine blk_drewN ?_ _ | refine blk_drew ?_ | refine blk_alloc ?_ _)); refine blk_far ?_ NB449_468.out _; (with_reducible repeat (first | refine blk_drewN ?_ _ | refine blk_drew ?_ | refine blk_alloc ?_ _)); refine blk_far ?_ NB449_468.out _; (with_reducible repeat (first | refine blk_drewN ?_ _ | refine blk_drew ?_ | refine blk_alloc ?_ _)); exact BK449.out) hb)) (And.intro (Aside0.mk (blk_below (g := gb454) (o := .cells #[.string t450, .string t451, .int .i64 t452] 31 (0, 0)) (by (with_reducible repeat (first | refine blk_drewN ?_ _ | refine blk_drew ?_ | refine blk_alloc ?_ _)); refine blk_far ?_ NB454_468.out _; (with_reducible repeat (first | refine blk_drewN ?_ _ | refine blk_drew ?_ | refine blk_alloc ?_ _)); refine blk_far ?_ NB454_468.out _; (with_reducible repeat (first | refine blk_drewN ?_ _ | refine blk_drew ?_ | refine blk_alloc ?_ _)); refine blk_far ?_ NB454_468.out _; (with_reducible repeat (first | refine blk_drewN ?_ _ | refine blk_drew ?_ | refine blk_alloc ?_ _)); exact BK454.out) hb)) (And.intro (Aside0.mk (blk_below (g := gb459) (o := .cells #[.string t455, .string t456, .int .i64 t457] 31 (0, 0)) (by (with_reducible repeat (first | refine blk_drewN ?_ _ | refine blk_drew ?_ | refine blk_alloc ?_ _)); refine blk_far ?_ NB459_468.out _; (with_reducible repeat (first | refine blk_drewN ?_ _ | refine blk_drew ?_ | refine blk_alloc ?_ _)); refine blk_far ?_ NB459_468.out _; (with_reducible repeat (first | refine blk_drewN ?_ _ | refine blk_drew ?_ | refine blk_alloc ?_ _)); refine blk_far ?_ NB459_468.out _; (with_reducible repeat (first | refine blk_drewN ?_ _ | refine blk_drew ?_ | refine blk_alloc ?_ _)); exact BK459.out) hb)) (And.intro (Aside0.mk (blk_below (g := gb468) (o := .cells #[.string t464, .string t465, .int .i64 t466] 31 (0, 0)) (by (with_reducible repeat (first | refine blk_drewN ?_ _ | refine blk_drew ?_ | refine blk_alloc ?_ _)); refine blk_put (cs := #[.string t464, .string t465, .int .i64 0]) ?_ 2 _ rfl; (with_reducible repeat (first | refine blk_drewN ?_ _ | refine blk_drew ?_ | refine blk_alloc ?_ _)); refine blk_put (cs := #[.string t464, .string (⟨#[]⟩ : ByteArray), .int .i64 0]) ?_ 1 _ rfl; (with_reducible repeat (first | refine blk_drewN ?_ _ | refine blk_drew ?_ | refine blk_alloc ?_ _)); refine blk_put (cs := #[.string (⟨#[]⟩ : ByteArray), .string (⟨#[]⟩ : ByteArray), .int .i64 0]) ?_ 0 _ rfl; (with_reducible repeat (first | refine blk_drewN ?_ _ | refine blk_drew ?_ | refine blk_alloc ?_ _)); exact BK468.out) hb)) (Aside0.mk (below_step bg_ hb))))))))); clear BK421 BK428 BK439 BK448 BK449 BK454 BK459 BK468 HB; obtain ⟨BK421, BK428, BK439, BK448, BK449, BK454, BK459, BK468, HB⟩ := n_; (try clear hb); (try clear hb2); (try clear hk); (try clear hi)) | ((with_reducible refine gate_dst (N := 19) rfl ?_); (try (refine gate_guard (by rfl) ?_; dsimp only)); refine box_event ?hg (N := 19) ?hd (cs := #[.string (⟨#[]⟩ : ByteArray), .string (⟨#[]⟩ : ByteArray), .int .i64 0]) (t := 31) ?hr ?_; (case hd => rfl); (case hg => rfl); (case hr => first | (go_simp; done) | (go_simp; rfl)); intro gb473 hg w134 hbox hb; have n_ := And.intro (Aside0.mk (bb_ BK421 hb)) (And.intro (Aside0.mk (bb_ BK428 hb)) (And.intro (Aside0.mk (bb_ BK439 hb)) (And.intro (Aside0.mk (bb_ BK448 hb)) (And.intro (Aside0.mk (bb_ BK449 hb)) (And.intro (Aside0.mk (bb_ BK454 hb)) (And.intro (Aside0.mk (bb_ BK459 hb)) (And.intro (Aside0.mk (bb_ BK468 hb)) (And.intro (Aside0.mk (below_step bg_ hb)) (And.intro (Aside0.mk (hbox)) (And.intro (Aside0.mk ((by rw [hg]; exact (below_size bg_) : w.heap.size ≤ gb473))) (And.intro (Aside0.mk ((by rw [hg]; exact (below_size bg_) : w.heap.size ≤ gb473))) (And.intro (Aside0.mk (nl_ BK421 hg)) (And.intro (Aside0.mk (ng_ BK421 hg)) (And.intro (Aside0.mk (nl_ BK428 hg)) (And.intro (Aside0.mk (ng_ BK428 hg)) (And.intro (Aside0.mk (nl_ BK439 hg)) (And.intro (Aside0.mk (ng_ BK439 hg)) (And.intro (Aside0.mk (nl_ BK448 hg)) (And.intro (Aside0.mk (ng_ BK448 hg)) (And.intro (Aside0.mk (nl_ BK449 hg)) (And.intro (Aside0.mk (ng_ BK449 hg)) (And.intro (Aside0.mk (nl_ BK454 hg)) (And.intro (Aside0.mk (ng_ BK454 hg)) (And.intro (Aside0.mk (nl_ BK459 hg)) (And.intro (Aside0.mk (ng_ BK459 hg)) (And.intro (Aside0.mk (nl_ BK468 hg)) (Aside0.mk (ng_ BK468 hg)))))))))))))))))))))))))))); clear BK421 BK428 BK439 BK448 BK449 BK454 BK459 BK468 HB; obtain ⟨BK421, BK428, BK439, BK448, BK449, BK454, BK459, BK468, HB, BK473, GW473, GE473, NB421_473, NB473_421, NB428_473, NB473_428, NB439_473, NB473_439, NB448_473, NB473_448, NB449_473, NB473_449, NB454_473, NB473_454, NB459_473, NB473_459, NB468_473, NB473_468⟩ := n_; clear hb hbox hg; have hnb135 := NB473_421.out; have hnc135 := NB421_473.out; have hnb136 := NB473_428.out; have hnc136 := NB428_473.out; have hnb137 := NB473_439.out; have hnc137 := NB439_473.out; have hnb138 := NB473_448.out; have hnc138 := NB448_473.out; have hnb139 := NB473_449.out; have hnc139 := NB449_473.out; have hnb140 := NB473_454.out; have hnc140 := NB454_473.out; have hnb141 := NB473_459.out; have hnc141 := NB459_473.out; have hnb142 := NB473_468.out; have hnc142 := NB468_473.out; have hcz143_0 : w134.cell? ⟨gb473, 0, none⟩ = some (.string (⟨#[]⟩ : ByteArray)) := (blk_cell BK473.out 0).trans rfl; have hcz143_1 : w134.cell? ⟨gb473, 1, none⟩ = some (.string (⟨#[]⟩ : ByteArray)) := (blk_cell BK473.out 1).trans rfl; have hcz143_2 : w134.cell? ⟨gb473, 2, none⟩ = some (.int .i64 0) := (blk_cell BK473.out 2).trans rfl; have hfz143_0 := blk_frozen BK473.out 0; have hfz143_1 := blk_frozen BK473.out 1; have hfz143_2 := blk_frozen BK473.out 2; have hcz144_0 : w134.cell? ⟨gb448, 0, none⟩ = some (.string t443) := (blk_cell BK448.out 0).trans rfl; have hcz144_1 : w134.cell? ⟨gb448, 1, none⟩ = some (.string t444) := (blk_cell BK448.out 1).trans rfl; have hcz144_2 : w134.cell? ⟨gb448, 2, none⟩ = some (.int .i64 t445) := (blk_cell BK448.out 2).trans rfl; have hfz144_0 := blk_frozen BK448.out 0; have hfz144_1 := blk_frozen BK448.out 1; have hfz144_2 := blk_frozen BK448.out 2) | ((with_reducible refine gate_callee (f := 30) rfl ?_); refine gL_ (some 116) Tryd.func30 #[.agg #[.string t443, .string t444, .int .i64 t445]] ?_ rfl rfl; (with_reducible refine (impl_LogRecords.calls kj107 t443 t444 t445 t474 t477 _ ?side1 A112.out).mono ?_); (case side1 => exact EnvW.below HENV.out bg_); rintro e w145 ⟨v475, rfl, ho0, hb⟩; refine ⟨_, rfl, ?_⟩; have n_ := And.intro (Aside0.mk (Kd.R_lower (Kd.R_newB (Kd.R_newB (Kd.R_newB ho0 (g := gb421) (o := .cells #[.string t419, .string t420] 27 (0, 0)) (by (with_reducible repeat (first | refine blk_drewN ?_ _ | refine blk_drew ?_ | refine blk_alloc ?_ _)); refine blk_far ?_ NB421_473.out _; (with_reducible repeat (first | refine blk_drewN ?_ _ | refine blk_drew ?_ | refine blk_alloc ?_ _)); refine blk_far ?_ NB421_473.out _; (with_reducible repeat (first | refine blk_drewN ?_ _ | refine blk_drew ?_ | refine blk_alloc ?_ _)); refine blk_far ?_ NB421_473.out _; (with_reducible repeat (first | refine blk_drewN ?_ _ | refine blk_drew ?_ | refine blk_alloc ?_ _)); exact BK421.out)) (g := gb428) (o := .cells #[.string t426, .string t427] 27 (0, 0)) (by (with_reducible repeat (first | refine blk_drewN ?_ _ | refine blk_drew ?_ | refine blk_alloc ?_ _)); refine blk_far ?_ NB428_473.out _; (with_reducible repeat (first | refine blk_drewN ?_ _ | refine blk_drew ?_ | refine blk_alloc ?_ _)); refine blk_far ?_ NB428_473.out _; (with_reducible repeat (first | refine blk_drewN ?_ _ | refine blk_drew ?_ | refine blk_alloc ?_ _)); refine blk_far ?_ NB428_473.out _; (with_reducible repeat (first | refine blk_drewN ?_ _ | refine blk_drew ?_ | refine blk_alloc ?_ _)); exact BK428.out)) (g := gb449) (o := .cells #[.string t446, .string t447] 27 (0, 0)) (by (with_reducible repeat (first | refine blk_drewN ?_ _ | refine blk_drew ?_ | refine blk_alloc ?_ _)); refine blk_far ?_ NB449_473.out _; (with_reducible repeat (first | refine blk_drewN ?_ _ | refine blk_drew ?_ | refine blk_alloc ?_ _)); refine blk_far ?_ NB449_473.out _; (with_reducible repeat (first | refine blk_drewN ?_ _ | refine blk_drew ?_ | refine blk_alloc ?_ _)); refine blk_far ?_ NB449_473.out _; (with_reducible repeat (first | refine blk_drewN ?_ _ | refine blk_drew ?_ | refine blk_alloc ?_ _)); exact BK449.out)) (below_size bg_))) (And.intro (Aside0.mk (blk_below (g := gb421) (o := .cells #[.string t419, .string t420] 27 (0, 0)) (by (with_reducible repeat (first | refine blk_drewN ?_ _ | refine blk_drew ?_ | refine blk_alloc ?_ _)); refine blk_far ?_ NB421_473.out _; (with_reducible repeat (first | refine blk_drewN ?_ _ | refine blk_drew ?_ | refine blk_alloc ?_ _)); refine blk_far ?_ NB421_473.out _; (with_reducible repeat (first | refine blk_drewN ?_ _ | refine blk_drew ?_ | refine blk_alloc ?_ _)); refine blk_far ?_ NB421_473.out _; (with_reducible repeat (first | refine blk_drewN ?_ _ | refine blk_drew ?_ | refine blk_alloc ?_ _)); exact BK421.out) hb)) (And.intro (Aside0.mk (blk_below (g := gb428) (o := .cells #[.string t426, .string t427] 27 (0, 0)) (by (with_reducible repeat (first | refine blk_drewN ?_ _ | refine blk_drew ?_ | refine blk_alloc ?_ _)); refine blk_far ?_ NB428_473.out _; (with_reducible repeat (first | refine blk_drewN ?_ _ | refine blk_drew ?_ | refine blk_alloc ?_ _)); refine blk_far ?_ NB428_473.out _; (with_reducible repeat (first | refine blk_drewN ?_ _ | refine blk_drew ?_ | refine blk_alloc ?_ _)); refine blk_far ?_ NB428_473.out _; (with_reducible repeat (first | refine blk_drewN ?_ _ | refine blk_drew ?_ | refine blk_alloc ?_ _)); exact BK428.out) hb)) (And.intro (Aside0.mk (blk_below (g := gb439) (o := .cells #[.string t436, .string t437, .int .i64 t438] 31 (0, 0)) (by (with_reducible repeat (first | refine blk_drewN ?_ _ | refine blk_drew ?_ | refine blk_alloc ?_ _)); refine blk_far ?_ NB439_473.out _; (with_reducible repeat (first | refine blk_drewN ?_ _ | refine blk_drew ?_ | refine blk_alloc ?_ _)); refine blk_far ?_ NB439_473.out _; (with_reducible repeat (first | refine blk_drewN ?_ _ | refine blk_drew ?_ | refine blk_alloc ?_ _)); refine blk_far ?_ NB439_473.out _; (with_reducible repeat (first | refine blk_drewN ?_ _ | refine blk_drew ?_ | refine blk_alloc ?_ _)); exact BK439.out) hb)) (And.intro (Aside0.mk (blk_below (g := gb448) (o := .cells #[.string t443, .string t444, .int .i64 t445] 31 (0, 0)) (by (with_reducible repeat (first | refine blk_drewN ?_ _ | refine blk_drew ?_ | refine blk_alloc ?_ _)); refine blk_far ?_ NB448_473.out _; (with_reducible repeat (first | refine blk_drewN ?_ _ | refine blk_drew ?_ | refine blk_alloc ?_ _)); refine blk_far ?_ NB448_473.out _; (with_reducible repeat (first | refine blk_drewN ?_ _ | refine blk_drew ?_ | refine blk_alloc ?_ _)); refine blk_far ?_ NB448_473.out _; (with_reducible repeat (first | refine blk_drewN ?_ _ | refine blk_drew ?_ | refine blk_alloc ?_ _)); exact BK448.out) hb)) (And.intro (Aside0.mk (blk_below (g := gb449) (o := .cells #[.string t446, .string t447] 27 (0, 0)) (by (with_reducible repeat (first | refine blk_drewN ?_ _ | refine blk_drew ?_ | refine blk_alloc ?_ _)); refine blk_far ?_ NB449_473.out _; (with_reducible repeat (first | refine blk_drewN ?_ _ | refine blk_drew ?_ | refine blk_alloc ?_ _)); refine blk_far ?_ NB449_473.out _; (with_reducible repeat (first | refine blk_drewN ?_ _ | refine blk_drew ?_ | refine blk_alloc ?_ _)); refine blk_far ?_ NB449_473.out _; (with_reducible repeat (first | refine blk_drewN ?_ _ | refine blk_drew ?_ | refine blk_alloc ?_ _)); exact BK449.out) hb)) (And.intro (Aside0.mk (blk_below (g := gb454) (o := .cells #[.string t450, .string t451, .int .i64 t452] 31 (0, 0)) (by (with_reducible repeat (first | refine blk_drewN ?_ _ | refine blk_drew ?_ | refine blk_alloc ?_ _)); refine blk_far ?_ NB454_473.out _; (with_reducible repeat (first | refine blk_drewN ?_ _ | refine blk_drew ?_ | refine blk_alloc ?_ _)); refine blk_far ?_ NB454_473.out _; (with_reducible repeat (first | refine blk_drewN ?_ _ | refine blk_drew ?_ | refine blk_alloc ?_ _)); refine blk_far ?_ NB454_473.out _; (with_reducible repeat (first | refine blk_drewN ?_ _ | refine blk_drew ?_ | refine blk_alloc ?_ _)); exact BK454.out) hb)) (And.intro (Aside0.mk (blk_below (g := gb459) (o := .cells #[.string t455, .string t456, .int .i64 t457] 31 (0, 0)) (by (with_reducible repeat (first | refine blk_drewN ?_ _ | refine blk_drew ?_ | refine blk_alloc ?_ _)); refine blk_far ?_ NB459_473.out _; (with_reducible repeat (first | refine blk_drewN ?_ _ | refine blk_drew ?_ | refine blk_alloc ?_ _)); refine blk_far ?_ NB459_473.out _; (with_reducible repeat (first | refine blk_drewN ?_ _ | refine blk_drew ?_ | refine blk_alloc ?_ _)); refine blk_far ?_ NB459_473.out _; (with_reducible repeat (first | refine blk_drewN ?_ _ | refine blk_drew ?_ | refine blk_alloc ?_ _)); exact BK459.out) hb)) (And.intro (Aside0.mk (blk_below (g := gb468) (o := .cells #[.string t464, .string t465, .int .i64 t466] 31 (0, 0)) (by (with_reducible repeat (first | refine blk_drewN ?_ _ | refine blk_drew ?_ | refine blk_alloc ?_ _)); refine blk_far ?_ NB468_473.out _; (with_reducible repeat (first | refine blk_drewN ?_ _ | refine blk_drew ?_ | refine blk_alloc ?_ _)); refine blk_far ?_ NB468_473.out _; (with_reducible repeat (first | refine blk_drewN ?_ _ | refine blk_drew ?_ | refine blk_alloc ?_ _)); refine blk_far ?_ NB468_473.out _; (with_reducible repeat (first | refine blk_drewN ?_ _ | refine blk_drew ?_ | refine blk_alloc ?_ _)); exact BK468.out) hb)) (And.intro (Aside0.mk (blk_below (g := gb473) (o := .cells #[.string t469, .string t470, .int .i64 t471] 31 (0, 0)) (by (with_reducible repeat (first | refine blk_drewN ?_ _ | refine blk_drew ?_ | refine blk_alloc ?_ _)); refine blk_put (cs := #[.string t469, .string t470, .int .i64 0]) ?_ 2 _ rfl; (with_reducible repeat (first | refine blk_drewN ?_ _ | refine blk_drew ?_ | refine blk_alloc ?_ _)); refine blk_put (cs := #[.string t469, .string (⟨#[]⟩ : ByteArray), .int .i64 0]) ?_ 1 _ rfl; (with_reducible repeat (first | refine blk_drewN ?_ _ | refine blk_drew ?_ | refine blk_alloc ?_ _)); refine blk_put (cs := #[.string (⟨#[]⟩ : ByteArray), .string (⟨#[]⟩ : ByteArray), .int .i64 0]) ?_ 0 _ rfl; (with_reducible repeat (first | refine blk_drewN ?_ _ | refine blk_drew ?_ | refine blk_alloc ?_ _)); exact BK473.out) hb)) (Aside0.mk (below_step bg_ hb))))))))))); clear BK421 BK428 BK439 BK448 BK449 BK454 BK459 BK468 BK473 HB; obtain ⟨HO476, BK421, BK428, BK439, BK448, BK449, BK454, BK459, BK468, BK473, HB⟩ := n_; (try clear hb); (try clear hb2); (try clear hk); (try clear hi); (try clear ho0); have hcz146_0 : w145.cell? ⟨gb448, 0, none⟩ = some (.string t443) := (blk_cell BK448.out 0).trans rfl; have hcz146_1 : w145.cell? ⟨gb448, 1, none⟩ = some (.string t444) := (blk_cell BK448.out 1).trans rfl; have hcz146_2 : w145.cell? ⟨gb448, 2, none⟩ = some (.int .i64 t445) := (blk_cell BK448.out 2).trans rfl; have hfz146_0 := blk_frozen BK448.out 0; have hfz146_1 := blk_frozen BK448.out 1; have hfz146_2 := blk_frozen BK448.out 2) | ((with_reducible refine gate_callee (f := 29) rfl ?_); refine gL_ (some 121) Tryd.func29 #[.agg #[.string t443, .string t444, .int .i64 t445]] ?_ rfl rfl; (with_reducible refine (spec_LogRecords.calls kj107 t443 t444 t445 t478 t481 _ A113.out).mono ?_); rintro e w147 ⟨v479, rfl, ho0, hb⟩; refine ⟨_, rfl, ?_⟩; have n_ := And.intro (Aside0.mk (Kd.R_elder' (rk_ HO476) (Kd.R_base ho0) hb)) (And.intro (Aside0.mk (Kd.R_lower (Kd.R_newB (Kd.R_newB (Kd.R_newB (Kd.R_new' ho0 (Kd.R_lt (rk_ HO476))) (g := gb421) (o := .cells #[.string t419, .string t420] 27 (0, 0)) (bk_ BK421)) (g := gb428) (o := .cells #[.string t426, .string t427] 27 (0, 0)) (bk_ BK428)) (g := gb449) (o := .cells #[.string t446, .string t447] 27 (0, 0)) (bk_ BK449)) (below_size bg_))) (And.intro (Aside0.mk (bb_ BK421 hb)) (And.intro (Aside0.mk (bb_ BK428 hb)) (And.intro (Aside0.mk (bb_ BK439 hb)) (And.intro (Aside0.mk (bb_ BK448 hb)) (And.intro (Aside0.mk (bb_ BK449 hb)) (And.intro (Aside0.mk (bb_ BK454 hb)) (And.intro (Aside0.mk (bb_ BK459 hb)) (And.intro (Aside0.mk (bb_ BK468 hb)) (And.intro (Aside0.mk (bb_ BK473 hb)) (Aside0.mk (below_step bg_ hb)))))))))))); clear HO476 BK421 BK428 BK439 BK448 BK449 BK454 BK459 BK468 BK473 HB; obtain ⟨HO476, HO480, BK421, BK428, BK439, BK448, BK449, BK454, BK459, BK468, BK473, HB⟩ := n_; (try clear hb); (try clear hb2); (try clear hk); (try clear hi); (try clear ho0)))
 (try simp only [Act.put, List.setIfInBounds_toArray, List.set_cons_zero, List.set_cons_succ])
 go_cut [142] (fun v142 wc => ∃ (kq : Nat) (x142_113 : Bool), v142 = .bool x142_113 ∧ Aside0 (laws_FnLogs.j3 kq t453 t467 t474 x142_113 t443 t444 t445 t446 t447 t450 t451 t452 t464 t465 t466 = some r) ∧ Aside0 (kq ≤ kj107) ∧ Aside0 (Kd.R k27 27 wc w.heap.size (fun k_ => k_ ≠ gb421 ∧ k_ ≠ gb428 ∧ k_ ≠ gb449) v475 t474) ∧ Aside0 (wc.heap[gb421]? = some (.cells #[.string t419, .string t420] 27 (0, 0))) ∧ Aside0 (wc.heap[gb428]? = some (.cells #[.string t426, .string t427] 27 (0, 0))) ∧ Aside0 (wc.heap[gb439]? = some (.cells #[.string t436, .string t437, .int .i64 t438] 31 (0, 0))) ∧ Aside0 (wc.heap[gb448]? = some (.cells #[.string t443, .string t444, .int .i64 t445] 31 (0, 0))) ∧ Aside0 (wc.heap[gb449]? = some (.cells #[.string t446, .string t447] 27 (0, 0))) ∧ Aside0 (wc.heap[gb454]? = some (.cells #[.string t450, .string t451, .int .i64 t452] 31 (0, 0))) ∧ Aside0 (wc.heap[gb459]? = some (.cells #[.string t455, .string t456, .int .i64 t457] 31 (0, 0))) ∧ Aside0 (wc.heap[gb468]? = some (.cells #[.string t464, .string t465, .int .i64 t466] 31 (0, 0))) ∧ Aside0 (wc.heap[gb473]? = some (.cells #[.string t469, .string t470, .int .i64 t471] 31 (0, 0))) ∧ Aside0 (Below w.heap.size w wc))
 case first =>
  have H := HC114.out
  clear HC114
  by_cases c148 : (!(t464.toList == t469.toList) || (!(t465.toList == t470.toList) || (!(t466 == t471)))) = true
  ·rw [if_pos c148] at H
   have c148b0 : (!(t464.toList == t469.toList) || (!(t465.toList == t470.toList) || (!(t466 == t471)))) = true := c148
   clear c148
   (first | rw [c148b0] | (simp only [i64_w, i32_w]; rw [c148b0]) | skip)
   have H' := Aside0.mk H
   clear H
   have hnb149 := NB468_421.out
   have hnc149 := NB421_468.out
   have hnb150 := NB468_428.out
   have hnc150 := NB428_468.out
   have hnb151 := NB468_439.out
   have hnc151 := NB439_468.out
   have hnb152 := NB468_448.out
   have hnc152 := NB448_468.out
   have hnb153 := NB468_449.out
   have hnc153 := NB449_468.out
   have hnb154 := NB468_454.out
   have hnc154 := NB454_468.out
   have hnb155 := NB468_459.out
   have hnc155 := NB459_468.out
   have hnb156 := NB468_473.out
   have hnc156 := NB473_468.out
   have hcz157_0 : w147.cell? ⟨gb468, 0, none⟩ = some (.string t464) := (blk_cell BK468.out 0).trans rfl
   have hcz157_1 : w147.cell? ⟨gb468, 1, none⟩ = some (.string t465) := (blk_cell BK468.out 1).trans rfl
   have hcz157_2 : w147.cell? ⟨gb468, 2, none⟩ = some (.int .i64 t466) := (blk_cell BK468.out 2).trans rfl
   have hfz157_0 := blk_frozen BK468.out 0
   have hfz157_1 := blk_frozen BK468.out 1
   have hfz157_2 := blk_frozen BK468.out 2
   have hnb158 := NB473_421.out
   have hnc158 := NB421_473.out
   have hnb159 := NB473_428.out
   have hnc159 := NB428_473.out
   have hnb160 := NB473_439.out
   have hnc160 := NB439_473.out
   have hnb161 := NB473_448.out
   have hnc161 := NB448_473.out
   have hnb162 := NB473_449.out
   have hnc162 := NB449_473.out
   have hnb163 := NB473_454.out
   have hnc163 := NB454_473.out
   have hnb164 := NB473_459.out
   have hnc164 := NB459_473.out
   have hcz165_0 : w147.cell? ⟨gb473, 0, none⟩ = some (.string t469) := (blk_cell BK473.out 0).trans rfl
   have hcz165_1 : w147.cell? ⟨gb473, 1, none⟩ = some (.string t470) := (blk_cell BK473.out 1).trans rfl
   have hcz165_2 : w147.cell? ⟨gb473, 2, none⟩ = some (.int .i64 t471) := (blk_cell BK473.out 2).trans rfl
   have hfz165_0 := blk_frozen BK473.out 0
   have hfz165_1 := blk_frozen BK473.out 1
   have hfz165_2 := blk_frozen BK473.out 2
   go_wp2
   go_meet
   case rel => exact ⟨_, (true), (by first | rfl | (simp; done) | (simp [*]; done)), H', ⟨by have := HJ2.out; have := HJ15.out; have := HJ107.out; first | omega | exact Nat.le_refl _⟩, ⟨by (with_reducible repeat (first | apply Kd.R_alloc | apply Kd.R_drewN | apply Kd.R_drew)); exact Kd.R_mono HO476.out (fun _ hk => ⟨hk.1.1.1.2, ⟨hk.1.1.2, hk.1.2⟩⟩)⟩, ⟨bk_ BK421⟩, ⟨bk_ BK428⟩, ⟨bk_ BK439⟩, ⟨bk_ BK448⟩, ⟨bk_ BK449⟩, ⟨bk_ BK454⟩, ⟨bk_ BK459⟩, ⟨bk_ BK468⟩, ⟨bk_ BK473⟩, ⟨by repeat (first | (with_reducible first | exact HB.out | apply below_alloc | apply pw_below_drewN | apply below_drew1 | refine below_set ?_ GE421.out | refine below_set ?_ GE428.out | refine below_set ?_ GE439.out | refine below_set ?_ GE448.out | refine below_set ?_ GE449.out | refine below_set ?_ GE454.out | refine below_set ?_ GE459.out | refine below_set ?_ GE468.out | refine below_set ?_ GE473.out) | exact HB.out)⟩⟩
  ·rw [if_neg c148] at H
   have c148b0 : (!(t464.toList == t469.toList) || (!(t465.toList == t470.toList) || (!(t466 == t471)))) = false := by simpa using c148
   clear c148
   (first | rw [c148b0] | (simp only [i64_w, i32_w]; rw [c148b0]) | skip)
   by_cases c166 : (t467 != t472) = true
   ·rw [if_pos c166] at H
    have c166b0 : (t467 != t472) = true := c166
    (try (have c166b1 : decide (t467 = t472) = false := by simpa using c166))
    (try (have c166b2 : (t467 == t472) = false := by simpa using c166))
    (try (have c166b3 : ¬ (t467 = t472) := by simpa using c166))
    clear c166
    have H' := Aside0.mk H
    clear H
    have hnb167 := NB468_421.out
    have hnc167 := NB421_468.out
    have hnb168 := NB468_428.out
    have hnc168 := NB428_468.out
    have hnb169 := NB468_439.out
    have hnc169 := NB439_468.out
    have hnb170 := NB468_448.out
    have hnc170 := NB448_468.out
    have hnb171 := NB468_449.out
    have hnc171 := NB449_468.out
    have hnb172 := NB468_454.out
    have hnc172 := NB454_468.out
    have hnb173 := NB468_459.out
    have hnc173 := NB459_468.out
    have hnb174 := NB468_473.out
    have hnc174 := NB473_468.out
    have hcz175_0 : w147.cell? ⟨gb468, 0, none⟩ = some (.string t464) := (blk_cell BK468.out 0).trans rfl
    have hcz175_1 : w147.cell? ⟨gb468, 1, none⟩ = some (.string t465) := (blk_cell BK468.out 1).trans rfl
    have hcz175_2 : w147.cell? ⟨gb468, 2, none⟩ = some (.int .i64 t466) := (blk_cell BK468.out 2).trans rfl
    have hfz175_0 := blk_frozen BK468.out 0
    have hfz175_1 := blk_frozen BK468.out 1
    have hfz175_2 := blk_frozen BK468.out 2
    have hnb176 := NB473_421.out
    have hnc176 := NB421_473.out
    have hnb177 := NB473_428.out
    have hnc177 := NB428_473.out
    have hnb178 := NB473_439.out
    have hnc178 := NB439_473.out
    have hnb179 := NB473_448.out
    have hnc179 := NB448_473.out
    have hnb180 := NB473_449.out
    have hnc180 := NB449_473.out
    have hnb181 := NB473_454.out
    have hnc181 := NB454_473.out
    have hnb182 := NB473_459.out
    have hnc182 := NB459_473.out
    have hcz183_0 : w147.cell? ⟨gb473, 0, none⟩ = some (.string t469) := (blk_cell BK473.out 0).trans rfl
    have hcz183_1 : w147.cell? ⟨gb473, 1, none⟩ = some (.string t470) := (blk_cell BK473.out 1).trans rfl
    have hcz183_2 : w147.cell? ⟨gb473, 2, none⟩ = some (.int .i64 t471) := (blk_cell BK473.out 2).trans rfl
    have hfz183_0 := blk_frozen BK473.out 0
    have hfz183_1 := blk_frozen BK473.out 1
    have hfz183_2 := blk_frozen BK473.out 2
    go_wp2
    go_meet
    case rel => exact ⟨_, (true), (by first | rfl | (simp; done) | (simp [*]; done)), H', ⟨by have := HJ2.out; have := HJ15.out; have := HJ107.out; first | omega | exact Nat.le_refl _⟩, ⟨by (with_reducible repeat (first | apply Kd.R_alloc | apply Kd.R_drewN | apply Kd.R_drew)); exact Kd.R_mono HO476.out (fun _ hk => ⟨hk.1.1.1.2, ⟨hk.1.1.2, hk.1.2⟩⟩)⟩, ⟨bk_ BK421⟩, ⟨bk_ BK428⟩, ⟨bk_ BK439⟩, ⟨bk_ BK448⟩, ⟨bk_ BK449⟩, ⟨bk_ BK454⟩, ⟨bk_ BK459⟩, ⟨bk_ BK468⟩, ⟨bk_ BK473⟩, ⟨by repeat (first | (with_reducible first | exact HB.out | apply below_alloc | apply pw_below_drewN | apply below_drew1 | refine below_set ?_ GE421.out | refine below_set ?_ GE428.out | refine below_set ?_ GE439.out | refine below_set ?_ GE448.out | refine below_set ?_ GE449.out | refine below_set ?_ GE454.out | refine below_set ?_ GE459.out | refine below_set ?_ GE468.out | refine below_set ?_ GE473.out) | exact HB.out)⟩⟩
   ·rw [if_neg c166] at H
    have c166b0 : (t467 != t472) = false := by simpa using c166
    (try (have c166b1 : decide (t467 = t472) = true := by simpa using c166))
    (try (have c166b2 : (t467 == t472) = true := by simpa using c166))
    clear c166
    by_cases c184 : (t477 != t481) = true
    ·rw [if_pos c184] at H
     have c184b0 : (t477 != t481) = true := c184
     (try (have c184b1 : decide (t477 = t481) = false := by simpa using c184))
     (try (have c184b2 : (t477 == t481) = false := by simpa using c184))
     (try (have c184b3 : ¬ (t477 = t481) := by simpa using c184))
     clear c184
     have H' := Aside0.mk H
     clear H
     have hnb185 := NB468_421.out
     have hnc185 := NB421_468.out
     have hnb186 := NB468_428.out
     have hnc186 := NB428_468.out
     have hnb187 := NB468_439.out
     have hnc187 := NB439_468.out
     have hnb188 := NB468_448.out
     have hnc188 := NB448_468.out
     have hnb189 := NB468_449.out
     have hnc189 := NB449_468.out
     have hnb190 := NB468_454.out
     have hnc190 := NB454_468.out
     have hnb191 := NB468_459.out
     have hnc191 := NB459_468.out
     have hnb192 := NB468_473.out
     have hnc192 := NB473_468.out
     have hcz193_0 : w147.cell? ⟨gb468, 0, none⟩ = some (.string t464) := (blk_cell BK468.out 0).trans rfl
     have hcz193_1 : w147.cell? ⟨gb468, 1, none⟩ = some (.string t465) := (blk_cell BK468.out 1).trans rfl
     have hcz193_2 : w147.cell? ⟨gb468, 2, none⟩ = some (.int .i64 t466) := (blk_cell BK468.out 2).trans rfl
     have hfz193_0 := blk_frozen BK468.out 0
     have hfz193_1 := blk_frozen BK468.out 1
     have hfz193_2 := blk_frozen BK468.out 2
     have hnb194 := NB473_421.out
     have hnc194 := NB421_473.out
     have hnb195 := NB473_428.out
     have hnc195 := NB428_473.out
     have hnb196 := NB473_439.out
     have hnc196 := NB439_473.out
     have hnb197 := NB473_448.out
     have hnc197 := NB448_473.out
     have hnb198 := NB473_449.out
     have hnc198 := NB449_473.out
     have hnb199 := NB473_454.out
     have hnc199 := NB454_473.out
     have hnb200 := NB473_459.out
     have hnc200 := NB459_473.out
     have hcz201_0 : w147.cell? ⟨gb473, 0, none⟩ = some (.string t469) := (blk_cell BK473.out 0).trans rfl
     have hcz201_1 : w147.cell? ⟨gb473, 1, none⟩ = some (.string t470) := (blk_cell BK473.out 1).trans rfl
     have hcz201_2 : w147.cell? ⟨gb473, 2, none⟩ = some (.int .i64 t471) := (blk_cell BK473.out 2).trans rfl
     have hfz201_0 := blk_frozen BK473.out 0
     have hfz201_1 := blk_frozen BK473.out 1
     have hfz201_2 := blk_frozen BK473.out 2
     go_wp2
     go_meet
     case rel => exact ⟨_, (true), (by first | rfl | (simp; done) | (simp [*]; done)), H', ⟨by have := HJ2.out; have := HJ15.out; have := HJ107.out; first | omega | exact Nat.le_refl _⟩, ⟨by (with_reducible repeat (first | apply Kd.R_alloc | apply Kd.R_drewN | apply Kd.R_drew)); exact Kd.R_mono HO476.out (fun _ hk => ⟨hk.1.1.1.2, ⟨hk.1.1.2, hk.1.2⟩⟩)⟩, ⟨bk_ BK421⟩, ⟨bk_ BK428⟩, ⟨bk_ BK439⟩, ⟨bk_ BK448⟩, ⟨bk_ BK449⟩, ⟨bk_ BK454⟩, ⟨bk_ BK459⟩, ⟨bk_ BK468⟩, ⟨bk_ BK473⟩, ⟨by repeat (first | (with_reducible first | exact HB.out | apply below_alloc | apply pw_below_drewN | apply below_drew1 | refine below_set ?_ GE421.out | refine below_set ?_ GE428.out | refine below_set ?_ GE439.out | refine below_set ?_ GE448.out | refine below_set ?_ GE449.out | refine below_set ?_ GE454.out | refine below_set ?_ GE459.out | refine below_set ?_ GE468.out | refine below_set ?_ GE473.out) | exact HB.out)⟩⟩
    ·rw [if_neg c184] at H
     have c184b0 : (t477 != t481) = false := by simpa using c184
     (try (have c184b1 : decide (t477 = t481) = true := by simpa using c184))
     (try (have c184b2 : (t477 == t481) = true := by simpa using c184))
     clear c184
     replace H := Option.bind_eq_some_iff.mp H
     obtain ⟨t482, A2020, H⟩ := H
     (try dsimp only at H)
     have A202 := Aside0.mk A2020
     clear A2020
     have H' := Aside0.mk H
     clear H
     have hnb203 := NB468_421.out
     have hnc203 := NB421_468.out
     have hnb204 := NB468_428.out
     have hnc204 := NB428_468.out
     have hnb205 := NB468_439.out
     have hnc205 := NB439_468.out
     have hnb206 := NB468_448.out
     have hnc206 := NB448_468.out
     have hnb207 := NB468_449.out
     have hnc207 := NB449_468.out
     have hnb208 := NB468_454.out
     have hnc208 := NB454_468.out
     have hnb209 := NB468_459.out
     have hnc209 := NB459_468.out
     have hnb210 := NB468_473.out
     have hnc210 := NB473_468.out
     have hcz211_0 : w147.cell? ⟨gb468, 0, none⟩ = some (.string t464) := (blk_cell BK468.out 0).trans rfl
     have hcz211_1 : w147.cell? ⟨gb468, 1, none⟩ = some (.string t465) := (blk_cell BK468.out 1).trans rfl
     have hcz211_2 : w147.cell? ⟨gb468, 2, none⟩ = some (.int .i64 t466) := (blk_cell BK468.out 2).trans rfl
     have hfz211_0 := blk_frozen BK468.out 0
     have hfz211_1 := blk_frozen BK468.out 1
     have hfz211_2 := blk_frozen BK468.out 2
     have hnb212 := NB473_421.out
     have hnc212 := NB421_473.out
     have hnb213 := NB473_428.out
     have hnc213 := NB428_473.out
     have hnb214 := NB473_439.out
     have hnc214 := NB439_473.out
     have hnb215 := NB473_448.out
     have hnc215 := NB448_473.out
     have hnb216 := NB473_449.out
     have hnc216 := NB449_473.out
     have hnb217 := NB473_454.out
     have hnc217 := NB454_473.out
     have hnb218 := NB473_459.out
     have hnc218 := NB459_473.out
     have hcz219_0 : w147.cell? ⟨gb473, 0, none⟩ = some (.string t469) := (blk_cell BK473.out 0).trans rfl
     have hcz219_1 : w147.cell? ⟨gb473, 1, none⟩ = some (.string t470) := (blk_cell BK473.out 1).trans rfl
     have hcz219_2 : w147.cell? ⟨gb473, 2, none⟩ = some (.int .i64 t471) := (blk_cell BK473.out 2).trans rfl
     have hfz219_0 := blk_frozen BK473.out 0
     have hfz219_1 := blk_frozen BK473.out 1
     have hfz219_2 := blk_frozen BK473.out 2
     obtain ⟨Ao220, co220, eo220⟩ := Kd.R_slice HO476.out
     subst eo220
     obtain ⟨Ao221, co221, eo221⟩ := Kd.R_slice HO480.out
     subst eo221
     go_wp2_with (first | (go_at_call 42; (with_reducible refine (laws_vRecords.calls kj107 _ _ t474 _ _ t478 t482 _ ?side1 ?side2 ?side3 ?side4 A202.out).mono ?_); (case side1 => repeat (first | exact (Kd.R_reads' HO476.out).2.2 | (with_reducible refine Kd.C_alloc ?_ _) | (with_reducible refine Kd.C_drewN ?_ _) | (with_reducible refine Kd.C_drew ?_))); (case side2 => exact (Kd.R_reads' HO476.out).2.1); (case side3 => repeat (first | exact (Kd.R_reads' HO480.out).2.2 | (with_reducible refine Kd.C_alloc ?_ _) | (with_reducible refine Kd.C_drewN ?_ _) | (with_reducible refine Kd.C_drew ?_))); (case side4 => exact (Kd.R_reads' HO480.out).2.1); rintro e w' ⟨rfl, ⟨nd, rfl⟩⟩))
     go_meet
     case rel => exact ⟨_, (!t482), (by first | rfl | (simp; done) | (simp [*]; done)), H', ⟨by have := HJ2.out; have := HJ15.out; have := HJ107.out; first | omega | exact Nat.le_refl _⟩, ⟨by (with_reducible repeat (first | apply Kd.R_alloc | apply Kd.R_drewN | apply Kd.R_drew)); exact Kd.R_mono HO476.out (fun _ hk => ⟨hk.1.1.1.2, ⟨hk.1.1.2, hk.1.2⟩⟩)⟩, ⟨bk_ BK421⟩, ⟨bk_ BK428⟩, ⟨bk_ BK439⟩, ⟨bk_ BK448⟩, ⟨bk_ BK449⟩, ⟨bk_ BK454⟩, ⟨bk_ BK459⟩, ⟨bk_ BK468⟩, ⟨bk_ BK473⟩, ⟨by repeat (first | (with_reducible first | exact HB.out | apply below_alloc | apply pw_below_drewN | apply below_drew1 | refine below_set ?_ GE421.out | refine below_set ?_ GE428.out | refine below_set ?_ GE439.out | refine below_set ?_ GE448.out | refine below_set ?_ GE449.out | refine below_set ?_ GE454.out | refine below_set ?_ GE459.out | refine below_set ?_ GE468.out | refine below_set ?_ GE473.out) | exact HB.out)⟩⟩
 clear HC114
 try clear hcz121_0
 try clear hcz121_1
 try clear hcz121_2
 try clear hcz131_0
 try clear hcz131_1
 try clear hcz131_2
 try clear hcz132_0
 try clear hcz132_1
 try clear hcz132_2
 try clear hcz143_0
 try clear hcz143_1
 try clear hcz143_2
 try clear hcz144_0
 try clear hcz144_1
 try clear hcz144_2
 try clear hcz146_0
 try clear hcz146_1
 try clear hcz146_2
 try clear hfz121_0
 try clear hfz121_1
 try clear hfz121_2
 try clear hfz131_0
 try clear hfz131_1
 try clear hfz131_2
 try clear hfz132_0
 try clear hfz132_1
 try clear hfz132_2
 try clear hfz143_0
 try clear hfz143_1
 try clear hfz143_2
 try clear hfz144_0
 try clear hfz144_1
 try clear hfz144_2
 try clear hfz146_0
 try clear hfz146_1
 try clear hfz146_2
 obtain ⟨kq, x142_113, rfl, HA, HJ113, HO_21, BK421, BK428, BK439, BK448, BK449, BK454, BK459, BK468, BK473, HB⟩ := hcut
 cases kq
 case zero => exact absurd HA.out (by simp [laws_FnLogs.j3])
 case' succ kj113 => skip
 as_aux_lemma =>
 have H := HA.out
 clear HA
 simp only [laws_FnLogs.j3] at H
 have HC222 := Aside0.mk H
 clear H
 go_upto_if 142 with (fail)
 go_cut [] (fun wc => ∃ (kq : Nat), Aside0 (laws_FnLogs.j4 kq t453 t467 t474 t443 t444 t445 t446 t447 t450 t451 t452 t464 t465 t466 = some r) ∧ Aside0 (kq ≤ kj113) ∧ Aside0 (Kd.R k27 27 wc w.heap.size (fun k_ => k_ ≠ gb421 ∧ k_ ≠ gb428 ∧ k_ ≠ gb449) v475 t474) ∧ Aside0 (wc.heap[gb421]? = some (.cells #[.string t419, .string t420] 27 (0, 0))) ∧ Aside0 (wc.heap[gb428]? = some (.cells #[.string t426, .string t427] 27 (0, 0))) ∧ Aside0 (wc.heap[gb439]? = some (.cells #[.string t436, .string t437, .int .i64 t438] 31 (0, 0))) ∧ Aside0 (wc.heap[gb448]? = some (.cells #[.string t443, .string t444, .int .i64 t445] 31 (0, 0))) ∧ Aside0 (wc.heap[gb449]? = some (.cells #[.string t446, .string t447] 27 (0, 0))) ∧ Aside0 (wc.heap[gb454]? = some (.cells #[.string t450, .string t451, .int .i64 t452] 31 (0, 0))) ∧ Aside0 (wc.heap[gb459]? = some (.cells #[.string t455, .string t456, .int .i64 t457] 31 (0, 0))) ∧ Aside0 (wc.heap[gb468]? = some (.cells #[.string t464, .string t465, .int .i64 t466] 31 (0, 0))) ∧ Aside0 (wc.heap[gb473]? = some (.cells #[.string t469, .string t470, .int .i64 t471] 31 (0, 0))) ∧ Aside0 (Below w.heap.size w wc))
 case first =>
  have H := HC222.out
  clear HC222
  by_cases c223 : x142_113 = true
  ·subst c223
   have H1 : (some false) = some r := by rw [if_pos rfl] at H; exact H
   clear H
   have H := H1
   clear H1
   obtain rfl := Option.some.inj H
   go_wp2
   go_ret
   exact ⟨by first | rfl | (simp [errW_none, errW_some] <;> rfl) | (simp [*, errW_none, errW_some] <;> rfl), by repeat (first | (with_reducible first | exact HB.out | apply below_alloc | apply pw_below_drewN | apply below_drew1 | refine below_set ?_ GE421.out | refine below_set ?_ GE428.out | refine below_set ?_ GE439.out | refine below_set ?_ GE448.out | refine below_set ?_ GE449.out | refine below_set ?_ GE454.out | refine below_set ?_ GE459.out | refine below_set ?_ GE468.out | refine below_set ?_ GE473.out) | exact HB.out)⟩
  ·replace c223 := Bool.eq_false_iff.mpr c223
   subst c223
   have H1 : (laws_FnLogs.j4 kj113 t453 t467 t474 t443 t444 t445 t446 t447 t450 t451 t452 t464 t465 t466) = some r := by rw [if_neg (show ¬ (false = true) by decide)] at H; exact H
   clear H
   have H := H1
   clear H1
   have H' := Aside0.mk H
   clear H
   go_wp2
   go_meet
   case rel => exact ⟨_, H', ⟨by have := HJ2.out; have := HJ15.out; have := HJ107.out; have := HJ113.out; first | omega | exact Nat.le_refl _⟩, ⟨by (with_reducible repeat (first | apply Kd.R_alloc | apply Kd.R_drewN | apply Kd.R_drew)); exact HO_21.out⟩, ⟨bk_ BK421⟩, ⟨bk_ BK428⟩, ⟨bk_ BK439⟩, ⟨bk_ BK448⟩, ⟨bk_ BK449⟩, ⟨bk_ BK454⟩, ⟨bk_ BK459⟩, ⟨bk_ BK468⟩, ⟨bk_ BK473⟩, ⟨by repeat (first | (with_reducible first | exact HB.out | apply below_alloc | apply pw_below_drewN | apply below_drew1 | refine below_set ?_ GE421.out | refine below_set ?_ GE428.out | refine below_set ?_ GE439.out | refine below_set ?_ GE448.out | refine below_set ?_ GE449.out | refine below_set ?_ GE454.out | refine below_set ?_ GE459.out | refine below_set ?_ GE468.out | refine below_set ?_ GE473.out) | exact HB.out)⟩⟩
 clear HC222
 obtain ⟨kq, HA, HJ221, HO_21, BK421, BK428, BK439, BK448, BK449, BK454, BK459, BK468, BK473, HB⟩ := hcut
 cases kq
 case zero => exact absurd HA.out (by simp [laws_FnLogs.j4])
 case' succ kj221 => skip
 as_aux_lemma =>
 have H := HA.out
 clear HA
 simp only [laws_FnLogs.j4] at H
 replace H := Option.bind_eq_some_iff.mp H
 obtain ⟨⟨t483, t486⟩, A2240, H⟩ := H
 (try dsimp only at H)
 have A224 := Aside0.mk A2240
 clear A2240
 have HC225 := Aside0.mk H
 clear H
 have hnb226 := NB468_421.out
 have hnc226 := NB421_468.out
 have hnb227 := NB468_428.out
 have hnc227 := NB428_468.out
 have hnb228 := NB468_439.out
 have hnc228 := NB439_468.out
 have hnb229 := NB468_448.out
 have hnc229 := NB448_468.out
 have hnb230 := NB468_449.out
 have hnc230 := NB449_468.out
 have hnb231 := NB468_454.out
 have hnc231 := NB454_468.out
 have hnb232 := NB468_459.out
 have hnc232 := NB459_468.out
 have hnb233 := NB468_473.out
 have hnc233 := NB473_468.out
 have hcz234_0 : wc.cell? ⟨gb468, 0, none⟩ = some (.string t464) := (blk_cell BK468.out 0).trans rfl
 have hcz234_1 : wc.cell? ⟨gb468, 1, none⟩ = some (.string t465) := (blk_cell BK468.out 1).trans rfl
 have hcz234_2 : wc.cell? ⟨gb468, 2, none⟩ = some (.int .i64 t466) := (blk_cell BK468.out 2).trans rfl
 have hfz234_0 := blk_frozen BK468.out 0
 have hfz234_1 := blk_frozen BK468.out 1
 have hfz234_2 := blk_frozen BK468.out 2
 go_upto_region 20 with (first | ((with_reducible refine gate_callee (f := 30) rfl ?_); refine gL_ (some 145) Tryd.func30 #[.agg #[.string t464, .string t465, .int .i64 t466]] ?_ rfl rfl; (with_reducible refine (impl_LogRecords.calls kj221 t464 t465 t466 t483 t486 _ ?side1 A224.out).mono ?_); (case side1 => exact EnvW.below HENV.out bg_); rintro e w235 ⟨v484, rfl, ho0, hb⟩; refine ⟨_, rfl, ?_⟩; have n_ := And.intro (Aside0.mk (Kd.R_elder' (rk_ HO_21) (Kd.R_base ho0) hb)) (And.intro (Aside0.mk (Kd.R_lower (Kd.R_newB (Kd.R_newB (Kd.R_newB (Kd.R_new' ho0 (Kd.R_lt (rk_ HO_21))) (g := gb421) (o := .cells #[.string t419, .string t420] 27 (0, 0)) (bk_ BK421)) (g := gb428) (o := .cells #[.string t426, .string t427] 27 (0, 0)) (bk_ BK428)) (g := gb449) (o := .cells #[.string t446, .string t447] 27 (0, 0)) (bk_ BK449)) (below_size bg_))) (And.intro (Aside0.mk (bb_ BK421 hb)) (And.intro (Aside0.mk (bb_ BK428 hb)) (And.intro (Aside0.mk (bb_ BK439 hb)) (And.intro (Aside0.mk (bb_ BK448 hb)) (And.intro (Aside0.mk (bb_ BK449 hb)) (And.intro (Aside0.mk (bb_ BK454 hb)) (And.intro (Aside0.mk (bb_ BK459 hb)) (And.intro (Aside0.mk (bb_ BK468 hb)) (And.intro (Aside0.mk (bb_ BK473 hb)) (Aside0.mk (below_step bg_ hb)))))))))))); clear HO_21 BK421 BK428 BK439 BK448 BK449 BK454 BK459 BK468 BK473 HB; obtain ⟨HO_21, HO485, BK421, BK428, BK439, BK448, BK449, BK454, BK459, BK468, BK473, HB⟩ := n_; (try clear hb); (try clear hb2); (try clear hk); (try clear hi); (try clear ho0)))
 (try simp only [Act.put, List.setIfInBounds_toArray, List.set_cons_zero, List.set_cons_succ])
 go_cut [154] (fun v154 wc => ∃ (kq : Nat) (x154_224 : Bool), v154 = .bool x154_224 ∧ Aside0 (laws_FnLogs.j5 kq t453 t474 x154_224 t443 t444 t445 t446 t447 t450 t451 t452 = some r) ∧ Aside0 (kq ≤ kj221) ∧ Aside0 (Kd.R k27 27 wc w.heap.size (fun k_ => k_ ≠ gb421 ∧ k_ ≠ gb428 ∧ k_ ≠ gb449) v475 t474) ∧ Aside0 (wc.heap[gb421]? = some (.cells #[.string t419, .string t420] 27 (0, 0))) ∧ Aside0 (wc.heap[gb428]? = some (.cells #[.string t426, .string t427] 27 (0, 0))) ∧ Aside0 (wc.heap[gb439]? = some (.cells #[.string t436, .string t437, .int .i64 t438] 31 (0, 0))) ∧ Aside0 (wc.heap[gb448]? = some (.cells #[.string t443, .string t444, .int .i64 t445] 31 (0, 0))) ∧ Aside0 (wc.heap[gb449]? = some (.cells #[.string t446, .string t447] 27 (0, 0))) ∧ Aside0 (wc.heap[gb454]? = some (.cells #[.string t450, .string t451, .int .i64 t452] 31 (0, 0))) ∧ Aside0 (wc.heap[gb459]? = some (.cells #[.string t455, .string t456, .int .i64 t457] 31 (0, 0))) ∧ Aside0 (wc.heap[gb468]? = some (.cells #[.string t464, .string t465, .int .i64 t466] 31 (0, 0))) ∧ Aside0 (wc.heap[gb473]? = some (.cells #[.string t469, .string t470, .int .i64 t471] 31 (0, 0))) ∧ Aside0 (Below w.heap.size w wc))
 case first =>
  have H := HC225.out
  clear HC225
  by_cases c236 : t467 = true
  ·subst c236
   have H1 : ((laws_vRecords.f kj221 t483 t474).bind fun t487 => (laws_FnLogs.j5 kj221 t453 t474 (!t487) t443 t444 t445 t446 t447 t450 t451 t452)) = some r := by rw [if_pos rfl] at H; exact H
   clear H
   have H := H1
   clear H1
   replace H := Option.bind_eq_some_iff.mp H
   obtain ⟨t487, A2370, H⟩ := H
   (try dsimp only at H)
   have A237 := Aside0.mk A2370
   clear A2370
   have H' := Aside0.mk H
   clear H
   obtain ⟨Ao238, co238, eo238⟩ := Kd.R_slice HO485.out
   subst eo238
   obtain ⟨Ao239, co239, eo239⟩ := Kd.R_slice HO_21.out
   subst eo239
   go_wp2_with (first | (go_at_call 42; (with_reducible refine (laws_vRecords.calls kj221 _ _ t483 _ _ t474 t487 _ ?side1 ?side2 ?side3 ?side4 A237.out).mono ?_); (case side1 => repeat (first | exact (Kd.R_reads' HO485.out).2.2 | (with_reducible refine Kd.C_alloc ?_ _) | (with_reducible refine Kd.C_drewN ?_ _) | (with_reducible refine Kd.C_drew ?_))); (case side2 => exact (Kd.R_reads' HO485.out).2.1); (case side3 => repeat (first | exact (Kd.R_reads' HO_21.out).2.2 | (with_reducible refine Kd.C_alloc ?_ _) | (with_reducible refine Kd.C_drewN ?_ _) | (with_reducible refine Kd.C_drew ?_))); (case side4 => exact (Kd.R_reads' HO_21.out).2.1); rintro e w' ⟨rfl, ⟨nd, rfl⟩⟩))
   go_meet
   case rel => exact ⟨_, (!t487), (by first | rfl | (simp; done) | (simp [*]; done)), H', ⟨by have := HJ2.out; have := HJ15.out; have := HJ107.out; have := HJ113.out; have := HJ221.out; first | omega | exact Nat.le_refl _⟩, ⟨by (with_reducible repeat (first | apply Kd.R_alloc | apply Kd.R_drewN | apply Kd.R_drew)); exact Kd.R_mono HO_21.out (fun _ hk => ⟨hk.1.1, ⟨hk.1.2.1, hk.1.2.2⟩⟩)⟩, ⟨bk_ BK421⟩, ⟨bk_ BK428⟩, ⟨bk_ BK439⟩, ⟨bk_ BK448⟩, ⟨bk_ BK449⟩, ⟨bk_ BK454⟩, ⟨bk_ BK459⟩, ⟨bk_ BK468⟩, ⟨bk_ BK473⟩, ⟨by repeat (first | (with_reducible first | exact HB.out | apply below_alloc | apply pw_below_drewN | apply below_drew1 | refine below_set ?_ GE421.out | refine below_set ?_ GE428.out | refine below_set ?_ GE439.out | refine below_set ?_ GE448.out | refine below_set ?_ GE449.out | refine below_set ?_ GE454.out | refine below_set ?_ GE459.out | refine below_set ?_ GE468.out | refine below_set ?_ GE473.out) | exact HB.out)⟩⟩
  ·replace c236 := Bool.eq_false_iff.mpr c236
   subst c236
   have H1 : (laws_FnLogs.j5 kj221 t453 t474 false t443 t444 t445 t446 t447 t450 t451 t452) = some r := by rw [if_neg (show ¬ (false = true) by decide)] at H; exact H
   clear H
   have H := H1
   clear H1
   have H' := Aside0.mk H
   clear H
   go_wp2
   go_meet
   case rel => exact ⟨_, (false), (by first | rfl | (simp; done) | (simp [*]; done)), H', ⟨by have := HJ2.out; have := HJ15.out; have := HJ107.out; have := HJ113.out; have := HJ221.out; first | omega | exact Nat.le_refl _⟩, ⟨by (with_reducible repeat (first | apply Kd.R_alloc | apply Kd.R_drewN | apply Kd.R_drew)); exact Kd.R_mono HO_21.out (fun _ hk => ⟨hk.1.1, ⟨hk.1.2.1, hk.1.2.2⟩⟩)⟩, ⟨bk_ BK421⟩, ⟨bk_ BK428⟩, ⟨bk_ BK439⟩, ⟨bk_ BK448⟩, ⟨bk_ BK449⟩, ⟨bk_ BK454⟩, ⟨bk_ BK459⟩, ⟨bk_ BK468⟩, ⟨bk_ BK473⟩, ⟨by repeat (first | (with_reducible first | exact HB.out | apply below_alloc | apply pw_below_drewN | apply below_drew1 | refine below_set ?_ GE421.out | refine below_set ?_ GE428.out | refine below_set ?_ GE439.out | refine below_set ?_ GE448.out | refine below_set ?_ GE449.out | refine below_set ?_ GE454.out | refine below_set ?_ GE459.out | refine below_set ?_ GE468.out | refine below_set ?_ GE473.out) | exact HB.out)⟩⟩
 clear HC225
 try clear hcz234_0
 try clear hcz234_1
 try clear hcz234_2
 try clear hfz234_0
 try clear hfz234_1
 try clear hfz234_2
 obtain ⟨kq, x154_224, rfl, HA, HJ224, HO_21, BK421, BK428, BK439, BK448, BK449, BK454, BK459, BK468, BK473, HB⟩ := hcut
 cases kq
 case zero => exact absurd HA.out (by simp [laws_FnLogs.j5])
 case' succ kj224 => skip
 as_aux_lemma =>
 have H := HA.out
 clear HA
 simp only [laws_FnLogs.j5] at H
 have HC240 := Aside0.mk H
 clear H
 go_upto_if 154 with (fail)
 go_cut [] (fun wc => ∃ (kq : Nat), Aside0 (laws_FnLogs.j6 kq t453 t474 t443 t444 t445 t446 t447 t450 t451 t452 = some r) ∧ Aside0 (kq ≤ kj224) ∧ Aside0 (Kd.R k27 27 wc w.heap.size (fun k_ => k_ ≠ gb421 ∧ k_ ≠ gb428 ∧ k_ ≠ gb449) v475 t474) ∧ Aside0 (wc.heap[gb421]? = some (.cells #[.string t419, .string t420] 27 (0, 0))) ∧ Aside0 (wc.heap[gb428]? = some (.cells #[.string t426, .string t427] 27 (0, 0))) ∧ Aside0 (wc.heap[gb439]? = some (.cells #[.string t436, .string t437, .int .i64 t438] 31 (0, 0))) ∧ Aside0 (wc.heap[gb448]? = some (.cells #[.string t443, .string t444, .int .i64 t445] 31 (0, 0))) ∧ Aside0 (wc.heap[gb449]? = some (.cells #[.string t446, .string t447] 27 (0, 0))) ∧ Aside0 (wc.heap[gb454]? = some (.cells #[.string t450, .string t451, .int .i64 t452] 31 (0, 0))) ∧ Aside0 (wc.heap[gb459]? = some (.cells #[.string t455, .string t456, .int .i64 t457] 31 (0, 0))) ∧ Aside0 (wc.heap[gb468]? = some (.cells #[.string t464, .string t465, .int .i64 t466] 31 (0, 0))) ∧ Aside0 (wc.heap[gb473]? = some (.cells #[.string t469, .string t470, .int .i64 t471] 31 (0, 0))) ∧ Aside0 (Below w.heap.size w wc))
 case first =>
  have H := HC240.out
  clear HC240
  by_cases c241 : x154_224 = true
  ·subst c241
   have H1 : (some false) = some r := by rw [if_pos rfl] at H; exact H
   clear H
   have H := H1
   clear H1
   obtain rfl := Option.some.inj H
   go_wp2
   go_ret
   exact ⟨by first | rfl | (simp [errW_none, errW_some] <;> rfl) | (simp [*, errW_none, errW_some] <;> rfl), by repeat (first | (with_reducible first | exact HB.out | apply below_alloc | apply pw_below_drewN | apply below_drew1 | refine below_set ?_ GE421.out | refine below_set ?_ GE428.out | refine below_set ?_ GE439.out | refine below_set ?_ GE448.out | refine below_set ?_ GE449.out | refine below_set ?_ GE454.out | refine below_set ?_ GE459.out | refine below_set ?_ GE468.out | refine below_set ?_ GE473.out) | exact HB.out)⟩
  ·replace c241 := Bool.eq_false_iff.mpr c241
   subst c241
   have H1 : (laws_FnLogs.j6 kj224 t453 t474 t443 t444 t445 t446 t447 t450 t451 t452) = some r := by rw [if_neg (show ¬ (false = true) by decide)] at H; exact H
   clear H
   have H := H1
   clear H1
   have H' := Aside0.mk H
   clear H
   go_wp2
   go_meet
   case rel => exact ⟨_, H', ⟨by have := HJ2.out; have := HJ15.out; have := HJ107.out; have := HJ113.out; have := HJ221.out; have := HJ224.out; first | omega | exact Nat.le_refl _⟩, ⟨by (with_reducible repeat (first | apply Kd.R_alloc | apply Kd.R_drewN | apply Kd.R_drew)); exact HO_21.out⟩, ⟨bk_ BK421⟩, ⟨bk_ BK428⟩, ⟨bk_ BK439⟩, ⟨bk_ BK448⟩, ⟨bk_ BK449⟩, ⟨bk_ BK454⟩, ⟨bk_ BK459⟩, ⟨bk_ BK468⟩, ⟨bk_ BK473⟩, ⟨by repeat (first | (with_reducible first | exact HB.out | apply below_alloc | apply pw_below_drewN | apply below_drew1 | refine below_set ?_ GE421.out | refine below_set ?_ GE428.out | refine below_set ?_ GE439.out | refine below_set ?_ GE448.out | refine below_set ?_ GE449.out | refine below_set ?_ GE454.out | refine below_set ?_ GE459.out | refine below_set ?_ GE468.out | refine below_set ?_ GE473.out) | exact HB.out)⟩⟩
 clear HC240
 obtain ⟨kq, HA, HJ239, HO_21, BK421, BK428, BK439, BK448, BK449, BK454, BK459, BK468, BK473, HB⟩ := hcut
 cases kq
 case zero => exact absurd HA.out (by simp [laws_FnLogs.j6])
 case' succ kj239 => skip
 as_aux_lemma =>
 have H := HA.out
 clear HA
 simp only [laws_FnLogs.j6] at H
 by_cases c242 : t453 = 0
 ·rw [if_pos c242] at H
  have c242b0 : (t453 == 0) = true := beq_iff_eq.mpr c242
  have c242b1 : (t453 != 0) = false := bne_eq_false_iff_eq.mpr c242
  clear c242
  replace H := Option.bind_eq_some_iff.mp H
  obtain ⟨⟨t488, t491⟩, A2430, H⟩ := H
  (try dsimp only at H)
  have A243 := Aside0.mk A2430
  clear A2430
  replace H := Option.bind_eq_some_iff.mp H
  obtain ⟨t492, A2440, H⟩ := H
  (try dsimp only at H)
  have A244 := Aside0.mk A2440
  clear A2440
  by_cases c245 : t492 = true
  ·subst c245
   have H1 : (if (t488.length : Int) = (wrap64 ((t474.length : Int) + 1)) then (if 0 ≤ (t474.length : Int) then (if (t474.length : Int) ≤ (t488.length : Int) then ((laws_vRecords.f kj239 (t488.take ((t474.length : Int) : Int).toNat) t474).bind fun t497 => (if t497 = true then (if (t474.length : Int) < (t488.length : Int) then (some ((((rd_T27 t488 (t474.length : Int)).f0).toList) == t446.toList && ((((rd_T27 t488 (t474.length : Int)).f1).toList) == t447.toList))) else (none)) else (some false))) else (none)) else (none)) else (some false)) = some r := by rw [if_pos rfl] at H; exact H
   clear H
   have H := H1
   clear H1
   by_cases c246 : (t488.length : Int) = (wrap64 ((t474.length : Int) + 1))
   ·rw [if_pos c246] at H
    have c246b0 : ((t488.length : Int) == (wrap64 ((t474.length : Int) + 1))) = true := beq_iff_eq.mpr c246
    have c246b1 : ((t488.length : Int) != (wrap64 ((t474.length : Int) + 1))) = false := bne_eq_false_iff_eq.mpr c246
    clear c246
    by_cases c247 : 0 ≤ (t474.length : Int)
    ·rw [if_pos c247] at H
     have c247b0 := eq_true c247
     have c247b1 : decide (0 ≤ (t474.length : Int)) = true := decide_eq_true c247
     clear c247
     by_cases c248 : (t474.length : Int) ≤ (t488.length : Int)
     ·rw [if_pos c248] at H
      have c248b0 := eq_true c248
      have c248b1 : decide ((t474.length : Int) ≤ (t488.length : Int)) = true := decide_eq_true c248
      clear c248
      obtain ⟨y493, hy493⟩ : ∃ y_ : List (S27), y_ = (t488.take ((t474.length : Int) : Int).toNat) := ⟨_, rfl⟩
      replace H : ((laws_vRecords.f kj239 y493 t474).bind fun t497 => (if t497 = true then (if (t474.length : Int) < (t488.length : Int) then (some ((((rd_T27 t488 (t474.length : Int)).f0).toList) == t446.toList && ((((rd_T27 t488 (t474.length : Int)).f1).toList) == t447.toList))) else (none)) else (some false))) = some r := by first | (rw [hy493]; with_reducible exact H) | (have H2_ := (Option.bind_some _ _).symm.trans H; rw [hy493]; with_reducible exact H2_) | (have H2_ := (Option.bind_some _ _).symm.trans H; with_reducible exact H2_) | with_reducible exact H | (rw [hy493]; exact H) | exact H
      have Ny493 := Aside0.mk hy493
      clear hy493
      replace H := Option.bind_eq_some_iff.mp H
      obtain ⟨t497, A2490, H⟩ := H
      (try dsimp only at H)
      have A249 := Aside0.mk A2490
      clear A2490
      by_cases c250 : t497 = true
      ·subst c250
       have H1 : (if (t474.length : Int) < (t488.length : Int) then (some ((((rd_T27 t488 (t474.length : Int)).f0).toList) == t446.toList && ((((rd_T27 t488 (t474.length : Int)).f1).toList) == t447.toList))) else (none)) = some r := by rw [if_pos rfl] at H; exact H
       clear H
       have H := H1
       clear H1
       by_cases c251 : (t474.length : Int) < (t488.length : Int)
       ·rw [if_pos c251] at H
        have c251b0 : decide ((t474.length : Int) < (t488.length : Int)) = true := decide_eq_true c251
        have c251b1 : decide (t474.length < t488.length) = true := decide_eq_true (Int.ofNat_lt.mp c251)
        clear c251
        obtain rfl := Option.some.inj H
        have hnb252 := NB454_421.out
        have hnc252 := NB421_454.out
        have hnb253 := NB454_428.out
        have hnc253 := NB428_454.out
        have hnb254 := NB454_439.out
        have hnc254 := NB439_454.out
        have hnb255 := NB454_448.out
        have hnc255 := NB448_454.out
        have hnb256 := NB454_449.out
        have hnc256 := NB449_454.out
        have hnb257 := NB454_459.out
        have hnc257 := NB459_454.out
        have hnb258 := NB454_468.out
        have hnc258 := NB468_454.out
        have hnb259 := NB454_473.out
        have hnc259 := NB473_454.out
        have hcz260_0 : wc.cell? ⟨gb454, 0, none⟩ = some (.string t450) := (blk_cell BK454.out 0).trans rfl
        have hcz260_1 : wc.cell? ⟨gb454, 1, none⟩ = some (.string t451) := (blk_cell BK454.out 1).trans rfl
        have hcz260_2 : wc.cell? ⟨gb454, 2, none⟩ = some (.int .i64 t452) := (blk_cell BK454.out 2).trans rfl
        have hfz260_0 := blk_frozen BK454.out 0
        have hfz260_1 := blk_frozen BK454.out 1
        have hfz260_2 := blk_frozen BK454.out 2
        try go_wp2_with (first | ((with_reducible refine gate_callee (f := 30) rfl ?_); refine gL_ (some 162) Tryd.func30 #[.agg #[.string t450, .string t451, .int .i64 t452]] ?_ rfl rfl; (with_reducible refine (impl_LogRecords.calls kj239 t450 t451 t452 t488 t491 _ ?side1 A243.out).mono ?_); (case side1 => exact EnvW.below HENV.out bg_); rintro e w261 ⟨v489, rfl, ho0, hb⟩; refine ⟨_, rfl, ?_⟩; have n_ := And.intro (Aside0.mk (Kd.R_elder' (rk_ HO_21) (Kd.R_base ho0) hb)) (And.intro (Aside0.mk (Kd.R_lower (Kd.R_newB (Kd.R_newB (Kd.R_newB (Kd.R_new' ho0 (Kd.R_lt (rk_ HO_21))) (g := gb421) (o := .cells #[.string t419, .string t420] 27 (0, 0)) (bk_ BK421)) (g := gb428) (o := .cells #[.string t426, .string t427] 27 (0, 0)) (bk_ BK428)) (g := gb449) (o := .cells #[.string t446, .string t447] 27 (0, 0)) (bk_ BK449)) (below_size bg_))) (And.intro (Aside0.mk (bb_ BK421 hb)) (And.intro (Aside0.mk (bb_ BK428 hb)) (And.intro (Aside0.mk (bb_ BK439 hb)) (And.intro (Aside0.mk (bb_ BK448 hb)) (And.intro (Aside0.mk (bb_ BK449 hb)) (And.intro (Aside0.mk (bb_ BK454 hb)) (And.intro (Aside0.mk (bb_ BK459 hb)) (And.intro (Aside0.mk (bb_ BK468 hb)) (And.intro (Aside0.mk (bb_ BK473 hb)) (Aside0.mk (below_step bg_ hb)))))))))))); clear HO_21 BK421 BK428 BK439 BK448 BK449 BK454 BK459 BK468 BK473 HB; obtain ⟨HO_21, HO490, BK421, BK428, BK439, BK448, BK449, BK454, BK459, BK468, BK473, HB⟩ := n_; (try clear hb); (try clear hb2); (try clear hk); (try clear hi); (try clear ho0)))
        have n_ := And.intro (Aside0.mk (Kd.R_drew HO_21.out)) (And.intro (Aside0.mk (Kd.R_drew HO490.out)) (And.intro (Aside0.mk (blk_drew BK421.out)) (And.intro (Aside0.mk (blk_drew BK428.out)) (And.intro (Aside0.mk (blk_drew BK439.out)) (And.intro (Aside0.mk (blk_drew BK448.out)) (And.intro (Aside0.mk (blk_drew BK449.out)) (And.intro (Aside0.mk (blk_drew BK454.out)) (And.intro (Aside0.mk (blk_drew BK459.out)) (And.intro (Aside0.mk (blk_drew BK468.out)) (And.intro (Aside0.mk (blk_drew BK473.out)) (Aside0.mk (below_drew1 HB.out))))))))))))
        clear HO_21 HO490 BK421 BK428 BK439 BK448 BK449 BK454 BK459 BK468 BK473 HB; obtain ⟨HO_21, HO490, BK421, BK428, BK439, BK448, BK449, BK454, BK459, BK468, BK473, HB⟩ := n_
        have p498 : 0 ≤ ((t474.length : Int) : Int) := od_
        have q498 : (t474.length : Int) < (t488.length : Int) := od_
        obtain ⟨Aoz498, coz498, eoz498⟩ := Kd.R_slice HO490.out
        subst eoz498
        obtain ⟨ad498, e498, hx498_0, hx498_1⟩ := at_T27 (Kd.R_reads' HO490.out).2.2 (t474.length : Int) p498 q498
        cases e498
        (try simp only [Go.IntWalk.toNatUp] at hx498_0)
        (try simp only [Go.IntWalk.toNatUp] at hx498_1)
        replace p498 := eq_true p498
        replace q498 := eq_true q498
        refine start_ (n := 28) (S := fun w' => w'.cell? ⟨gb454, 0, none⟩ = some (.string t450) ∧ w'.cell? ⟨gb454, 1, none⟩ = some (.string t451) ∧ w'.cell? ⟨gb454, 2, none⟩ = some (.int .i64 t452) ∧ w'.cell? ⟨gb449, 0, none⟩ = some (.string t446) ∧ w'.cell? ⟨gb449, 1, none⟩ = some (.string t447) ∧ w'.cell? (ad498.add (((t474.length : Int)).toNat * 2)) = some (.string ((rd_T27 t488 (t474.length : Int)).f0)) ∧ w'.cell? ⟨(ad498.add (((t474.length : Int)).toNat * 2)).block, (ad498.add (((t474.length : Int)).toNat * 2)).off + 1, none⟩ = some (.string ((rd_T27 t488 (t474.length : Int)).f1))) (ds := []) (bm 28 0) (by kernel_rfl) rfl rfl ⟨(blk_cell BK454.out 0).trans rfl, (blk_cell BK454.out 1).trans rfl, (blk_cell BK454.out 2).trans rfl, (blk_cell BK449.out 0).trans rfl, (blk_cell BK449.out 1).trans rfl, hx498_0, hx498_1⟩ (fun hHeld => ?_); refine with_tabW laws_FnLogs.tab25 laws_FnLogs.bits25 (fun HT_ HW_ => ?_)
        generalize w261.drew = w262 at HO_21 HO490 BK421 BK428 BK439 BK448 BK449 BK454 BK459 BK468 BK473 HB hx498_0 hx498_1 hHeld ⊢
        refine take_ (i := 0) (N := some 165) (v := ?_) (a' := ?_) (bm 28 1) rfl rfl (take_ofW HT_.out HW_.out (by kernel_rfl)) (fun _ _ _ h => h) (Or.inl ⟨by rfl, ?_⟩) hHeld ?_ ?_
        rotate_left
        ·rintro w' ⟨s0, s1, s2, s3, s4, s5, s6⟩; (try simp only [Int.toNat_natCast] at s5 s6)
         go_simp
         with_reducible rfl
        rotate_left
        ·simp only [Act.put, List.setIfInBounds_toArray, List.set_cons_zero, List.set_cons_succ, i64_w, i32_w]
         rfl
        refine one_ (i := 1) (N := some 166) (bm 28 3) rfl rfl (one_of HT_.out (by kernel_rfl)) (by decide) (fun K hK => ?_)
        refine goes_ Tryd.func22 (by kernel_rfl) rfl #[.agg #[.string t450, .string t451, .int .i64 t452]] (by rfl) rfl rfl (by (try simp only [List.map_toArray, List.map_cons, List.map_nil]); first | done | rfl | (simp only [List.length_drop, List.length_take]; rfl)) ?_
        with_reducible refine (impl_IsValidLog.calls kj239 t450 t451 t452 true _ ?side1 A244.out).mono ?_
        (case side1 => exact EnvW.below HENV.out bg_)
        rintro e w263 ⟨rfl, hb⟩
        have HS5_ := (hb.cell (World.block_lt_of_cell? _ _ (hHeld.2.2.2.2.2.1))).trans (hHeld.2.2.2.2.2.1)
        have HS6_ := (hb.cell (World.block_lt_of_cell? _ _ (hHeld.2.2.2.2.2.2))).trans (hHeld.2.2.2.2.2.2)
        refine ⟨_, rfl, ?_⟩
        have n_ := And.intro (Aside0.mk (Kd.R_below (rk_ HO_21) hb)) (And.intro (Aside0.mk (Kd.R_below (rk_ HO490) hb)) (And.intro (Aside0.mk (bb_ BK421 hb)) (And.intro (Aside0.mk (bb_ BK428 hb)) (And.intro (Aside0.mk (bb_ BK439 hb)) (And.intro (Aside0.mk (bb_ BK448 hb)) (And.intro (Aside0.mk (bb_ BK449 hb)) (And.intro (Aside0.mk (bb_ BK454 hb)) (And.intro (Aside0.mk (bb_ BK459 hb)) (And.intro (Aside0.mk (bb_ BK468 hb)) (And.intro (Aside0.mk (bb_ BK473 hb)) (Aside0.mk (below_step bg_ hb))))))))))))
        clear HO_21 HO490 BK421 BK428 BK439 BK448 BK449 BK454 BK459 BK468 BK473 HB; obtain ⟨HO_21, HO490, BK421, BK428, BK439, BK448, BK449, BK454, BK459, BK468, BK473, HB⟩ := n_
        (try clear hb)
        (try clear hb2)
        (try clear hk)
        (try clear hi)
        obtain ⟨Ao264, co264, eo264⟩ := Kd.R_slice HO490.out
        (first | subst eo264 | (injection eo264 with f1_ f2_ f3_; have f4_ := f1_.symm; have f5_ := f3_.symm; clear f1_ f2_ f3_; subst f4_; subst f5_))
        obtain ⟨Ao265, co265, eo265⟩ := Kd.R_slice HO_21.out
        (first | subst eo265 | (injection eo265 with f1_ f2_ f3_; have f4_ := f1_.symm; have f5_ := f3_.symm; clear f1_ f2_ f3_; subst f4_; subst f5_))
        have q266 : ((t474.length : Int) : Int) ≤ ((t488.length : Int) : Int) := od_
        obtain ⟨i0266, hi0266, _, hsz266, _⟩ := info_parts info27
        have hroom266 : t488.length ≤ co264 := (Kd.R_reads' HO490.out).2.1
        have hC266 : Kd.C k27 _ (some ad498) t488.length t488 := (Kd.R_reads' HO490.out).2.2
        have hcut266 := cut_to (P := Tryd.prog) 48 27 .i64 Tryd.underlying48 hi0266 (some ad498) t488.length co264 (t474.length : Int) od_ q266 hroom266
        have hr266 := Kd.C_take (m := ((t474.length : Int) : Int).toNat) hC266 (by omega)
        have hy266 : y493.length = ((t474.length : Int) : Int).toNat := (by rw [Ny493.out, List.length_take]; omega)
        rw [← Ny493.out] at hr266
        rw [← hy266] at hcut266
        have HR496 := Aside0.mk hr266
        have HC496 := Aside0.mk (show y493.length ≤ co264 from by omega)
        clear hr266 hC266 hroom266 hi0266 hsz266
        have KY266 := Aside0.mk hy266
        clear hy266
        have KL266 := Aside0.mk (show ((t474.length : Int) : Int).toNat ≤ t488.length from by omega)
        replace q266 := eq_true q266
        refine hK.out _ _ ⟨(blk_cell BK454.out 0).trans rfl, (blk_cell BK454.out 1).trans rfl, (blk_cell BK454.out 2).trans rfl, (blk_cell BK449.out 0).trans rfl, (blk_cell BK449.out 1).trans rfl, HS5_, HS6_⟩ (fun hHeld => ?_)
        clear hK K
        refine norm_ (a' := ?_) ?_ ?_
        rotate_left
        ·show Act.put _ (some 166) _ = _
         simp only [Act.put, List.setIfInBounds_toArray, List.set_cons_zero, List.set_cons_succ, i64_w, i32_w]
         rfl
        refine pa_ 2 (some 167) (bm 28 7) rfl rfl HT_.out ?_
        refine pa_ 3 (some 168) (bm 28 15) rfl rfl HT_.out ?_
        refine pa_ 4 (some 169) (bm 28 31) rfl rfl HT_.out ?_
        refine pa_ 5 (some 170) (bm 28 63) rfl rfl HT_.out ?_
        refine pa_ 6 (some 171) (bm 28 127) rfl rfl HT_.out ?_
        refine pa_ 7 (some 172) (bm 28 255) rfl rfl HT_.out ?_
        refine pa_ 8 (some 173) (bm 28 511) rfl rfl HT_.out ?_
        refine pa_ 9 (some 174) (bm 28 1023) rfl rfl HT_.out ?_
        refine pa_ 10 (some 175) (bm 28 2047) rfl rfl HT_.out ?_
        refine pa_ 11 (some 176) (bm 28 4095) rfl rfl HT_.out ?_
        refine pa_ 12 (some 177) (bm 28 8191) rfl rfl HT_.out ?_
        refine pa_ 13 (some 178) (bm 28 16383) rfl rfl HT_.out ?_
        refine pa_ 14 (some 179) (bm 28 32767) rfl rfl HT_.out ?_
        refine pa_ 15 (some 180) (bm 28 65535) rfl rfl HT_.out ?_
        refine one_ (i := 16) (N := some 181) (bm 28 131071) rfl rfl (one_of HT_.out (by kernel_rfl)) (by decide) (fun K hK => ?_)
        refine goes_ Tryd.func42 (by kernel_rfl) rfl #[.slice (some ad498) y493.length co264, .slice Ao265 t474.length co265] (by rfl) rfl rfl (by (try simp only [List.map_toArray, List.map_cons, List.map_nil]); first | done | rfl | (simp only [List.length_drop, List.length_take]; rfl)) ?_
        with_reducible refine (laws_vRecords.calls kj239 _ _ y493 _ _ t474 true _ ?side1 ?side2 ?side3 ?side4 A249.out).mono ?_
        (case side1 => repeat (first | exact (by repeat (first | (with_reducible exact HR496.out) | (with_reducible refine Kd.C_alloc ?_ _) | (with_reducible refine Kd.C_drewN ?_ _) | (with_reducible refine Kd.C_drew ?_) | exact HR496.out)) | (with_reducible refine Kd.C_alloc ?_ _) | (with_reducible refine Kd.C_drewN ?_ _) | (with_reducible refine Kd.C_drew ?_)))
        (case side2 => exact HC496.out)
        (case side3 => repeat (first | exact (Kd.R_reads' HO_21.out).2.2 | (with_reducible refine Kd.C_alloc ?_ _) | (with_reducible refine Kd.C_drewN ?_ _) | (with_reducible refine Kd.C_drew ?_)))
        (case side4 => exact (Kd.R_reads' HO_21.out).2.1)
        rintro e w' ⟨rfl, ⟨nd, rfl⟩⟩
        refine ⟨_, rfl, ?_⟩
        refine hK.out _ _ ⟨(blk_cell BK454.out 0).trans rfl, (blk_cell BK454.out 1).trans rfl, (blk_cell BK454.out 2).trans rfl, (blk_cell BK449.out 0).trans rfl, (blk_cell BK449.out 1).trans rfl, hHeld.2.2.2.2.2.1, hHeld.2.2.2.2.2.2⟩ (fun hHeld => ?_)
        clear hK K
        refine norm_ (a' := ?_) ?_ ?_
        rotate_left
        ·show Act.put _ (some 181) _ = _
         simp only [Act.put, List.setIfInBounds_toArray, List.set_cons_zero, List.set_cons_succ, i64_w, i32_w]
         rfl
        refine pa_ 17 (some 182) (bm 28 262143) rfl rfl HT_.out ?_
        refine pa_ 18 (some 183) (bm 28 524287) rfl rfl HT_.out ?_
        refine pa_ 19 (some 184) (bm 28 1048575) rfl rfl HT_.out ?_
        refine pa_ 20 (some 185) (bm 28 2097151) rfl rfl HT_.out ?_
        refine pa_ 21 (some 186) (bm 28 4194303) rfl rfl HT_.out ?_
        refine pa_ 22 (some 187) (bm 28 8388607) rfl rfl HT_.out ?_
        refine take_ (i := 23) (N := some 188) (v := ?_) (a' := ?_) (bm 28 16777215) rfl rfl (take_ofW HT_.out HW_.out (by kernel_rfl)) (fun _ _ _ h => h) (Or.inl ⟨by rfl, ?_⟩) hHeld ?_ ?_
        rotate_left
        ·rintro w' ⟨s0, s1, s2, s3, s4, s5, s6⟩; (try simp only [Int.toNat_natCast] at s5 s6)
         go_simp
         with_reducible rfl
        rotate_left
        ·simp only [Act.put, List.setIfInBounds_toArray, List.set_cons_zero, List.set_cons_succ, i64_w, i32_w]
         rfl
        refine take_ (i := 24) (N := some 189) (v := ?_) (a' := ?_) (bm 28 33554431) rfl rfl (take_ofW HT_.out HW_.out (by kernel_rfl)) (fun _ _ _ h => h) (Or.inl ⟨by rfl, ?_⟩) hHeld ?_ ?_
        rotate_left
        ·rintro w' ⟨s0, s1, s2, s3, s4, s5, s6⟩; (try simp only [Int.toNat_natCast] at s5 s6)
         go_simp
         with_reducible rfl
        rotate_left
        ·simp only [Act.put, List.setIfInBounds_toArray, List.set_cons_zero, List.set_cons_succ, i64_w, i32_w]
         rfl
        refine pa_ 25 (some 190) (bm 28 67108863) rfl rfl HT_.out ?_
        refine pa_ 26 (some 191) (bm 28 134217727) rfl rfl HT_.out ?_
        refine pa_ 27 (some 2) (bm 28 268435455) rfl rfl HT_.out ?_
        refine done_ (done_of HT_.out (by kernel_rfl)) ?_
        try go_wp2
        go_ret
        exact ⟨by first | rfl | (simp [errW_none, errW_some] <;> rfl) | (simp [*, errW_none, errW_some] <;> rfl), by repeat (first | (with_reducible first | exact HB.out | apply below_alloc | apply pw_below_drewN | apply below_drew1 | refine below_set ?_ GE421.out | refine below_set ?_ GE428.out | refine below_set ?_ GE439.out | refine below_set ?_ GE448.out | refine below_set ?_ GE449.out | refine below_set ?_ GE454.out | refine below_set ?_ GE459.out | refine below_set ?_ GE468.out | refine below_set ?_ GE473.out) | exact HB.out)⟩
       ·rw [if_neg c251] at H
        exact absurd H (by simp)
      ·replace c250 := Bool.eq_false_iff.mpr c250
       subst c250
       have H1 : (some false) = some r := by rw [if_neg (show ¬ (false = true) by decide)] at H; exact H
       clear H
       have H := H1
       clear H1
       obtain rfl := Option.some.inj H
       have hnb267 := NB454_421.out
       have hnc267 := NB421_454.out
       have hnb268 := NB454_428.out
       have hnc268 := NB428_454.out
       have hnb269 := NB454_439.out
       have hnc269 := NB439_454.out
       have hnb270 := NB454_448.out
       have hnc270 := NB448_454.out
       have hnb271 := NB454_449.out
       have hnc271 := NB449_454.out
       have hnb272 := NB454_459.out
       have hnc272 := NB459_454.out
       have hnb273 := NB454_468.out
       have hnc273 := NB468_454.out
       have hnb274 := NB454_473.out
       have hnc274 := NB473_454.out
       have hcz275_0 : wc.cell? ⟨gb454, 0, none⟩ = some (.string t450) := (blk_cell BK454.out 0).trans rfl
       have hcz275_1 : wc.cell? ⟨gb454, 1, none⟩ = some (.string t451) := (blk_cell BK454.out 1).trans rfl
       have hcz275_2 : wc.cell? ⟨gb454, 2, none⟩ = some (.int .i64 t452) := (blk_cell BK454.out 2).trans rfl
       have hfz275_0 := blk_frozen BK454.out 0
       have hfz275_1 := blk_frozen BK454.out 1
       have hfz275_2 := blk_frozen BK454.out 2
       try go_wp2_with (first | ((with_reducible refine gate_callee (f := 30) rfl ?_); refine gL_ (some 162) Tryd.func30 #[.agg #[.string t450, .string t451, .int .i64 t452]] ?_ rfl rfl; (with_reducible refine (impl_LogRecords.calls kj239 t450 t451 t452 t488 t491 _ ?side1 A243.out).mono ?_); (case side1 => exact EnvW.below HENV.out bg_); rintro e w276 ⟨v489, rfl, ho0, hb⟩; refine ⟨_, rfl, ?_⟩; have n_ := And.intro (Aside0.mk (Kd.R_elder' (rk_ HO_21) (Kd.R_base ho0) hb)) (And.intro (Aside0.mk (Kd.R_lower (Kd.R_newB (Kd.R_newB (Kd.R_newB (Kd.R_new' ho0 (Kd.R_lt (rk_ HO_21))) (g := gb421) (o := .cells #[.string t419, .string t420] 27 (0, 0)) (bk_ BK421)) (g := gb428) (o := .cells #[.string t426, .string t427] 27 (0, 0)) (bk_ BK428)) (g := gb449) (o := .cells #[.string t446, .string t447] 27 (0, 0)) (bk_ BK449)) (below_size bg_))) (And.intro (Aside0.mk (bb_ BK421 hb)) (And.intro (Aside0.mk (bb_ BK428 hb)) (And.intro (Aside0.mk (bb_ BK439 hb)) (And.intro (Aside0.mk (bb_ BK448 hb)) (And.intro (Aside0.mk (bb_ BK449 hb)) (And.intro (Aside0.mk (bb_ BK454 hb)) (And.intro (Aside0.mk (bb_ BK459 hb)) (And.intro (Aside0.mk (bb_ BK468 hb)) (And.intro (Aside0.mk (bb_ BK473 hb)) (Aside0.mk (below_step bg_ hb)))))))))))); clear HO_21 BK421 BK428 BK439 BK448 BK449 BK454 BK459 BK468 BK473 HB; obtain ⟨HO_21, HO490, BK421, BK428, BK439, BK448, BK449, BK454, BK459, BK468, BK473, HB⟩ := n_; (try clear hb); (try clear hb2); (try clear hk); (try clear hi); (try clear ho0)))
       have n_ := And.intro (Aside0.mk (Kd.R_drew HO_21.out)) (And.intro (Aside0.mk (Kd.R_drew HO490.out)) (And.intro (Aside0.mk (blk_drew BK421.out)) (And.intro (Aside0.mk (blk_drew BK428.out)) (And.intro (Aside0.mk (blk_drew BK439.out)) (And.intro (Aside0.mk (blk_drew BK448.out)) (And.intro (Aside0.mk (blk_drew BK449.out)) (And.intro (Aside0.mk (blk_drew BK454.out)) (And.intro (Aside0.mk (blk_drew BK459.out)) (And.intro (Aside0.mk (blk_drew BK468.out)) (And.intro (Aside0.mk (blk_drew BK473.out)) (Aside0.mk (below_drew1 HB.out))))))))))))
       clear HO_21 HO490 BK421 BK428 BK439 BK448 BK449 BK454 BK459 BK468 BK473 HB; obtain ⟨HO_21, HO490, BK421, BK428, BK439, BK448, BK449, BK454, BK459, BK468, BK473, HB⟩ := n_
       refine start_ (n := 28) (S := fun w' => w'.cell? ⟨gb454, 0, none⟩ = some (.string t450) ∧ w'.cell? ⟨gb454, 1, none⟩ = some (.string t451) ∧ w'.cell? ⟨gb454, 2, none⟩ = some (.int .i64 t452)) (ds := []) (bm 28 0) (by kernel_rfl) rfl rfl ⟨(blk_cell BK454.out 0).trans rfl, (blk_cell BK454.out 1).trans rfl, (blk_cell BK454.out 2).trans rfl⟩ (fun hHeld => ?_); refine with_tabW laws_FnLogs.tab25 laws_FnLogs.bits25 (fun HT_ HW_ => ?_)
       generalize w276.drew = w277 at HO_21 HO490 BK421 BK428 BK439 BK448 BK449 BK454 BK459 BK468 BK473 HB hHeld ⊢
       refine take_ (i := 0) (N := some 165) (v := ?_) (a' := ?_) (bm 28 1) rfl rfl (take_ofW HT_.out HW_.out (by kernel_rfl)) (fun _ _ _ h => h) (Or.inl ⟨by rfl, ?_⟩) hHeld ?_ ?_
       rotate_left
       ·rintro w' ⟨s0, s1, s2⟩
        go_simp
        with_reducible rfl
       rotate_left
       ·simp only [Act.put, List.setIfInBounds_toArray, List.set_cons_zero, List.set_cons_succ, i64_w, i32_w]
        rfl
       refine one_ (i := 1) (N := some 166) (bm 28 3) rfl rfl (one_of HT_.out (by kernel_rfl)) (by decide) (fun K hK => ?_)
       refine goes_ Tryd.func22 (by kernel_rfl) rfl #[.agg #[.string t450, .string t451, .int .i64 t452]] (by rfl) rfl rfl (by (try simp only [List.map_toArray, List.map_cons, List.map_nil]); first | done | rfl | (simp only [List.length_drop, List.length_take]; rfl)) ?_
       with_reducible refine (impl_IsValidLog.calls kj239 t450 t451 t452 true _ ?side1 A244.out).mono ?_
       (case side1 => exact EnvW.below HENV.out bg_)
       rintro e w278 ⟨rfl, hb⟩
       refine ⟨_, rfl, ?_⟩
       have n_ := And.intro (Aside0.mk (Kd.R_below (rk_ HO_21) hb)) (And.intro (Aside0.mk (Kd.R_below (rk_ HO490) hb)) (And.intro (Aside0.mk (bb_ BK421 hb)) (And.intro (Aside0.mk (bb_ BK428 hb)) (And.intro (Aside0.mk (bb_ BK439 hb)) (And.intro (Aside0.mk (bb_ BK448 hb)) (And.intro (Aside0.mk (bb_ BK449 hb)) (And.intro (Aside0.mk (bb_ BK454 hb)) (And.intro (Aside0.mk (bb_ BK459 hb)) (And.intro (Aside0.mk (bb_ BK468 hb)) (And.intro (Aside0.mk (bb_ BK473 hb)) (Aside0.mk (below_step bg_ hb))))))))))))
       clear HO_21 HO490 BK421 BK428 BK439 BK448 BK449 BK454 BK459 BK468 BK473 HB; obtain ⟨HO_21, HO490, BK421, BK428, BK439, BK448, BK449, BK454, BK459, BK468, BK473, HB⟩ := n_
       (try clear hb)
       (try clear hb2)
       (try clear hk)
       (try clear hi)
       obtain ⟨Ao279, co279, eo279⟩ := Kd.R_slice HO490.out
       (first | subst eo279 | (injection eo279 with f1_ f2_ f3_; have f4_ := f1_.symm; have f5_ := f3_.symm; clear f1_ f2_ f3_; subst f4_; subst f5_))
       obtain ⟨Ao280, co280, eo280⟩ := Kd.R_slice HO_21.out
       (first | subst eo280 | (injection eo280 with f1_ f2_ f3_; have f4_ := f1_.symm; have f5_ := f3_.symm; clear f1_ f2_ f3_; subst f4_; subst f5_))
       have q281 : ((t474.length : Int) : Int) ≤ ((t488.length : Int) : Int) := od_
       obtain ⟨i0281, hi0281, _, hsz281, _⟩ := info_parts info27
       have hroom281 : t488.length ≤ co279 := (Kd.R_reads' HO490.out).2.1
       have hC281 : Kd.C k27 _ Ao279 t488.length t488 := (Kd.R_reads' HO490.out).2.2
       have hcut281 := cut_to (P := Tryd.prog) 48 27 .i64 Tryd.underlying48 hi0281 Ao279 t488.length co279 (t474.length : Int) od_ q281 hroom281
       have hr281 := Kd.C_take (m := ((t474.length : Int) : Int).toNat) hC281 (by omega)
       have hy281 : y493.length = ((t474.length : Int) : Int).toNat := (by rw [Ny493.out, List.length_take]; omega)
       rw [← Ny493.out] at hr281
       rw [← hy281] at hcut281
       have HR496 := Aside0.mk hr281
       have HC496 := Aside0.mk (show y493.length ≤ co279 from by omega)
       clear hr281 hC281 hroom281 hi0281 hsz281
       have KY281 := Aside0.mk hy281
       clear hy281
       have KL281 := Aside0.mk (show ((t474.length : Int) : Int).toNat ≤ t488.length from by omega)
       replace q281 := eq_true q281
       refine hK.out _ _ ⟨(blk_cell BK454.out 0).trans rfl, (blk_cell BK454.out 1).trans rfl, (blk_cell BK454.out 2).trans rfl⟩ (fun hHeld => ?_)
       clear hK K
       refine norm_ (a' := ?_) ?_ ?_
       rotate_left
       ·show Act.put _ (some 166) _ = _
        simp only [Act.put, List.setIfInBounds_toArray, List.set_cons_zero, List.set_cons_succ, i64_w, i32_w]
        rfl
       refine pa_ 2 (some 167) (bm 28 7) rfl rfl HT_.out ?_
       refine pa_ 3 (some 168) (bm 28 15) rfl rfl HT_.out ?_
       refine pa_ 4 (some 169) (bm 28 31) rfl rfl HT_.out ?_
       refine pa_ 5 (some 170) (bm 28 63) rfl rfl HT_.out ?_
       refine pa_ 6 (some 171) (bm 28 127) rfl rfl HT_.out ?_
       refine pa_ 7 (some 172) (bm 28 255) rfl rfl HT_.out ?_
       refine pa_ 8 (some 173) (bm 28 511) rfl rfl HT_.out ?_
       refine pa_ 9 (some 174) (bm 28 1023) rfl rfl HT_.out ?_
       refine pa_ 10 (some 175) (bm 28 2047) rfl rfl HT_.out ?_
       refine pa_ 11 (some 176) (bm 28 4095) rfl rfl HT_.out ?_
       refine pa_ 12 (some 177) (bm 28 8191) rfl rfl HT_.out ?_
       refine pa_ 13 (some 178) (bm 28 16383) rfl rfl HT_.out ?_
       refine pa_ 14 (some 179) (bm 28 32767) rfl rfl HT_.out ?_
       refine pa_ 15 (some 180) (bm 28 65535) rfl rfl HT_.out ?_
       refine one_ (i := 16) (N := some 181) (bm 28 131071) rfl rfl (one_of HT_.out (by kernel_rfl)) (by decide) (fun K hK => ?_)
       refine goes_ Tryd.func42 (by kernel_rfl) rfl #[.slice Ao279 y493.length co279, .slice Ao280 t474.length co280] (by rfl) rfl rfl (by (try simp only [List.map_toArray, List.map_cons, List.map_nil]); first | done | rfl | (simp only [List.length_drop, List.length_take]; rfl)) ?_
       with_reducible refine (laws_vRecords.calls kj239 _ _ y493 _ _ t474 false _ ?side1 ?side2 ?side3 ?side4 A249.out).mono ?_
       (case side1 => repeat (first | exact (by repeat (first | (with_reducible exact HR496.out) | (with_reducible refine Kd.C_alloc ?_ _) | (with_reducible refine Kd.C_drewN ?_ _) | (with_reducible refine Kd.C_drew ?_) | exact HR496.out)) | (with_reducible refine Kd.C_alloc ?_ _) | (with_reducible refine Kd.C_drewN ?_ _) | (with_reducible refine Kd.C_drew ?_)))
       (case side2 => exact HC496.out)
       (case side3 => repeat (first | exact (Kd.R_reads' HO_21.out).2.2 | (with_reducible refine Kd.C_alloc ?_ _) | (with_reducible refine Kd.C_drewN ?_ _) | (with_reducible refine Kd.C_drew ?_)))
       (case side4 => exact (Kd.R_reads' HO_21.out).2.1)
       rintro e w' ⟨rfl, ⟨nd, rfl⟩⟩
       refine ⟨_, rfl, ?_⟩
       refine hK.out _ _ ⟨(blk_cell BK454.out 0).trans rfl, (blk_cell BK454.out 1).trans rfl, (blk_cell BK454.out 2).trans rfl⟩ (fun hHeld => ?_)
       clear hK K
       refine norm_ (a' := ?_) ?_ ?_
       rotate_left
       ·show Act.put _ (some 181) _ = _
        simp only [Act.put, List.setIfInBounds_toArray, List.set_cons_zero, List.set_cons_succ, i64_w, i32_w]
        rfl
       refine pa_ 17 (some 182) (bm 28 262143) rfl rfl HT_.out ?_
       refine pa_ 18 (some 183) (bm 28 524287) rfl rfl HT_.out ?_
       refine pu_ 19 (some 184) (bm 28 1048575) rfl rfl HT_.out ?_
       refine pu_ 20 (some 185) (bm 28 2097151) rfl rfl HT_.out ?_
       refine pu_ 21 (some 186) (bm 28 4194303) rfl rfl HT_.out ?_
       refine pu_ 22 (some 187) (bm 28 8388607) rfl rfl HT_.out ?_
       refine pu_ 23 (some 188) (bm 28 16777215) rfl rfl HT_.out ?_
       refine pu_ 24 (some 189) (bm 28 33554431) rfl rfl HT_.out ?_
       refine pu_ 25 (some 190) (bm 28 67108863) rfl rfl HT_.out ?_
       refine pa_ 26 (some 191) (bm 28 134217727) rfl rfl HT_.out ?_
       refine pa_ 27 (some 2) (bm 28 268435455) rfl rfl HT_.out ?_
       refine done_ (done_of HT_.out (by kernel_rfl)) ?_
       try go_wp2
       go_ret
       exact ⟨by first | rfl | (simp [errW_none, errW_some] <;> rfl) | (simp [*, errW_none, errW_some] <;> rfl), by repeat (first | (with_reducible first | exact HB.out | apply below_alloc | apply pw_below_drewN | apply below_drew1 | refine below_set ?_ GE421.out | refine below_set ?_ GE428.out | refine below_set ?_ GE439.out | refine below_set ?_ GE448.out | refine below_set ?_ GE449.out | refine below_set ?_ GE454.out | refine below_set ?_ GE459.out | refine below_set ?_ GE468.out | refine below_set ?_ GE473.out) | exact HB.out)⟩
     ·rw [if_neg c248] at H
      exact absurd H (by simp)
    ·rw [if_neg c247] at H
     exact absurd H (by simp)
   ·rw [if_neg c246] at H
    have c246b0 : ((t488.length : Int) == (wrap64 ((t474.length : Int) + 1))) = false := beq_eq_false_iff_ne.mpr c246
    have c246b1 : ((t488.length : Int) != (wrap64 ((t474.length : Int) + 1))) = true := bne_iff_ne.mpr c246
    obtain rfl := Option.some.inj H
    have hnb282 := NB454_421.out
    have hnc282 := NB421_454.out
    have hnb283 := NB454_428.out
    have hnc283 := NB428_454.out
    have hnb284 := NB454_439.out
    have hnc284 := NB439_454.out
    have hnb285 := NB454_448.out
    have hnc285 := NB448_454.out
    have hnb286 := NB454_449.out
    have hnc286 := NB449_454.out
    have hnb287 := NB454_459.out
    have hnc287 := NB459_454.out
    have hnb288 := NB454_468.out
    have hnc288 := NB468_454.out
    have hnb289 := NB454_473.out
    have hnc289 := NB473_454.out
    have hcz290_0 : wc.cell? ⟨gb454, 0, none⟩ = some (.string t450) := (blk_cell BK454.out 0).trans rfl
    have hcz290_1 : wc.cell? ⟨gb454, 1, none⟩ = some (.string t451) := (blk_cell BK454.out 1).trans rfl
    have hcz290_2 : wc.cell? ⟨gb454, 2, none⟩ = some (.int .i64 t452) := (blk_cell BK454.out 2).trans rfl
    have hfz290_0 := blk_frozen BK454.out 0
    have hfz290_1 := blk_frozen BK454.out 1
    have hfz290_2 := blk_frozen BK454.out 2
    try go_wp2_with (first | ((with_reducible refine gate_callee (f := 30) rfl ?_); refine gL_ (some 162) Tryd.func30 #[.agg #[.string t450, .string t451, .int .i64 t452]] ?_ rfl rfl; (with_reducible refine (impl_LogRecords.calls kj239 t450 t451 t452 t488 t491 _ ?side1 A243.out).mono ?_); (case side1 => exact EnvW.below HENV.out bg_); rintro e w291 ⟨v489, rfl, ho0, hb⟩; refine ⟨_, rfl, ?_⟩; have n_ := And.intro (Aside0.mk (Kd.R_elder' (rk_ HO_21) (Kd.R_base ho0) hb)) (And.intro (Aside0.mk (Kd.R_lower (Kd.R_newB (Kd.R_newB (Kd.R_newB (Kd.R_new' ho0 (Kd.R_lt (rk_ HO_21))) (g := gb421) (o := .cells #[.string t419, .string t420] 27 (0, 0)) (bk_ BK421)) (g := gb428) (o := .cells #[.string t426, .string t427] 27 (0, 0)) (bk_ BK428)) (g := gb449) (o := .cells #[.string t446, .string t447] 27 (0, 0)) (bk_ BK449)) (below_size bg_))) (And.intro (Aside0.mk (bb_ BK421 hb)) (And.intro (Aside0.mk (bb_ BK428 hb)) (And.intro (Aside0.mk (bb_ BK439 hb)) (And.intro (Aside0.mk (bb_ BK448 hb)) (And.intro (Aside0.mk (bb_ BK449 hb)) (And.intro (Aside0.mk (bb_ BK454 hb)) (And.intro (Aside0.mk (bb_ BK459 hb)) (And.intro (Aside0.mk (bb_ BK468 hb)) (And.intro (Aside0.mk (bb_ BK473 hb)) (Aside0.mk (below_step bg_ hb)))))))))))); clear HO_21 BK421 BK428 BK439 BK448 BK449 BK454 BK459 BK468 BK473 HB; obtain ⟨HO_21, HO490, BK421, BK428, BK439, BK448, BK449, BK454, BK459, BK468, BK473, HB⟩ := n_; (try clear hb); (try clear hb2); (try clear hk); (try clear hi); (try clear ho0)))
    have n_ := And.intro (Aside0.mk (Kd.R_drew HO_21.out)) (And.intro (Aside0.mk (Kd.R_drew HO490.out)) (And.intro (Aside0.mk (blk_drew BK421.out)) (And.intro (Aside0.mk (blk_drew BK428.out)) (And.intro (Aside0.mk (blk_drew BK439.out)) (And.intro (Aside0.mk (blk_drew BK448.out)) (And.intro (Aside0.mk (blk_drew BK449.out)) (And.intro (Aside0.mk (blk_drew BK454.out)) (And.intro (Aside0.mk (blk_drew BK459.out)) (And.intro (Aside0.mk (blk_drew BK468.out)) (And.intro (Aside0.mk (blk_drew BK473.out)) (Aside0.mk (below_drew1 HB.out))))))))))))
    clear HO_21 HO490 BK421 BK428 BK439 BK448 BK449 BK454 BK459 BK468 BK473 HB; obtain ⟨HO_21, HO490, BK421, BK428, BK439, BK448, BK449, BK454, BK459, BK468, BK473, HB⟩ := n_
    refine start_ (n := 28) (S := fun w' => w'.cell? ⟨gb454, 0, none⟩ = some (.string t450) ∧ w'.cell? ⟨gb454, 1, none⟩ = some (.string t451) ∧ w'.cell? ⟨gb454, 2, none⟩ = some (.int .i64 t452)) (ds := []) (bm 28 0) (by kernel_rfl) rfl rfl ⟨(blk_cell BK454.out 0).trans rfl, (blk_cell BK454.out 1).trans rfl, (blk_cell BK454.out 2).trans rfl⟩ (fun hHeld => ?_); refine with_tabW laws_FnLogs.tab25 laws_FnLogs.bits25 (fun HT_ HW_ => ?_)
    generalize w291.drew = w292 at HO_21 HO490 BK421 BK428 BK439 BK448 BK449 BK454 BK459 BK468 BK473 HB hHeld ⊢
    refine take_ (i := 0) (N := some 165) (v := ?_) (a' := ?_) (bm 28 1) rfl rfl (take_ofW HT_.out HW_.out (by kernel_rfl)) (fun _ _ _ h => h) (Or.inl ⟨by rfl, ?_⟩) hHeld ?_ ?_
    rotate_left
    ·rintro w' ⟨s0, s1, s2⟩
     go_simp
     with_reducible rfl
    rotate_left
    ·simp only [Act.put, List.setIfInBounds_toArray, List.set_cons_zero, List.set_cons_succ, i64_w, i32_w]
     rfl
    refine one_ (i := 1) (N := some 166) (bm 28 3) rfl rfl (one_of HT_.out (by kernel_rfl)) (by decide) (fun K hK => ?_)
    refine goes_ Tryd.func22 (by kernel_rfl) rfl #[.agg #[.string t450, .string t451, .int .i64 t452]] (by rfl) rfl rfl (by (try simp only [List.map_toArray, List.map_cons, List.map_nil]); first | done | rfl | (simp only [List.length_drop, List.length_take]; rfl)) ?_
    with_reducible refine (impl_IsValidLog.calls kj239 t450 t451 t452 true _ ?side1 A244.out).mono ?_
    (case side1 => exact EnvW.below HENV.out bg_)
    rintro e w293 ⟨rfl, hb⟩
    refine ⟨_, rfl, ?_⟩
    have n_ := And.intro (Aside0.mk (Kd.R_below (rk_ HO_21) hb)) (And.intro (Aside0.mk (Kd.R_below (rk_ HO490) hb)) (And.intro (Aside0.mk (bb_ BK421 hb)) (And.intro (Aside0.mk (bb_ BK428 hb)) (And.intro (Aside0.mk (bb_ BK439 hb)) (And.intro (Aside0.mk (bb_ BK448 hb)) (And.intro (Aside0.mk (bb_ BK449 hb)) (And.intro (Aside0.mk (bb_ BK454 hb)) (And.intro (Aside0.mk (bb_ BK459 hb)) (And.intro (Aside0.mk (bb_ BK468 hb)) (And.intro (Aside0.mk (bb_ BK473 hb)) (Aside0.mk (below_step bg_ hb))))))))))))
    clear HO_21 HO490 BK421 BK428 BK439 BK448 BK449 BK454 BK459 BK468 BK473 HB; obtain ⟨HO_21, HO490, BK421, BK428, BK439, BK448, BK449, BK454, BK459, BK468, BK473, HB⟩ := n_
    (try clear hb)
    (try clear hb2)
    (try clear hk)
    (try clear hi)
    obtain ⟨Ao294, co294, eo294⟩ := Kd.R_slice HO490.out
    (first | subst eo294 | (injection eo294 with f1_ f2_ f3_; have f4_ := f1_.symm; have f5_ := f3_.symm; clear f1_ f2_ f3_; subst f4_; subst f5_))
    obtain ⟨Ao295, co295, eo295⟩ := Kd.R_slice HO_21.out
    (first | subst eo295 | (injection eo295 with f1_ f2_ f3_; have f4_ := f1_.symm; have f5_ := f3_.symm; clear f1_ f2_ f3_; subst f4_; subst f5_))
    refine hK.out _ _ ⟨(blk_cell BK454.out 0).trans rfl, (blk_cell BK454.out 1).trans rfl, (blk_cell BK454.out 2).trans rfl⟩ (fun hHeld => ?_)
    clear hK K
    refine norm_ (a' := ?_) ?_ ?_
    rotate_left
    ·show Act.put _ (some 166) _ = _
     simp only [Act.put, List.setIfInBounds_toArray, List.set_cons_zero, List.set_cons_succ, i64_w, i32_w]
     rfl
    refine pa_ 2 (some 167) (bm 28 7) rfl rfl HT_.out ?_
    refine pa_ 3 (some 168) (bm 28 15) rfl rfl HT_.out ?_
    refine pa_ 4 (some 169) (bm 28 31) rfl rfl HT_.out ?_
    refine pa_ 5 (some 170) (bm 28 63) rfl rfl HT_.out ?_
    refine pa_ 6 (some 171) (bm 28 127) rfl rfl HT_.out ?_
    refine pa_ 7 (some 172) (bm 28 255) rfl rfl HT_.out ?_
    refine pa_ 8 (some 173) (bm 28 511) rfl rfl HT_.out ?_
    refine pa_ 9 (some 174) (bm 28 1023) rfl rfl HT_.out ?_
    refine pa_ 10 (some 175) (bm 28 2047) rfl rfl HT_.out ?_
    refine pu_ 11 (some 176) (bm 28 4095) rfl rfl HT_.out ?_
    refine pu_ 12 (some 177) (bm 28 8191) rfl rfl HT_.out ?_
    refine pu_ 13 (some 178) (bm 28 16383) rfl rfl HT_.out ?_
    refine pu_ 14 (some 179) (bm 28 32767) rfl rfl HT_.out ?_
    refine pu_ 15 (some 180) (bm 28 65535) rfl rfl HT_.out ?_
    refine pu_ 16 (some 181) (bm 28 131071) rfl rfl HT_.out ?_
    refine pa_ 17 (some 182) (bm 28 262143) rfl rfl HT_.out ?_
    refine pa_ 18 (some 183) (bm 28 524287) rfl rfl HT_.out ?_
    refine pu_ 19 (some 184) (bm 28 1048575) rfl rfl HT_.out ?_
    refine pu_ 20 (some 185) (bm 28 2097151) rfl rfl HT_.out ?_
    refine pu_ 21 (some 186) (bm 28 4194303) rfl rfl HT_.out ?_
    refine pu_ 22 (some 187) (bm 28 8388607) rfl rfl HT_.out ?_
    refine pu_ 23 (some 188) (bm 28 16777215) rfl rfl HT_.out ?_
    refine pu_ 24 (some 189) (bm 28 33554431) rfl rfl HT_.out ?_
    refine pu_ 25 (some 190) (bm 28 67108863) rfl rfl HT_.out ?_
    refine pa_ 26 (some 191) (bm 28 134217727) rfl rfl HT_.out ?_
    refine pa_ 27 (some 2) (bm 28 268435455) rfl rfl HT_.out ?_
    refine done_ (done_of HT_.out (by kernel_rfl)) ?_
    try go_wp2
    go_ret
    exact ⟨by first | rfl | (simp [errW_none, errW_some] <;> rfl) | (simp [*, errW_none, errW_some] <;> rfl), by repeat (first | (with_reducible first | exact HB.out | apply below_alloc | apply pw_below_drewN | apply below_drew1 | refine below_set ?_ GE421.out | refine below_set ?_ GE428.out | refine below_set ?_ GE439.out | refine below_set ?_ GE448.out | refine below_set ?_ GE449.out | refine below_set ?_ GE454.out | refine below_set ?_ GE459.out | refine below_set ?_ GE468.out | refine below_set ?_ GE473.out) | exact HB.out)⟩
  ·replace c245 := Bool.eq_false_iff.mpr c245
   subst c245
   have H1 : (some false) = some r := by rw [if_neg (show ¬ (false = true) by decide)] at H; exact H
   clear H
   have H := H1
   clear H1
   obtain rfl := Option.some.inj H
   have hnb296 := NB454_421.out
   have hnc296 := NB421_454.out
   have hnb297 := NB454_428.out
   have hnc297 := NB428_454.out
   have hnb298 := NB454_439.out
   have hnc298 := NB439_454.out
   have hnb299 := NB454_448.out
   have hnc299 := NB448_454.out
   have hnb300 := NB454_449.out
   have hnc300 := NB449_454.out
   have hnb301 := NB454_459.out
   have hnc301 := NB459_454.out
   have hnb302 := NB454_468.out
   have hnc302 := NB468_454.out
   have hnb303 := NB454_473.out
   have hnc303 := NB473_454.out
   have hcz304_0 : wc.cell? ⟨gb454, 0, none⟩ = some (.string t450) := (blk_cell BK454.out 0).trans rfl
   have hcz304_1 : wc.cell? ⟨gb454, 1, none⟩ = some (.string t451) := (blk_cell BK454.out 1).trans rfl
   have hcz304_2 : wc.cell? ⟨gb454, 2, none⟩ = some (.int .i64 t452) := (blk_cell BK454.out 2).trans rfl
   have hfz304_0 := blk_frozen BK454.out 0
   have hfz304_1 := blk_frozen BK454.out 1
   have hfz304_2 := blk_frozen BK454.out 2
   try go_wp2_with (first | ((with_reducible refine gate_callee (f := 30) rfl ?_); refine gL_ (some 162) Tryd.func30 #[.agg #[.string t450, .string t451, .int .i64 t452]] ?_ rfl rfl; (with_reducible refine (impl_LogRecords.calls kj239 t450 t451 t452 t488 t491 _ ?side1 A243.out).mono ?_); (case side1 => exact EnvW.below HENV.out bg_); rintro e w305 ⟨v489, rfl, ho0, hb⟩; refine ⟨_, rfl, ?_⟩; have n_ := And.intro (Aside0.mk (Kd.R_elder' (rk_ HO_21) (Kd.R_base ho0) hb)) (And.intro (Aside0.mk (Kd.R_lower (Kd.R_newB (Kd.R_newB (Kd.R_newB (Kd.R_new' ho0 (Kd.R_lt (rk_ HO_21))) (g := gb421) (o := .cells #[.string t419, .string t420] 27 (0, 0)) (bk_ BK421)) (g := gb428) (o := .cells #[.string t426, .string t427] 27 (0, 0)) (bk_ BK428)) (g := gb449) (o := .cells #[.string t446, .string t447] 27 (0, 0)) (bk_ BK449)) (below_size bg_))) (And.intro (Aside0.mk (bb_ BK421 hb)) (And.intro (Aside0.mk (bb_ BK428 hb)) (And.intro (Aside0.mk (bb_ BK439 hb)) (And.intro (Aside0.mk (bb_ BK448 hb)) (And.intro (Aside0.mk (bb_ BK449 hb)) (And.intro (Aside0.mk (bb_ BK454 hb)) (And.intro (Aside0.mk (bb_ BK459 hb)) (And.intro (Aside0.mk (bb_ BK468 hb)) (And.intro (Aside0.mk (bb_ BK473 hb)) (Aside0.mk (below_step bg_ hb)))))))))))); clear HO_21 BK421 BK428 BK439 BK448 BK449 BK454 BK459 BK468 BK473 HB; obtain ⟨HO_21, HO490, BK421, BK428, BK439, BK448, BK449, BK454, BK459, BK468, BK473, HB⟩ := n_; (try clear hb); (try clear hb2); (try clear hk); (try clear hi); (try clear ho0)))
   have n_ := And.intro (Aside0.mk (Kd.R_drew HO_21.out)) (And.intro (Aside0.mk (Kd.R_drew HO490.out)) (And.intro (Aside0.mk (blk_drew BK421.out)) (And.intro (Aside0.mk (blk_drew BK428.out)) (And.intro (Aside0.mk (blk_drew BK439.out)) (And.intro (Aside0.mk (blk_drew BK448.out)) (And.intro (Aside0.mk (blk_drew BK449.out)) (And.intro (Aside0.mk (blk_drew BK454.out)) (And.intro (Aside0.mk (blk_drew BK459.out)) (And.intro (Aside0.mk (blk_drew BK468.out)) (And.intro (Aside0.mk (blk_drew BK473.out)) (Aside0.mk (below_drew1 HB.out))))))))))))
   clear HO_21 HO490 BK421 BK428 BK439 BK448 BK449 BK454 BK459 BK468 BK473 HB; obtain ⟨HO_21, HO490, BK421, BK428, BK439, BK448, BK449, BK454, BK459, BK468, BK473, HB⟩ := n_
   refine start_ (n := 28) (S := fun w' => w'.cell? ⟨gb454, 0, none⟩ = some (.string t450) ∧ w'.cell? ⟨gb454, 1, none⟩ = some (.string t451) ∧ w'.cell? ⟨gb454, 2, none⟩ = some (.int .i64 t452)) (ds := []) (bm 28 0) (by kernel_rfl) rfl rfl ⟨(blk_cell BK454.out 0).trans rfl, (blk_cell BK454.out 1).trans rfl, (blk_cell BK454.out 2).trans rfl⟩ (fun hHeld => ?_); refine with_tabW laws_FnLogs.tab25 laws_FnLogs.bits25 (fun HT_ HW_ => ?_)
   generalize w305.drew = w306 at HO_21 HO490 BK421 BK428 BK439 BK448 BK449 BK454 BK459 BK468 BK473 HB hHeld ⊢
   refine take_ (i := 0) (N := some 165) (v := ?_) (a' := ?_) (bm 28 1) rfl rfl (take_ofW HT_.out HW_.out (by kernel_rfl)) (fun _ _ _ h => h) (Or.inl ⟨by rfl, ?_⟩) hHeld ?_ ?_
   rotate_left
   ·rintro w' ⟨s0, s1, s2⟩
    go_simp
    with_reducible rfl
   rotate_left
   ·simp only [Act.put, List.setIfInBounds_toArray, List.set_cons_zero, List.set_cons_succ, i64_w, i32_w]
    rfl
   refine one_ (i := 1) (N := some 166) (bm 28 3) rfl rfl (one_of HT_.out (by kernel_rfl)) (by decide) (fun K hK => ?_)
   refine goes_ Tryd.func22 (by kernel_rfl) rfl #[.agg #[.string t450, .string t451, .int .i64 t452]] (by rfl) rfl rfl (by (try simp only [List.map_toArray, List.map_cons, List.map_nil]); first | done | rfl | (simp only [List.length_drop, List.length_take]; rfl)) ?_
   with_reducible refine (impl_IsValidLog.calls kj239 t450 t451 t452 false _ ?side1 A244.out).mono ?_
   (case side1 => exact EnvW.below HENV.out bg_)
   rintro e w307 ⟨rfl, hb⟩
   refine ⟨_, rfl, ?_⟩
   have n_ := And.intro (Aside0.mk (Kd.R_below (rk_ HO_21) hb)) (And.intro (Aside0.mk (Kd.R_below (rk_ HO490) hb)) (And.intro (Aside0.mk (bb_ BK421 hb)) (And.intro (Aside0.mk (bb_ BK428 hb)) (And.intro (Aside0.mk (bb_ BK439 hb)) (And.intro (Aside0.mk (bb_ BK448 hb)) (And.intro (Aside0.mk (bb_ BK449 hb)) (And.intro (Aside0.mk (bb_ BK454 hb)) (And.intro (Aside0.mk (bb_ BK459 hb)) (And.intro (Aside0.mk (bb_ BK468 hb)) (And.intro (Aside0.mk (bb_ BK473 hb)) (Aside0.mk (below_step bg_ hb))))))))))))
   clear HO_21 HO490 BK421 BK428 BK439 BK448 BK449 BK454 BK459 BK468 BK473 HB; obtain ⟨HO_21, HO490, BK421, BK428, BK439, BK448, BK449, BK454, BK459, BK468, BK473, HB⟩ := n_
   (try clear hb)
   (try clear hb2)
   (try clear hk)
   (try clear hi)
   refine hK.out _ _ ⟨(blk_cell BK454.out 0).trans rfl, (blk_cell BK454.out 1).trans rfl, (blk_cell BK454.out 2).trans rfl⟩ (fun hHeld => ?_)
   clear hK K
   refine norm_ (a' := ?_) ?_ ?_
   rotate_left
   ·show Act.put _ (some 166) _ = _
    simp only [Act.put, List.setIfInBounds_toArray, List.set_cons_zero, List.set_cons_succ, i64_w, i32_w]
    rfl
   refine pa_ 2 (some 167) (bm 28 7) rfl rfl HT_.out ?_
   refine pu_ 3 (some 168) (bm 28 15) rfl rfl HT_.out ?_
   refine pu_ 4 (some 169) (bm 28 31) rfl rfl HT_.out ?_
   refine pu_ 5 (some 170) (bm 28 63) rfl rfl HT_.out ?_
   refine pu_ 6 (some 171) (bm 28 127) rfl rfl HT_.out ?_
   refine pu_ 7 (some 172) (bm 28 255) rfl rfl HT_.out ?_
   refine pu_ 8 (some 173) (bm 28 511) rfl rfl HT_.out ?_
   refine pa_ 9 (some 174) (bm 28 1023) rfl rfl HT_.out ?_
   refine pa_ 10 (some 175) (bm 28 2047) rfl rfl HT_.out ?_
   refine pu_ 11 (some 176) (bm 28 4095) rfl rfl HT_.out ?_
   refine pu_ 12 (some 177) (bm 28 8191) rfl rfl HT_.out ?_
   refine pu_ 13 (some 178) (bm 28 16383) rfl rfl HT_.out ?_
   refine pu_ 14 (some 179) (bm 28 32767) rfl rfl HT_.out ?_
   refine pu_ 15 (some 180) (bm 28 65535) rfl rfl HT_.out ?_
   refine pu_ 16 (some 181) (bm 28 131071) rfl rfl HT_.out ?_
   refine pa_ 17 (some 182) (bm 28 262143) rfl rfl HT_.out ?_
   refine pa_ 18 (some 183) (bm 28 524287) rfl rfl HT_.out ?_
   refine pu_ 19 (some 184) (bm 28 1048575) rfl rfl HT_.out ?_
   refine pu_ 20 (some 185) (bm 28 2097151) rfl rfl HT_.out ?_
   refine pu_ 21 (some 186) (bm 28 4194303) rfl rfl HT_.out ?_
   refine pu_ 22 (some 187) (bm 28 8388607) rfl rfl HT_.out ?_
   refine pu_ 23 (some 188) (bm 28 16777215) rfl rfl HT_.out ?_
   refine pu_ 24 (some 189) (bm 28 33554431) rfl rfl HT_.out ?_
   refine pu_ 25 (some 190) (bm 28 67108863) rfl rfl HT_.out ?_
   refine pa_ 26 (some 191) (bm 28 134217727) rfl rfl HT_.out ?_
   refine pa_ 27 (some 2) (bm 28 268435455) rfl rfl HT_.out ?_
   refine done_ (done_of HT_.out (by kernel_rfl)) ?_
   try go_wp2
   go_ret
   exact ⟨by first | rfl | (simp [errW_none, errW_some] <;> rfl) | (simp [*, errW_none, errW_some] <;> rfl), by repeat (first | (with_reducible first | exact HB.out | apply below_alloc | apply pw_below_drewN | apply below_drew1 | refine below_set ?_ GE421.out | refine below_set ?_ GE428.out | refine below_set ?_ GE439.out | refine below_set ?_ GE448.out | refine below_set ?_ GE449.out | refine below_set ?_ GE454.out | refine below_set ?_ GE459.out | refine below_set ?_ GE468.out | refine below_set ?_ GE473.out) | exact HB.out)⟩
 ·rw [if_neg c242] at H
  have c242b0 : (t453 == 0) = false := beq_eq_false_iff_ne.mpr c242
  have c242b1 : (t453 != 0) = true := bne_iff_ne.mpr c242
  obtain rfl := Option.some.inj H
  have hnb308 := NB454_421.out
  have hnc308 := NB421_454.out
  have hnb309 := NB454_428.out
  have hnc309 := NB428_454.out
  have hnb310 := NB454_439.out
  have hnc310 := NB439_454.out
  have hnb311 := NB454_448.out
  have hnc311 := NB448_454.out
  have hnb312 := NB454_449.out
  have hnc312 := NB449_454.out
  have hnb313 := NB454_459.out
  have hnc313 := NB459_454.out
  have hnb314 := NB454_468.out
  have hnc314 := NB468_454.out
  have hnb315 := NB454_473.out
  have hnc315 := NB473_454.out
  have hcz316_0 : wc.cell? ⟨gb454, 0, none⟩ = some (.string t450) := (blk_cell BK454.out 0).trans rfl
  have hcz316_1 : wc.cell? ⟨gb454, 1, none⟩ = some (.string t451) := (blk_cell BK454.out 1).trans rfl
  have hcz316_2 : wc.cell? ⟨gb454, 2, none⟩ = some (.int .i64 t452) := (blk_cell BK454.out 2).trans rfl
  have hfz316_0 := blk_frozen BK454.out 0
  have hfz316_1 := blk_frozen BK454.out 1
  have hfz316_2 := blk_frozen BK454.out 2
  have hnb317 := NB448_421.out
  have hnc317 := NB421_448.out
  have hnb318 := NB448_428.out
  have hnc318 := NB428_448.out
  have hnb319 := NB448_439.out
  have hnc319 := NB439_448.out
  have hnb320 := NB448_449.out
  have hnc320 := NB449_448.out
  have hnb321 := NB448_459.out
  have hnc321 := NB459_448.out
  have hnb322 := NB448_468.out
  have hnc322 := NB468_448.out
  have hnb323 := NB448_473.out
  have hnc323 := NB473_448.out
  have hcz324_0 : wc.cell? ⟨gb448, 0, none⟩ = some (.string t443) := (blk_cell BK448.out 0).trans rfl
  have hcz324_1 : wc.cell? ⟨gb448, 1, none⟩ = some (.string t444) := (blk_cell BK448.out 1).trans rfl
  have hcz324_2 : wc.cell? ⟨gb448, 2, none⟩ = some (.int .i64 t445) := (blk_cell BK448.out 2).trans rfl
  have hfz324_0 := blk_frozen BK448.out 0
  have hfz324_1 := blk_frozen BK448.out 1
  have hfz324_2 := blk_frozen BK448.out 2
  go_wp2
  go_ret
  exact ⟨by first | rfl | (simp [errW_none, errW_some] <;> rfl) | (simp [*, errW_none, errW_some] <;> rfl), by repeat (first | (with_reducible first | exact HB.out | apply below_alloc | apply pw_below_drewN | apply below_drew1 | refine below_set ?_ GE421.out | refine below_set ?_ GE428.out | refine below_set ?_ GE439.out | refine below_set ?_ GE448.out | refine below_set ?_ GE449.out | refine below_set ?_ GE454.out | refine below_set ?_ GE459.out | refine below_set ?_ GE468.out | refine below_set ?_ GE473.out) | exact HB.out)⟩

/-- THE ONE PURE STATEMENT of laws_FnLogs: yours. -/
def laws_FnLogs.Pure : Prop := ∀ (l0 : List Int), l0.length ≤ maxLen → l0.length * 1 ≤ 140737488351232 → (∀ x ∈ l0, (Lit.int .u8 x).wf = true) → ∃ k, laws_FnLogs.f k l0 = some true
theorem laws_FnLogs.walk (P : laws_FnLogs.Pure) (a0 : Option Addr) (len0 cap0 : Nat) (z0 : List Int) (w : World) (w0 : (a0 = none ∧ len0 = 0 ∧ cap0 = 0 ∧ z0 = []) ∨ ∃ x, a0 = some x ∧ len0 ≤ cap0 ∧ cap0 ≤ maxLen ∧ z0.length = cap0 ∧ (∀ i, i < z0.length → w.cell? (x.add i) = some (.int .u8 (z0.getD i 0))) ∧ ∀ n ∈ z0, (Lit.int .u8 n).wf = true) (y0 : len0 * 1 ≤ 140737488351232) (hE : EnvW w) :
  Calls Tryd.prog 10 #[.slice a0 len0 cap0] w fun e w' => e = .returned (.bool true) ∧ Below w.heap.size w w' := by
 obtain ⟨l0, rfl, hr0, hm0, hw0, hc0⟩ := ReadsInt.ofRowC w0
 obtain ⟨k, h⟩ := P l0 hm0 y0 hw0
 refine (laws_FnLogs.calls k _ _ l0 true w (Kd.C_of_reads (d := (0 : Int)) (h1 := fun _ => rfl) hr0) hc0 hE h).mono ?_
 rintro e w' ⟨rfl, hd⟩
 exact ⟨rfl, hd⟩

end Go.Proofs.YtklolnaonampeaaDoor.PFnLogs
