/-
  What the functions that the law reaches compute: typed pure functions, checked against the code.
-/
import Derived.Test.YtcabghamgilafaaGreatProg
import Derived.Test.YtcabghamgilafaaGreatE4
import Derived.Test.YtcabghamgilafaaGreatS
namespace Go.Proofs.YtcabghamgilafaaGreat.V
open Go.Ve Go.Proofs
set_option linter.unusedVariables false
set_option linter.unusedSimpArgs false
set_option maxRecDepth 100000
def tab : Tab := [(3, .data ⟨I, 0, 8, false⟩), (4, .data ⟨.bool, 0, 1, false⟩), (22, .data ⟨(.list (.prod I I)), 0, 16, false⟩), (24, .data ⟨(.prod I (.list (.prod I I))), 2, 32, false⟩), (25, .data ⟨(.list I), 0, 8, false⟩), (27, .data ⟨(.list (.list I)), 0, 24, false⟩), (30, .data ⟨(.prod I (.list (.prod I I))), 2, 32, false⟩), (35, .fn), (49, .data ⟨(.prod (.list (.list I)) (.list (.prod I I))), 2, 48, false⟩), (72, .data ⟨(.prod I I), 2, 16, true⟩), (126, .data ⟨(.int .u64), 0, 8, false⟩), (131, .fn), (135, .fn), (170, .fn), (200, .fn), (212, .data ⟨(.int .u64), 0, 8, false⟩), (256, .data ⟨(.int .u32), 0, 4, false⟩)]
theorem follows : Tryz.prog.follows .mixedOrders = true := by kernel_rfl
theorem ti3 : TiOk Tryz.prog tab 3 ⟨I, 0, 8, false⟩ := ti_int (by kernel_rfl) Tryz.underlying3
theorem ti4 : TiOk Tryz.prog tab 4 ⟨.bool, 0, 1, false⟩ := ti_bool (by kernel_rfl) Tryz.underlying4
theorem ti22 : TiOk Tryz.prog tab 22 ⟨(.list (.prod I I)), 0, 16, false⟩ := ti_list (ie := ⟨(.prod I I), 2, 16, true⟩) (by kernel_rfl) Tryz.underlying22 (by kernel_rfl) rfl (by kernel_rfl) (by kernel_rfl)
theorem ti24 : TiOk Tryz.prog tab 24 ⟨(.prod I (.list (.prod I I))), 2, 32, false⟩ := ti_struct (by kernel_rfl) Tryz.underlying24 (by kernel_rfl) (by kernel_rfl) (by kernel_rfl) (by kernel_rfl)
theorem ti25 : TiOk Tryz.prog tab 25 ⟨(.list I), 0, 8, false⟩ := ti_list (ie := ⟨I, 0, 8, false⟩) (by kernel_rfl) Tryz.underlying25 (by kernel_rfl) rfl (by kernel_rfl) (by kernel_rfl)
theorem ti27 : TiOk Tryz.prog tab 27 ⟨(.list (.list I)), 0, 24, false⟩ := ti_list (ie := ⟨(.list I), 0, 8, false⟩) (by kernel_rfl) Tryz.underlying27 (by kernel_rfl) rfl (by kernel_rfl) (by kernel_rfl)
theorem ti30 : TiOk Tryz.prog tab 30 ⟨(.prod I (.list (.prod I I))), 2, 32, false⟩ := ti_struct (by kernel_rfl) Tryz.underlying30 (by kernel_rfl) (by kernel_rfl) (by kernel_rfl) (by kernel_rfl)
theorem ti35 : FnOk Tryz.prog 35 := ti_fn (by kernel_rfl) (Tryz.underlying35)
theorem ti49 : TiOk Tryz.prog tab 49 ⟨(.prod (.list (.list I)) (.list (.prod I I))), 2, 48, false⟩ := ti_struct (by kernel_rfl) Tryz.underlying49 (by kernel_rfl) (by kernel_rfl) (by kernel_rfl) (by kernel_rfl)
theorem ti72 : TiOk Tryz.prog tab 72 ⟨(.prod I I), 2, 16, true⟩ := ti_arr (ie := ⟨I, 0, 8, false⟩) (by kernel_rfl) Tryz.underlying72 (by kernel_rfl) rfl (by kernel_rfl) (by kernel_rfl)
theorem ti126 : TiOk Tryz.prog tab 126 ⟨(.int .u64), 0, 8, false⟩ := ti_int (by kernel_rfl) Tryz.underlying126
theorem ti131 : FnOk Tryz.prog 131 := ti_fn (by kernel_rfl) (Tryz.underlying131)
theorem ti135 : FnOk Tryz.prog 135 := ti_fn (by kernel_rfl) (Tryz.underlying135)
theorem ti170 : FnOk Tryz.prog 170 := ti_fn (by kernel_rfl) (Tryz.underlying170)
theorem ti200 : FnOk Tryz.prog 200 := ti_fn (by kernel_rfl) (Tryz.underlying200)
theorem ti212 : TiOk Tryz.prog tab 212 ⟨(.int .u64), 0, 8, false⟩ := ti_int (by kernel_rfl) Tryz.underlying212
theorem ti256 : TiOk Tryz.prog tab 256 ⟨(.int .u32), 0, 4, false⟩ := ti_int (by kernel_rfl) Tryz.underlying256
theorem tabOk : TabOk' Tryz.prog tab := tabOk_of ⟨ti3, ti4, ti22, ti24, ti25, ti27, ti30, ti35, ti49, ti72, ti126, ti131, ti135, ti170, ti200, ti212, ti256, trivial⟩
/-! loop.example/g01128/laws.szIntA2S -/
abbrev laws_szIntA2S_E : Ve.End := ⟨[⟨4, .shr, I, none⟩], []⟩
abbrev laws_szIntA2S_a : List ASh := [.val (.list (.prod I I)), .val I]
abbrev laws_szIntA2S_o : List OSh := []
noncomputable def laws_szIntA2S : argP laws_szIntA2S_a → obP (extObs 0 laws_szIntA2S_o) → Option laws_szIntA2S_E.P
  | (a, left, ()), () => bif (decide ((w64 (left - (List.length a : Int))) < (0 : Int))) then (some (((-1 : Int), ()), ())) else (some (((w64 (left - (List.length a : Int))), ()), ()))
noncomputable def laws_szIntA2S_x : Cx := ⟨tab, noEnv, fun _ _ => 0, fun _ => false, [], []⟩
noncomputable def c124 : Code := bodyOf Tryz.f124
noncomputable def laws_szIntA2S_A : Ann := .nil
noncomputable def laws_szIntA2S_D : Ve.Fn := ⟨124, laws_szIntA2S_a, laws_szIntA2S_o, laws_szIntA2S_E, laws_szIntA2S⟩
theorem laws_szIntA2S_w : Walk Tryz.prog laws_szIntA2S_x laws_szIntA2S_D Tryz.f124 c124 12 laws_szIntA2S_A :=
  ⟨⟨Tryz.func124, by kernel_rfl, by kernel_rfl, by kernel_rfl, by decide, by kernel_rfl, Nat.le_of_ble_eq_true (by kernel_rfl)⟩, by kernel_rfl, by kernel_rfl, by kernel_rfl, kcast (by kernel_rfl) trivial, by kernel_rfl, fun x y => by kernel_rfl⟩
theorem laws_szIntA2S_s : laws_szIntA2S_D.Says Tryz.prog := laws_szIntA2S_w.says follows tabOk noEnv_ok
noncomputable def laws_szIntA2S_e : Env := more noEnv laws_szIntA2S_D
theorem laws_szIntA2S_e_ok : EnvOk Tryz.prog laws_szIntA2S_e := more_ok noEnv_ok laws_szIntA2S_s
/-! loop.example/g01128/laws.szGraph -/
abbrev laws_szGraph_E : Ve.End := ⟨[⟨4, .shr, I, none⟩], []⟩
abbrev laws_szGraph_a : List ASh := [.val (.prod I (.list (.prod I I))), .val I]
abbrev laws_szGraph_o : List OSh := []
noncomputable def laws_szGraph : argP laws_szGraph_a → obP (extObs 0 laws_szGraph_o) → Option laws_szGraph_E.P
  | (a, left, ()), () => match laws_szIntA2S (a.2, left, ()) () with | some ((r, ()), ()) => (bif (decide (r < (0 : Int))) then (some (((-1 : Int), ()), ())) else (some ((r, ()), ()))) | none => none
noncomputable def laws_szGraph_x : Cx := ⟨tab, laws_szIntA2S_e, fun _ _ => 0, fun _ => false, [(8, 0), (8, 1), (8, 2), (8, 3)], [(2, 0)]⟩
noncomputable def c11 : Code := bodyOf Tryz.f11
noncomputable def laws_szGraph_A : Ann := .nil
noncomputable def laws_szGraph_D : Ve.Fn := ⟨11, laws_szGraph_a, laws_szGraph_o, laws_szGraph_E, laws_szGraph⟩
theorem laws_szGraph_w : Walk Tryz.prog laws_szGraph_x laws_szGraph_D Tryz.f11 c11 12 laws_szGraph_A :=
  ⟨⟨Tryz.func11, by kernel_rfl, by kernel_rfl, by kernel_rfl, by decide, by kernel_rfl, Nat.le_of_ble_eq_true (by kernel_rfl)⟩, by kernel_rfl, by kernel_rfl, by kernel_rfl, kcast (by kernel_rfl) trivial, by kernel_rfl, fun x y => by kernel_rfl⟩
theorem laws_szGraph_s : laws_szGraph_D.Says Tryz.prog := laws_szGraph_w.says follows tabOk laws_szIntA2S_e_ok
noncomputable def laws_szGraph_e : Env := more laws_szIntA2S_e laws_szGraph_D
theorem laws_szGraph_e_ok : EnvOk Tryz.prog laws_szGraph_e := more_ok laws_szIntA2S_e_ok laws_szGraph_s
/-! loop.example/g01128/laws.toIntA2 -/
abbrev laws_toIntA2_J0 : Tpl := ⟨[(1, .cst (.prod I I)), (2, .ptr (2, 0)), (3, .ptr (3, 0)), (4, .val I)], [((2, 0), .box .shr (.prod I I)), ((3, 0), .box .shr (.prod I I))], []⟩
abbrev laws_toIntA2_J1 : Tpl := ⟨[(2, .ptr (2, 0)), (3, .ptr (3, 0))], [((2, 0), .box .shr (.prod I I)), ((3, 0), .box .shr (.prod I I))], []⟩
abbrev laws_toIntA2_E : Ve.End := ⟨[⟨2, .shr, (.prod I I), some 72⟩], []⟩
abbrev laws_toIntA2_a : List ASh := [.val (.prod I I)]
abbrev laws_toIntA2_o : List OSh := []
abbrev laws_toIntA2_O0 : Out := .one (.ex 0) laws_toIntA2_J1
noncomputable def laws_toIntA2_B0 : laws_toIntA2_J0.P → Option (laws_toIntA2_J0.P ⊕ laws_toIntA2_O0.P)
  | ((a, i, ()), (t2, out, ())) => bif (decide (i < (2 : Int))) then (guardB (decide (0 ≤ i) && decide (i < 2)) (guardB (decide (0 ≤ i) && decide (i < 2)) (some (.inl ((a, (w64 (i + (1 : Int))), ()), (t2, (bif Nat.beq (Int.toNat i) 0 then ((bif Nat.beq (Int.toNat i) 0 then a.1 else a.2), out.2) else (out.1, (bif Nat.beq (Int.toNat i) 0 then a.1 else a.2))), ())))))) else (some (.inr ((), (t2, out, ()))))
noncomputable def laws_toIntA2 : argP laws_toIntA2_a → obP (extObs 0 laws_toIntA2_o) → Option laws_toIntA2_E.P
  | (a, ()), () => match loopO laws_toIntA2_B0 ((a, (0 : Int), ()), (((0 : Int), (0 : Int)), ((0 : Int), (0 : Int)), ())) with | some ((), (t2, out, ())) => some ((out, ()), ()) | none => none
noncomputable def laws_toIntA2_x : Cx := ⟨tab, laws_szGraph_e, fun _ _ => 0, fun _ => false, [], [(1, 0)]⟩
noncomputable def c248 : Code := bodyOf Tryz.f248
noncomputable def laws_toIntA2_A : Ann := .seq .nil (.seq .nil (.seq (.seq .nil (.loop laws_toIntA2_J0 laws_toIntA2_O0 laws_toIntA2_B0 .nil)) .nil))
theorem laws_toIntA2_r0 (p : laws_toIntA2_J0.P) : run laws_toIntA2_x (subc [1, 1, 0, 1, 0, 0] c248) .nil (laws_toIntA2_J0.S p) (leaf laws_toIntA2_J0 laws_toIntA2_O0) = laws_toIntA2_B0 p := by kernel_rfl
noncomputable def laws_toIntA2_D : Ve.Fn := ⟨248, laws_toIntA2_a, laws_toIntA2_o, laws_toIntA2_E, laws_toIntA2⟩
theorem laws_toIntA2_w : Walk Tryz.prog laws_toIntA2_x laws_toIntA2_D Tryz.f248 c248 15 laws_toIntA2_A :=
  ⟨⟨Tryz.func248, by kernel_rfl, by kernel_rfl, by kernel_rfl, by decide, by kernel_rfl, Nat.le_of_ble_eq_true (by kernel_rfl)⟩, by kernel_rfl, by kernel_rfl, by kernel_rfl, kcast (by kernel_rfl) (⟨laws_toIntA2_r0, trivial⟩ : (∀ p, run laws_toIntA2_x (subc [1, 1, 0, 1, 0, 0] c248) .nil (laws_toIntA2_J0.S p) (leaf laws_toIntA2_J0 laws_toIntA2_O0) = laws_toIntA2_B0 p) ∧ True), by kernel_rfl, fun x y => by kernel_rfl⟩
theorem laws_toIntA2_s : laws_toIntA2_D.Says Tryz.prog := laws_toIntA2_w.says follows tabOk laws_szGraph_e_ok
noncomputable def laws_toIntA2_e : Env := more laws_szGraph_e laws_toIntA2_D
theorem laws_toIntA2_e_ok : EnvOk Tryz.prog laws_toIntA2_e := more_ok laws_szGraph_e_ok laws_toIntA2_s
/-! loop.example/g01128/laws.toIntA2S -/
abbrev laws_toIntA2S_J0 : Tpl := ⟨[(0, .val (.list (.prod I I))), (3, .own .shr (.prod I I)), (4, .val I)], [], []⟩
abbrev laws_toIntA2S_J1 : Tpl := ⟨[(3, .own .shr (.prod I I))], [], []⟩
abbrev laws_toIntA2S_E : Ve.End := ⟨[⟨2, (.own .shr), (.list (.prod I I)), none⟩], []⟩
abbrev laws_toIntA2S_a : List ASh := [.val (.list (.prod I I))]
abbrev laws_toIntA2S_o : List OSh := []
abbrev laws_toIntA2S_O0 : Out := .one (.ex 0) laws_toIntA2S_J1
noncomputable def laws_toIntA2S_B0 : laws_toIntA2S_J0.P → Option (laws_toIntA2S_J0.P ⊕ laws_toIntA2S_O0.P)
  | ((a, out, i, ()), ()) => bif (decide (i < (List.length a : Int))) then (guardB (inb i (List.length a)) (match laws_toIntA2 ((List.getD a (Int.toNat i) ((0 : Int), (0 : Int))), ()) () with | some ((r, ()), ()) => guardB (inb i (List.length out)) (some (.inl ((a, (List.set out (Int.toNat i) r), (w64 (i + (1 : Int))), ()), ()))) | none => none)) else (some (.inr ((out, ()), ())))
noncomputable def laws_toIntA2S : argP laws_toIntA2S_a → obP (extObs 0 laws_toIntA2S_o) → Option laws_toIntA2S_E.P
  | (a, ()), () => guardB (decide (0 ≤ (List.length a : Int)) && decide ((List.length a : Int) ≤ (List.length a : Int)) && decide ((List.length a : Int) * 16 ≤ 140737488355328)) (match loopO laws_toIntA2S_B0 ((a, (List.replicate (Int.toNat (List.length a : Int)) ((0 : Int), (0 : Int))), (0 : Int), ()), ()) with | some ((out, ()), ()) => some ((out, ()), ()) | none => none)
noncomputable def laws_toIntA2S_x : Cx := ⟨tab, laws_toIntA2_e, fun _ _ => 0, fun _ => false, [(20, 0), (20, 1), (20, 2), (20, 3)], []⟩
noncomputable def c131 : Code := bodyOf Tryz.f131
noncomputable def laws_toIntA2S_A : Ann := .seq .nil (.seq .nil (.seq (.seq .nil (.loop laws_toIntA2S_J0 laws_toIntA2S_O0 laws_toIntA2S_B0 .nil)) .nil))
theorem laws_toIntA2S_r0 (p : laws_toIntA2S_J0.P) : run laws_toIntA2S_x (subc [1, 1, 0, 1, 0, 0] c131) .nil (laws_toIntA2S_J0.S p) (leaf laws_toIntA2S_J0 laws_toIntA2S_O0) = laws_toIntA2S_B0 p := by kernel_rfl
noncomputable def laws_toIntA2S_D : Ve.Fn := ⟨131, laws_toIntA2S_a, laws_toIntA2S_o, laws_toIntA2S_E, laws_toIntA2S⟩
theorem laws_toIntA2S_w : Walk Tryz.prog laws_toIntA2S_x laws_toIntA2S_D Tryz.f131 c131 23 laws_toIntA2S_A :=
  ⟨⟨Tryz.func131, by kernel_rfl, by kernel_rfl, by kernel_rfl, by decide, by kernel_rfl, Nat.le_of_ble_eq_true (by kernel_rfl)⟩, by kernel_rfl, by kernel_rfl, by kernel_rfl, kcast (by kernel_rfl) (⟨laws_toIntA2S_r0, trivial⟩ : (∀ p, run laws_toIntA2S_x (subc [1, 1, 0, 1, 0, 0] c131) .nil (laws_toIntA2S_J0.S p) (leaf laws_toIntA2S_J0 laws_toIntA2S_O0) = laws_toIntA2S_B0 p) ∧ True), by kernel_rfl, fun x y => by kernel_rfl⟩
theorem laws_toIntA2S_s : laws_toIntA2S_D.Says Tryz.prog := laws_toIntA2S_w.says follows tabOk laws_toIntA2_e_ok
noncomputable def laws_toIntA2S_e : Env := more laws_toIntA2_e laws_toIntA2S_D
theorem laws_toIntA2S_e_ok : EnvOk Tryz.prog laws_toIntA2S_e := more_ok laws_toIntA2_e_ok laws_toIntA2S_s
/-! loop.example/g01128/laws.toGraph -/
abbrev laws_toGraph_E : Ve.End := ⟨[⟨2, (.prod .shr (.own .shr)), (.prod I (.list (.prod I I))), some 30⟩], []⟩
abbrev laws_toGraph_a : List ASh := [.val (.prod I (.list (.prod I I)))]
abbrev laws_toGraph_o : List OSh := []
noncomputable def laws_toGraph : argP laws_toGraph_a → obP (extObs 0 laws_toGraph_o) → Option laws_toGraph_E.P
  | (a, ()), () => match laws_toIntA2S (a.2, ()) () with | some ((r, ()), ()) => some (((a.1, r), ()), ()) | none => none
noncomputable def laws_toGraph_x : Cx := ⟨tab, laws_toIntA2S_e, fun _ _ => 0, fun _ => false, [], [(1, 0)]⟩
noncomputable def c13 : Code := bodyOf Tryz.f13
noncomputable def laws_toGraph_A : Ann := .nil
noncomputable def laws_toGraph_D : Ve.Fn := ⟨13, laws_toGraph_a, laws_toGraph_o, laws_toGraph_E, laws_toGraph⟩
theorem laws_toGraph_w : Walk Tryz.prog laws_toGraph_x laws_toGraph_D Tryz.f13 c13 12 laws_toGraph_A :=
  ⟨⟨Tryz.func13, by kernel_rfl, by kernel_rfl, by kernel_rfl, by decide, by kernel_rfl, Nat.le_of_ble_eq_true (by kernel_rfl)⟩, by kernel_rfl, by kernel_rfl, by kernel_rfl, kcast (by kernel_rfl) trivial, by kernel_rfl, fun x y => by kernel_rfl⟩
theorem laws_toGraph_s : laws_toGraph_D.Says Tryz.prog := laws_toGraph_w.says follows tabOk laws_toIntA2S_e_ok
noncomputable def laws_toGraph_e : Env := more laws_toIntA2S_e laws_toGraph_D
theorem laws_toGraph_e_ok : EnvOk Tryz.prog laws_toGraph_e := more_ok laws_toIntA2S_e_ok laws_toGraph_s
/-! loop.example/g01128/laws.toIntS -/
abbrev laws_toIntS_J0 : Tpl := ⟨[(0, .val (.list I)), (3, .own .shr I), (4, .val I)], [], []⟩
abbrev laws_toIntS_J1 : Tpl := ⟨[(3, .own .shr I)], [], []⟩
abbrev laws_toIntS_E : Ve.End := ⟨[⟨2, (.own .shr), (.list I), none⟩], []⟩
abbrev laws_toIntS_a : List ASh := [.val (.list I)]
abbrev laws_toIntS_o : List OSh := []
abbrev laws_toIntS_O0 : Out := .one (.ex 0) laws_toIntS_J1
noncomputable def laws_toIntS_B0 : laws_toIntS_J0.P → Option (laws_toIntS_J0.P ⊕ laws_toIntS_O0.P)
  | ((a, out, i, ()), ()) => bif (decide (i < (List.length a : Int))) then (guardB (inb i (List.length a)) (guardB (inb i (List.length out)) (some (.inl ((a, (List.set out (Int.toNat i) (List.getD a (Int.toNat i) (0 : Int))), (w64 (i + (1 : Int))), ()), ()))))) else (some (.inr ((out, ()), ())))
noncomputable def laws_toIntS : argP laws_toIntS_a → obP (extObs 0 laws_toIntS_o) → Option laws_toIntS_E.P
  | (a, ()), () => guardB (decide (0 ≤ (List.length a : Int)) && decide ((List.length a : Int) ≤ (List.length a : Int)) && decide ((List.length a : Int) * 8 ≤ 140737488355328)) (match loopO laws_toIntS_B0 ((a, (List.replicate (Int.toNat (List.length a : Int)) (0 : Int)), (0 : Int), ()), ()) with | some ((out, ()), ()) => some ((out, ()), ()) | none => none)
noncomputable def laws_toIntS_x : Cx := ⟨tab, laws_toGraph_e, fun _ _ => 0, fun _ => false, [], []⟩
noncomputable def c14 : Code := bodyOf Tryz.f14
noncomputable def laws_toIntS_A : Ann := .seq .nil (.seq .nil (.seq (.seq .nil (.loop laws_toIntS_J0 laws_toIntS_O0 laws_toIntS_B0 .nil)) .nil))
theorem laws_toIntS_r0 (p : laws_toIntS_J0.P) : run laws_toIntS_x (subc [1, 1, 0, 1, 0, 0] c14) .nil (laws_toIntS_J0.S p) (leaf laws_toIntS_J0 laws_toIntS_O0) = laws_toIntS_B0 p := by kernel_rfl
noncomputable def laws_toIntS_D : Ve.Fn := ⟨14, laws_toIntS_a, laws_toIntS_o, laws_toIntS_E, laws_toIntS⟩
theorem laws_toIntS_w : Walk Tryz.prog laws_toIntS_x laws_toIntS_D Tryz.f14 c14 22 laws_toIntS_A :=
  ⟨⟨Tryz.func14, by kernel_rfl, by kernel_rfl, by kernel_rfl, by decide, by kernel_rfl, Nat.le_of_ble_eq_true (by kernel_rfl)⟩, by kernel_rfl, by kernel_rfl, by kernel_rfl, kcast (by kernel_rfl) (⟨laws_toIntS_r0, trivial⟩ : (∀ p, run laws_toIntS_x (subc [1, 1, 0, 1, 0, 0] c14) .nil (laws_toIntS_J0.S p) (leaf laws_toIntS_J0 laws_toIntS_O0) = laws_toIntS_B0 p) ∧ True), by kernel_rfl, fun x y => by kernel_rfl⟩
theorem laws_toIntS_s : laws_toIntS_D.Says Tryz.prog := laws_toIntS_w.says follows tabOk laws_toGraph_e_ok
noncomputable def laws_toIntS_e : Env := more laws_toGraph_e laws_toIntS_D
theorem laws_toIntS_e_ok : EnvOk Tryz.prog laws_toIntS_e := more_ok laws_toGraph_e_ok laws_toIntS_s
/-! loop.example/g01128/spec.l1In -/
abbrev spec_l1In_E : Ve.End := ⟨[⟨6, .shr, .bool, none⟩], []⟩
abbrev spec_l1In_a : List ASh := [.val I, .val I, .val I]
abbrev spec_l1In_o : List OSh := []
noncomputable def spec_l1In : argP spec_l1In_a → obP (extObs 0 spec_l1In_o) → Option spec_l1In_E.P
  | (x, a, b, ()), () => bif (decide (a ≤ x)) then (some (((decide (x ≤ b)), ()), ())) else (some ((false, ()), ()))
noncomputable def spec_l1In_x : Cx := ⟨tab, laws_toIntS_e, fun _ _ => 0, fun _ => false, [], []⟩
noncomputable def c165 : Code := bodyOf Tryz.f165
noncomputable def spec_l1In_A : Ann := .nil
noncomputable def spec_l1In_D : Ve.Fn := ⟨165, spec_l1In_a, spec_l1In_o, spec_l1In_E, spec_l1In⟩
theorem spec_l1In_w : Walk Tryz.prog spec_l1In_x spec_l1In_D Tryz.f165 c165 15 spec_l1In_A :=
  ⟨⟨Tryz.func165, by kernel_rfl, by kernel_rfl, by kernel_rfl, by decide, by kernel_rfl, Nat.le_of_ble_eq_true (by kernel_rfl)⟩, by kernel_rfl, by kernel_rfl, by kernel_rfl, kcast (by kernel_rfl) trivial, by kernel_rfl, fun x y => by kernel_rfl⟩
theorem spec_l1In_s : spec_l1In_D.Says Tryz.prog := spec_l1In_w.says follows tabOk laws_toIntS_e_ok
noncomputable def spec_l1In_e : Env := more laws_toIntS_e spec_l1In_D
theorem spec_l1In_e_ok : EnvOk Tryz.prog spec_l1In_e := more_ok laws_toIntS_e_ok spec_l1In_s
/-! loop.example/g01128/spec.l2Edge -/
abbrev spec_l2Edge_E : Ve.End := ⟨[⟨4, .shr, .bool, none⟩], []⟩
abbrev spec_l2Edge_a : List ASh := [.val (.prod I I), .val (.prod I I)]
abbrev spec_l2Edge_o : List OSh := []
noncomputable def spec_l2Edge : argP spec_l2Edge_a → obP (extObs 0 spec_l2Edge_o) → Option spec_l2Edge_E.P
  | (a, b, ()), () => bif (decide (a.1 < b.1)) then (some ((true, ()), ())) else (bif (a.1 == b.1) then (some (((decide (a.2 < b.2)), ()), ())) else (some ((false, ()), ())))
noncomputable def spec_l2Edge_x : Cx := ⟨tab, spec_l1In_e, fun _ _ => 0, fun _ => false, [], [(2, 0), (3, 0)]⟩
noncomputable def c289 : Code := bodyOf Tryz.f289
noncomputable def spec_l2Edge_A : Ann := .nil
noncomputable def spec_l2Edge_D : Ve.Fn := ⟨289, spec_l2Edge_a, spec_l2Edge_o, spec_l2Edge_E, spec_l2Edge⟩
theorem spec_l2Edge_w : Walk Tryz.prog spec_l2Edge_x spec_l2Edge_D Tryz.f289 c289 24 spec_l2Edge_A :=
  ⟨⟨Tryz.func289, by kernel_rfl, by kernel_rfl, by kernel_rfl, by decide, by kernel_rfl, Nat.le_of_ble_eq_true (by kernel_rfl)⟩, by kernel_rfl, by kernel_rfl, by kernel_rfl, kcast (by kernel_rfl) trivial, by kernel_rfl, fun x y => by kernel_rfl⟩
theorem spec_l2Edge_s : spec_l2Edge_D.Says Tryz.prog := spec_l2Edge_w.says follows tabOk spec_l1In_e_ok
noncomputable def spec_l2Edge_e : Env := more spec_l1In_e spec_l2Edge_D
theorem spec_l2Edge_e_ok : EnvOk Tryz.prog spec_l2Edge_e := more_ok spec_l1In_e_ok spec_l2Edge_s
/-! loop.example/g01128/spec.l2Pairs -/
abbrev spec_l2Pairs_J0 : Tpl := ⟨[(0, .val (.list (.prod I I))), (1, .val I), (5, .val I)], [], []⟩
abbrev spec_l2Pairs_J1 : Tpl := ⟨[(4, .val .bool)], [], []⟩
abbrev spec_l2Pairs_J2 : Tpl := ⟨[], [], []⟩
abbrev spec_l2Pairs_E : Ve.End := ⟨[⟨4, .shr, .bool, none⟩], []⟩
abbrev spec_l2Pairs_a : List ASh := [.val (.list (.prod I I)), .val I]
abbrev spec_l2Pairs_o : List OSh := []
abbrev spec_l2Pairs_O0 : Out := .or .ret spec_l2Pairs_J1 (.one (.ex 0) spec_l2Pairs_J2)
noncomputable def spec_l2Pairs_B0 : spec_l2Pairs_J0.P → Option (spec_l2Pairs_J0.P ⊕ spec_l2Pairs_O0.P)
  | ((pairs, n, i, ()), ()) => bif (decide (i < (List.length pairs : Int))) then (guardB (inb i (List.length pairs)) (match spec_l1In ((List.getD pairs (Int.toNat i) ((0 : Int), (0 : Int))).1, (0 : Int), (w64 (n - (1 : Int))), ()) () with | some ((r, ()), ()) => (bif (!r) then (some (.inr (.inl ((false, ()), ())))) else (match spec_l1In ((List.getD pairs (Int.toNat i) ((0 : Int), (0 : Int))).2, (0 : Int), (w64 (n - (1 : Int))), ()) () with | some ((r2, ()), ()) => (bif (!r2) then (some (.inr (.inl ((false, ()), ())))) else (bif (decide (((List.getD pairs (Int.toNat i) ((0 : Int), (0 : Int))).2) ≤ ((List.getD pairs (Int.toNat i) ((0 : Int), (0 : Int))).1))) then (some (.inr (.inl ((false, ()), ())))) else (bif (decide ((0 : Int) < i)) then (guardB (inb (w64 (i - (1 : Int))) (List.length pairs)) (match spec_l2Edge ((List.getD pairs (Int.toNat (w64 (i - (1 : Int)))) ((0 : Int), (0 : Int))), (List.getD pairs (Int.toNat i) ((0 : Int), (0 : Int))), ()) () with | some ((r3, ()), ()) => (bif (!r3) then (some (.inr (.inl ((false, ()), ())))) else (some (.inl ((pairs, n, (w64 (i + (1 : Int))), ()), ())))) | none => none)) else (some (.inl ((pairs, n, (w64 (i + (1 : Int))), ()), ())))))) | none => none)) | none => none)) else (some (.inr (.inr ((), ()))))
noncomputable def spec_l2Pairs : argP spec_l2Pairs_a → obP (extObs 0 spec_l2Pairs_o) → Option spec_l2Pairs_E.P
  | (pairs, n, ()), () => match loopO spec_l2Pairs_B0 ((pairs, n, (0 : Int), ()), ()) with | some (.inl ((t4, ()), ())) => some ((t4, ()), ()) | some (.inr ((), ())) => some ((true, ()), ()) | none => none
noncomputable def spec_l2Pairs_x : Cx := ⟨tab, spec_l2Edge_e, fun _ _ => 0, fun _ => false, [(21, 0), (21, 1), (21, 2), (21, 3), (28, 0), (28, 1), (28, 2), (28, 3), (48, 0), (48, 1), (48, 2), (48, 3)], [(6, 0)]⟩
noncomputable def c271 : Code := bodyOf Tryz.f271
noncomputable def spec_l2Pairs_A : Ann := .seq .nil (.seq (.seq .nil (.loop spec_l2Pairs_J0 spec_l2Pairs_O0 spec_l2Pairs_B0 (.seq .nil (.seq (.seq .nil (.seq (.draw [(0, .flo), (1, .flo), (2, .flo), (3, .flo), (4, .sole), (5, .flo), (6, .flo), (7, .flo), (9, .flo), (10, .flo), (8, .qui), (11, .sole), (12, .flo), (13, .flo), (14, .flo), (15, .flo), (17, .flo), (16, .qui), (18, .qui), (19, .flo), (20, .flo), (21, .flo), (22, .flo), (23, .flo), (24, .flo), (25, .flo), (26, .flo), (27, .flo), (28, .flo), (29, .qui), (30, .qui), (31, .sole), (32, .flo), (33, .flo), (34, .flo)]) .nil)) .nil)))) .nil)
theorem spec_l2Pairs_r0 (p : spec_l2Pairs_J0.P) : run spec_l2Pairs_x (subc [1, 0, 1, 0, 0] c271) (.seq .nil (.seq (.seq .nil (.seq (.draw [(0, .flo), (1, .flo), (2, .flo), (3, .flo), (4, .sole), (5, .flo), (6, .flo), (7, .flo), (9, .flo), (10, .flo), (8, .qui), (11, .sole), (12, .flo), (13, .flo), (14, .flo), (15, .flo), (17, .flo), (16, .qui), (18, .qui), (19, .flo), (20, .flo), (21, .flo), (22, .flo), (23, .flo), (24, .flo), (25, .flo), (26, .flo), (27, .flo), (28, .flo), (29, .qui), (30, .qui), (31, .sole), (32, .flo), (33, .flo), (34, .flo)]) .nil)) .nil)) (spec_l2Pairs_J0.S p) (leaf spec_l2Pairs_J0 spec_l2Pairs_O0) = spec_l2Pairs_B0 p := by kernel_rfl
noncomputable def spec_l2Pairs_D : Ve.Fn := ⟨271, spec_l2Pairs_a, spec_l2Pairs_o, spec_l2Pairs_E, spec_l2Pairs⟩
theorem spec_l2Pairs_w : Walk Tryz.prog spec_l2Pairs_x spec_l2Pairs_D Tryz.f271 c271 52 spec_l2Pairs_A :=
  ⟨⟨Tryz.func271, by kernel_rfl, by kernel_rfl, by kernel_rfl, by decide, by kernel_rfl, Nat.le_of_ble_eq_true (by kernel_rfl)⟩, by kernel_rfl, by kernel_rfl, by kernel_rfl, kcast (by kernel_rfl) (⟨spec_l2Pairs_r0, trivial⟩ : (∀ p, run spec_l2Pairs_x (subc [1, 0, 1, 0, 0] c271) (.seq .nil (.seq (.seq .nil (.seq (.draw [(0, .flo), (1, .flo), (2, .flo), (3, .flo), (4, .sole), (5, .flo), (6, .flo), (7, .flo), (9, .flo), (10, .flo), (8, .qui), (11, .sole), (12, .flo), (13, .flo), (14, .flo), (15, .flo), (17, .flo), (16, .qui), (18, .qui), (19, .flo), (20, .flo), (21, .flo), (22, .flo), (23, .flo), (24, .flo), (25, .flo), (26, .flo), (27, .flo), (28, .flo), (29, .qui), (30, .qui), (31, .sole), (32, .flo), (33, .flo), (34, .flo)]) .nil)) .nil)) (spec_l2Pairs_J0.S p) (leaf spec_l2Pairs_J0 spec_l2Pairs_O0) = spec_l2Pairs_B0 p) ∧ True), by kernel_rfl, fun x y => by kernel_rfl⟩
theorem spec_l2Pairs_s : spec_l2Pairs_D.Says Tryz.prog := spec_l2Pairs_w.says follows tabOk spec_l2Edge_e_ok
noncomputable def spec_l2Pairs_e : Env := more spec_l2Edge_e spec_l2Pairs_D
theorem spec_l2Pairs_e_ok : EnvOk Tryz.prog spec_l2Pairs_e := more_ok spec_l2Edge_e_ok spec_l2Pairs_s
/-! loop.example/g01128/spec.l2Good -/
abbrev spec_l2Good_E : Ve.End := ⟨[⟨2, .shr, .bool, none⟩], []⟩
abbrev spec_l2Good_a : List ASh := [.val (.prod I (.list (.prod I I)))]
abbrev spec_l2Good_o : List OSh := []
noncomputable def spec_l2Good : argP spec_l2Good_a → obP (extObs 0 spec_l2Good_o) → Option spec_l2Good_E.P
  | (g, ()), () => match spec_l1In (g.1, (0 : Int), (8 : Int), ()) () with | some ((r, ()), ()) => (bif r then (match spec_l2Pairs (g.2, g.1, ()) () with | some ((r2, ()), ()) => some ((r2, ()), ()) | none => none) else (some ((false, ()), ()))) | none => none
noncomputable def spec_l2Good_x : Cx := ⟨tab, spec_l2Pairs_e, fun _ _ => 0, fun _ => false, [(5, 0), (5, 1), (5, 2), (5, 3), (11, 0), (11, 1), (11, 2), (11, 3)], [(1, 0)]⟩
noncomputable def c168 : Code := bodyOf Tryz.f168
noncomputable def spec_l2Good_A : Ann := .nil
noncomputable def spec_l2Good_D : Ve.Fn := ⟨168, spec_l2Good_a, spec_l2Good_o, spec_l2Good_E, spec_l2Good⟩
theorem spec_l2Good_w : Walk Tryz.prog spec_l2Good_x spec_l2Good_D Tryz.f168 c168 13 spec_l2Good_A :=
  ⟨⟨Tryz.func168, by kernel_rfl, by kernel_rfl, by kernel_rfl, by decide, by kernel_rfl, Nat.le_of_ble_eq_true (by kernel_rfl)⟩, by kernel_rfl, by kernel_rfl, by kernel_rfl, kcast (by kernel_rfl) trivial, by kernel_rfl, fun x y => by kernel_rfl⟩
theorem spec_l2Good_s : spec_l2Good_D.Says Tryz.prog := spec_l2Good_w.says follows tabOk spec_l2Pairs_e_ok
noncomputable def spec_l2Good_e : Env := more spec_l2Pairs_e spec_l2Good_D
theorem spec_l2Good_e_ok : EnvOk Tryz.prog spec_l2Good_e := more_ok spec_l2Pairs_e_ok spec_l2Good_s
/-! loop.example/g01128/spec.l10Good -/
abbrev spec_l10Good_E : Ve.End := ⟨[⟨4, .shr, .bool, none⟩], []⟩
abbrev spec_l10Good_a : List ASh := [.val (.prod I (.list (.prod I I))), .val (.prod I (.list (.prod I I)))]
abbrev spec_l10Good_o : List OSh := []
noncomputable def spec_l10Good : argP spec_l10Good_a → obP (extObs 0 spec_l10Good_o) → Option spec_l10Good_E.P
  | (g, h, ()), () => match spec_l2Good (g, ()) () with | some ((r, ()), ()) => (bif r then (match spec_l2Good (h, ()) () with | some ((r2, ()), ()) => (bif r2 then (some (((decide (g.1 ≤ (6 : Int))), ()), ())) else (some ((false, ()), ()))) | none => none) else (some ((false, ()), ()))) | none => none
noncomputable def spec_l10Good_x : Cx := ⟨tab, spec_l2Good_e, fun _ _ => 0, fun _ => false, [(6, 0), (6, 1), (6, 2), (6, 3), (9, 0), (9, 1), (9, 2), (9, 3)], [(2, 0), (3, 0)]⟩
noncomputable def c125 : Code := bodyOf Tryz.f125
noncomputable def spec_l10Good_A : Ann := .nil
noncomputable def spec_l10Good_D : Ve.Fn := ⟨125, spec_l10Good_a, spec_l10Good_o, spec_l10Good_E, spec_l10Good⟩
theorem spec_l10Good_w : Walk Tryz.prog spec_l10Good_x spec_l10Good_D Tryz.f125 c125 16 spec_l10Good_A :=
  ⟨⟨Tryz.func125, by kernel_rfl, by kernel_rfl, by kernel_rfl, by decide, by kernel_rfl, Nat.le_of_ble_eq_true (by kernel_rfl)⟩, by kernel_rfl, by kernel_rfl, by kernel_rfl, kcast (by kernel_rfl) trivial, by kernel_rfl, fun x y => by kernel_rfl⟩
theorem spec_l10Good_s : spec_l10Good_D.Says Tryz.prog := spec_l10Good_w.says follows tabOk spec_l2Good_e_ok
noncomputable def spec_l10Good_e : Env := more spec_l2Good_e spec_l10Good_D
theorem spec_l10Good_e_ok : EnvOk Tryz.prog spec_l10Good_e := more_ok spec_l2Good_e_ok spec_l10Good_s
/-! loop.example/g01128/spec.l2Near -/
abbrev spec_l2Near_J0 : Tpl := ⟨[(1, .val I), (2, .val I), (3, .cst (.prod I (.list (.prod I I)))), (7, .val I)], [], []⟩
abbrev spec_l2Near_J1 : Tpl := ⟨[(6, .val .bool)], [], []⟩
abbrev spec_l2Near_J2 : Tpl := ⟨[], [], []⟩
abbrev spec_l2Near_E : Ve.End := ⟨[⟨6, .shr, .bool, none⟩], []⟩
abbrev spec_l2Near_a : List ASh := [.val (.prod I (.list (.prod I I))), .val I, .val I]
abbrev spec_l2Near_o : List OSh := []
abbrev spec_l2Near_O0 : Out := .or .ret spec_l2Near_J1 (.one (.ex 0) spec_l2Near_J2)
noncomputable def spec_l2Near_B0 : spec_l2Near_J0.P → Option (spec_l2Near_J0.P ⊕ spec_l2Near_O0.P)
  | ((a, b, g, i, ()), ()) => bif (decide (i < (List.length g.2 : Int))) then (guardB (inb i (List.length g.2)) (bif (((List.getD g.2 (Int.toNat i) ((0 : Int), (0 : Int))).1) == a) then (bif (((List.getD g.2 (Int.toNat i) ((0 : Int), (0 : Int))).2) == b) then (some (.inr (.inl ((true, ()), ())))) else (bif (((List.getD g.2 (Int.toNat i) ((0 : Int), (0 : Int))).1) == b) then (bif (((List.getD g.2 (Int.toNat i) ((0 : Int), (0 : Int))).2) == a) then (some (.inr (.inl ((true, ()), ())))) else (some (.inl ((a, b, g, (w64 (i + (1 : Int))), ()), ())))) else (some (.inl ((a, b, g, (w64 (i + (1 : Int))), ()), ()))))) else (bif (((List.getD g.2 (Int.toNat i) ((0 : Int), (0 : Int))).1) == b) then (bif (((List.getD g.2 (Int.toNat i) ((0 : Int), (0 : Int))).2) == a) then (some (.inr (.inl ((true, ()), ())))) else (some (.inl ((a, b, g, (w64 (i + (1 : Int))), ()), ())))) else (some (.inl ((a, b, g, (w64 (i + (1 : Int))), ()), ())))))) else (some (.inr (.inr ((), ()))))
noncomputable def spec_l2Near : argP spec_l2Near_a → obP (extObs 0 spec_l2Near_o) → Option spec_l2Near_E.P
  | (g, a, b, ()), () => match loopO spec_l2Near_B0 ((a, b, g, (0 : Int), ()), ()) with | some (.inl ((t6, ()), ())) => some ((t6, ()), ()) | some (.inr ((), ())) => some ((false, ()), ()) | none => none
noncomputable def spec_l2Near_x : Cx := ⟨tab, spec_l10Good_e, fun _ _ => 0, fun _ => false, [], [(3, 0), (8, 0)]⟩
noncomputable def c281 : Code := bodyOf Tryz.f281
noncomputable def spec_l2Near_A : Ann := .seq .nil (.seq (.seq .nil (.loop spec_l2Near_J0 spec_l2Near_O0 spec_l2Near_B0 .nil)) .nil)
theorem spec_l2Near_r0 (p : spec_l2Near_J0.P) : run spec_l2Near_x (subc [1, 0, 1, 0, 0] c281) .nil (spec_l2Near_J0.S p) (leaf spec_l2Near_J0 spec_l2Near_O0) = spec_l2Near_B0 p := by kernel_rfl
noncomputable def spec_l2Near_D : Ve.Fn := ⟨281, spec_l2Near_a, spec_l2Near_o, spec_l2Near_E, spec_l2Near⟩
theorem spec_l2Near_w : Walk Tryz.prog spec_l2Near_x spec_l2Near_D Tryz.f281 c281 43 spec_l2Near_A :=
  ⟨⟨Tryz.func281, by kernel_rfl, by kernel_rfl, by kernel_rfl, by decide, by kernel_rfl, Nat.le_of_ble_eq_true (by kernel_rfl)⟩, by kernel_rfl, by kernel_rfl, by kernel_rfl, kcast (by kernel_rfl) (⟨spec_l2Near_r0, trivial⟩ : (∀ p, run spec_l2Near_x (subc [1, 0, 1, 0, 0] c281) .nil (spec_l2Near_J0.S p) (leaf spec_l2Near_J0 spec_l2Near_O0) = spec_l2Near_B0 p) ∧ True), by kernel_rfl, fun x y => by kernel_rfl⟩
theorem spec_l2Near_s : spec_l2Near_D.Says Tryz.prog := spec_l2Near_w.says follows tabOk spec_l10Good_e_ok
noncomputable def spec_l2Near_e : Env := more spec_l10Good_e spec_l2Near_D
theorem spec_l2Near_e_ok : EnvOk Tryz.prog spec_l2Near_e := more_ok spec_l10Good_e_ok spec_l2Near_s
/-! loop.example/g01128/spec.l10Fits -/
abbrev spec_l10Fits_E : Ve.End := ⟨[⟨8, .shr, .bool, none⟩], []⟩
abbrev spec_l10Fits_a : List ASh := [.val (.prod I (.list (.prod I I))), .val I, .val I, .val .bool]
abbrev spec_l10Fits_o : List OSh := []
noncomputable def spec_l10Fits : argP spec_l10Fits_a → obP (extObs 0 spec_l10Fits_o) → Option spec_l10Fits_E.P
  | (h, a, b, lazy, ()), () => match spec_l2Near (h, a, b, ()) () with | some ((r, ()), ()) => (bif r then (some ((true, ()), ())) else (bif lazy then (some (((a == b), ()), ())) else (some ((false, ()), ())))) | none => none
noncomputable def spec_l10Fits_x : Cx := ⟨tab, spec_l2Near_e, fun _ _ => 0, fun _ => false, [(12, 0), (12, 1), (12, 2), (12, 3)], [(4, 0)]⟩
noncomputable def c246 : Code := bodyOf Tryz.f246
noncomputable def spec_l10Fits_A : Ann := .nil
noncomputable def spec_l10Fits_D : Ve.Fn := ⟨246, spec_l10Fits_a, spec_l10Fits_o, spec_l10Fits_E, spec_l10Fits⟩
theorem spec_l10Fits_w : Walk Tryz.prog spec_l10Fits_x spec_l10Fits_D Tryz.f246 c246 21 spec_l10Fits_A :=
  ⟨⟨Tryz.func246, by kernel_rfl, by kernel_rfl, by kernel_rfl, by decide, by kernel_rfl, Nat.le_of_ble_eq_true (by kernel_rfl)⟩, by kernel_rfl, by kernel_rfl, by kernel_rfl, kcast (by kernel_rfl) trivial, by kernel_rfl, fun x y => by kernel_rfl⟩
theorem spec_l10Fits_s : spec_l10Fits_D.Says Tryz.prog := spec_l10Fits_w.says follows tabOk spec_l2Near_e_ok
noncomputable def spec_l10Fits_e : Env := more spec_l2Near_e spec_l10Fits_D
theorem spec_l10Fits_e_ok : EnvOk Tryz.prog spec_l10Fits_e := more_ok spec_l2Near_e_ok spec_l10Fits_s
/-! loop.example/g01128/spec.l10Map -/
abbrev spec_l10Map_J0 : Tpl := ⟨[(2, .val (.list I)), (3, .val .bool), (4, .cst (.prod I (.list (.prod I I)))), (5, .cst (.prod I (.list (.prod I I)))), (9, .val I)], [], []⟩
abbrev spec_l10Map_J1 : Tpl := ⟨[(8, .val .bool)], [], []⟩
abbrev spec_l10Map_J2 : Tpl := ⟨[(2, .val (.list I)), (3, .val .bool), (4, .cst (.prod I (.list (.prod I I)))), (5, .cst (.prod I (.list (.prod I I))))], [], []⟩
abbrev spec_l10Map_J3 : Tpl := ⟨[(2, .val (.list I)), (3, .val .bool), (4, .cst (.prod I (.list (.prod I I)))), (5, .cst (.prod I (.list (.prod I I)))), (10, .val I)], [], []⟩
abbrev spec_l10Map_J4 : Tpl := ⟨[], [], []⟩
abbrev spec_l10Map_E : Ve.End := ⟨[⟨8, .shr, .bool, none⟩], []⟩
abbrev spec_l10Map_a : List ASh := [.val (.prod I (.list (.prod I I))), .val (.prod I (.list (.prod I I))), .val (.list I), .val .bool]
abbrev spec_l10Map_o : List OSh := []
abbrev spec_l10Map_O0 : Out := .or .ret spec_l10Map_J1 (.one (.ex 0) spec_l10Map_J2)
noncomputable def spec_l10Map_B0 : spec_l10Map_J0.P → Option (spec_l10Map_J0.P ⊕ spec_l10Map_O0.P)
  | ((list, lazy, g, h, x, ()), ()) => bif (decide (x < (List.length list : Int))) then (guardB (inb x (List.length list)) (match spec_l1In ((List.getD list (Int.toNat x) (0 : Int)), (0 : Int), (w64 (h.1 - (1 : Int))), ()) () with | some ((r, ()), ()) => (bif (!r) then (some (.inr (.inl ((false, ()), ())))) else (some (.inl ((list, lazy, g, h, (w64 (x + (1 : Int))), ()), ())))) | none => none)) else (some (.inr (.inr ((list, lazy, g, h, ()), ()))))
abbrev spec_l10Map_O1 : Out := .or .ret spec_l10Map_J1 (.one (.ex 2) spec_l10Map_J4)
noncomputable def spec_l10Map_B1 : spec_l10Map_J3.P → Option (spec_l10Map_J3.P ⊕ spec_l10Map_O1.P)
  | ((list, lazy, g, h, i, ()), ()) => bif (decide (i < (List.length g.2 : Int))) then (guardB (inb i (List.length g.2)) (guardB (inb ((List.getD g.2 (Int.toNat i) ((0 : Int), (0 : Int))).1) (List.length list)) (guardB (inb i (List.length g.2)) (guardB (inb ((List.getD g.2 (Int.toNat i) ((0 : Int), (0 : Int))).2) (List.length list)) (match spec_l10Fits (h, (List.getD list (Int.toNat ((List.getD g.2 (Int.toNat i) ((0 : Int), (0 : Int))).1)) (0 : Int)), (List.getD list (Int.toNat ((List.getD g.2 (Int.toNat i) ((0 : Int), (0 : Int))).2)) (0 : Int)), lazy, ()) () with | some ((r, ()), ()) => (bif (!r) then (some (.inr (.inl ((false, ()), ())))) else (some (.inl ((list, lazy, g, h, (w64 (i + (1 : Int))), ()), ())))) | none => none))))) else (some (.inr (.inr ((), ()))))
noncomputable def spec_l10Map : argP spec_l10Map_a → obP (extObs 0 spec_l10Map_o) → Option spec_l10Map_E.P
  | (g, h, list, lazy, ()), () => match loopO spec_l10Map_B0 ((list, lazy, g, h, (0 : Int), ()), ()) with | some (.inl ((t8, ()), ())) => some ((t8, ()), ()) | some (.inr ((list2, lazy2, g2, h2, ()), ())) => (bif ((List.length list2 : Int) != g2.1) then (some ((false, ()), ())) else (match loopO spec_l10Map_B1 ((list2, lazy2, g2, h2, (0 : Int), ()), ()) with | some (.inl ((t8_2, ()), ())) => some ((t8_2, ()), ()) | some (.inr ((), ())) => some ((true, ()), ()) | none => none)) | none => none
noncomputable def spec_l10Map_x : Cx := ⟨tab, spec_l10Fits_e, fun _ _ => 0, fun _ => false, [(24, 0), (24, 1), (24, 2), (24, 3), (58, 0), (58, 1), (58, 2), (58, 3)], [(4, 0), (5, 0)]⟩
noncomputable def c126 : Code := bodyOf Tryz.f126
noncomputable def spec_l10Map_A : Ann := .seq .nil (.seq (.seq .nil (.loop spec_l10Map_J0 spec_l10Map_O0 spec_l10Map_B0 (.seq .nil (.seq (.seq (.draw [(0, .flo), (1, .flo), (2, .flo), (3, .flo), (4, .flo), (5, .flo), (6, .flo), (7, .sole), (8, .flo)]) .nil) .nil)))) (.seq .nil (.seq (.seq .nil (.loop spec_l10Map_J3 spec_l10Map_O1 spec_l10Map_B1 (.seq .nil (.seq (.seq (.draw [(0, .flo), (1, .flo), (2, .flo), (3, .flo), (4, .flo), (5, .flo), (6, .flo), (7, .flo), (8, .flo), (9, .flo), (10, .flo), (11, .flo), (12, .flo), (13, .flo), (14, .flo), (15, .flo), (16, .flo), (17, .flo), (18, .flo), (19, .flo), (20, .sole), (21, .flo)]) .nil) .nil)))) .nil)))
theorem spec_l10Map_r0 (p : spec_l10Map_J0.P) : run spec_l10Map_x (subc [1, 0, 1, 0, 0] c126) (.seq .nil (.seq (.seq (.draw [(0, .flo), (1, .flo), (2, .flo), (3, .flo), (4, .flo), (5, .flo), (6, .flo), (7, .sole), (8, .flo)]) .nil) .nil)) (spec_l10Map_J0.S p) (leaf spec_l10Map_J0 spec_l10Map_O0) = spec_l10Map_B0 p := by kernel_rfl
theorem spec_l10Map_r1 (p : spec_l10Map_J3.P) : run spec_l10Map_x (subc [1, 1, 1, 0, 1, 0, 0] c126) (.seq .nil (.seq (.seq (.draw [(0, .flo), (1, .flo), (2, .flo), (3, .flo), (4, .flo), (5, .flo), (6, .flo), (7, .flo), (8, .flo), (9, .flo), (10, .flo), (11, .flo), (12, .flo), (13, .flo), (14, .flo), (15, .flo), (16, .flo), (17, .flo), (18, .flo), (19, .flo), (20, .sole), (21, .flo)]) .nil) .nil)) (spec_l10Map_J3.S p) (leaf spec_l10Map_J3 spec_l10Map_O1) = spec_l10Map_B1 p := by kernel_rfl
noncomputable def spec_l10Map_D : Ve.Fn := ⟨126, spec_l10Map_a, spec_l10Map_o, spec_l10Map_E, spec_l10Map⟩
theorem spec_l10Map_w : Walk Tryz.prog spec_l10Map_x spec_l10Map_D Tryz.f126 c126 60 spec_l10Map_A :=
  ⟨⟨Tryz.func126, by kernel_rfl, by kernel_rfl, by kernel_rfl, by decide, by kernel_rfl, Nat.le_of_ble_eq_true (by kernel_rfl)⟩, by kernel_rfl, by kernel_rfl, by kernel_rfl, kcast (by kernel_rfl) (⟨spec_l10Map_r0, spec_l10Map_r1, trivial⟩ : (∀ p, run spec_l10Map_x (subc [1, 0, 1, 0, 0] c126) (.seq .nil (.seq (.seq (.draw [(0, .flo), (1, .flo), (2, .flo), (3, .flo), (4, .flo), (5, .flo), (6, .flo), (7, .sole), (8, .flo)]) .nil) .nil)) (spec_l10Map_J0.S p) (leaf spec_l10Map_J0 spec_l10Map_O0) = spec_l10Map_B0 p) ∧ (∀ p, run spec_l10Map_x (subc [1, 1, 1, 0, 1, 0, 0] c126) (.seq .nil (.seq (.seq (.draw [(0, .flo), (1, .flo), (2, .flo), (3, .flo), (4, .flo), (5, .flo), (6, .flo), (7, .flo), (8, .flo), (9, .flo), (10, .flo), (11, .flo), (12, .flo), (13, .flo), (14, .flo), (15, .flo), (16, .flo), (17, .flo), (18, .flo), (19, .flo), (20, .sole), (21, .flo)]) .nil) .nil)) (spec_l10Map_J3.S p) (leaf spec_l10Map_J3 spec_l10Map_O1) = spec_l10Map_B1 p) ∧ True), by kernel_rfl, fun x y => by kernel_rfl⟩
theorem spec_l10Map_s : spec_l10Map_D.Says Tryz.prog := spec_l10Map_w.says follows tabOk spec_l10Fits_e_ok
noncomputable def spec_l10Map_e : Env := more spec_l10Fits_e spec_l10Map_D
theorem spec_l10Map_e_ok : EnvOk Tryz.prog spec_l10Map_e := more_ok spec_l10Fits_e_ok spec_l10Map_s
/-! loop.example/g01128/spec.l1Own -/
abbrev spec_l1Own_E : Ve.End := ⟨[⟨2, (.own .shr), (.list I), none⟩], []⟩
abbrev spec_l1Own_a : List ASh := [.val (.list I)]
abbrev spec_l1Own_o : List OSh := []
noncomputable def spec_l1Own : argP spec_l1Own_a → obP (extObs 0 spec_l1Own_o) → Option spec_l1Own_E.P
  | (l, ()), () => guardB (decide ((List.length ([] : (List Int)) + List.length l) * 8 ≤ 70368744177664)) (some (((([] : (List Int)) ++ l), ()), ()))
noncomputable def spec_l1Own_x : Cx := ⟨tab, spec_l10Map_e, fun _ _ => 0, fun _ => false, [], []⟩
noncomputable def c228 : Code := bodyOf Tryz.f228
noncomputable def spec_l1Own_A : Ann := .nil
noncomputable def spec_l1Own_D : Ve.Fn := ⟨228, spec_l1Own_a, spec_l1Own_o, spec_l1Own_E, spec_l1Own⟩
theorem spec_l1Own_w : Walk Tryz.prog spec_l1Own_x spec_l1Own_D Tryz.f228 c228 6 spec_l1Own_A :=
  ⟨⟨Tryz.func228, by kernel_rfl, by kernel_rfl, by kernel_rfl, by decide, by kernel_rfl, Nat.le_of_ble_eq_true (by kernel_rfl)⟩, by kernel_rfl, by kernel_rfl, by kernel_rfl, kcast (by kernel_rfl) trivial, by kernel_rfl, fun x y => by kernel_rfl⟩
theorem spec_l1Own_s : spec_l1Own_D.Says Tryz.prog := spec_l1Own_w.says follows tabOk spec_l10Map_e_ok
noncomputable def spec_l1Own_e : Env := more spec_l10Map_e spec_l1Own_D
theorem spec_l1Own_e_ok : EnvOk Tryz.prog spec_l1Own_e := more_ok spec_l10Map_e_ok spec_l1Own_s
/-! loop.example/g01128/spec.l10All -/
abbrev spec_l10All_J0 : Tpl := ⟨[(2, .val .bool), (3, .val (.list I)), (4, .val I), (5, .cst (.prod I (.list (.prod I I)))), (6, .cst (.prod I (.list (.prod I I)))), (11, .val I), (12, .own (.own .shr) (.list I)), (13, .val I), (14, .val .bool), (15, .val I)], [], []⟩
abbrev spec_l10All_J1 : Tpl := ⟨[(2, .val .bool), (3, .val (.list I)), (4, .val I), (5, .cst (.prod I (.list (.prod I I)))), (6, .cst (.prod I (.list (.prod I I)))), (11, .val I), (12, .own (.own .shr) (.list I)), (13, .val I), (14, .val .bool)], [], []⟩
abbrev spec_l10All_J2 : Tpl := ⟨[(2, .val .bool), (3, .val (.list I)), (4, .val I), (5, .cst (.prod I (.list (.prod I I)))), (6, .cst (.prod I (.list (.prod I I)))), (11, .val I), (12, .own .shr (.list I)), (13, .val I), (14, .val .bool), (15, .val I)], [], []⟩
abbrev spec_l10All_J3 : Tpl := ⟨[(2, .val .bool), (3, .val (.list I)), (4, .val I), (5, .cst (.prod I (.list (.prod I I)))), (6, .cst (.prod I (.list (.prod I I)))), (11, .val I), (12, .own .shr (.list I)), (13, .val I), (14, .val .bool)], [], []⟩
abbrev spec_l10All_J4 : Tpl := ⟨[(2, .val .bool), (3, .val (.list I)), (4, .val I), (5, .cst (.prod I (.list (.prod I I)))), (6, .cst (.prod I (.list (.prod I I)))), (11, .val I), (12, .own .shr (.list I)), (13, .val I)], [], []⟩
abbrev spec_l10All_J5 : Tpl := ⟨[(12, .own .shr (.list I))], [], []⟩
abbrev spec_l10All_J6 : Tpl := ⟨[(2, .val .bool), (3, .val (.list I)), (4, .val I), (5, .cst (.prod I (.list (.prod I I)))), (6, .cst (.prod I (.list (.prod I I)))), (11, .val I), (12, .own .shr (.list I)), (13, .val I), (61, .same (12, 0) []), (62, .val (.prod I (.list (.prod I I)))), (63, .val (.prod I (.list (.prod I I)))), (64, .val .bool), (65, .val (.list I)), (67, .val I), (73, .val I)], [], []⟩
abbrev spec_l10All_E : Ve.End := ⟨[⟨10, (.own .shr), (.list (.list I)), none⟩], []⟩
abbrev spec_l10All_a : List ASh := [.val (.prod I (.list (.prod I I))), .val (.prod I (.list (.prod I I))), .val .bool, .val (.list I), .val I]
abbrev spec_l10All_o : List OSh := []
noncomputable def spec_l10All_D0 (rc : argP spec_l10All_a → obP (extObs 0 spec_l10All_o) → Option spec_l10All_E.P) : spec_l10All_J6.P → Option spec_l10All_J4.P
  | ((t2, t3, t4, t5, t6, t11, t12, t13, t62, t63, t64, t65, t67, t73, ()), ()) => match spec_l1Own (t65, ()) () with | some ((r, ()), ()) => guardB (decide ((List.length r + List.length [t67]) * 8 ≤ 70368744177664)) (match rc (t62, t63, t64, (r ++ [t67]), t73, ()) () with | some ((r2, ()), ()) => guardB (decide ((List.length t12 + List.length r2) * 24 ≤ 70368744177664)) (some ((t2, t3, t4, t5, t6, t11, (t12 ++ r2), t13, ()), ())) | none => none) | none => none
noncomputable def spec_l10All_T0 (rc : argP spec_l10All_a → obP (extObs 0 spec_l10All_o) → Option spec_l10All_E.P) : DT spec_l10All_J4 := .node spec_l10All_J6 (spec_l10All_D0 rc) (.br [(5, .sole), (7, .sole), (8, .sole), (13, .sole), (14, .sole), (15, .flo)] .fin (.br [(7, .sole), (5, .sole), (8, .sole), (13, .sole), (14, .sole), (15, .flo)] .fin .nobr))
abbrev spec_l10All_O0 : Out := .one (.ex 2) spec_l10All_J3
noncomputable def spec_l10All_B0 (rc : argP spec_l10All_a → obP (extObs 0 spec_l10All_o) → Option spec_l10All_E.P) : spec_l10All_J2.P → Option (spec_l10All_J2.P ⊕ spec_l10All_O0.P)
  | ((t2, t3, t4, t5, t6, t11, t12, t13, t14, t15, ()), ()) => bif (decide (t15 < t11)) then (bif t14 then (match spec_l2Near (t5, t15, t11, ()) () with | some ((r, ()), ()) => (bif (!r) then (some (.inl ((t2, t3, t4, t5, t6, t11, t12, t13, true, (w64 (t15 + (1 : Int))), ()), ()))) else (guardB (inb t15 (List.length t3)) (match spec_l10Fits (t6, (List.getD t3 (Int.toNat t15) (0 : Int)), t13, t2, ()) () with | some ((r2, ()), ()) => some (.inl ((t2, t3, t4, t5, t6, t11, t12, t13, r2, (w64 (t15 + (1 : Int))), ()), ())) | none => none))) | none => none) else (some (.inr ((t2, t3, t4, t5, t6, t11, t12, t13, t14, ()), ())))) else (some (.inr ((t2, t3, t4, t5, t6, t11, t12, t13, t14, ()), ())))
abbrev spec_l10All_O1 : Out := .one (.ex 0) spec_l10All_J5
noncomputable def spec_l10All_B1 (rc : argP spec_l10All_a → obP (extObs 0 spec_l10All_o) → Option spec_l10All_E.P) : spec_l10All_J4.P → Option (spec_l10All_J4.P ⊕ spec_l10All_O1.P)
  | ((t2, t3, t4, t5, t6, t11, t12, t13, ()), ()) => bif (decide (t13 < t6.1)) then (bif (decide ((List.length t12 : Int) ≤ t4)) then (match loopO (spec_l10All_B0 rc) ((t2, t3, t4, t5, t6, t11, t12, t13, true, (0 : Int), ()), ()) with | some ((t2_2, t3_2, t4_2, t5_2, t6_2, t11_2, t12_2, t13_2, t14, ()), ()) => (bif t14 then (match (spec_l10All_D0 rc) ((t2_2, t3_2, t4_2, t5_2, t6_2, t11_2, t12_2, t13_2, t5_2, t6_2, t2_2, t3_2, t13_2, (w64 (t4_2 - (List.length t12_2 : Int))), ()), ()) with | some ((t2_3, t3_3, t4_3, t5_3, t6_3, t11_3, t12_3, t13_3, ()), ()) => some (.inl ((t2_3, t3_3, t4_3, t5_3, t6_3, t11_3, t12_3, (w64 (t13_3 + (1 : Int))), ()), ())) | none => none) else (some (.inl ((t2_2, t3_2, t4_2, t5_2, t6_2, t11_2, t12_2, (w64 (t13_2 + (1 : Int))), ()), ())))) | none => none) else (some (.inr ((t12, ()), ())))) else (some (.inr ((t12, ()), ())))
noncomputable def spec_l10All_F (rc : argP spec_l10All_a → obP (extObs 0 spec_l10All_o) → Option spec_l10All_E.P) : argP spec_l10All_a → obP (extObs 0 spec_l10All_o) → Option spec_l10All_E.P
  | (t0, t1, t2, t3, t4, ()), () => bif ((List.length t3 : Int) == t0.1) then (some (([t3], ()), ())) else (match loopO (spec_l10All_B1 rc) ((t2, t3, t4, t0, t1, (List.length t3 : Int), ([] : (List (List Int))), (0 : Int), ()), ()) with | some ((t12, ()), ()) => some ((t12, ()), ()) | none => none)
noncomputable def spec_l10All : argP spec_l10All_a → obP (extObs 0 spec_l10All_o) → Option spec_l10All_E.P := fuelF spec_l10All_F 1000
noncomputable def spec_l10All_x (rc : argP spec_l10All_a → obP (extObs 0 spec_l10All_o) → Option spec_l10All_E.P) : Cx := ⟨tab, more spec_l1Own_e ⟨181, spec_l10All_a, spec_l10All_o, spec_l10All_E, rc⟩, fun _ _ => 0, fun _ => false, [(24, 0), (48, 0), (48, 1), (48, 2), (48, 3), (58, 0), (58, 1), (58, 2), (58, 3), (68, 0)], [(5, 0), (6, 0)]⟩
noncomputable def c181 : Code := bodyOf Tryz.f181
noncomputable def spec_l10All_A (rc : argP spec_l10All_a → obP (extObs 0 spec_l10All_o) → Option spec_l10All_E.P) : Ann := .seq .nil (.seq .nil (.seq .nil (.seq (.seq .nil (.loop spec_l10All_J4 spec_l10All_O1 (spec_l10All_B1 rc) (.seq .nil (.seq (.seq .nil (.seq (.seq .nil (.loop spec_l10All_J2 spec_l10All_O0 (spec_l10All_B0 rc) (.seq .nil (.seq (.draw [(0, .flo), (1, .flo), (2, .flo), (3, .sole), (4, .flo), (5, .flo), (6, .flo), (7, .flo), (8, .flo), (9, .flo), (11, .flo), (12, .flo), (10, .qui), (13, .sole), (14, .flo), (15, .flo)]) .nil)))) (.seq .nil (.seq (.draws [(0, .flo), (1, .flo), (2, .flo), (3, .flo), (4, .flo), (6, .flo), (9, .flo), (10, .flo), (11, .flo), (12, .flo)] spec_l10All_J4 (spec_l10All_T0 rc)) .nil)))) .nil)))) .nil)))
theorem spec_l10All_r0 (rc : argP spec_l10All_a → obP (extObs 0 spec_l10All_o) → Option spec_l10All_E.P) (p : spec_l10All_J4.P) : run (spec_l10All_x rc) (subc [1, 1, 1, 0, 1, 0, 0] c181) (.seq .nil (.seq (.seq .nil (.seq (.seq .nil (.loop spec_l10All_J2 spec_l10All_O0 (spec_l10All_B0 rc) (.seq .nil (.seq (.draw [(0, .flo), (1, .flo), (2, .flo), (3, .sole), (4, .flo), (5, .flo), (6, .flo), (7, .flo), (8, .flo), (9, .flo), (11, .flo), (12, .flo), (10, .qui), (13, .sole), (14, .flo), (15, .flo)]) .nil)))) (.seq .nil (.seq (.draws [(0, .flo), (1, .flo), (2, .flo), (3, .flo), (4, .flo), (6, .flo), (9, .flo), (10, .flo), (11, .flo), (12, .flo)] spec_l10All_J4 (spec_l10All_T0 rc)) .nil)))) .nil)) (spec_l10All_J4.S p) (leaf spec_l10All_J4 spec_l10All_O1) = (spec_l10All_B1 rc) p := by kernel_rfl
theorem spec_l10All_r1 (rc : argP spec_l10All_a → obP (extObs 0 spec_l10All_o) → Option spec_l10All_E.P) (p : spec_l10All_J2.P) : run (spec_l10All_x rc) (subc [1, 1, 1, 0, 1, 0, 0, 1, 0, 0, 1, 0, 1, 0, 0] c181) (.seq .nil (.seq (.draw [(0, .flo), (1, .flo), (2, .flo), (3, .sole), (4, .flo), (5, .flo), (6, .flo), (7, .flo), (8, .flo), (9, .flo), (11, .flo), (12, .flo), (10, .qui), (13, .sole), (14, .flo), (15, .flo)]) .nil)) (spec_l10All_J2.S p) (leaf spec_l10All_J2 spec_l10All_O0) = (spec_l10All_B0 rc) p := by kernel_rfl
theorem spec_l10All_D0b0 (rc : argP spec_l10All_a → obP (extObs 0 spec_l10All_o) → Option spec_l10All_E.P) (p : spec_l10All_J6.P) : runDrawn (spec_l10All_x rc) (opsOf (subc [1, 1, 1, 0, 1, 0, 0, 1, 0, 0, 1, 1, 1, 0] c181)) [(5, .sole), (7, .sole), (8, .sole), (13, .sole), (14, .sole), (15, .flo)] (spec_l10All_J6.S p) (endT (spec_l10All_x rc) (.fin : DT spec_l10All_J4)) = (spec_l10All_D0 rc) p := by kernel_rfl
theorem spec_l10All_D0b1 (rc : argP spec_l10All_a → obP (extObs 0 spec_l10All_o) → Option spec_l10All_E.P) (p : spec_l10All_J6.P) : runDrawn (spec_l10All_x rc) (opsOf (subc [1, 1, 1, 0, 1, 0, 0, 1, 0, 0, 1, 1, 1, 0] c181)) [(7, .sole), (5, .sole), (8, .sole), (13, .sole), (14, .sole), (15, .flo)] (spec_l10All_J6.S p) (endT (spec_l10All_x rc) (.fin : DT spec_l10All_J4)) = (spec_l10All_D0 rc) p := by kernel_rfl
noncomputable def spec_l10All_D : Ve.Fn := ⟨181, spec_l10All_a, spec_l10All_o, spec_l10All_E, spec_l10All⟩
theorem spec_l10All_w (rc : argP spec_l10All_a → obP (extObs 0 spec_l10All_o) → Option spec_l10All_E.P) : Walk Tryz.prog (spec_l10All_x rc) ⟨181, spec_l10All_a, spec_l10All_o, spec_l10All_E, spec_l10All_F rc⟩ Tryz.f181 c181 77 (spec_l10All_A rc) :=
  ⟨⟨Tryz.func181, by kernel_rfl, by kernel_rfl, by kernel_rfl, by decide, by kernel_rfl, Nat.le_of_ble_eq_true (by kernel_rfl)⟩, by kernel_rfl, by kernel_rfl, by kernel_rfl, kcast (by kernel_rfl) (⟨(spec_l10All_r0 rc), (spec_l10All_r1 rc), (spec_l10All_D0b0 rc), (spec_l10All_D0b1 rc), trivial⟩ : (∀ p, run (spec_l10All_x rc) (subc [1, 1, 1, 0, 1, 0, 0] c181) (.seq .nil (.seq (.seq .nil (.seq (.seq .nil (.loop spec_l10All_J2 spec_l10All_O0 (spec_l10All_B0 rc) (.seq .nil (.seq (.draw [(0, .flo), (1, .flo), (2, .flo), (3, .sole), (4, .flo), (5, .flo), (6, .flo), (7, .flo), (8, .flo), (9, .flo), (11, .flo), (12, .flo), (10, .qui), (13, .sole), (14, .flo), (15, .flo)]) .nil)))) (.seq .nil (.seq (.draws [(0, .flo), (1, .flo), (2, .flo), (3, .flo), (4, .flo), (6, .flo), (9, .flo), (10, .flo), (11, .flo), (12, .flo)] spec_l10All_J4 (spec_l10All_T0 rc)) .nil)))) .nil)) (spec_l10All_J4.S p) (leaf spec_l10All_J4 spec_l10All_O1) = (spec_l10All_B1 rc) p) ∧ (∀ p, run (spec_l10All_x rc) (subc [1, 1, 1, 0, 1, 0, 0, 1, 0, 0, 1, 0, 1, 0, 0] c181) (.seq .nil (.seq (.draw [(0, .flo), (1, .flo), (2, .flo), (3, .sole), (4, .flo), (5, .flo), (6, .flo), (7, .flo), (8, .flo), (9, .flo), (11, .flo), (12, .flo), (10, .qui), (13, .sole), (14, .flo), (15, .flo)]) .nil)) (spec_l10All_J2.S p) (leaf spec_l10All_J2 spec_l10All_O0) = (spec_l10All_B0 rc) p) ∧ (∀ p, runDrawn (spec_l10All_x rc) (opsOf (subc [1, 1, 1, 0, 1, 0, 0, 1, 0, 0, 1, 1, 1, 0] c181)) [(5, .sole), (7, .sole), (8, .sole), (13, .sole), (14, .sole), (15, .flo)] (spec_l10All_J6.S p) (endT (spec_l10All_x rc) (.fin : DT spec_l10All_J4)) = (spec_l10All_D0 rc) p) ∧ (∀ p, runDrawn (spec_l10All_x rc) (opsOf (subc [1, 1, 1, 0, 1, 0, 0, 1, 0, 0, 1, 1, 1, 0] c181)) [(7, .sole), (5, .sole), (8, .sole), (13, .sole), (14, .sole), (15, .flo)] (spec_l10All_J6.S p) (endT (spec_l10All_x rc) (.fin : DT spec_l10All_J4)) = (spec_l10All_D0 rc) p) ∧ True), by kernel_rfl, fun x y => by kernel_rfl⟩
theorem spec_l10All_s : spec_l10All_D.Says Tryz.prog := fuel_says (fun rc h => (spec_l10All_w rc).says follows tabOk (more_ok spec_l1Own_e_ok h)) 1000
noncomputable def spec_l10All_e : Env := more spec_l1Own_e spec_l10All_D
theorem spec_l10All_e_ok : EnvOk Tryz.prog spec_l10All_e := more_ok spec_l1Own_e_ok spec_l10All_s
/-! loop.example/g01128/spec.l6Apart -/
abbrev spec_l6Apart_J0 : Tpl := ⟨[(0, .val (.list I)), (1, .val (.list I)), (5, .val I), (6, .val I)], [], []⟩
abbrev spec_l6Apart_J1 : Tpl := ⟨[(5, .val I)], [], []⟩
abbrev spec_l6Apart_E : Ve.End := ⟨[⟨4, .shr, I, none⟩], []⟩
abbrev spec_l6Apart_a : List ASh := [.val (.list I), .val (.list I)]
abbrev spec_l6Apart_o : List OSh := []
abbrev spec_l6Apart_O0 : Out := .one (.ex 0) spec_l6Apart_J1
noncomputable def spec_l6Apart_B0 : spec_l6Apart_J0.P → Option (spec_l6Apart_J0.P ⊕ spec_l6Apart_O0.P)
  | ((a, b, count, i, ()), ()) => bif (decide (i < (List.length a : Int))) then (guardB (inb i (List.length a)) (guardB (inb i (List.length b)) (bif ((List.getD a (Int.toNat i) (0 : Int)) != (List.getD b (Int.toNat i) (0 : Int))) then (some (.inl ((a, b, (w64 (count + (1 : Int))), (w64 (i + (1 : Int))), ()), ()))) else (some (.inl ((a, b, count, (w64 (i + (1 : Int))), ()), ())))))) else (some (.inr ((count, ()), ())))
noncomputable def spec_l6Apart : argP spec_l6Apart_a → obP (extObs 0 spec_l6Apart_o) → Option spec_l6Apart_E.P
  | (a, b, ()), () => match loopO spec_l6Apart_B0 ((a, b, (0 : Int), (0 : Int), ()), ()) with | some ((count, ()), ()) => some ((count, ()), ()) | none => none
noncomputable def spec_l6Apart_x : Cx := ⟨tab, spec_l10All_e, fun _ _ => 0, fun _ => false, [], []⟩
noncomputable def c309 : Code := bodyOf Tryz.f309
noncomputable def spec_l6Apart_A : Ann := .seq .nil (.seq .nil (.seq (.seq .nil (.loop spec_l6Apart_J0 spec_l6Apart_O0 spec_l6Apart_B0 (.seq .nil (.seq (.seq (.draw [(0, .flo), (1, .flo), (2, .flo), (3, .flo), (4, .flo), (5, .flo), (6, .flo), (7, .flo), (8, .flo)]) .nil) .nil)))) .nil))
theorem spec_l6Apart_r0 (p : spec_l6Apart_J0.P) : run spec_l6Apart_x (subc [1, 1, 0, 1, 0, 0] c309) (.seq .nil (.seq (.seq (.draw [(0, .flo), (1, .flo), (2, .flo), (3, .flo), (4, .flo), (5, .flo), (6, .flo), (7, .flo), (8, .flo)]) .nil) .nil)) (spec_l6Apart_J0.S p) (leaf spec_l6Apart_J0 spec_l6Apart_O0) = spec_l6Apart_B0 p := by kernel_rfl
noncomputable def spec_l6Apart_D : Ve.Fn := ⟨309, spec_l6Apart_a, spec_l6Apart_o, spec_l6Apart_E, spec_l6Apart⟩
theorem spec_l6Apart_w : Walk Tryz.prog spec_l6Apart_x spec_l6Apart_D Tryz.f309 c309 25 spec_l6Apart_A :=
  ⟨⟨Tryz.func309, by kernel_rfl, by kernel_rfl, by kernel_rfl, by decide, by kernel_rfl, Nat.le_of_ble_eq_true (by kernel_rfl)⟩, by kernel_rfl, by kernel_rfl, by kernel_rfl, kcast (by kernel_rfl) (⟨spec_l6Apart_r0, trivial⟩ : (∀ p, run spec_l6Apart_x (subc [1, 1, 0, 1, 0, 0] c309) (.seq .nil (.seq (.seq (.draw [(0, .flo), (1, .flo), (2, .flo), (3, .flo), (4, .flo), (5, .flo), (6, .flo), (7, .flo), (8, .flo)]) .nil) .nil)) (spec_l6Apart_J0.S p) (leaf spec_l6Apart_J0 spec_l6Apart_O0) = spec_l6Apart_B0 p) ∧ True), by kernel_rfl, fun x y => by kernel_rfl⟩
theorem spec_l6Apart_s : spec_l6Apart_D.Says Tryz.prog := spec_l6Apart_w.says follows tabOk spec_l10All_e_ok
noncomputable def spec_l6Apart_e : Env := more spec_l10All_e spec_l6Apart_D
theorem spec_l6Apart_e_ok : EnvOk Tryz.prog spec_l6Apart_e := more_ok spec_l10All_e_ok spec_l6Apart_s
/-! loop.example/g01128/spec.l6Space -/
abbrev spec_l6Space_J0 : Tpl := ⟨[(0, .val (.list (.list I))), (2, .ptr (2, 0)), (3, .ptr (3, 0)), (4, .val I), (5, .val I)], [((2, 0), .box (.prod (.own (.own .shr)) (.own .shr)) (.prod (.list (.list I)) (.list (.prod I I)))), ((3, 0), .box (.prod .shr (.own .shr)) (.prod (.list (.list I)) (.list (.prod I I))))], []⟩
abbrev spec_l6Space_J1 : Tpl := ⟨[(0, .val (.list (.list I))), (2, .ptr (2, 0)), (3, .ptr (3, 0)), (4, .val I)], [((2, 0), .box (.prod (.own (.own .shr)) (.own .shr)) (.prod (.list (.list I)) (.list (.prod I I)))), ((3, 0), .box (.prod .shr (.own .shr)) (.prod (.list (.list I)) (.list (.prod I I))))], []⟩
abbrev spec_l6Space_J2 : Tpl := ⟨[(2, .ptr (2, 0)), (3, .ptr (3, 0))], [((2, 0), .box (.prod (.own (.own .shr)) (.own .shr)) (.prod (.list (.list I)) (.list (.prod I I)))), ((3, 0), .box (.prod .shr (.own .shr)) (.prod (.list (.list I)) (.list (.prod I I))))], []⟩
abbrev spec_l6Space_E : Ve.End := ⟨[⟨2, (.prod .shr (.own .shr)), (.prod (.list (.list I)) (.list (.prod I I))), some 49⟩], []⟩
abbrev spec_l6Space_a : List ASh := [.val (.list (.list I))]
abbrev spec_l6Space_o : List OSh := []
abbrev spec_l6Space_O0 : Out := .one (.ex 2) spec_l6Space_J1
noncomputable def spec_l6Space_B0 : spec_l6Space_J0.P → Option (spec_l6Space_J0.P ⊕ spec_l6Space_O0.P)
  | ((states, i, j, ()), (t2, out, ())) => bif (decide (j < (List.length states : Int))) then (guardB (inb i (List.length states)) (guardB (inb j (List.length states)) (match spec_l6Apart ((List.getD states (Int.toNat i) ([] : (List Int))), (List.getD states (Int.toNat j) ([] : (List Int))), ()) () with | some ((r, ()), ()) => (bif (r == (1 : Int)) then (guardB (decide ((List.length out.2 + List.length [(i, j)]) * 16 ≤ 70368744177664)) (some (.inl ((states, i, (w64 (j + (1 : Int))), ()), (t2, (out.1, (out.2 ++ [(i, j)])), ()))))) else (some (.inl ((states, i, (w64 (j + (1 : Int))), ()), (t2, out, ()))))) | none => none))) else (some (.inr ((states, i, ()), (t2, out, ()))))
abbrev spec_l6Space_O1 : Out := .one (.ex 0) spec_l6Space_J2
noncomputable def spec_l6Space_B1 : spec_l6Space_J1.P → Option (spec_l6Space_J1.P ⊕ spec_l6Space_O1.P)
  | ((states, i, ()), (t2, out, ())) => bif (decide (i < (List.length states : Int))) then (match loopO spec_l6Space_B0 ((states, i, (w64 (i + (1 : Int))), ()), (t2, out, ())) with | some ((states2, i2, ()), (t2_2, out2, ())) => some (.inl ((states2, (w64 (i2 + (1 : Int))), ()), (t2_2, out2, ()))) | none => none) else (some (.inr ((), (t2, out, ()))))
noncomputable def spec_l6Space : argP spec_l6Space_a → obP (extObs 0 spec_l6Space_o) → Option spec_l6Space_E.P
  | (states, ()), () => match loopO spec_l6Space_B1 ((states, (0 : Int), ()), ((([] : (List (List Int))), ([] : (List (Int × Int)))), (states, ([] : (List (Int × Int)))), ())) with | some ((), (t2, out, ())) => some (((out.1, out.2), ()), ()) | none => none
noncomputable def spec_l6Space_x : Cx := ⟨tab, spec_l6Apart_e, fun _ _ => 0, fun _ => false, [(7, 0), (31, 0), (31, 1), (31, 2), (31, 3), (38, 0)], []⟩
noncomputable def c247 : Code := bodyOf Tryz.f247
noncomputable def spec_l6Space_A : Ann := .seq .nil (.seq .nil (.seq (.seq .nil (.loop spec_l6Space_J1 spec_l6Space_O1 spec_l6Space_B1 (.seq .nil (.seq (.seq .nil (.loop spec_l6Space_J0 spec_l6Space_O0 spec_l6Space_B0 (.seq .nil (.seq (.seq (.draw [(0, .flo), (1, .flo), (2, .flo), (3, .flo), (4, .flo), (5, .flo), (6, .flo), (7, .flo), (8, .sole), (9, .flo)]) .nil) .nil)))) .nil)))) .nil))
theorem spec_l6Space_r0 (p : spec_l6Space_J1.P) : run spec_l6Space_x (subc [1, 1, 0, 1, 0, 0] c247) (.seq .nil (.seq (.seq .nil (.loop spec_l6Space_J0 spec_l6Space_O0 spec_l6Space_B0 (.seq .nil (.seq (.seq (.draw [(0, .flo), (1, .flo), (2, .flo), (3, .flo), (4, .flo), (5, .flo), (6, .flo), (7, .flo), (8, .sole), (9, .flo)]) .nil) .nil)))) .nil)) (spec_l6Space_J1.S p) (leaf spec_l6Space_J1 spec_l6Space_O1) = spec_l6Space_B1 p := by kernel_rfl
theorem spec_l6Space_r1 (p : spec_l6Space_J0.P) : run spec_l6Space_x (subc [1, 1, 0, 1, 0, 0, 1, 0, 0, 1, 0, 0] c247) (.seq .nil (.seq (.seq (.draw [(0, .flo), (1, .flo), (2, .flo), (3, .flo), (4, .flo), (5, .flo), (6, .flo), (7, .flo), (8, .sole), (9, .flo)]) .nil) .nil)) (spec_l6Space_J0.S p) (leaf spec_l6Space_J0 spec_l6Space_O0) = spec_l6Space_B0 p := by kernel_rfl
noncomputable def spec_l6Space_D : Ve.Fn := ⟨247, spec_l6Space_a, spec_l6Space_o, spec_l6Space_E, spec_l6Space⟩
theorem spec_l6Space_w : Walk Tryz.prog spec_l6Space_x spec_l6Space_D Tryz.f247 c247 42 spec_l6Space_A :=
  ⟨⟨Tryz.func247, by kernel_rfl, by kernel_rfl, by kernel_rfl, by decide, by kernel_rfl, Nat.le_of_ble_eq_true (by kernel_rfl)⟩, by kernel_rfl, by kernel_rfl, by kernel_rfl, kcast (by kernel_rfl) (⟨spec_l6Space_r0, spec_l6Space_r1, trivial⟩ : (∀ p, run spec_l6Space_x (subc [1, 1, 0, 1, 0, 0] c247) (.seq .nil (.seq (.seq .nil (.loop spec_l6Space_J0 spec_l6Space_O0 spec_l6Space_B0 (.seq .nil (.seq (.seq (.draw [(0, .flo), (1, .flo), (2, .flo), (3, .flo), (4, .flo), (5, .flo), (6, .flo), (7, .flo), (8, .sole), (9, .flo)]) .nil) .nil)))) .nil)) (spec_l6Space_J1.S p) (leaf spec_l6Space_J1 spec_l6Space_O1) = spec_l6Space_B1 p) ∧ (∀ p, run spec_l6Space_x (subc [1, 1, 0, 1, 0, 0, 1, 0, 0, 1, 0, 0] c247) (.seq .nil (.seq (.seq (.draw [(0, .flo), (1, .flo), (2, .flo), (3, .flo), (4, .flo), (5, .flo), (6, .flo), (7, .flo), (8, .sole), (9, .flo)]) .nil) .nil)) (spec_l6Space_J0.S p) (leaf spec_l6Space_J0 spec_l6Space_O0) = spec_l6Space_B0 p) ∧ True), by kernel_rfl, fun x y => by kernel_rfl⟩
theorem spec_l6Space_s : spec_l6Space_D.Says Tryz.prog := spec_l6Space_w.says follows tabOk spec_l6Apart_e_ok
noncomputable def spec_l6Space_e : Env := more spec_l6Apart_e spec_l6Space_D
theorem spec_l6Space_e_ok : EnvOk Tryz.prog spec_l6Space_e := more_ok spec_l6Apart_e_ok spec_l6Space_s
/-! loop.example/g01128/spec.l10Space -/
abbrev spec_l10Space_E : Ve.End := ⟨[⟨6, (.prod .shr (.own .shr)), (.prod (.list (.list I)) (.list (.prod I I))), some 49⟩, ⟨7, .shr, .bool, none⟩], []⟩
abbrev spec_l10Space_a : List ASh := [.val (.prod I (.list (.prod I I))), .val (.prod I (.list (.prod I I))), .val .bool]
abbrev spec_l10Space_o : List OSh := []
noncomputable def spec_l10Space : argP spec_l10Space_a → obP (extObs 0 spec_l10Space_o) → Option spec_l10Space_E.P
  | (g, h, lazy, ()), () => match spec_l10All (g, h, lazy, ([] : (List Int)), (300 : Int), ()) () with | some ((r, ()), ()) => (bif (decide ((300 : Int) < (List.length r : Int))) then (some (((([] : (List (List Int))), ([] : (List (Int × Int)))), false, ()), ())) else (match spec_l6Space (r, ()) () with | some ((r2, ()), ()) => some (((r2.1, r2.2), true, ()), ()) | none => none)) | none => none
noncomputable def spec_l10Space_x : Cx := ⟨tab, spec_l6Space_e, fun _ _ => 0, fun _ => false, [(12, 0), (13, 0), (13, 1), (13, 2), (13, 3), (8, 0)], [(3, 0), (4, 0)]⟩
noncomputable def c127 : Code := bodyOf Tryz.f127
noncomputable def spec_l10Space_A : Ann := .nil
noncomputable def spec_l10Space_D : Ve.Fn := ⟨127, spec_l10Space_a, spec_l10Space_o, spec_l10Space_E, spec_l10Space⟩
theorem spec_l10Space_w : Walk Tryz.prog spec_l10Space_x spec_l10Space_D Tryz.f127 c127 20 spec_l10Space_A :=
  ⟨⟨Tryz.func127, by kernel_rfl, by kernel_rfl, by kernel_rfl, by decide, by kernel_rfl, Nat.le_of_ble_eq_true (by kernel_rfl)⟩, by kernel_rfl, by kernel_rfl, by kernel_rfl, kcast (by kernel_rfl) trivial, by kernel_rfl, fun x y => by kernel_rfl⟩
theorem spec_l10Space_s : spec_l10Space_D.Says Tryz.prog := spec_l10Space_w.says follows tabOk spec_l6Space_e_ok
noncomputable def spec_l10Space_e : Env := more spec_l6Space_e spec_l10Space_D
theorem spec_l10Space_e_ok : EnvOk Tryz.prog spec_l10Space_e := more_ok spec_l6Space_e_ok spec_l10Space_s
/-! loop.example/g01128/spec.l1Same -/
abbrev spec_l1Same_J0 : Tpl := ⟨[(0, .val (.list I)), (1, .val (.list I)), (5, .val I)], [], []⟩
abbrev spec_l1Same_J1 : Tpl := ⟨[(4, .val .bool)], [], []⟩
abbrev spec_l1Same_J2 : Tpl := ⟨[], [], []⟩
abbrev spec_l1Same_E : Ve.End := ⟨[⟨4, .shr, .bool, none⟩], []⟩
abbrev spec_l1Same_a : List ASh := [.val (.list I), .val (.list I)]
abbrev spec_l1Same_o : List OSh := []
abbrev spec_l1Same_O0 : Out := .or .ret spec_l1Same_J1 (.one (.ex 0) spec_l1Same_J2)
noncomputable def spec_l1Same_B0 : spec_l1Same_J0.P → Option (spec_l1Same_J0.P ⊕ spec_l1Same_O0.P)
  | ((a, b, i, ()), ()) => bif (decide (i < (List.length a : Int))) then (guardB (inb i (List.length a)) (guardB (inb i (List.length b)) (bif ((List.getD a (Int.toNat i) (0 : Int)) != (List.getD b (Int.toNat i) (0 : Int))) then (some (.inr (.inl ((false, ()), ())))) else (some (.inl ((a, b, (w64 (i + (1 : Int))), ()), ())))))) else (some (.inr (.inr ((), ()))))
noncomputable def spec_l1Same : argP spec_l1Same_a → obP (extObs 0 spec_l1Same_o) → Option spec_l1Same_E.P
  | (a, b, ()), () => bif ((List.length a : Int) != (List.length b : Int)) then (some ((false, ()), ())) else (match loopO spec_l1Same_B0 ((a, b, (0 : Int), ()), ()) with | some (.inl ((t4, ()), ())) => some ((t4, ()), ()) | some (.inr ((), ())) => some ((true, ()), ()) | none => none)
noncomputable def spec_l1Same_x : Cx := ⟨tab, spec_l10Space_e, fun _ _ => 0, fun _ => false, [], []⟩
noncomputable def c177 : Code := bodyOf Tryz.f177
noncomputable def spec_l1Same_A : Ann := .seq .nil (.seq .nil (.seq (.seq .nil (.loop spec_l1Same_J0 spec_l1Same_O0 spec_l1Same_B0 (.seq .nil (.seq (.seq (.draw [(0, .flo), (1, .flo), (2, .flo), (3, .flo), (4, .flo), (5, .flo), (6, .flo), (7, .flo), (8, .flo)]) .nil) .nil)))) .nil))
theorem spec_l1Same_r0 (p : spec_l1Same_J0.P) : run spec_l1Same_x (subc [1, 1, 0, 1, 0, 0] c177) (.seq .nil (.seq (.seq (.draw [(0, .flo), (1, .flo), (2, .flo), (3, .flo), (4, .flo), (5, .flo), (6, .flo), (7, .flo), (8, .flo)]) .nil) .nil)) (spec_l1Same_J0.S p) (leaf spec_l1Same_J0 spec_l1Same_O0) = spec_l1Same_B0 p := by kernel_rfl
noncomputable def spec_l1Same_D : Ve.Fn := ⟨177, spec_l1Same_a, spec_l1Same_o, spec_l1Same_E, spec_l1Same⟩
theorem spec_l1Same_w : Walk Tryz.prog spec_l1Same_x spec_l1Same_D Tryz.f177 c177 26 spec_l1Same_A :=
  ⟨⟨Tryz.func177, by kernel_rfl, by kernel_rfl, by kernel_rfl, by decide, by kernel_rfl, Nat.le_of_ble_eq_true (by kernel_rfl)⟩, by kernel_rfl, by kernel_rfl, by kernel_rfl, kcast (by kernel_rfl) (⟨spec_l1Same_r0, trivial⟩ : (∀ p, run spec_l1Same_x (subc [1, 1, 0, 1, 0, 0] c177) (.seq .nil (.seq (.seq (.draw [(0, .flo), (1, .flo), (2, .flo), (3, .flo), (4, .flo), (5, .flo), (6, .flo), (7, .flo), (8, .flo)]) .nil) .nil)) (spec_l1Same_J0.S p) (leaf spec_l1Same_J0 spec_l1Same_O0) = spec_l1Same_B0 p) ∧ True), by kernel_rfl, fun x y => by kernel_rfl⟩
theorem spec_l1Same_s : spec_l1Same_D.Says Tryz.prog := spec_l1Same_w.says follows tabOk spec_l10Space_e_ok
noncomputable def spec_l1Same_e : Env := more spec_l10Space_e spec_l1Same_D
theorem spec_l1Same_e_ok : EnvOk Tryz.prog spec_l1Same_e := more_ok spec_l10Space_e_ok spec_l1Same_s
/-! loop.example/g01128/spec.l2Index -/
abbrev spec_l2Index_J0 : Tpl := ⟨[(1, .val (.list I)), (2, .cst (.prod (.list (.list I)) (.list (.prod I I)))), (5, .val I)], [], []⟩
abbrev spec_l2Index_J1 : Tpl := ⟨[(4, .val I)], [], []⟩
abbrev spec_l2Index_J2 : Tpl := ⟨[], [], []⟩
abbrev spec_l2Index_E : Ve.End := ⟨[⟨4, .shr, I, none⟩], []⟩
abbrev spec_l2Index_a : List ASh := [.val (.prod (.list (.list I)) (.list (.prod I I))), .val (.list I)]
abbrev spec_l2Index_o : List OSh := []
abbrev spec_l2Index_O0 : Out := .or .ret spec_l2Index_J1 (.one (.ex 0) spec_l2Index_J2)
noncomputable def spec_l2Index_B0 : spec_l2Index_J0.P → Option (spec_l2Index_J0.P ⊕ spec_l2Index_O0.P)
  | ((state, x, i, ()), ()) => bif (decide (i < (List.length x.1 : Int))) then (guardB (inb i (List.length x.1)) (match spec_l1Same ((List.getD x.1 (Int.toNat i) ([] : (List Int))), state, ()) () with | some ((r, ()), ()) => (bif r then (some (.inr (.inl ((i, ()), ())))) else (some (.inl ((state, x, (w64 (i + (1 : Int))), ()), ())))) | none => none)) else (some (.inr (.inr ((), ()))))
noncomputable def spec_l2Index : argP spec_l2Index_a → obP (extObs 0 spec_l2Index_o) → Option spec_l2Index_E.P
  | (x, state, ()), () => match loopO spec_l2Index_B0 ((state, x, (0 : Int), ()), ()) with | some (.inl ((t4, ()), ())) => some ((t4, ()), ()) | some (.inr ((), ())) => some (((-1 : Int), ()), ()) | none => none
noncomputable def spec_l2Index_x : Cx := ⟨tab, spec_l1Same_e, fun _ _ => 0, fun _ => false, [(19, 0), (19, 1), (19, 2), (19, 3)], [(2, 0)]⟩
noncomputable def c129 : Code := bodyOf Tryz.f129
noncomputable def spec_l2Index_A : Ann := .seq .nil (.seq (.seq .nil (.loop spec_l2Index_J0 spec_l2Index_O0 spec_l2Index_B0 .nil)) .nil)
theorem spec_l2Index_r0 (p : spec_l2Index_J0.P) : run spec_l2Index_x (subc [1, 0, 1, 0, 0] c129) .nil (spec_l2Index_J0.S p) (leaf spec_l2Index_J0 spec_l2Index_O0) = spec_l2Index_B0 p := by kernel_rfl
noncomputable def spec_l2Index_D : Ve.Fn := ⟨129, spec_l2Index_a, spec_l2Index_o, spec_l2Index_E, spec_l2Index⟩
theorem spec_l2Index_w : Walk Tryz.prog spec_l2Index_x spec_l2Index_D Tryz.f129 c129 21 spec_l2Index_A :=
  ⟨⟨Tryz.func129, by kernel_rfl, by kernel_rfl, by kernel_rfl, by decide, by kernel_rfl, Nat.le_of_ble_eq_true (by kernel_rfl)⟩, by kernel_rfl, by kernel_rfl, by kernel_rfl, kcast (by kernel_rfl) (⟨spec_l2Index_r0, trivial⟩ : (∀ p, run spec_l2Index_x (subc [1, 0, 1, 0, 0] c129) .nil (spec_l2Index_J0.S p) (leaf spec_l2Index_J0 spec_l2Index_O0) = spec_l2Index_B0 p) ∧ True), by kernel_rfl, fun x y => by kernel_rfl⟩
theorem spec_l2Index_s : spec_l2Index_D.Says Tryz.prog := spec_l2Index_w.says follows tabOk spec_l1Same_e_ok
noncomputable def spec_l2Index_e : Env := more spec_l1Same_e spec_l2Index_D
theorem spec_l2Index_e_ok : EnvOk Tryz.prog spec_l2Index_e := more_ok spec_l1Same_e_ok spec_l2Index_s
/-! loop.example/g01128/spec.l2Lists -/
abbrev spec_l2Lists_J0 : Tpl := ⟨[(1, .cst (.prod (.list (.list I)) (.list (.prod I I)))), (3, .own (.own .shr) (.list I)), (4, .val I)], [], []⟩
abbrev spec_l2Lists_J1 : Tpl := ⟨[(1, .cst (.prod (.list (.list I)) (.list (.prod I I)))), (3, .own (.own .shr) (.list I))], [], []⟩
abbrev spec_l2Lists_J2 : Tpl := ⟨[(1, .cst (.prod (.list (.list I)) (.list (.prod I I)))), (3, .own (.own .shr) (.list I)), (7, .val I)], [], []⟩
abbrev spec_l2Lists_J3 : Tpl := ⟨[(3, .own (.own .shr) (.list I))], [], []⟩
abbrev spec_l2Lists_E : Ve.End := ⟨[⟨2, (.own (.own .shr)), (.list (.list I)), none⟩], []⟩
abbrev spec_l2Lists_a : List ASh := [.val (.prod (.list (.list I)) (.list (.prod I I)))]
abbrev spec_l2Lists_o : List OSh := []
abbrev spec_l2Lists_O0 : Out := .one (.ex 0) spec_l2Lists_J1
noncomputable def spec_l2Lists_B0 : spec_l2Lists_J0.P → Option (spec_l2Lists_J0.P ⊕ spec_l2Lists_O0.P)
  | ((t1, t3, t4, ()), ()) => bif (decide (t4 < (List.length t1.2 : Int))) then (guardB (inb t4 (List.length t1.2)) (guardB (inb t4 (List.length t1.2)) (guardB (inb ((List.getD t1.2 (Int.toNat t4) ((0 : Int), (0 : Int))).2) (List.length t3)) (guardB (decide ((List.length (List.getD t3 (Int.toNat ((List.getD t1.2 (Int.toNat t4) ((0 : Int), (0 : Int))).2)) ([] : (List Int))) + List.length [(List.getD t1.2 (Int.toNat t4) ((0 : Int), (0 : Int))).1]) * 8 ≤ 70368744177664)) (guardB (inb ((List.getD t1.2 (Int.toNat t4) ((0 : Int), (0 : Int))).2) (List.length t3)) (guardB (Nat.beq (Int.toNat ((List.getD t1.2 (Int.toNat t4) ((0 : Int), (0 : Int))).2)) (Int.toNat ((List.getD t1.2 (Int.toNat t4) ((0 : Int), (0 : Int))).2)) && true) (some (.inl ((t1, (List.set t3 (Int.toNat ((List.getD t1.2 (Int.toNat t4) ((0 : Int), (0 : Int))).2)) ((List.getD t3 (Int.toNat ((List.getD t1.2 (Int.toNat t4) ((0 : Int), (0 : Int))).2)) ([] : (List Int))) ++ [(List.getD t1.2 (Int.toNat t4) ((0 : Int), (0 : Int))).1])), (w64 (t4 + (1 : Int))), ()), ()))))))))) else (some (.inr ((t1, t3, ()), ())))
abbrev spec_l2Lists_O1 : Out := .one (.ex 2) spec_l2Lists_J3
noncomputable def spec_l2Lists_B1 : spec_l2Lists_J2.P → Option (spec_l2Lists_J2.P ⊕ spec_l2Lists_O1.P)
  | ((t1, t3, t7, ()), ()) => bif (decide (t7 < (List.length t1.2 : Int))) then (guardB (inb t7 (List.length t1.2)) (guardB (inb t7 (List.length t1.2)) (guardB (inb ((List.getD t1.2 (Int.toNat t7) ((0 : Int), (0 : Int))).1) (List.length t3)) (guardB (decide ((List.length (List.getD t3 (Int.toNat ((List.getD t1.2 (Int.toNat t7) ((0 : Int), (0 : Int))).1)) ([] : (List Int))) + List.length [(List.getD t1.2 (Int.toNat t7) ((0 : Int), (0 : Int))).2]) * 8 ≤ 70368744177664)) (guardB (inb ((List.getD t1.2 (Int.toNat t7) ((0 : Int), (0 : Int))).1) (List.length t3)) (guardB (Nat.beq (Int.toNat ((List.getD t1.2 (Int.toNat t7) ((0 : Int), (0 : Int))).1)) (Int.toNat ((List.getD t1.2 (Int.toNat t7) ((0 : Int), (0 : Int))).1)) && true) (some (.inl ((t1, (List.set t3 (Int.toNat ((List.getD t1.2 (Int.toNat t7) ((0 : Int), (0 : Int))).1)) ((List.getD t3 (Int.toNat ((List.getD t1.2 (Int.toNat t7) ((0 : Int), (0 : Int))).1)) ([] : (List Int))) ++ [(List.getD t1.2 (Int.toNat t7) ((0 : Int), (0 : Int))).2])), (w64 (t7 + (1 : Int))), ()), ()))))))))) else (some (.inr ((t3, ()), ())))
noncomputable def spec_l2Lists : argP spec_l2Lists_a → obP (extObs 0 spec_l2Lists_o) → Option spec_l2Lists_E.P
  | (t0, ()), () => guardB (decide (0 ≤ (List.length t0.1 : Int)) && decide ((List.length t0.1 : Int) ≤ (List.length t0.1 : Int)) && decide ((List.length t0.1 : Int) * 24 ≤ 140737488355328)) (match loopO spec_l2Lists_B0 ((t0, (List.replicate (Int.toNat (List.length t0.1 : Int)) ([] : (List Int))), (0 : Int), ()), ()) with | some ((t1, t3, ()), ()) => (match loopO spec_l2Lists_B1 ((t1, t3, (0 : Int), ()), ()) with | some ((t3_2, ()), ()) => some ((t3_2, ()), ()) | none => none) | none => none)
noncomputable def spec_l2Lists_x : Cx := ⟨tab, spec_l2Index_e, fun _ _ => 0, fun _ => false, [(40, 0), (69, 0)], [(1, 0)]⟩
noncomputable def c194 : Code := bodyOf Tryz.f194
noncomputable def spec_l2Lists_A : Ann := .seq .nil (.seq .nil (.seq (.seq .nil (.loop spec_l2Lists_J0 spec_l2Lists_O0 spec_l2Lists_B0 (.seq .nil (.seq (.seq (.draw [(0, .flo), (1, .flo), (2, .flo), (3, .flo), (4, .flo), (5, .flo), (6, .flo), (7, .flo), (8, .flo), (9, .flo), (10, .flo), (11, .flo), (12, .flo), (13, .flo)]) .nil) .nil)))) (.seq (.seq .nil (.loop spec_l2Lists_J2 spec_l2Lists_O1 spec_l2Lists_B1 (.seq .nil (.seq (.seq (.draw [(0, .flo), (1, .flo), (2, .flo), (3, .flo), (4, .flo), (5, .flo), (6, .flo), (7, .flo), (8, .flo), (9, .flo), (10, .flo), (11, .flo), (12, .flo), (13, .flo)]) .nil) .nil)))) .nil)))
theorem spec_l2Lists_r0 (p : spec_l2Lists_J0.P) : run spec_l2Lists_x (subc [1, 1, 0, 1, 0, 0] c194) (.seq .nil (.seq (.seq (.draw [(0, .flo), (1, .flo), (2, .flo), (3, .flo), (4, .flo), (5, .flo), (6, .flo), (7, .flo), (8, .flo), (9, .flo), (10, .flo), (11, .flo), (12, .flo), (13, .flo)]) .nil) .nil)) (spec_l2Lists_J0.S p) (leaf spec_l2Lists_J0 spec_l2Lists_O0) = spec_l2Lists_B0 p := by kernel_rfl
theorem spec_l2Lists_r1 (p : spec_l2Lists_J2.P) : run spec_l2Lists_x (subc [1, 1, 1, 0, 1, 0, 0] c194) (.seq .nil (.seq (.seq (.draw [(0, .flo), (1, .flo), (2, .flo), (3, .flo), (4, .flo), (5, .flo), (6, .flo), (7, .flo), (8, .flo), (9, .flo), (10, .flo), (11, .flo), (12, .flo), (13, .flo)]) .nil) .nil)) (spec_l2Lists_J2.S p) (leaf spec_l2Lists_J2 spec_l2Lists_O1) = spec_l2Lists_B1 p := by kernel_rfl
noncomputable def spec_l2Lists_D : Ve.Fn := ⟨194, spec_l2Lists_a, spec_l2Lists_o, spec_l2Lists_E, spec_l2Lists⟩
theorem spec_l2Lists_w : Walk Tryz.prog spec_l2Lists_x spec_l2Lists_D Tryz.f194 c194 73 spec_l2Lists_A :=
  ⟨⟨Tryz.func194, by kernel_rfl, by kernel_rfl, by kernel_rfl, by decide, by kernel_rfl, Nat.le_of_ble_eq_true (by kernel_rfl)⟩, by kernel_rfl, by kernel_rfl, by kernel_rfl, kcast (by kernel_rfl) (⟨spec_l2Lists_r0, spec_l2Lists_r1, trivial⟩ : (∀ p, run spec_l2Lists_x (subc [1, 1, 0, 1, 0, 0] c194) (.seq .nil (.seq (.seq (.draw [(0, .flo), (1, .flo), (2, .flo), (3, .flo), (4, .flo), (5, .flo), (6, .flo), (7, .flo), (8, .flo), (9, .flo), (10, .flo), (11, .flo), (12, .flo), (13, .flo)]) .nil) .nil)) (spec_l2Lists_J0.S p) (leaf spec_l2Lists_J0 spec_l2Lists_O0) = spec_l2Lists_B0 p) ∧ (∀ p, run spec_l2Lists_x (subc [1, 1, 1, 0, 1, 0, 0] c194) (.seq .nil (.seq (.seq (.draw [(0, .flo), (1, .flo), (2, .flo), (3, .flo), (4, .flo), (5, .flo), (6, .flo), (7, .flo), (8, .flo), (9, .flo), (10, .flo), (11, .flo), (12, .flo), (13, .flo)]) .nil) .nil)) (spec_l2Lists_J2.S p) (leaf spec_l2Lists_J2 spec_l2Lists_O1) = spec_l2Lists_B1 p) ∧ True), by kernel_rfl, fun x y => by kernel_rfl⟩
theorem spec_l2Lists_s : spec_l2Lists_D.Says Tryz.prog := spec_l2Lists_w.says follows tabOk spec_l2Index_e_ok
noncomputable def spec_l2Lists_e : Env := more spec_l2Index_e spec_l2Lists_D
theorem spec_l2Lists_e_ok : EnvOk Tryz.prog spec_l2Lists_e := more_ok spec_l2Index_e_ok spec_l2Lists_s
/-! loop.example/g01128/spec.l2Spread -/
abbrev spec_l2Spread_J0 : Tpl := ⟨[(0, .val (.list (.list I))), (1, .val I), (5, .own .shr I), (6, .val I)], [], []⟩
abbrev spec_l2Spread_J1 : Tpl := ⟨[(0, .val (.list (.list I))), (1, .val I), (5, .own .shr I)], [], []⟩
abbrev spec_l2Spread_J2 : Tpl := ⟨[(0, .val (.list (.list I))), (5, .own .shr I), (7, .own .shr I), (8, .val I), (9, .val (.list I)), (10, .val I)], [], []⟩
abbrev spec_l2Spread_J3 : Tpl := ⟨[(0, .val (.list (.list I))), (5, .own .shr I), (7, .own .shr I), (8, .val I)], [], []⟩
abbrev spec_l2Spread_J4 : Tpl := ⟨[(5, .own .shr I)], [], []⟩
abbrev spec_l2Spread_E : Ve.End := ⟨[⟨4, (.own .shr), (.list I), none⟩], []⟩
abbrev spec_l2Spread_a : List ASh := [.val (.list (.list I)), .val I]
abbrev spec_l2Spread_o : List OSh := []
abbrev spec_l2Spread_O0 : Out := .one (.ex 0) spec_l2Spread_J1
noncomputable def spec_l2Spread_B0 : spec_l2Spread_J0.P → Option (spec_l2Spread_J0.P ⊕ spec_l2Spread_O0.P)
  | ((t0, t1, t5, t6, ()), ()) => bif (decide (t6 < (List.length t5 : Int))) then (guardB (inb t6 (List.length t5)) (some (.inl ((t0, t1, (List.set t5 (Int.toNat t6) (-1 : Int)), (w64 (t6 + (1 : Int))), ()), ())))) else (some (.inr ((t0, t1, t5, ()), ())))
abbrev spec_l2Spread_O1 : Out := .one (.ex 4) spec_l2Spread_J3
noncomputable def spec_l2Spread_B1 : spec_l2Spread_J2.P → Option (spec_l2Spread_J2.P ⊕ spec_l2Spread_O1.P)
  | ((t0, t5, t7, t8, t9, t10, ()), ()) => bif (decide (t10 < (List.length t9 : Int))) then (guardB (inb t10 (List.length t9)) (guardB (inb (List.getD t9 (Int.toNat t10) (0 : Int)) (List.length t5)) (bif (decide ((List.getD t5 (Int.toNat (List.getD t9 (Int.toNat t10) (0 : Int))) (0 : Int)) < (0 : Int))) then (guardB (inb t10 (List.length t9)) (guardB (inb t8 (List.length t7)) (guardB (inb (List.getD t7 (Int.toNat t8) (0 : Int)) (List.length t5)) (guardB (inb (List.getD t9 (Int.toNat t10) (0 : Int)) (List.length t5)) (guardB (inb t10 (List.length t9)) (guardB (decide ((List.length t7 + List.length [(List.getD t9 (Int.toNat t10) (0 : Int))]) * 8 ≤ 70368744177664)) (some (.inl ((t0, (List.set t5 (Int.toNat (List.getD t9 (Int.toNat t10) (0 : Int))) (w64 ((List.getD t5 (Int.toNat (List.getD t7 (Int.toNat t8) (0 : Int))) (0 : Int)) + (1 : Int)))), (t7 ++ [(List.getD t9 (Int.toNat t10) (0 : Int))]), t8, t9, (w64 (t10 + (1 : Int))), ()), ()))))))))) else (some (.inl ((t0, t5, t7, t8, t9, (w64 (t10 + (1 : Int))), ()), ())))))) else (some (.inr ((t0, t5, t7, t8, ()), ())))
abbrev spec_l2Spread_O2 : Out := .one (.ex 2) spec_l2Spread_J4
noncomputable def spec_l2Spread_B2 : spec_l2Spread_J3.P → Option (spec_l2Spread_J3.P ⊕ spec_l2Spread_O2.P)
  | ((t0, t5, t7, t8, ()), ()) => bif (decide (t8 < (List.length t7 : Int))) then (guardB (inb t8 (List.length t7)) (guardB (inb (List.getD t7 (Int.toNat t8) (0 : Int)) (List.length t0)) (match loopO spec_l2Spread_B1 ((t0, t5, t7, t8, (List.getD t0 (Int.toNat (List.getD t7 (Int.toNat t8) (0 : Int))) ([] : (List Int))), (0 : Int), ()), ()) with | some ((t0_2, t5_2, t7_2, t8_2, ()), ()) => some (.inl ((t0_2, t5_2, t7_2, (w64 (t8_2 + (1 : Int))), ()), ())) | none => none))) else (some (.inr ((t5, ()), ())))
noncomputable def spec_l2Spread : argP spec_l2Spread_a → obP (extObs 0 spec_l2Spread_o) → Option spec_l2Spread_E.P
  | (t0, t1, ()), () => guardB (decide (0 ≤ (List.length t0 : Int)) && decide ((List.length t0 : Int) ≤ (List.length t0 : Int)) && decide ((List.length t0 : Int) * 8 ≤ 140737488355328)) (match loopO spec_l2Spread_B0 ((t0, t1, (List.replicate (Int.toNat (List.length t0 : Int)) (0 : Int)), (0 : Int), ()), ()) with | some ((t0_2, t1_2, t5, ()), ()) => guardB (inb t1_2 (List.length t5)) (match loopO spec_l2Spread_B2 ((t0_2, (List.set t5 (Int.toNat t1_2) (0 : Int)), [t1_2], (0 : Int), ()), ()) with | some ((t5_2, ()), ()) => some ((t5_2, ()), ()) | none => none) | none => none)
noncomputable def spec_l2Spread_x : Cx := ⟨tab, spec_l2Lists_e, fun _ _ => 0, fun _ => false, [(9, 0), (74, 0)], []⟩
noncomputable def c217 : Code := bodyOf Tryz.f217
noncomputable def spec_l2Spread_A : Ann := .seq .nil (.seq .nil (.seq (.seq .nil (.loop spec_l2Spread_J0 spec_l2Spread_O0 spec_l2Spread_B0 .nil)) (.seq .nil (.seq .nil (.seq (.seq .nil (.loop spec_l2Spread_J3 spec_l2Spread_O2 spec_l2Spread_B2 (.seq .nil (.seq (.seq .nil (.seq .nil (.loop spec_l2Spread_J2 spec_l2Spread_O1 spec_l2Spread_B1 (.seq .nil (.seq (.seq .nil (.seq (.seq (.draw [(0, .flo), (1, .flo), (2, .flo), (3, .flo), (4, .flo), (5, .flo), (6, .flo), (7, .flo), (8, .flo), (9, .qui), (10, .flo), (11, .qui), (12, .flo), (13, .flo), (14, .sole)]) .nil) .nil)) .nil))))) .nil)))) .nil)))))
theorem spec_l2Spread_r0 (p : spec_l2Spread_J0.P) : run spec_l2Spread_x (subc [1, 1, 0, 1, 0, 0] c217) .nil (spec_l2Spread_J0.S p) (leaf spec_l2Spread_J0 spec_l2Spread_O0) = spec_l2Spread_B0 p := by kernel_rfl
theorem spec_l2Spread_r1 (p : spec_l2Spread_J3.P) : run spec_l2Spread_x (subc [1, 1, 1, 1, 1, 0, 1, 0, 0] c217) (.seq .nil (.seq (.seq .nil (.seq .nil (.loop spec_l2Spread_J2 spec_l2Spread_O1 spec_l2Spread_B1 (.seq .nil (.seq (.seq .nil (.seq (.seq (.draw [(0, .flo), (1, .flo), (2, .flo), (3, .flo), (4, .flo), (5, .flo), (6, .flo), (7, .flo), (8, .flo), (9, .qui), (10, .flo), (11, .qui), (12, .flo), (13, .flo), (14, .sole)]) .nil) .nil)) .nil))))) .nil)) (spec_l2Spread_J3.S p) (leaf spec_l2Spread_J3 spec_l2Spread_O2) = spec_l2Spread_B2 p := by kernel_rfl
theorem spec_l2Spread_r2 (p : spec_l2Spread_J2.P) : run spec_l2Spread_x (subc [1, 1, 1, 1, 1, 0, 1, 0, 0, 1, 0, 0, 1, 1, 0, 0] c217) (.seq .nil (.seq (.seq .nil (.seq (.seq (.draw [(0, .flo), (1, .flo), (2, .flo), (3, .flo), (4, .flo), (5, .flo), (6, .flo), (7, .flo), (8, .flo), (9, .qui), (10, .flo), (11, .qui), (12, .flo), (13, .flo), (14, .sole)]) .nil) .nil)) .nil)) (spec_l2Spread_J2.S p) (leaf spec_l2Spread_J2 spec_l2Spread_O1) = spec_l2Spread_B1 p := by kernel_rfl
noncomputable def spec_l2Spread_D : Ve.Fn := ⟨217, spec_l2Spread_a, spec_l2Spread_o, spec_l2Spread_E, spec_l2Spread⟩
theorem spec_l2Spread_w : Walk Tryz.prog spec_l2Spread_x spec_l2Spread_D Tryz.f217 c217 77 spec_l2Spread_A :=
  ⟨⟨Tryz.func217, by kernel_rfl, by kernel_rfl, by kernel_rfl, by decide, by kernel_rfl, Nat.le_of_ble_eq_true (by kernel_rfl)⟩, by kernel_rfl, by kernel_rfl, by kernel_rfl, kcast (by kernel_rfl) (⟨spec_l2Spread_r0, spec_l2Spread_r1, spec_l2Spread_r2, trivial⟩ : (∀ p, run spec_l2Spread_x (subc [1, 1, 0, 1, 0, 0] c217) .nil (spec_l2Spread_J0.S p) (leaf spec_l2Spread_J0 spec_l2Spread_O0) = spec_l2Spread_B0 p) ∧ (∀ p, run spec_l2Spread_x (subc [1, 1, 1, 1, 1, 0, 1, 0, 0] c217) (.seq .nil (.seq (.seq .nil (.seq .nil (.loop spec_l2Spread_J2 spec_l2Spread_O1 spec_l2Spread_B1 (.seq .nil (.seq (.seq .nil (.seq (.seq (.draw [(0, .flo), (1, .flo), (2, .flo), (3, .flo), (4, .flo), (5, .flo), (6, .flo), (7, .flo), (8, .flo), (9, .qui), (10, .flo), (11, .qui), (12, .flo), (13, .flo), (14, .sole)]) .nil) .nil)) .nil))))) .nil)) (spec_l2Spread_J3.S p) (leaf spec_l2Spread_J3 spec_l2Spread_O2) = spec_l2Spread_B2 p) ∧ (∀ p, run spec_l2Spread_x (subc [1, 1, 1, 1, 1, 0, 1, 0, 0, 1, 0, 0, 1, 1, 0, 0] c217) (.seq .nil (.seq (.seq .nil (.seq (.seq (.draw [(0, .flo), (1, .flo), (2, .flo), (3, .flo), (4, .flo), (5, .flo), (6, .flo), (7, .flo), (8, .flo), (9, .qui), (10, .flo), (11, .qui), (12, .flo), (13, .flo), (14, .sole)]) .nil) .nil)) .nil)) (spec_l2Spread_J2.S p) (leaf spec_l2Spread_J2 spec_l2Spread_O1) = spec_l2Spread_B1 p) ∧ True), by kernel_rfl, fun x y => by kernel_rfl⟩
theorem spec_l2Spread_s : spec_l2Spread_D.Says Tryz.prog := spec_l2Spread_w.says follows tabOk spec_l2Lists_e_ok
noncomputable def spec_l2Spread_e : Env := more spec_l2Lists_e spec_l2Spread_D
theorem spec_l2Spread_e_ok : EnvOk Tryz.prog spec_l2Spread_e := more_ok spec_l2Lists_e_ok spec_l2Spread_s
/-! loop.example/g01128/spec.l2Walk -/
abbrev spec_l2Walk_J0 : Tpl := ⟨[(1, .val I), (2, .val I), (7, .val (.list (.list I))), (8, .val (.list I)), (9, .own .shr I), (10, .val I)], [], []⟩
abbrev spec_l2Walk_J1 : Tpl := ⟨[(1, .val I), (2, .val I), (7, .val (.list (.list I))), (8, .val (.list I)), (9, .own .shr I)], [], []⟩
abbrev spec_l2Walk_J2 : Tpl := ⟨[(9, .own .shr I)], [], []⟩
abbrev spec_l2Walk_E : Ve.End := ⟨[⟨6, (.own .shr), (.list I), none⟩], []⟩
abbrev spec_l2Walk_a : List ASh := [.val (.prod (.list (.list I)) (.list (.prod I I))), .val I, .val I]
abbrev spec_l2Walk_o : List OSh := []
abbrev spec_l2Walk_O0 : Out := .one (.ex 2) spec_l2Walk_J0
noncomputable def spec_l2Walk_B0 : spec_l2Walk_J0.P → Option (spec_l2Walk_J0.P ⊕ spec_l2Walk_O0.P)
  | ((i, j, lists, dist, out, k, ()), ()) => guardB (inb i (List.length lists)) (guardB (inb k (List.length (List.getD lists (Int.toNat i) ([] : (List Int))))) (guardB (inb (List.getD (List.getD lists (Int.toNat i) ([] : (List Int))) (Int.toNat k) (0 : Int)) (List.length dist)) (guardB (inb i (List.length dist)) (bif ((List.getD dist (Int.toNat (List.getD (List.getD lists (Int.toNat i) ([] : (List Int))) (Int.toNat k) (0 : Int))) (0 : Int)) != (w64 ((List.getD dist (Int.toNat i) (0 : Int)) - (1 : Int)))) then (some (.inl ((i, j, lists, dist, out, (w64 (k + (1 : Int))), ()), ()))) else (some (.inr ((i, j, lists, dist, out, k, ()), ())))))))
abbrev spec_l2Walk_O1 : Out := .one (.ex 0) spec_l2Walk_J2
noncomputable def spec_l2Walk_B1 : spec_l2Walk_J1.P → Option (spec_l2Walk_J1.P ⊕ spec_l2Walk_O1.P)
  | ((i, j, lists, dist, out, ()), ()) => bif (i != j) then (match loopO spec_l2Walk_B0 ((i, j, lists, dist, out, (0 : Int), ()), ()) with | some ((i2, j2, lists2, dist2, out2, k, ()), ()) => guardB (inb i2 (List.length lists2)) (guardB (inb k (List.length (List.getD lists2 (Int.toNat i2) ([] : (List Int))))) (guardB (decide ((List.length out2 + List.length [(List.getD (List.getD lists2 (Int.toNat i2) ([] : (List Int))) (Int.toNat k) (0 : Int))]) * 8 ≤ 70368744177664)) (some (.inl (((List.getD (List.getD lists2 (Int.toNat i2) ([] : (List Int))) (Int.toNat k) (0 : Int)), j2, lists2, dist2, (out2 ++ [(List.getD (List.getD lists2 (Int.toNat i2) ([] : (List Int))) (Int.toNat k) (0 : Int))]), ()), ()))))) | none => none) else (some (.inr ((out, ()), ())))
noncomputable def spec_l2Walk : argP spec_l2Walk_a → obP (extObs 0 spec_l2Walk_o) → Option spec_l2Walk_E.P
  | (x, i, j, ()), () => match spec_l2Lists (x, ()) () with | some ((r, ()), ()) => (match spec_l2Spread (r, j, ()) () with | some ((r2, ()), ()) => guardB (inb i (List.length r2)) (bif (decide ((List.getD r2 (Int.toNat i) (0 : Int)) < (0 : Int))) then (some ((([] : (List Int)), ()), ())) else (match loopO spec_l2Walk_B1 ((i, j, r, r2, [i], ()), ()) with | some ((out, ()), ()) => some ((out, ()), ()) | none => none)) | none => none) | none => none
noncomputable def spec_l2Walk_x : Cx := ⟨tab, spec_l2Spread_e, fun _ _ => 0, fun _ => false, [(12, 0), (12, 1), (12, 2), (12, 3), (7, 0), (15, 0), (15, 1), (15, 2), (15, 3), (8, 0), (21, 0), (54, 0)], [(3, 0)]⟩
noncomputable def c128 : Code := bodyOf Tryz.f128
noncomputable def spec_l2Walk_A : Ann := .seq .nil (.seq .nil (.seq .nil (.seq .nil (.seq .nil (.seq (.loop spec_l2Walk_J1 spec_l2Walk_O1 spec_l2Walk_B1 (.seq .nil (.seq .nil (.seq (.loop spec_l2Walk_J0 spec_l2Walk_O0 spec_l2Walk_B0 (.seq (.seq (.draw [(0, .flo), (1, .flo), (2, .flo), (3, .flo), (4, .flo), (5, .flo), (6, .flo), (7, .flo), (8, .flo), (9, .flo), (10, .flo), (11, .flo), (12, .flo), (13, .flo), (14, .flo), (15, .flo)]) .nil) .nil)) .nil)))) .nil)))))
theorem spec_l2Walk_r0 (p : spec_l2Walk_J1.P) : run spec_l2Walk_x (subc [1, 1, 1, 1, 1, 0, 0, 0] c128) (.seq .nil (.seq .nil (.seq (.loop spec_l2Walk_J0 spec_l2Walk_O0 spec_l2Walk_B0 (.seq (.seq (.draw [(0, .flo), (1, .flo), (2, .flo), (3, .flo), (4, .flo), (5, .flo), (6, .flo), (7, .flo), (8, .flo), (9, .flo), (10, .flo), (11, .flo), (12, .flo), (13, .flo), (14, .flo), (15, .flo)]) .nil) .nil)) .nil))) (spec_l2Walk_J1.S p) (leaf spec_l2Walk_J1 spec_l2Walk_O1) = spec_l2Walk_B1 p := by kernel_rfl
theorem spec_l2Walk_r1 (p : spec_l2Walk_J0.P) : run spec_l2Walk_x (subc [1, 1, 1, 1, 1, 0, 0, 0, 1, 0, 1, 0, 0, 0] c128) (.seq (.seq (.draw [(0, .flo), (1, .flo), (2, .flo), (3, .flo), (4, .flo), (5, .flo), (6, .flo), (7, .flo), (8, .flo), (9, .flo), (10, .flo), (11, .flo), (12, .flo), (13, .flo), (14, .flo), (15, .flo)]) .nil) .nil) (spec_l2Walk_J0.S p) (leaf spec_l2Walk_J0 spec_l2Walk_O0) = spec_l2Walk_B0 p := by kernel_rfl
noncomputable def spec_l2Walk_D : Ve.Fn := ⟨128, spec_l2Walk_a, spec_l2Walk_o, spec_l2Walk_E, spec_l2Walk⟩
theorem spec_l2Walk_w : Walk Tryz.prog spec_l2Walk_x spec_l2Walk_D Tryz.f128 c128 57 spec_l2Walk_A :=
  ⟨⟨Tryz.func128, by kernel_rfl, by kernel_rfl, by kernel_rfl, by decide, by kernel_rfl, Nat.le_of_ble_eq_true (by kernel_rfl)⟩, by kernel_rfl, by kernel_rfl, by kernel_rfl, kcast (by kernel_rfl) (⟨spec_l2Walk_r0, spec_l2Walk_r1, trivial⟩ : (∀ p, run spec_l2Walk_x (subc [1, 1, 1, 1, 1, 0, 0, 0] c128) (.seq .nil (.seq .nil (.seq (.loop spec_l2Walk_J0 spec_l2Walk_O0 spec_l2Walk_B0 (.seq (.seq (.draw [(0, .flo), (1, .flo), (2, .flo), (3, .flo), (4, .flo), (5, .flo), (6, .flo), (7, .flo), (8, .flo), (9, .flo), (10, .flo), (11, .flo), (12, .flo), (13, .flo), (14, .flo), (15, .flo)]) .nil) .nil)) .nil))) (spec_l2Walk_J1.S p) (leaf spec_l2Walk_J1 spec_l2Walk_O1) = spec_l2Walk_B1 p) ∧ (∀ p, run spec_l2Walk_x (subc [1, 1, 1, 1, 1, 0, 0, 0, 1, 0, 1, 0, 0, 0] c128) (.seq (.seq (.draw [(0, .flo), (1, .flo), (2, .flo), (3, .flo), (4, .flo), (5, .flo), (6, .flo), (7, .flo), (8, .flo), (9, .flo), (10, .flo), (11, .flo), (12, .flo), (13, .flo), (14, .flo), (15, .flo)]) .nil) .nil) (spec_l2Walk_J0.S p) (leaf spec_l2Walk_J0 spec_l2Walk_O0) = spec_l2Walk_B0 p) ∧ True), by kernel_rfl, fun x y => by kernel_rfl⟩
theorem spec_l2Walk_s : spec_l2Walk_D.Says Tryz.prog := spec_l2Walk_w.says follows tabOk spec_l2Spread_e_ok
noncomputable def spec_l2Walk_e : Env := more spec_l2Spread_e spec_l2Walk_D
theorem spec_l2Walk_e_ok : EnvOk Tryz.prog spec_l2Walk_e := more_ok spec_l2Spread_e_ok spec_l2Walk_s
/-! loop.example/g01128/spec.l4Named -/
abbrev spec_l4Named_J0 : Tpl := ⟨[(1, .val (.list I)), (2, .cst (.prod (.list (.list I)) (.list (.prod I I)))), (5, .own (.own .shr) (.list I)), (6, .val I)], [], []⟩
abbrev spec_l4Named_J1 : Tpl := ⟨[(5, .own (.own .shr) (.list I))], [], []⟩
abbrev spec_l4Named_E : Ve.End := ⟨[⟨4, (.own (.own .shr)), (.list (.list I)), none⟩], []⟩
abbrev spec_l4Named_a : List ASh := [.val (.prod (.list (.list I)) (.list (.prod I I))), .val (.list I)]
abbrev spec_l4Named_o : List OSh := []
abbrev spec_l4Named_O0 : Out := .one (.ex 0) spec_l4Named_J1
noncomputable def spec_l4Named_B0 : spec_l4Named_J0.P → Option (spec_l4Named_J0.P ⊕ spec_l4Named_O0.P)
  | ((walk, x, out, i, ()), ()) => bif (decide (i < (List.length walk : Int))) then (guardB (inb i (List.length walk)) (guardB (inb (List.getD walk (Int.toNat i) (0 : Int)) (List.length x.1)) (match spec_l1Own ((List.getD x.1 (Int.toNat (List.getD walk (Int.toNat i) (0 : Int))) ([] : (List Int))), ()) () with | some ((r, ()), ()) => guardB (decide ((List.length out + List.length [r]) * 24 ≤ 70368744177664)) (some (.inl ((walk, x, (out ++ [r]), (w64 (i + (1 : Int))), ()), ()))) | none => none))) else (some (.inr ((out, ()), ())))
noncomputable def spec_l4Named : argP spec_l4Named_a → obP (extObs 0 spec_l4Named_o) → Option spec_l4Named_E.P
  | (x, walk, ()), () => match loopO spec_l4Named_B0 ((walk, x, ([] : (List (List Int))), (0 : Int), ()), ()) with | some ((out, ()), ()) => some ((out, ()), ()) | none => none
noncomputable def spec_l4Named_x : Cx := ⟨tab, spec_l2Walk_e, fun _ _ => 0, fun _ => false, [], [(2, 0)]⟩
noncomputable def c130 : Code := bodyOf Tryz.f130
noncomputable def spec_l4Named_A : Ann := .seq .nil (.seq .nil (.seq (.seq .nil (.loop spec_l4Named_J0 spec_l4Named_O0 spec_l4Named_B0 (.seq .nil (.seq (.draw [(0, .flo), (1, .flo), (2, .flo), (3, .flo), (4, .flo), (5, .flo), (6, .flo), (7, .flo), (8, .flo), (9, .sole), (10, .sole), (11, .sole), (12, .flo)]) .nil)))) .nil))
theorem spec_l4Named_r0 (p : spec_l4Named_J0.P) : run spec_l4Named_x (subc [1, 1, 0, 1, 0, 0] c130) (.seq .nil (.seq (.draw [(0, .flo), (1, .flo), (2, .flo), (3, .flo), (4, .flo), (5, .flo), (6, .flo), (7, .flo), (8, .flo), (9, .sole), (10, .sole), (11, .sole), (12, .flo)]) .nil)) (spec_l4Named_J0.S p) (leaf spec_l4Named_J0 spec_l4Named_O0) = spec_l4Named_B0 p := by kernel_rfl
noncomputable def spec_l4Named_D : Ve.Fn := ⟨130, spec_l4Named_a, spec_l4Named_o, spec_l4Named_E, spec_l4Named⟩
theorem spec_l4Named_w : Walk Tryz.prog spec_l4Named_x spec_l4Named_D Tryz.f130 c130 27 spec_l4Named_A :=
  ⟨⟨Tryz.func130, by kernel_rfl, by kernel_rfl, by kernel_rfl, by decide, by kernel_rfl, Nat.le_of_ble_eq_true (by kernel_rfl)⟩, by kernel_rfl, by kernel_rfl, by kernel_rfl, kcast (by kernel_rfl) (⟨spec_l4Named_r0, trivial⟩ : (∀ p, run spec_l4Named_x (subc [1, 1, 0, 1, 0, 0] c130) (.seq .nil (.seq (.draw [(0, .flo), (1, .flo), (2, .flo), (3, .flo), (4, .flo), (5, .flo), (6, .flo), (7, .flo), (8, .flo), (9, .sole), (10, .sole), (11, .sole), (12, .flo)]) .nil)) (spec_l4Named_J0.S p) (leaf spec_l4Named_J0 spec_l4Named_O0) = spec_l4Named_B0 p) ∧ True), by kernel_rfl, fun x y => by kernel_rfl⟩
theorem spec_l4Named_s : spec_l4Named_D.Says Tryz.prog := spec_l4Named_w.says follows tabOk spec_l2Walk_e_ok
noncomputable def spec_l4Named_e : Env := more spec_l2Walk_e spec_l4Named_D
theorem spec_l4Named_e_ok : EnvOk Tryz.prog spec_l4Named_e := more_ok spec_l2Walk_e_ok spec_l4Named_s
/-! loop.example/g01128/spec.MapWay -/
abbrev spec_MapWay_E : Ve.End := ⟨[⟨10, (.own (.own .shr)), (.list (.list I)), none⟩, ⟨11, .shr, .bool, none⟩], []⟩
abbrev spec_MapWay_a : List ASh := [.val (.prod I (.list (.prod I I))), .val (.prod I (.list (.prod I I))), .val (.list I), .val (.list I), .val .bool]
abbrev spec_MapWay_o : List OSh := []
noncomputable def spec_MapWay : argP spec_MapWay_a → obP (extObs 0 spec_MapWay_o) → Option spec_MapWay_E.P
  | (g, h, a, b, lazy, ()), () => match spec_l10Good (g, h, ()) () with | some ((r, ()), ()) => (bif (!r) then (some ((([] : (List (List Int))), false, ()), ())) else (match spec_l10Map (g, h, a, lazy, ()) () with | some ((r2, ()), ()) => (bif (!r2) then (some ((([] : (List (List Int))), false, ()), ())) else (match spec_l10Map (g, h, b, lazy, ()) () with | some ((r3, ()), ()) => (bif (!r3) then (some ((([] : (List (List Int))), false, ()), ())) else (match spec_l10Space (g, h, lazy, ()) () with | some ((r4, r5, ()), ()) => (bif (!r5) then (some ((([] : (List (List Int))), false, ()), ())) else (match spec_l2Index ((r4.1, r4.2), a, ()) () with | some ((r6, ()), ()) => (match spec_l2Index ((r4.1, r4.2), b, ()) () with | some ((r7, ()), ()) => (match spec_l2Walk ((r4.1, r4.2), r6, r7, ()) () with | some ((r8, ()), ()) => (match spec_l4Named ((r4.1, r4.2), r8, ()) () with | some ((r9, ()), ()) => some ((r9, (decide ((0 : Int) < (List.length r8 : Int))), ()), ()) | none => none) | none => none) | none => none) | none => none)) | none => none)) | none => none)) | none => none)) | none => none
noncomputable def spec_MapWay_x : Cx := ⟨tab, spec_l4Named_e, fun _ _ => 0, fun _ => false, [(17, 0), (17, 1), (17, 2), (17, 3), (24, 0), (24, 1), (24, 2), (24, 3), (32, 0), (32, 1), (32, 2), (32, 3), (35, 0), (45, 0), (49, 0), (49, 1), (49, 2), (49, 3), (52, 0), (52, 1), (52, 2), (52, 3), (53, 0), (53, 1), (53, 2), (53, 3), (14, 0), (56, 0), (56, 1), (56, 2), (56, 3)], [(5, 0), (6, 0), (12, 0)]⟩
noncomputable def c12 : Code := bodyOf Tryz.f12
noncomputable def spec_MapWay_A : Ann := .seq .nil (.seq .nil (.seq .nil (.seq .nil (.seq (.draw [(0, .flo), (1, .flo), (2, .flo), (4, .flo), (5, .flo), (3, .sole), (6, .sole), (7, .sole), (8, .flo)]) .nil))))
noncomputable def spec_MapWay_D : Ve.Fn := ⟨12, spec_MapWay_a, spec_MapWay_o, spec_MapWay_E, spec_MapWay⟩
theorem spec_MapWay_w : Walk Tryz.prog spec_MapWay_x spec_MapWay_D Tryz.f12 c12 60 spec_MapWay_A :=
  ⟨⟨Tryz.func12, by kernel_rfl, by kernel_rfl, by kernel_rfl, by decide, by kernel_rfl, Nat.le_of_ble_eq_true (by kernel_rfl)⟩, by kernel_rfl, by kernel_rfl, by kernel_rfl, kcast (by kernel_rfl) trivial, by kernel_rfl, fun x y => by kernel_rfl⟩
theorem spec_MapWay_s : spec_MapWay_D.Says Tryz.prog := spec_MapWay_w.says follows tabOk spec_l4Named_e_ok
noncomputable def spec_MapWay_e : Env := more spec_l4Named_e spec_MapWay_D
theorem spec_MapWay_e_ok : EnvOk Tryz.prog spec_MapWay_e := more_ok spec_l4Named_e_ok spec_MapWay_s
/-! loop.example/g01128/impl.between -/
abbrev impl_between_E : Ve.End := ⟨[⟨6, .shr, .bool, none⟩], []⟩
abbrev impl_between_a : List ASh := [.val I, .val I, .val I]
abbrev impl_between_o : List OSh := []
noncomputable def impl_between : argP impl_between_a → obP (extObs 0 impl_between_o) → Option impl_between_E.P
  | (n, low, high, ()), () => bif (decide (low ≤ n)) then (some (((decide (n ≤ high)), ()), ())) else (some ((false, ()), ()))
noncomputable def impl_between_x : Cx := ⟨tab, spec_MapWay_e, fun _ _ => 0, fun _ => false, [], []⟩
noncomputable def c164 : Code := bodyOf Tryz.f164
noncomputable def impl_between_A : Ann := .nil
noncomputable def impl_between_D : Ve.Fn := ⟨164, impl_between_a, impl_between_o, impl_between_E, impl_between⟩
theorem impl_between_w : Walk Tryz.prog impl_between_x impl_between_D Tryz.f164 c164 15 impl_between_A :=
  ⟨⟨Tryz.func164, by kernel_rfl, by kernel_rfl, by kernel_rfl, by decide, by kernel_rfl, Nat.le_of_ble_eq_true (by kernel_rfl)⟩, by kernel_rfl, by kernel_rfl, by kernel_rfl, kcast (by kernel_rfl) trivial, by kernel_rfl, fun x y => by kernel_rfl⟩
theorem impl_between_s : impl_between_D.Says Tryz.prog := impl_between_w.says follows tabOk spec_MapWay_e_ok
noncomputable def impl_between_e : Env := more spec_MapWay_e impl_between_D
theorem impl_between_e_ok : EnvOk Tryz.prog impl_between_e := more_ok spec_MapWay_e_ok impl_between_s
/-! cmp.isNaN[int] -/
abbrev cmp_isNaN_int_E : Ve.End := ⟨[⟨2, .shr, .bool, none⟩], []⟩
abbrev cmp_isNaN_int_a : List ASh := [.val I]
abbrev cmp_isNaN_int_o : List OSh := []
noncomputable def cmp_isNaN_int : argP cmp_isNaN_int_a → obP (extObs 0 cmp_isNaN_int_o) → Option cmp_isNaN_int_E.P
  | (x, ()), () => some (((x != x), ()), ())
noncomputable def cmp_isNaN_int_x : Cx := ⟨tab, impl_between_e, fun _ _ => 0, fun _ => false, [], []⟩
noncomputable def c341 : Code := bodyOf Tryz.f341
noncomputable def cmp_isNaN_int_A : Ann := .nil
noncomputable def cmp_isNaN_int_D : Ve.Fn := ⟨341, cmp_isNaN_int_a, cmp_isNaN_int_o, cmp_isNaN_int_E, cmp_isNaN_int⟩
theorem cmp_isNaN_int_w : Walk Tryz.prog cmp_isNaN_int_x cmp_isNaN_int_D Tryz.f341 c341 6 cmp_isNaN_int_A :=
  ⟨⟨Tryz.func341, by kernel_rfl, by kernel_rfl, by kernel_rfl, by decide, by kernel_rfl, Nat.le_of_ble_eq_true (by kernel_rfl)⟩, by kernel_rfl, by kernel_rfl, by kernel_rfl, kcast (by kernel_rfl) trivial, by kernel_rfl, fun x y => by kernel_rfl⟩
theorem cmp_isNaN_int_s : cmp_isNaN_int_D.Says Tryz.prog := cmp_isNaN_int_w.says follows tabOk impl_between_e_ok
noncomputable def cmp_isNaN_int_e : Env := more impl_between_e cmp_isNaN_int_D
theorem cmp_isNaN_int_e_ok : EnvOk Tryz.prog cmp_isNaN_int_e := more_ok impl_between_e_ok cmp_isNaN_int_s
/-! cmp.Compare[int] -/
abbrev cmp_Compare_int_E : Ve.End := ⟨[⟨4, .shr, I, none⟩], []⟩
abbrev cmp_Compare_int_a : List ASh := [.val I, .val I]
abbrev cmp_Compare_int_o : List OSh := []
noncomputable def cmp_Compare_int : argP cmp_Compare_int_a → obP (extObs 0 cmp_Compare_int_o) → Option cmp_Compare_int_E.P
  | (x, y, ()), () => match cmp_isNaN_int (x, ()) () with | some ((r, ()), ()) => (match cmp_isNaN_int (y, ()) () with | some ((r2, ()), ()) => (bif r then (bif r2 then (some (((0 : Int), ()), ())) else (some (((-1 : Int), ()), ()))) else (bif r2 then (some (((1 : Int), ()), ())) else (bif (decide (x < y)) then (some (((-1 : Int), ()), ())) else (bif (decide (y < x)) then (some (((1 : Int), ()), ())) else (some (((0 : Int), ()), ())))))) | none => none) | none => none
noncomputable def cmp_Compare_int_x : Cx := ⟨tab, cmp_isNaN_int_e, fun _ _ => 0, fun _ => false, [(8, 0), (8, 1), (8, 2), (8, 3), (10, 0), (10, 1), (10, 2), (10, 3)], []⟩
noncomputable def c315 : Code := bodyOf Tryz.f315
noncomputable def cmp_Compare_int_A : Ann := .nil
noncomputable def cmp_Compare_int_D : Ve.Fn := ⟨315, cmp_Compare_int_a, cmp_Compare_int_o, cmp_Compare_int_E, cmp_Compare_int⟩
theorem cmp_Compare_int_w : Walk Tryz.prog cmp_Compare_int_x cmp_Compare_int_D Tryz.f315 c315 20 cmp_Compare_int_A :=
  ⟨⟨Tryz.func315, by kernel_rfl, by kernel_rfl, by kernel_rfl, by decide, by kernel_rfl, Nat.le_of_ble_eq_true (by kernel_rfl)⟩, by kernel_rfl, by kernel_rfl, by kernel_rfl, kcast (by kernel_rfl) trivial, by kernel_rfl, fun x y => by kernel_rfl⟩
theorem cmp_Compare_int_s : cmp_Compare_int_D.Says Tryz.prog := cmp_Compare_int_w.says follows tabOk cmp_isNaN_int_e_ok
noncomputable def cmp_Compare_int_e : Env := more cmp_isNaN_int_e cmp_Compare_int_D
theorem cmp_Compare_int_e_ok : EnvOk Tryz.prog cmp_Compare_int_e := more_ok cmp_isNaN_int_e_ok cmp_Compare_int_s
/-! cmp.Or[int] -/
abbrev cmp_Or_int_J0 : Tpl := ⟨[(3, .val I), (6, .val (.list I)), (7, .val I), (8, .val I)], [], []⟩
abbrev cmp_Or_int_J1 : Tpl := ⟨[(2, .val I)], [], []⟩
abbrev cmp_Or_int_J2 : Tpl := ⟨[(3, .val I)], [], []⟩
abbrev cmp_Or_int_E : Ve.End := ⟨[⟨2, .shr, I, none⟩], []⟩
abbrev cmp_Or_int_a : List ASh := [.val (.list I)]
abbrev cmp_Or_int_o : List OSh := []
abbrev cmp_Or_int_O0 : Out := .or .ret cmp_Or_int_J1 (.one (.ex 0) cmp_Or_int_J2)
noncomputable def cmp_Or_int_B0 : cmp_Or_int_J0.P → Option (cmp_Or_int_J0.P ⊕ cmp_Or_int_O0.P)
  | ((zero_, t6, t7, t8, ()), ()) => bif (decide (t8 < t7)) then (guardB (inb t8 (List.length t6)) (bif ((List.getD t6 (Int.toNat t8) (0 : Int)) != zero_) then (some (.inr (.inl (((List.getD t6 (Int.toNat t8) (0 : Int)), ()), ())))) else (some (.inl ((zero_, t6, t7, (w64 (t8 + (1 : Int))), ()), ()))))) else (some (.inr (.inr ((zero_, ()), ()))))
noncomputable def cmp_Or_int : argP cmp_Or_int_a → obP (extObs 0 cmp_Or_int_o) → Option cmp_Or_int_E.P
  | (vals, ()), () => match loopO cmp_Or_int_B0 (((0 : Int), vals, (List.length vals : Int), (0 : Int), ()), ()) with | some (.inl ((t2, ()), ())) => some ((t2, ()), ()) | some (.inr ((zero_, ()), ())) => some ((zero_, ()), ()) | none => none
noncomputable def cmp_Or_int_x : Cx := ⟨tab, cmp_Compare_int_e, fun _ _ => 0, fun _ => false, [], []⟩
noncomputable def c314 : Code := bodyOf Tryz.f314
noncomputable def cmp_Or_int_A : Ann := .seq .nil (.seq .nil (.seq (.seq .nil (.loop cmp_Or_int_J0 cmp_Or_int_O0 cmp_Or_int_B0 .nil)) .nil))
theorem cmp_Or_int_r0 (p : cmp_Or_int_J0.P) : run cmp_Or_int_x (subc [1, 1, 0, 1, 0, 0] c314) .nil (cmp_Or_int_J0.S p) (leaf cmp_Or_int_J0 cmp_Or_int_O0) = cmp_Or_int_B0 p := by kernel_rfl
noncomputable def cmp_Or_int_D : Ve.Fn := ⟨314, cmp_Or_int_a, cmp_Or_int_o, cmp_Or_int_E, cmp_Or_int⟩
theorem cmp_Or_int_w : Walk Tryz.prog cmp_Or_int_x cmp_Or_int_D Tryz.f314 c314 18 cmp_Or_int_A :=
  ⟨⟨Tryz.func314, by kernel_rfl, by kernel_rfl, by kernel_rfl, by decide, by kernel_rfl, Nat.le_of_ble_eq_true (by kernel_rfl)⟩, by kernel_rfl, by kernel_rfl, by kernel_rfl, kcast (by kernel_rfl) (⟨cmp_Or_int_r0, trivial⟩ : (∀ p, run cmp_Or_int_x (subc [1, 1, 0, 1, 0, 0] c314) .nil (cmp_Or_int_J0.S p) (leaf cmp_Or_int_J0 cmp_Or_int_O0) = cmp_Or_int_B0 p) ∧ True), by kernel_rfl, fun x y => by kernel_rfl⟩
theorem cmp_Or_int_s : cmp_Or_int_D.Says Tryz.prog := cmp_Or_int_w.says follows tabOk cmp_Compare_int_e_ok
noncomputable def cmp_Or_int_e : Env := more cmp_Compare_int_e cmp_Or_int_D
theorem cmp_Or_int_e_ok : EnvOk Tryz.prog cmp_Or_int_e := more_ok cmp_Compare_int_e_ok cmp_Or_int_s
/-! loop.example/g01128/impl.comparePairs -/
abbrev impl_comparePairs_E : Ve.End := ⟨[⟨4, .shr, I, none⟩], []⟩
abbrev impl_comparePairs_a : List ASh := [.val (.prod I I), .val (.prod I I)]
abbrev impl_comparePairs_o : List OSh := []
noncomputable def impl_comparePairs : argP impl_comparePairs_a → obP (extObs 0 impl_comparePairs_o) → Option impl_comparePairs_E.P
  | (a, b, ()), () => match cmp_Compare_int (a.1, b.1, ()) () with | some ((r, ()), ()) => (match cmp_Compare_int (a.2, b.2, ()) () with | some ((r2, ()), ()) => (match cmp_Or_int ([r, r2], ()) () with | some ((r3, ()), ()) => some ((r3, ()), ()) | none => none) | none => none) | none => none
noncomputable def impl_comparePairs_x : Cx := ⟨tab, cmp_Or_int_e, fun _ _ => 0, fun _ => false, [(9, 0), (9, 1), (9, 2), (9, 3), (14, 0), (14, 1), (14, 2), (14, 3), (15, 0), (16, 0), (16, 1), (16, 2), (16, 3)], [(2, 0), (3, 0)]⟩
noncomputable def c257 : Code := bodyOf Tryz.f257
noncomputable def impl_comparePairs_A : Ann := .seq .nil (.seq (.draw [(0, .flo), (1, .flo), (2, .flo), (3, .flo), (5, .flo), (6, .flo), (7, .flo), (8, .flo), (4, .sole), (9, .sole), (10, .sole), (11, .sole), (12, .flo)]) .nil)
noncomputable def impl_comparePairs_D : Ve.Fn := ⟨257, impl_comparePairs_a, impl_comparePairs_o, impl_comparePairs_E, impl_comparePairs⟩
theorem impl_comparePairs_w : Walk Tryz.prog impl_comparePairs_x impl_comparePairs_D Tryz.f257 c257 17 impl_comparePairs_A :=
  ⟨⟨Tryz.func257, by kernel_rfl, by kernel_rfl, by kernel_rfl, by decide, by kernel_rfl, Nat.le_of_ble_eq_true (by kernel_rfl)⟩, by kernel_rfl, by kernel_rfl, by kernel_rfl, kcast (by kernel_rfl) trivial, by kernel_rfl, fun x y => by kernel_rfl⟩
theorem impl_comparePairs_s : impl_comparePairs_D.Says Tryz.prog := impl_comparePairs_w.says follows tabOk cmp_Or_int_e_ok
noncomputable def impl_comparePairs_e : Env := more cmp_Or_int_e impl_comparePairs_D
theorem impl_comparePairs_e_ok : EnvOk Tryz.prog impl_comparePairs_e := more_ok cmp_Or_int_e_ok impl_comparePairs_s
/-! loop.example/g01128/impl.isPairs -/
abbrev impl_isPairs_J0 : Tpl := ⟨[(0, .val (.list (.prod I I))), (1, .val I), (7, .val (.list (.prod I I))), (8, .val I), (9, .val I)], [], []⟩
abbrev impl_isPairs_J1 : Tpl := ⟨[(4, .val .bool)], [], []⟩
abbrev impl_isPairs_J2 : Tpl := ⟨[], [], []⟩
abbrev impl_isPairs_E : Ve.End := ⟨[⟨4, .shr, .bool, none⟩], []⟩
abbrev impl_isPairs_a : List ASh := [.val (.list (.prod I I)), .val I]
abbrev impl_isPairs_o : List OSh := []
abbrev impl_isPairs_O0 : Out := .or .ret impl_isPairs_J1 (.one (.ex 0) impl_isPairs_J2)
noncomputable def impl_isPairs_B0 : impl_isPairs_J0.P → Option (impl_isPairs_J0.P ⊕ impl_isPairs_O0.P)
  | ((list, below, t7, t8, t9, ()), ()) => bif (decide (t9 < t8)) then (guardB (inb t9 (List.length t7)) (bif (decide (((List.getD t7 (Int.toNat t9) ((0 : Int), (0 : Int))).1) < (0 : Int))) then (some (.inr (.inl ((false, ()), ())))) else (bif (decide (((List.getD t7 (Int.toNat t9) ((0 : Int), (0 : Int))).2) ≤ ((List.getD t7 (Int.toNat t9) ((0 : Int), (0 : Int))).1))) then (some (.inr (.inl ((false, ()), ())))) else (bif (decide (below ≤ ((List.getD t7 (Int.toNat t9) ((0 : Int), (0 : Int))).2))) then (some (.inr (.inl ((false, ()), ())))) else (bif (decide ((0 : Int) < t9)) then (guardB (inb (w64 (t9 - (1 : Int))) (List.length list)) (match impl_comparePairs ((List.getD list (Int.toNat (w64 (t9 - (1 : Int)))) ((0 : Int), (0 : Int))), (List.getD t7 (Int.toNat t9) ((0 : Int), (0 : Int))), ()) () with | some ((r, ()), ()) => (bif (decide ((0 : Int) ≤ r)) then (some (.inr (.inl ((false, ()), ())))) else (some (.inl ((list, below, t7, t8, (w64 (t9 + (1 : Int))), ()), ())))) | none => none)) else (some (.inl ((list, below, t7, t8, (w64 (t9 + (1 : Int))), ()), ())))))))) else (some (.inr (.inr ((), ()))))
noncomputable def impl_isPairs : argP impl_isPairs_a → obP (extObs 0 impl_isPairs_o) → Option impl_isPairs_E.P
  | (list, below, ()), () => match loopO impl_isPairs_B0 ((list, below, list, (List.length list : Int), (0 : Int), ()), ()) with | some (.inl ((t4, ()), ())) => some ((t4, ()), ()) | some (.inr ((), ())) => some ((true, ()), ()) | none => none
noncomputable def impl_isPairs_x : Cx := ⟨tab, impl_comparePairs_e, fun _ _ => 0, fun _ => false, [(40, 0), (40, 1), (40, 2), (40, 3)], [(6, 0)]⟩
noncomputable def c264 : Code := bodyOf Tryz.f264
noncomputable def impl_isPairs_A : Ann := .seq .nil (.seq (.seq .nil (.loop impl_isPairs_J0 impl_isPairs_O0 impl_isPairs_B0 (.seq .nil (.seq .nil (.seq (.seq .nil (.seq (.draw [(0, .flo), (1, .flo), (2, .flo), (3, .flo), (4, .flo), (6, .flo), (5, .qui), (7, .qui), (8, .flo), (9, .flo), (10, .flo), (11, .flo), (13, .flo), (12, .qui), (14, .flo), (15, .flo), (16, .flo), (17, .flo), (18, .flo), (19, .flo), (20, .flo), (21, .flo), (22, .flo), (23, .flo), (24, .qui), (25, .qui), (26, .sole), (27, .flo), (28, .flo), (29, .flo)]) .nil)) .nil))))) .nil)
theorem impl_isPairs_r0 (p : impl_isPairs_J0.P) : run impl_isPairs_x (subc [1, 0, 1, 0, 0] c264) (.seq .nil (.seq .nil (.seq (.seq .nil (.seq (.draw [(0, .flo), (1, .flo), (2, .flo), (3, .flo), (4, .flo), (6, .flo), (5, .qui), (7, .qui), (8, .flo), (9, .flo), (10, .flo), (11, .flo), (13, .flo), (12, .qui), (14, .flo), (15, .flo), (16, .flo), (17, .flo), (18, .flo), (19, .flo), (20, .flo), (21, .flo), (22, .flo), (23, .flo), (24, .qui), (25, .qui), (26, .sole), (27, .flo), (28, .flo), (29, .flo)]) .nil)) .nil))) (impl_isPairs_J0.S p) (leaf impl_isPairs_J0 impl_isPairs_O0) = impl_isPairs_B0 p := by kernel_rfl
noncomputable def impl_isPairs_D : Ve.Fn := ⟨264, impl_isPairs_a, impl_isPairs_o, impl_isPairs_E, impl_isPairs⟩
theorem impl_isPairs_w : Walk Tryz.prog impl_isPairs_x impl_isPairs_D Tryz.f264 c264 45 impl_isPairs_A :=
  ⟨⟨Tryz.func264, by kernel_rfl, by kernel_rfl, by kernel_rfl, by decide, by kernel_rfl, Nat.le_of_ble_eq_true (by kernel_rfl)⟩, by kernel_rfl, by kernel_rfl, by kernel_rfl, kcast (by kernel_rfl) (⟨impl_isPairs_r0, trivial⟩ : (∀ p, run impl_isPairs_x (subc [1, 0, 1, 0, 0] c264) (.seq .nil (.seq .nil (.seq (.seq .nil (.seq (.draw [(0, .flo), (1, .flo), (2, .flo), (3, .flo), (4, .flo), (6, .flo), (5, .qui), (7, .qui), (8, .flo), (9, .flo), (10, .flo), (11, .flo), (13, .flo), (12, .qui), (14, .flo), (15, .flo), (16, .flo), (17, .flo), (18, .flo), (19, .flo), (20, .flo), (21, .flo), (22, .flo), (23, .flo), (24, .qui), (25, .qui), (26, .sole), (27, .flo), (28, .flo), (29, .flo)]) .nil)) .nil))) (impl_isPairs_J0.S p) (leaf impl_isPairs_J0 impl_isPairs_O0) = impl_isPairs_B0 p) ∧ True), by kernel_rfl, fun x y => by kernel_rfl⟩
theorem impl_isPairs_s : impl_isPairs_D.Says Tryz.prog := impl_isPairs_w.says follows tabOk impl_comparePairs_e_ok
noncomputable def impl_isPairs_e : Env := more impl_comparePairs_e impl_isPairs_D
theorem impl_isPairs_e_ok : EnvOk Tryz.prog impl_isPairs_e := more_ok impl_comparePairs_e_ok impl_isPairs_s
/-! loop.example/g01128/impl.IsGraph -/
abbrev impl_IsGraph_E : Ve.End := ⟨[⟨2, .shr, .bool, none⟩], []⟩
abbrev impl_IsGraph_a : List ASh := [.val (.prod I (.list (.prod I I)))]
abbrev impl_IsGraph_o : List OSh := []
noncomputable def impl_IsGraph : argP impl_IsGraph_a → obP (extObs 0 impl_IsGraph_o) → Option impl_IsGraph_E.P
  | (g, ()), () => match impl_between (g.1, (0 : Int), (8 : Int), ()) () with | some ((r, ()), ()) => (bif r then (match impl_isPairs (g.2, g.1, ()) () with | some ((r2, ()), ()) => some ((r2, ()), ()) | none => none) else (some ((false, ()), ()))) | none => none
noncomputable def impl_IsGraph_x : Cx := ⟨tab, impl_isPairs_e, fun _ _ => 0, fun _ => false, [(5, 0), (5, 1), (5, 2), (5, 3), (11, 0), (11, 1), (11, 2), (11, 3)], [(1, 0)]⟩
noncomputable def c170 : Code := bodyOf Tryz.f170
noncomputable def impl_IsGraph_A : Ann := .nil
noncomputable def impl_IsGraph_D : Ve.Fn := ⟨170, impl_IsGraph_a, impl_IsGraph_o, impl_IsGraph_E, impl_IsGraph⟩
theorem impl_IsGraph_w : Walk Tryz.prog impl_IsGraph_x impl_IsGraph_D Tryz.f170 c170 13 impl_IsGraph_A :=
  ⟨⟨Tryz.func170, by kernel_rfl, by kernel_rfl, by kernel_rfl, by decide, by kernel_rfl, Nat.le_of_ble_eq_true (by kernel_rfl)⟩, by kernel_rfl, by kernel_rfl, by kernel_rfl, kcast (by kernel_rfl) trivial, by kernel_rfl, fun x y => by kernel_rfl⟩
theorem impl_IsGraph_s : impl_IsGraph_D.Says Tryz.prog := impl_IsGraph_w.says follows tabOk impl_isPairs_e_ok
noncomputable def impl_IsGraph_e : Env := more impl_isPairs_e impl_IsGraph_D
theorem impl_IsGraph_e_ok : EnvOk Tryz.prog impl_IsGraph_e := more_ok impl_isPairs_e_ok impl_IsGraph_s
/-! loop.example/g01128/impl.isMapCase -/
abbrev impl_isMapCase_E : Ve.End := ⟨[⟨4, .shr, .bool, none⟩], []⟩
abbrev impl_isMapCase_a : List ASh := [.val (.prod I (.list (.prod I I))), .val (.prod I (.list (.prod I I)))]
abbrev impl_isMapCase_o : List OSh := []
noncomputable def impl_isMapCase : argP impl_isMapCase_a → obP (extObs 0 impl_isMapCase_o) → Option impl_isMapCase_E.P
  | (g, h, ()), () => match impl_IsGraph (g, ()) () with | some ((r, ()), ()) => (bif r then (match impl_IsGraph (h, ()) () with | some ((r2, ()), ()) => (bif r2 then (some (((decide (g.1 ≤ (6 : Int))), ()), ())) else (some ((false, ()), ()))) | none => none) else (some ((false, ()), ()))) | none => none
noncomputable def impl_isMapCase_x : Cx := ⟨tab, impl_IsGraph_e, fun _ _ => 0, fun _ => false, [(6, 0), (6, 1), (6, 2), (6, 3), (9, 0), (9, 1), (9, 2), (9, 3)], [(2, 0), (3, 0)]⟩
noncomputable def c145 : Code := bodyOf Tryz.f145
noncomputable def impl_isMapCase_A : Ann := .nil
noncomputable def impl_isMapCase_D : Ve.Fn := ⟨145, impl_isMapCase_a, impl_isMapCase_o, impl_isMapCase_E, impl_isMapCase⟩
theorem impl_isMapCase_w : Walk Tryz.prog impl_isMapCase_x impl_isMapCase_D Tryz.f145 c145 16 impl_isMapCase_A :=
  ⟨⟨Tryz.func145, by kernel_rfl, by kernel_rfl, by kernel_rfl, by decide, by kernel_rfl, Nat.le_of_ble_eq_true (by kernel_rfl)⟩, by kernel_rfl, by kernel_rfl, by kernel_rfl, kcast (by kernel_rfl) trivial, by kernel_rfl, fun x y => by kernel_rfl⟩
theorem impl_isMapCase_s : impl_isMapCase_D.Says Tryz.prog := impl_isMapCase_w.says follows tabOk impl_IsGraph_e_ok
noncomputable def impl_isMapCase_e : Env := more impl_IsGraph_e impl_isMapCase_D
theorem impl_isMapCase_e_ok : EnvOk Tryz.prog impl_isMapCase_e := more_ok impl_IsGraph_e_ok impl_isMapCase_s
noncomputable def slices_Clone_int_int_e : Env := more impl_isMapCase_e (cloneFn 148)
theorem slices_Clone_int_int_e_ok : EnvOk Tryz.prog slices_Clone_int_int_e := more_ok impl_isMapCase_e_ok clone_s
noncomputable abbrev slices_Clone_int_int := (cloneFn 148).F
/-! loop.example/g01128/impl.MapSpace$1 -/
abbrev impl_MapSpace_1_va0_b2_J0 : Tpl := ⟨[(1, .ptr (1000000, 0))], [((1000000, 0), .box (.own (.own .shr)) (.list (.list I)))], []⟩
abbrev impl_MapSpace_1_va0_b2_J1 : Tpl := ⟨[(1, .ptr (1000000, 0)), (5, .val (.list I))], [((1000000, 0), .box (.own (.own .shr)) (.list (.list I)))], []⟩
abbrev impl_MapSpace_1_va0_b2_E : Ve.End := ⟨[⟨3, .shr, .bool, none⟩], [.box (.own (.own .shr)) (.list (.list I))]⟩
abbrev impl_MapSpace_1_va0_b2_a : List ASh := [.val (.list I), .adr 0]
abbrev impl_MapSpace_1_va0_b2_o : List OSh := [.box (.own (.own .shr)) (.list (.list I))]
noncomputable def impl_MapSpace_1_va0_b2_D0 : impl_MapSpace_1_va0_b2_J1.P → Option impl_MapSpace_1_va0_b2_J0.P
  | ((t5, ()), (o0, ())) => match slices_Clone_int_int (t5, ()) () with | some ((r, ()), ()) => guardB (decide ((List.length o0 + List.length [r]) * 24 ≤ 70368744177664)) (some ((), ((o0 ++ [r]), ()))) | none => none
noncomputable def impl_MapSpace_1_va0_b2_T0 : DT impl_MapSpace_1_va0_b2_J0 := .node impl_MapSpace_1_va0_b2_J1 impl_MapSpace_1_va0_b2_D0 (.br [(0, .sole), (2, .sole), (3, .sole), (4, .sole), (5, .sole)] .fin (.br [(2, .sole), (0, .qui), (3, .sole), (4, .sole), (5, .sole)] .fin .nobr))
noncomputable def impl_MapSpace_1_va0_b2 : argP impl_MapSpace_1_va0_b2_a → obP (extObs 0 impl_MapSpace_1_va0_b2_o) → Option impl_MapSpace_1_va0_b2_E.P
  | (m, ()), (o0, ()) => match impl_MapSpace_1_va0_b2_D0 ((m, ()), (o0, ())) with | some ((), (o0_2, ())) => some (((decide ((List.length o0_2 : Int) ≤ (300 : Int))), ()), (o0_2, ())) | none => none
noncomputable def impl_MapSpace_1_va0_b2_x : Cx := ⟨tab, slices_Clone_int_int_e, fun _ _ => 0, fun _ => false, [], []⟩
noncomputable def c147 : Code := bodyOf Tryz.f147
noncomputable def impl_MapSpace_1_va0_b2_A : Ann := .seq .nil (.seq (.draws [(1, .flo)] impl_MapSpace_1_va0_b2_J0 impl_MapSpace_1_va0_b2_T0) .nil)
theorem impl_MapSpace_1_va0_b2_D0b0 (p : impl_MapSpace_1_va0_b2_J1.P) : runDrawn impl_MapSpace_1_va0_b2_x (opsOf (subc [1, 0] c147)) [(0, .sole), (2, .sole), (3, .sole), (4, .sole), (5, .sole)] (impl_MapSpace_1_va0_b2_J1.S p) (endT impl_MapSpace_1_va0_b2_x (.fin : DT impl_MapSpace_1_va0_b2_J0)) = impl_MapSpace_1_va0_b2_D0 p := by kernel_rfl
theorem impl_MapSpace_1_va0_b2_D0b1 (p : impl_MapSpace_1_va0_b2_J1.P) : runDrawn impl_MapSpace_1_va0_b2_x (opsOf (subc [1, 0] c147)) [(2, .sole), (0, .qui), (3, .sole), (4, .sole), (5, .sole)] (impl_MapSpace_1_va0_b2_J1.S p) (endT impl_MapSpace_1_va0_b2_x (.fin : DT impl_MapSpace_1_va0_b2_J0)) = impl_MapSpace_1_va0_b2_D0 p := by kernel_rfl
noncomputable def impl_MapSpace_1_va0_b2_D : Ve.Fn := ⟨147, impl_MapSpace_1_va0_b2_a, impl_MapSpace_1_va0_b2_o, impl_MapSpace_1_va0_b2_E, impl_MapSpace_1_va0_b2⟩
theorem impl_MapSpace_1_va0_b2_w : Walk Tryz.prog impl_MapSpace_1_va0_b2_x impl_MapSpace_1_va0_b2_D Tryz.f147 c147 12 impl_MapSpace_1_va0_b2_A :=
  ⟨⟨Tryz.func147, by kernel_rfl, by kernel_rfl, by kernel_rfl, by decide, by kernel_rfl, Nat.le_of_ble_eq_true (by kernel_rfl)⟩, by kernel_rfl, by kernel_rfl, by kernel_rfl, kcast (by kernel_rfl) (⟨impl_MapSpace_1_va0_b2_D0b0, impl_MapSpace_1_va0_b2_D0b1, trivial⟩ : (∀ p, runDrawn impl_MapSpace_1_va0_b2_x (opsOf (subc [1, 0] c147)) [(0, .sole), (2, .sole), (3, .sole), (4, .sole), (5, .sole)] (impl_MapSpace_1_va0_b2_J1.S p) (endT impl_MapSpace_1_va0_b2_x (.fin : DT impl_MapSpace_1_va0_b2_J0)) = impl_MapSpace_1_va0_b2_D0 p) ∧ (∀ p, runDrawn impl_MapSpace_1_va0_b2_x (opsOf (subc [1, 0] c147)) [(2, .sole), (0, .qui), (3, .sole), (4, .sole), (5, .sole)] (impl_MapSpace_1_va0_b2_J1.S p) (endT impl_MapSpace_1_va0_b2_x (.fin : DT impl_MapSpace_1_va0_b2_J0)) = impl_MapSpace_1_va0_b2_D0 p) ∧ True), by kernel_rfl, fun x y => by kernel_rfl⟩
theorem impl_MapSpace_1_va0_b2_s : impl_MapSpace_1_va0_b2_D.Says Tryz.prog := impl_MapSpace_1_va0_b2_w.says follows tabOk slices_Clone_int_int_e_ok
noncomputable def impl_MapSpace_1_va0_b2_e : Env := more slices_Clone_int_int_e impl_MapSpace_1_va0_b2_D
theorem impl_MapSpace_1_va0_b2_e_ok : EnvOk Tryz.prog impl_MapSpace_1_va0_b2_e := more_ok slices_Clone_int_int_e_ok impl_MapSpace_1_va0_b2_s
/-! loop.example/g01128/impl.pair -/
abbrev impl_pair_E : Ve.End := ⟨[⟨4, .shr, (.prod I I), some 72⟩], []⟩
abbrev impl_pair_a : List ASh := [.val I, .val I]
abbrev impl_pair_o : List OSh := []
noncomputable def impl_pair : argP impl_pair_a → obP (extObs 0 impl_pair_o) → Option impl_pair_E.P
  | (a, b, ()), () => some ((((bif decide (b < a) then b else a), (bif decide (a < b) then b else a)), ()), ())
noncomputable def impl_pair_x : Cx := ⟨tab, impl_MapSpace_1_va0_b2_e, fun _ _ => 0, fun _ => false, [], []⟩
noncomputable def c255 : Code := bodyOf Tryz.f255
noncomputable def impl_pair_A : Ann := .nil
noncomputable def impl_pair_D : Ve.Fn := ⟨255, impl_pair_a, impl_pair_o, impl_pair_E, impl_pair⟩
theorem impl_pair_w : Walk Tryz.prog impl_pair_x impl_pair_D Tryz.f255 c255 12 impl_pair_A :=
  ⟨⟨Tryz.func255, by kernel_rfl, by kernel_rfl, by kernel_rfl, by decide, by kernel_rfl, Nat.le_of_ble_eq_true (by kernel_rfl)⟩, by kernel_rfl, by kernel_rfl, by kernel_rfl, kcast (by kernel_rfl) trivial, by kernel_rfl, fun x y => by kernel_rfl⟩
theorem impl_pair_s : impl_pair_D.Says Tryz.prog := impl_pair_w.says follows tabOk impl_MapSpace_1_va0_b2_e_ok
noncomputable def impl_pair_e : Env := more impl_MapSpace_1_va0_b2_e impl_pair_D
theorem impl_pair_e_ok : EnvOk Tryz.prog impl_pair_e := more_ok impl_MapSpace_1_va0_b2_e_ok impl_pair_s
/-! slices.Index[[][2]int,[2]int] -/
abbrev slices_Index_2_int_2_int_J0 : Tpl := ⟨[(0, .val (.list (.prod I I))), (3, .cst (.prod I I)), (7, .val I), (8, .val I)], [], []⟩
abbrev slices_Index_2_int_2_int_J1 : Tpl := ⟨[(4, .val I)], [], []⟩
abbrev slices_Index_2_int_2_int_J2 : Tpl := ⟨[], [], []⟩
abbrev slices_Index_2_int_2_int_E : Ve.End := ⟨[⟨4, .shr, I, none⟩], []⟩
abbrev slices_Index_2_int_2_int_a : List ASh := [.val (.list (.prod I I)), .val (.prod I I)]
abbrev slices_Index_2_int_2_int_o : List OSh := []
abbrev slices_Index_2_int_2_int_O0 : Out := .or .ret slices_Index_2_int_2_int_J1 (.one (.ex 0) slices_Index_2_int_2_int_J2)
noncomputable def slices_Index_2_int_2_int_B0 : slices_Index_2_int_2_int_J0.P → Option (slices_Index_2_int_2_int_J0.P ⊕ slices_Index_2_int_2_int_O0.P)
  | ((s, v, t7, t8, ()), ()) => bif (decide (t8 < t7)) then (guardB (inb t8 (List.length s)) (bif ((v.1 == ((List.getD s (Int.toNat t8) ((0 : Int), (0 : Int))).1)) && (v.2 == ((List.getD s (Int.toNat t8) ((0 : Int), (0 : Int))).2))) then (some (.inr (.inl ((t8, ()), ())))) else (some (.inl ((s, v, t7, (w64 (t8 + (1 : Int))), ()), ()))))) else (some (.inr (.inr ((), ()))))
noncomputable def slices_Index_2_int_2_int : argP slices_Index_2_int_2_int_a → obP (extObs 0 slices_Index_2_int_2_int_o) → Option slices_Index_2_int_2_int_E.P
  | (s, v, ()), () => match loopO slices_Index_2_int_2_int_B0 ((s, v, (List.length s : Int), (0 : Int), ()), ()) with | some (.inl ((t4, ()), ())) => some ((t4, ()), ()) | some (.inr ((), ())) => some (((-1 : Int), ()), ()) | none => none
noncomputable def slices_Index_2_int_2_int_x : Cx := ⟨tab, impl_pair_e, fun _ _ => 0, fun _ => false, [], [(3, 0)]⟩
noncomputable def c350 : Code := bodyOf Tryz.f350
noncomputable def slices_Index_2_int_2_int_A : Ann := .seq .nil (.seq (.seq .nil (.loop slices_Index_2_int_2_int_J0 slices_Index_2_int_2_int_O0 slices_Index_2_int_2_int_B0 (.seq .nil (.seq .nil (.seq (.seq .nil (.seq (.draw [(0, .flo), (1, .flo), (2, .flo), (3, .flo), (4, .flo), (5, .flo)]) .nil)) .nil))))) .nil)
theorem slices_Index_2_int_2_int_r0 (p : slices_Index_2_int_2_int_J0.P) : run slices_Index_2_int_2_int_x (subc [1, 0, 1, 0, 0] c350) (.seq .nil (.seq .nil (.seq (.seq .nil (.seq (.draw [(0, .flo), (1, .flo), (2, .flo), (3, .flo), (4, .flo), (5, .flo)]) .nil)) .nil))) (slices_Index_2_int_2_int_J0.S p) (leaf slices_Index_2_int_2_int_J0 slices_Index_2_int_2_int_O0) = slices_Index_2_int_2_int_B0 p := by kernel_rfl
noncomputable def slices_Index_2_int_2_int_D : Ve.Fn := ⟨350, slices_Index_2_int_2_int_a, slices_Index_2_int_2_int_o, slices_Index_2_int_2_int_E, slices_Index_2_int_2_int⟩
theorem slices_Index_2_int_2_int_w : Walk Tryz.prog slices_Index_2_int_2_int_x slices_Index_2_int_2_int_D Tryz.f350 c350 19 slices_Index_2_int_2_int_A :=
  ⟨⟨Tryz.func350, by kernel_rfl, by kernel_rfl, by kernel_rfl, by decide, by kernel_rfl, Nat.le_of_ble_eq_true (by kernel_rfl)⟩, by kernel_rfl, by kernel_rfl, by kernel_rfl, kcast (by kernel_rfl) (⟨slices_Index_2_int_2_int_r0, trivial⟩ : (∀ p, run slices_Index_2_int_2_int_x (subc [1, 0, 1, 0, 0] c350) (.seq .nil (.seq .nil (.seq (.seq .nil (.seq (.draw [(0, .flo), (1, .flo), (2, .flo), (3, .flo), (4, .flo), (5, .flo)]) .nil)) .nil))) (slices_Index_2_int_2_int_J0.S p) (leaf slices_Index_2_int_2_int_J0 slices_Index_2_int_2_int_O0) = slices_Index_2_int_2_int_B0 p) ∧ True), by kernel_rfl, fun x y => by kernel_rfl⟩
theorem slices_Index_2_int_2_int_s : slices_Index_2_int_2_int_D.Says Tryz.prog := slices_Index_2_int_2_int_w.says follows tabOk impl_pair_e_ok
noncomputable def slices_Index_2_int_2_int_e : Env := more impl_pair_e slices_Index_2_int_2_int_D
theorem slices_Index_2_int_2_int_e_ok : EnvOk Tryz.prog slices_Index_2_int_2_int_e := more_ok impl_pair_e_ok slices_Index_2_int_2_int_s
/-! slices.Contains[[][2]int,[2]int] -/
abbrev slices_Contains_2_int_2_int_E : Ve.End := ⟨[⟨4, .shr, .bool, none⟩], []⟩
abbrev slices_Contains_2_int_2_int_a : List ASh := [.val (.list (.prod I I)), .val (.prod I I)]
abbrev slices_Contains_2_int_2_int_o : List OSh := []
noncomputable def slices_Contains_2_int_2_int : argP slices_Contains_2_int_2_int_a → obP (extObs 0 slices_Contains_2_int_2_int_o) → Option slices_Contains_2_int_2_int_E.P
  | (s, v, ()), () => match slices_Index_2_int_2_int (s, v, ()) () with | some ((r, ()), ()) => some (((decide ((0 : Int) ≤ r)), ()), ()) | none => none
noncomputable def slices_Contains_2_int_2_int_x : Cx := ⟨tab, slices_Index_2_int_2_int_e, fun _ _ => 0, fun _ => false, [(7, 0), (7, 1), (7, 2), (7, 3)], [(3, 0)]⟩
noncomputable def c321 : Code := bodyOf Tryz.f321
noncomputable def slices_Contains_2_int_2_int_A : Ann := .nil
noncomputable def slices_Contains_2_int_2_int_D : Ve.Fn := ⟨321, slices_Contains_2_int_2_int_a, slices_Contains_2_int_2_int_o, slices_Contains_2_int_2_int_E, slices_Contains_2_int_2_int⟩
theorem slices_Contains_2_int_2_int_w : Walk Tryz.prog slices_Contains_2_int_2_int_x slices_Contains_2_int_2_int_D Tryz.f321 c321 9 slices_Contains_2_int_2_int_A :=
  ⟨⟨Tryz.func321, by kernel_rfl, by kernel_rfl, by kernel_rfl, by decide, by kernel_rfl, Nat.le_of_ble_eq_true (by kernel_rfl)⟩, by kernel_rfl, by kernel_rfl, by kernel_rfl, kcast (by kernel_rfl) trivial, by kernel_rfl, fun x y => by kernel_rfl⟩
theorem slices_Contains_2_int_2_int_s : slices_Contains_2_int_2_int_D.Says Tryz.prog := slices_Contains_2_int_2_int_w.says follows tabOk slices_Index_2_int_2_int_e_ok
noncomputable def slices_Contains_2_int_2_int_e : Env := more slices_Index_2_int_2_int_e slices_Contains_2_int_2_int_D
theorem slices_Contains_2_int_2_int_e_ok : EnvOk Tryz.prog slices_Contains_2_int_2_int_e := more_ok slices_Index_2_int_2_int_e_ok slices_Contains_2_int_2_int_s
/-! (loop.example/g01128/impl.Graph).has -/
abbrev impl_Graph_has_E : Ve.End := ⟨[⟨6, .shr, .bool, none⟩], []⟩
abbrev impl_Graph_has_a : List ASh := [.val (.prod I (.list (.prod I I))), .val I, .val I]
abbrev impl_Graph_has_o : List OSh := []
noncomputable def impl_Graph_has : argP impl_Graph_has_a → obP (extObs 0 impl_Graph_has_o) → Option impl_Graph_has_E.P
  | (g, a, b, ()), () => match impl_pair (a, b, ()) () with | some ((r, ()), ()) => (match slices_Contains_2_int_2_int (g.2, r, ()) () with | some ((r2, ()), ()) => some ((r2, ()), ()) | none => none) | none => none
noncomputable def impl_Graph_has_x : Cx := ⟨tab, slices_Contains_2_int_2_int_e, fun _ _ => 0, fun _ => false, [(11, 0), (11, 1), (11, 2), (11, 3), (12, 0), (12, 1), (12, 2), (12, 3)], [(3, 0)]⟩
noncomputable def c279 : Code := bodyOf Tryz.f279
noncomputable def impl_Graph_has_A : Ann := .seq .nil (.seq (.draw [(0, .flo), (1, .flo), (2, .flo), (3, .flo), (4, .sole), (5, .sole), (6, .flo)]) .nil)
noncomputable def impl_Graph_has_D : Ve.Fn := ⟨279, impl_Graph_has_a, impl_Graph_has_o, impl_Graph_has_E, impl_Graph_has⟩
theorem impl_Graph_has_w : Walk Tryz.prog impl_Graph_has_x impl_Graph_has_D Tryz.f279 c279 13 impl_Graph_has_A :=
  ⟨⟨Tryz.func279, by kernel_rfl, by kernel_rfl, by kernel_rfl, by decide, by kernel_rfl, Nat.le_of_ble_eq_true (by kernel_rfl)⟩, by kernel_rfl, by kernel_rfl, by kernel_rfl, kcast (by kernel_rfl) trivial, by kernel_rfl, fun x y => by kernel_rfl⟩
theorem impl_Graph_has_s : impl_Graph_has_D.Says Tryz.prog := impl_Graph_has_w.says follows tabOk slices_Contains_2_int_2_int_e_ok
noncomputable def impl_Graph_has_e : Env := more slices_Contains_2_int_2_int_e impl_Graph_has_D
theorem impl_Graph_has_e_ok : EnvOk Tryz.prog impl_Graph_has_e := more_ok slices_Contains_2_int_2_int_e_ok impl_Graph_has_s
/-! (loop.example/g01128/impl.Graph).neighbors -/
abbrev impl_Graph_neighbors_J0 : Tpl := ⟨[(1, .val I), (2, .cst (.prod I (.list (.prod I I)))), (5, .own .shr I), (9, .val I), (10, .val I)], [], []⟩
abbrev impl_Graph_neighbors_J1 : Tpl := ⟨[(5, .own .shr I)], [], []⟩
abbrev impl_Graph_neighbors_E : Ve.End := ⟨[⟨4, (.own .shr), (.list I), none⟩], []⟩
abbrev impl_Graph_neighbors_a : List ASh := [.val (.prod I (.list (.prod I I))), .val I]
abbrev impl_Graph_neighbors_o : List OSh := []
abbrev impl_Graph_neighbors_O0 : Out := .one (.ex 0) impl_Graph_neighbors_J1
noncomputable def impl_Graph_neighbors_B0 : impl_Graph_neighbors_J0.P → Option (impl_Graph_neighbors_J0.P ⊕ impl_Graph_neighbors_O0.P)
  | ((x, g, out, t9, t10, ()), ()) => bif (decide (t10 < t9)) then (bif (t10 != x) then (match impl_Graph_has (g, x, t10, ()) () with | some ((r, ()), ()) => (bif r then (guardB (decide ((List.length out + List.length [t10]) * 8 ≤ 70368744177664)) (some (.inl ((x, g, (out ++ [t10]), t9, (w64 (t10 + (1 : Int))), ()), ())))) else (some (.inl ((x, g, out, t9, (w64 (t10 + (1 : Int))), ()), ())))) | none => none) else (some (.inl ((x, g, out, t9, (w64 (t10 + (1 : Int))), ()), ())))) else (some (.inr ((out, ()), ())))
noncomputable def impl_Graph_neighbors : argP impl_Graph_neighbors_a → obP (extObs 0 impl_Graph_neighbors_o) → Option impl_Graph_neighbors_E.P
  | (g, x, ()), () => match loopO impl_Graph_neighbors_B0 ((x, g, ([] : (List Int)), g.1, (0 : Int), ()), ()) with | some ((out, ()), ()) => some ((out, ()), ()) | none => none
noncomputable def impl_Graph_neighbors_x : Cx := ⟨tab, impl_Graph_has_e, fun _ _ => 0, fun _ => false, [(20, 0), (20, 1), (20, 2), (20, 3), (24, 0)], [(2, 0)]⟩
noncomputable def c172 : Code := bodyOf Tryz.f172
noncomputable def impl_Graph_neighbors_A : Ann := .seq .nil (.seq .nil (.seq (.seq .nil (.loop impl_Graph_neighbors_J0 impl_Graph_neighbors_O0 impl_Graph_neighbors_B0 .nil)) .nil))
theorem impl_Graph_neighbors_r0 (p : impl_Graph_neighbors_J0.P) : run impl_Graph_neighbors_x (subc [1, 1, 0, 1, 0, 0] c172) .nil (impl_Graph_neighbors_J0.S p) (leaf impl_Graph_neighbors_J0 impl_Graph_neighbors_O0) = impl_Graph_neighbors_B0 p := by kernel_rfl
noncomputable def impl_Graph_neighbors_D : Ve.Fn := ⟨172, impl_Graph_neighbors_a, impl_Graph_neighbors_o, impl_Graph_neighbors_E, impl_Graph_neighbors⟩
theorem impl_Graph_neighbors_w : Walk Tryz.prog impl_Graph_neighbors_x impl_Graph_neighbors_D Tryz.f172 c172 28 impl_Graph_neighbors_A :=
  ⟨⟨Tryz.func172, by kernel_rfl, by kernel_rfl, by kernel_rfl, by decide, by kernel_rfl, Nat.le_of_ble_eq_true (by kernel_rfl)⟩, by kernel_rfl, by kernel_rfl, by kernel_rfl, kcast (by kernel_rfl) (⟨impl_Graph_neighbors_r0, trivial⟩ : (∀ p, run impl_Graph_neighbors_x (subc [1, 1, 0, 1, 0, 0] c172) .nil (impl_Graph_neighbors_J0.S p) (leaf impl_Graph_neighbors_J0 impl_Graph_neighbors_O0) = impl_Graph_neighbors_B0 p) ∧ True), by kernel_rfl, fun x y => by kernel_rfl⟩
theorem impl_Graph_neighbors_s : impl_Graph_neighbors_D.Says Tryz.prog := impl_Graph_neighbors_w.says follows tabOk impl_Graph_has_e_ok
noncomputable def impl_Graph_neighbors_e : Env := more impl_Graph_has_e impl_Graph_neighbors_D
theorem impl_Graph_neighbors_e_ok : EnvOk Tryz.prog impl_Graph_neighbors_e := more_ok impl_Graph_has_e_ok impl_Graph_neighbors_s
/-! (loop.example/g01128/impl.Graph).isFit -/
abbrev impl_Graph_isFit_E : Ve.End := ⟨[⟨8, .shr, .bool, none⟩], []⟩
abbrev impl_Graph_isFit_a : List ASh := [.val (.prod I (.list (.prod I I))), .val I, .val I, .val .bool]
abbrev impl_Graph_isFit_o : List OSh := []
noncomputable def impl_Graph_isFit : argP impl_Graph_isFit_a → obP (extObs 0 impl_Graph_isFit_o) → Option impl_Graph_isFit_E.P
  | (h, x, y, lazy, ()), () => match impl_Graph_has (h, x, y, ()) () with | some ((r, ()), ()) => (bif r then (some ((true, ()), ())) else (bif lazy then (some (((x == y), ()), ())) else (some ((false, ()), ())))) | none => none
noncomputable def impl_Graph_isFit_x : Cx := ⟨tab, impl_Graph_neighbors_e, fun _ _ => 0, fun _ => false, [(12, 0), (12, 1), (12, 2), (12, 3)], [(4, 0)]⟩
noncomputable def c253 : Code := bodyOf Tryz.f253
noncomputable def impl_Graph_isFit_A : Ann := .nil
noncomputable def impl_Graph_isFit_D : Ve.Fn := ⟨253, impl_Graph_isFit_a, impl_Graph_isFit_o, impl_Graph_isFit_E, impl_Graph_isFit⟩
theorem impl_Graph_isFit_w : Walk Tryz.prog impl_Graph_isFit_x impl_Graph_isFit_D Tryz.f253 c253 21 impl_Graph_isFit_A :=
  ⟨⟨Tryz.func253, by kernel_rfl, by kernel_rfl, by kernel_rfl, by decide, by kernel_rfl, Nat.le_of_ble_eq_true (by kernel_rfl)⟩, by kernel_rfl, by kernel_rfl, by kernel_rfl, kcast (by kernel_rfl) trivial, by kernel_rfl, fun x y => by kernel_rfl⟩
theorem impl_Graph_isFit_s : impl_Graph_isFit_D.Says Tryz.prog := impl_Graph_isFit_w.says follows tabOk impl_Graph_neighbors_e_ok
noncomputable def impl_Graph_isFit_e : Env := more impl_Graph_neighbors_e impl_Graph_isFit_D
theorem impl_Graph_isFit_e_ok : EnvOk Tryz.prog impl_Graph_isFit_e := more_ok impl_Graph_neighbors_e_ok impl_Graph_isFit_s
/-! loop.example/g01128/impl.maps$1$1 -/
abbrev impl_maps_1_1_vccccc_E : Ve.End := ⟨[⟨7, .shr, .bool, none⟩], []⟩
abbrev impl_maps_1_1_vccccc_a : List ASh := [.val I, .cst I, .cst (.prod I (.list (.prod I I))), .cst I, .cst (.list I), .cst .bool]
abbrev impl_maps_1_1_vccccc_o : List OSh := []
noncomputable def impl_maps_1_1_vccccc : argP impl_maps_1_1_vccccc_a → obP (extObs 0 impl_maps_1_1_vccccc_o) → Option impl_maps_1_1_vccccc_E.P
  | (z, t1, t2, t3, t4, t5, ()), () => bif (decide (z < t1)) then (guardB (inb z (List.length t4)) (match impl_Graph_isFit (t2, t3, (List.getD t4 (Int.toNat z) (0 : Int)), t5, ()) () with | some ((r, ()), ()) => some (((!r), ()), ()) | none => none)) else (some ((false, ()), ()))
noncomputable def impl_maps_1_1_vccccc_x : Cx := ⟨tab, impl_Graph_isFit_e, fun _ _ => 0, fun _ => false, [(19, 0), (19, 1), (19, 2), (19, 3)], []⟩
noncomputable def c259 : Code := bodyOf Tryz.f259
noncomputable def impl_maps_1_1_vccccc_A : Ann := .seq .nil (.seq (.draw [(0, .flo), (1, .flo), (2, .flo), (3, .flo), (4, .flo), (5, .flo), (6, .flo), (7, .flo), (8, .flo), (9, .flo), (10, .flo), (11, .sole), (12, .flo), (13, .flo), (14, .flo)]) .nil)
noncomputable def impl_maps_1_1_vccccc_D : Ve.Fn := ⟨259, impl_maps_1_1_vccccc_a, impl_maps_1_1_vccccc_o, impl_maps_1_1_vccccc_E, impl_maps_1_1_vccccc⟩
theorem impl_maps_1_1_vccccc_w : Walk Tryz.prog impl_maps_1_1_vccccc_x impl_maps_1_1_vccccc_D Tryz.f259 c259 22 impl_maps_1_1_vccccc_A :=
  ⟨⟨Tryz.func259, by kernel_rfl, by kernel_rfl, by kernel_rfl, by decide, by kernel_rfl, Nat.le_of_ble_eq_true (by kernel_rfl)⟩, by kernel_rfl, by kernel_rfl, by kernel_rfl, kcast (by kernel_rfl) trivial, by kernel_rfl, fun x y => by kernel_rfl⟩
theorem impl_maps_1_1_vccccc_s : impl_maps_1_1_vccccc_D.Says Tryz.prog := impl_maps_1_1_vccccc_w.says follows tabOk impl_Graph_isFit_e_ok
noncomputable def impl_maps_1_1_vccccc_e : Env := more impl_Graph_isFit_e impl_maps_1_1_vccccc_D
theorem impl_maps_1_1_vccccc_e_ok : EnvOk Tryz.prog impl_maps_1_1_vccccc_e := more_ok impl_Graph_isFit_e_ok impl_maps_1_1_vccccc_s
/-! slices.IndexFunc[[]int,int] -/
abbrev slices_IndexFunc_int_int_2_vf_impl_maps_1_1_01234__bsbsbsb1bs_J0 : Tpl := ⟨[(0, .val (.list I)), (1, .fn ⟨259, [(1000000, 0), (1000001, 0), (1000002, 0), (1000003, 0), (1000004, 0)]⟩), (7, .val I), (8, .val I)], [((1000000, 0), .box .shr I), ((1000001, 0), .box .shr (.prod I (.list (.prod I I)))), ((1000002, 0), .box .shr I), ((1000003, 0), .box (.own .shr) (.list I)), ((1000004, 0), .box .shr .bool)], []⟩
abbrev slices_IndexFunc_int_int_2_vf_impl_maps_1_1_01234__bsbsbsb1bs_J1 : Tpl := ⟨[(4, .val I)], [((1000000, 0), .box .shr I), ((1000001, 0), .box .shr (.prod I (.list (.prod I I)))), ((1000002, 0), .box .shr I), ((1000003, 0), .box (.own .shr) (.list I)), ((1000004, 0), .box .shr .bool)], []⟩
abbrev slices_IndexFunc_int_int_2_vf_impl_maps_1_1_01234__bsbsbsb1bs_J2 : Tpl := ⟨[], [((1000000, 0), .box .shr I), ((1000001, 0), .box .shr (.prod I (.list (.prod I I)))), ((1000002, 0), .box .shr I), ((1000003, 0), .box (.own .shr) (.list I)), ((1000004, 0), .box .shr .bool)], []⟩
abbrev slices_IndexFunc_int_int_2_vf_impl_maps_1_1_01234__bsbsbsb1bs_E : Ve.End := ⟨[⟨4, .shr, I, none⟩], [.box .shr I, .box .shr (.prod I (.list (.prod I I))), .box .shr I, .box (.own .shr) (.list I), .box .shr .bool]⟩
abbrev slices_IndexFunc_int_int_2_vf_impl_maps_1_1_01234__bsbsbsb1bs_a : List ASh := [.val (.list I), .fn 259 [0, 1, 2, 3, 4]]
abbrev slices_IndexFunc_int_int_2_vf_impl_maps_1_1_01234__bsbsbsb1bs_o : List OSh := [.box .shr I, .box .shr (.prod I (.list (.prod I I))), .box .shr I, .box (.own .shr) (.list I), .box .shr .bool]
abbrev slices_IndexFunc_int_int_2_vf_impl_maps_1_1_01234__bsbsbsb1bs_O0 : Out := .or .ret slices_IndexFunc_int_int_2_vf_impl_maps_1_1_01234__bsbsbsb1bs_J1 (.one (.ex 0) slices_IndexFunc_int_int_2_vf_impl_maps_1_1_01234__bsbsbsb1bs_J2)
noncomputable def slices_IndexFunc_int_int_2_vf_impl_maps_1_1_01234__bsbsbsb1bs_B0 : slices_IndexFunc_int_int_2_vf_impl_maps_1_1_01234__bsbsbsb1bs_J0.P → Option (slices_IndexFunc_int_int_2_vf_impl_maps_1_1_01234__bsbsbsb1bs_J0.P ⊕ slices_IndexFunc_int_int_2_vf_impl_maps_1_1_01234__bsbsbsb1bs_O0.P)
  | ((s, t7, t8, ()), (o0, o1, o2, o3, o4, ())) => bif (decide (t8 < t7)) then (guardB (inb t8 (List.length s)) (match impl_maps_1_1_vccccc ((List.getD s (Int.toNat t8) (0 : Int)), o0, o1, o2, o3, o4, ()) () with | some ((r, ()), ()) => (bif r then (some (.inr (.inl ((t8, ()), (o0, o1, o2, o3, o4, ()))))) else (some (.inl ((s, t7, (w64 (t8 + (1 : Int))), ()), (o0, o1, o2, o3, o4, ()))))) | none => none)) else (some (.inr (.inr ((), (o0, o1, o2, o3, o4, ())))))
noncomputable def slices_IndexFunc_int_int_2_vf_impl_maps_1_1_01234__bsbsbsb1bs : argP slices_IndexFunc_int_int_2_vf_impl_maps_1_1_01234__bsbsbsb1bs_a → obP (extObs 0 slices_IndexFunc_int_int_2_vf_impl_maps_1_1_01234__bsbsbsb1bs_o) → Option slices_IndexFunc_int_int_2_vf_impl_maps_1_1_01234__bsbsbsb1bs_E.P
  | (s, ()), (o0, o1, o2, o3, o4, ()) => match loopO slices_IndexFunc_int_int_2_vf_impl_maps_1_1_01234__bsbsbsb1bs_B0 ((s, (List.length s : Int), (0 : Int), ()), (o0, o1, o2, o3, o4, ())) with | some (.inl ((t4, ()), (o0_2, o1_2, o2_2, o3_2, o4_2, ()))) => some ((t4, ()), (o0_2, o1_2, o2_2, o3_2, o4_2, ())) | some (.inr ((), (o0_3, o1_3, o2_3, o3_3, o4_3, ()))) => some (((-1 : Int), ()), (o0_3, o1_3, o2_3, o3_3, o4_3, ())) | none => none
noncomputable def slices_IndexFunc_int_int_2_vf_impl_maps_1_1_01234__bsbsbsb1bs_x : Cx := ⟨tab, impl_maps_1_1_vccccc_e, fun _ _ => 0, fun _ => false, [(16, 0), (16, 1), (16, 2), (16, 3)], []⟩
noncomputable def c310 : Code := bodyOf Tryz.f310
noncomputable def slices_IndexFunc_int_int_2_vf_impl_maps_1_1_01234__bsbsbsb1bs_A : Ann := .seq .nil (.seq (.seq .nil (.loop slices_IndexFunc_int_int_2_vf_impl_maps_1_1_01234__bsbsbsb1bs_J0 slices_IndexFunc_int_int_2_vf_impl_maps_1_1_01234__bsbsbsb1bs_O0 slices_IndexFunc_int_int_2_vf_impl_maps_1_1_01234__bsbsbsb1bs_B0 .nil)) .nil)
theorem slices_IndexFunc_int_int_2_vf_impl_maps_1_1_01234__bsbsbsb1bs_r0 (p : slices_IndexFunc_int_int_2_vf_impl_maps_1_1_01234__bsbsbsb1bs_J0.P) : run slices_IndexFunc_int_int_2_vf_impl_maps_1_1_01234__bsbsbsb1bs_x (subc [1, 0, 1, 0, 0] c310) .nil (slices_IndexFunc_int_int_2_vf_impl_maps_1_1_01234__bsbsbsb1bs_J0.S p) (leaf slices_IndexFunc_int_int_2_vf_impl_maps_1_1_01234__bsbsbsb1bs_J0 slices_IndexFunc_int_int_2_vf_impl_maps_1_1_01234__bsbsbsb1bs_O0) = slices_IndexFunc_int_int_2_vf_impl_maps_1_1_01234__bsbsbsb1bs_B0 p := by kernel_rfl
noncomputable def slices_IndexFunc_int_int_2_vf_impl_maps_1_1_01234__bsbsbsb1bs_D : Ve.Fn := ⟨310, slices_IndexFunc_int_int_2_vf_impl_maps_1_1_01234__bsbsbsb1bs_a, slices_IndexFunc_int_int_2_vf_impl_maps_1_1_01234__bsbsbsb1bs_o, slices_IndexFunc_int_int_2_vf_impl_maps_1_1_01234__bsbsbsb1bs_E, slices_IndexFunc_int_int_2_vf_impl_maps_1_1_01234__bsbsbsb1bs⟩
theorem slices_IndexFunc_int_int_2_vf_impl_maps_1_1_01234__bsbsbsb1bs_w : Walk Tryz.prog slices_IndexFunc_int_int_2_vf_impl_maps_1_1_01234__bsbsbsb1bs_x slices_IndexFunc_int_int_2_vf_impl_maps_1_1_01234__bsbsbsb1bs_D Tryz.f310 c310 19 slices_IndexFunc_int_int_2_vf_impl_maps_1_1_01234__bsbsbsb1bs_A :=
  ⟨⟨Tryz.func310, by kernel_rfl, by kernel_rfl, by kernel_rfl, by decide, by kernel_rfl, Nat.le_of_ble_eq_true (by kernel_rfl)⟩, by kernel_rfl, by kernel_rfl, by kernel_rfl, kcast (by kernel_rfl) (⟨slices_IndexFunc_int_int_2_vf_impl_maps_1_1_01234__bsbsbsb1bs_r0, trivial⟩ : (∀ p, run slices_IndexFunc_int_int_2_vf_impl_maps_1_1_01234__bsbsbsb1bs_x (subc [1, 0, 1, 0, 0] c310) .nil (slices_IndexFunc_int_int_2_vf_impl_maps_1_1_01234__bsbsbsb1bs_J0.S p) (leaf slices_IndexFunc_int_int_2_vf_impl_maps_1_1_01234__bsbsbsb1bs_J0 slices_IndexFunc_int_int_2_vf_impl_maps_1_1_01234__bsbsbsb1bs_O0) = slices_IndexFunc_int_int_2_vf_impl_maps_1_1_01234__bsbsbsb1bs_B0 p) ∧ True), by kernel_rfl, fun x y => by kernel_rfl⟩
theorem slices_IndexFunc_int_int_2_vf_impl_maps_1_1_01234__bsbsbsb1bs_s : slices_IndexFunc_int_int_2_vf_impl_maps_1_1_01234__bsbsbsb1bs_D.Says Tryz.prog := slices_IndexFunc_int_int_2_vf_impl_maps_1_1_01234__bsbsbsb1bs_w.says follows tabOk impl_maps_1_1_vccccc_e_ok
noncomputable def slices_IndexFunc_int_int_2_vf_impl_maps_1_1_01234__bsbsbsb1bs_e : Env := more impl_maps_1_1_vccccc_e slices_IndexFunc_int_int_2_vf_impl_maps_1_1_01234__bsbsbsb1bs_D
theorem slices_IndexFunc_int_int_2_vf_impl_maps_1_1_01234__bsbsbsb1bs_e_ok : EnvOk Tryz.prog slices_IndexFunc_int_int_2_vf_impl_maps_1_1_01234__bsbsbsb1bs_e := more_ok impl_maps_1_1_vccccc_e_ok slices_IndexFunc_int_int_2_vf_impl_maps_1_1_01234__bsbsbsb1bs_s
/-! slices.ContainsFunc[[]int,int] -/
abbrev slices_ContainsFunc_int_int_2_vf_impl_maps_1_1_01234__bsbsbsb1bs_E : Ve.End := ⟨[⟨4, .shr, .bool, none⟩], [.box .shr I, .box .shr (.prod I (.list (.prod I I))), .box .shr I, .box (.own .shr) (.list I), .box .shr .bool]⟩
abbrev slices_ContainsFunc_int_int_2_vf_impl_maps_1_1_01234__bsbsbsb1bs_a : List ASh := [.val (.list I), .fn 259 [0, 1, 2, 3, 4]]
abbrev slices_ContainsFunc_int_int_2_vf_impl_maps_1_1_01234__bsbsbsb1bs_o : List OSh := [.box .shr I, .box .shr (.prod I (.list (.prod I I))), .box .shr I, .box (.own .shr) (.list I), .box .shr .bool]
noncomputable def slices_ContainsFunc_int_int_2_vf_impl_maps_1_1_01234__bsbsbsb1bs : argP slices_ContainsFunc_int_int_2_vf_impl_maps_1_1_01234__bsbsbsb1bs_a → obP (extObs 0 slices_ContainsFunc_int_int_2_vf_impl_maps_1_1_01234__bsbsbsb1bs_o) → Option slices_ContainsFunc_int_int_2_vf_impl_maps_1_1_01234__bsbsbsb1bs_E.P
  | (s, ()), (o0, o1, o2, o3, o4, ()) => match slices_IndexFunc_int_int_2_vf_impl_maps_1_1_01234__bsbsbsb1bs (s, ()) (o0, o1, o2, o3, o4, ()) with | some ((r, ()), (o, o5, o6, o7, o8, ())) => some (((decide ((0 : Int) ≤ r)), ()), (o, o5, o6, o7, o8, ())) | none => none
noncomputable def slices_ContainsFunc_int_int_2_vf_impl_maps_1_1_01234__bsbsbsb1bs_x : Cx := ⟨tab, slices_IndexFunc_int_int_2_vf_impl_maps_1_1_01234__bsbsbsb1bs_e, fun _ _ => 0, fun _ => false, [(7, 0), (7, 1), (7, 2), (7, 3)], []⟩
noncomputable def c249 : Code := bodyOf Tryz.f249
noncomputable def slices_ContainsFunc_int_int_2_vf_impl_maps_1_1_01234__bsbsbsb1bs_A : Ann := .nil
noncomputable def slices_ContainsFunc_int_int_2_vf_impl_maps_1_1_01234__bsbsbsb1bs_D : Ve.Fn := ⟨249, slices_ContainsFunc_int_int_2_vf_impl_maps_1_1_01234__bsbsbsb1bs_a, slices_ContainsFunc_int_int_2_vf_impl_maps_1_1_01234__bsbsbsb1bs_o, slices_ContainsFunc_int_int_2_vf_impl_maps_1_1_01234__bsbsbsb1bs_E, slices_ContainsFunc_int_int_2_vf_impl_maps_1_1_01234__bsbsbsb1bs⟩
theorem slices_ContainsFunc_int_int_2_vf_impl_maps_1_1_01234__bsbsbsb1bs_w : Walk Tryz.prog slices_ContainsFunc_int_int_2_vf_impl_maps_1_1_01234__bsbsbsb1bs_x slices_ContainsFunc_int_int_2_vf_impl_maps_1_1_01234__bsbsbsb1bs_D Tryz.f249 c249 9 slices_ContainsFunc_int_int_2_vf_impl_maps_1_1_01234__bsbsbsb1bs_A :=
  ⟨⟨Tryz.func249, by kernel_rfl, by kernel_rfl, by kernel_rfl, by decide, by kernel_rfl, Nat.le_of_ble_eq_true (by kernel_rfl)⟩, by kernel_rfl, by kernel_rfl, by kernel_rfl, kcast (by kernel_rfl) trivial, by kernel_rfl, fun x y => by kernel_rfl⟩
theorem slices_ContainsFunc_int_int_2_vf_impl_maps_1_1_01234__bsbsbsb1bs_s : slices_ContainsFunc_int_int_2_vf_impl_maps_1_1_01234__bsbsbsb1bs_D.Says Tryz.prog := slices_ContainsFunc_int_int_2_vf_impl_maps_1_1_01234__bsbsbsb1bs_w.says follows tabOk slices_IndexFunc_int_int_2_vf_impl_maps_1_1_01234__bsbsbsb1bs_e_ok
noncomputable def slices_ContainsFunc_int_int_2_vf_impl_maps_1_1_01234__bsbsbsb1bs_e : Env := more slices_IndexFunc_int_int_2_vf_impl_maps_1_1_01234__bsbsbsb1bs_e slices_ContainsFunc_int_int_2_vf_impl_maps_1_1_01234__bsbsbsb1bs_D
theorem slices_ContainsFunc_int_int_2_vf_impl_maps_1_1_01234__bsbsbsb1bs_e_ok : EnvOk Tryz.prog slices_ContainsFunc_int_int_2_vf_impl_maps_1_1_01234__bsbsbsb1bs_e := more_ok slices_IndexFunc_int_int_2_vf_impl_maps_1_1_01234__bsbsbsb1bs_e_ok slices_ContainsFunc_int_int_2_vf_impl_maps_1_1_01234__bsbsbsb1bs_s
/-! loop.example/g01128/impl.maps$1 -/
abbrev impl_maps_1_va0a1a2a3a4a5_bsfimpl_MapSpace_1_6b1bsbsfimpl_maps_1_012345b2_J0 : Tpl := ⟨[(1, .ptr (1000000, 0)), (3, .ptr (1000002, 0)), (4, .ptr (1000003, 0)), (5, .ptr (1000004, 0)), (6, .ptr (1000005, 0)), (7, .ptr (7, 0)), (19, .val I), (20, .val I)], [((1000000, 0), .box .shr (.prod I (.list (.prod I I)))), ((1000002, 0), .box (.own .shr) (.list I)), ((1000003, 0), .box .shr (.prod I (.list (.prod I I)))), ((1000004, 0), .box .shr .bool), ((1000005, 0), .fbox (some ⟨258, [(1000000, 0), (1000001, 0), (1000002, 0), (1000003, 0), (1000004, 0), (1000005, 0)]⟩)), ((7, 0), .box .shr I), ((1000001, 0), .fbox (some ⟨147, [(1000006, 0)]⟩)), ((1000006, 0), .box (.own (.own .shr)) (.list (.list I)))], []⟩
abbrev impl_maps_1_va0a1a2a3a4a5_bsfimpl_MapSpace_1_6b1bsbsfimpl_maps_1_012345b2_J1 : Tpl := ⟨[(8, .val .bool)], [((1000000, 0), .box .shr (.prod I (.list (.prod I I)))), ((1000001, 0), .fbox (some ⟨147, [(1000006, 0)]⟩)), ((1000002, 0), .box (.own .shr) (.list I)), ((1000003, 0), .box .shr (.prod I (.list (.prod I I)))), ((1000004, 0), .box .shr .bool), ((1000005, 0), .fbox (some ⟨258, [(1000000, 0), (1000001, 0), (1000002, 0), (1000003, 0), (1000004, 0), (1000005, 0)]⟩)), ((1000006, 0), .box (.own (.own .shr)) (.list (.list I)))], []⟩
abbrev impl_maps_1_va0a1a2a3a4a5_bsfimpl_MapSpace_1_6b1bsbsfimpl_maps_1_012345b2_J2 : Tpl := ⟨[], [((1000000, 0), .box .shr (.prod I (.list (.prod I I)))), ((1000001, 0), .fbox (some ⟨147, [(1000006, 0)]⟩)), ((1000002, 0), .box (.own .shr) (.list I)), ((1000003, 0), .box .shr (.prod I (.list (.prod I I)))), ((1000004, 0), .box .shr .bool), ((1000005, 0), .fbox (some ⟨258, [(1000000, 0), (1000001, 0), (1000002, 0), (1000003, 0), (1000004, 0), (1000005, 0)]⟩)), ((1000006, 0), .box (.own (.own .shr)) (.list (.list I)))], []⟩
abbrev impl_maps_1_va0a1a2a3a4a5_bsfimpl_MapSpace_1_6b1bsbsfimpl_maps_1_012345b2_E : Ve.End := ⟨[⟨8, .shr, .bool, none⟩], [.box .shr (.prod I (.list (.prod I I))), .fbox (some ⟨147, [(1000006, 0)]⟩), .box (.own .shr) (.list I), .box .shr (.prod I (.list (.prod I I))), .box .shr .bool, .fbox (some ⟨258, [(1000000, 0), (1000001, 0), (1000002, 0), (1000003, 0), (1000004, 0), (1000005, 0)]⟩), .box (.own (.own .shr)) (.list (.list I))]⟩
abbrev impl_maps_1_va0a1a2a3a4a5_bsfimpl_MapSpace_1_6b1bsbsfimpl_maps_1_012345b2_a : List ASh := [.val I, .adr 0, .adr 1, .adr 2, .adr 3, .adr 4, .adr 5]
abbrev impl_maps_1_va0a1a2a3a4a5_bsfimpl_MapSpace_1_6b1bsbsfimpl_maps_1_012345b2_o : List OSh := [.box .shr (.prod I (.list (.prod I I))), .fbox (some ⟨147, [(1000006, 0)]⟩), .box (.own .shr) (.list I), .box .shr (.prod I (.list (.prod I I))), .box .shr .bool, .fbox (some ⟨258, [(1000000, 0), (1000001, 0), (1000002, 0), (1000003, 0), (1000004, 0), (1000005, 0)]⟩), .box (.own (.own .shr)) (.list (.list I))]
abbrev impl_maps_1_va0a1a2a3a4a5_bsfimpl_MapSpace_1_6b1bsbsfimpl_maps_1_012345b2_O0 : Out := .or .ret impl_maps_1_va0a1a2a3a4a5_bsfimpl_MapSpace_1_6b1bsbsfimpl_maps_1_012345b2_J1 (.one (.ex 0) impl_maps_1_va0a1a2a3a4a5_bsfimpl_MapSpace_1_6b1bsbsfimpl_maps_1_012345b2_J2)
noncomputable def impl_maps_1_va0a1a2a3a4a5_bsfimpl_MapSpace_1_6b1bsbsfimpl_maps_1_012345b2_B0 (rc : argP impl_maps_1_va0a1a2a3a4a5_bsfimpl_MapSpace_1_6b1bsbsfimpl_maps_1_012345b2_a → obP (extObs 0 impl_maps_1_va0a1a2a3a4a5_bsfimpl_MapSpace_1_6b1bsbsfimpl_maps_1_012345b2_o) → Option impl_maps_1_va0a1a2a3a4a5_bsfimpl_MapSpace_1_6b1bsbsfimpl_maps_1_012345b2_E.P) : impl_maps_1_va0a1a2a3a4a5_bsfimpl_MapSpace_1_6b1bsbsfimpl_maps_1_012345b2_J0.P → Option (impl_maps_1_va0a1a2a3a4a5_bsfimpl_MapSpace_1_6b1bsbsfimpl_maps_1_012345b2_J0.P ⊕ impl_maps_1_va0a1a2a3a4a5_bsfimpl_MapSpace_1_6b1bsbsfimpl_maps_1_012345b2_O0.P)
  | ((t19, t20, ()), (o0, o2, o3, o4, x, o6, ())) => bif (decide (t20 < t19)) then (guardB (inb x (List.length o2)) (match impl_Graph_neighbors (o0, x, ()) () with | some ((r, ()), ()) => (match slices_ContainsFunc_int_int_2_vf_impl_maps_1_1_01234__bsbsbsb1bs (r, ()) (x, o3, t20, (List.set o2 (Int.toNat x) t20), o4, ()) with | some ((r2, ()), (o, o5, o7, o8, o9, ())) => (bif (!r2) then (match rc ((w64 (o + (1 : Int))), ()) (o0, o8, o5, o9, o6, ()) with | some ((r3, ()), (o10, o11, o12, o13, o14, ())) => (bif (!r3) then (some (.inr (.inl ((false, ()), (o10, o11, o12, o13, o14, ()))))) else (some (.inl ((t19, (w64 (t20 + (1 : Int))), ()), (o10, o11, o12, o13, o, o14, ()))))) | none => none) else (some (.inl ((t19, (w64 (t20 + (1 : Int))), ()), (o0, o8, o5, o9, o, o6, ()))))) | none => none) | none => none)) else (some (.inr (.inr ((), (o0, o2, o3, o4, o6, ())))))
noncomputable def impl_maps_1_va0a1a2a3a4a5_bsfimpl_MapSpace_1_6b1bsbsfimpl_maps_1_012345b2_F (rc : argP impl_maps_1_va0a1a2a3a4a5_bsfimpl_MapSpace_1_6b1bsbsfimpl_maps_1_012345b2_a → obP (extObs 0 impl_maps_1_va0a1a2a3a4a5_bsfimpl_MapSpace_1_6b1bsbsfimpl_maps_1_012345b2_o) → Option impl_maps_1_va0a1a2a3a4a5_bsfimpl_MapSpace_1_6b1bsbsfimpl_maps_1_012345b2_E.P) : argP impl_maps_1_va0a1a2a3a4a5_bsfimpl_MapSpace_1_6b1bsbsfimpl_maps_1_012345b2_a → obP (extObs 0 impl_maps_1_va0a1a2a3a4a5_bsfimpl_MapSpace_1_6b1bsbsfimpl_maps_1_012345b2_o) → Option impl_maps_1_va0a1a2a3a4a5_bsfimpl_MapSpace_1_6b1bsbsfimpl_maps_1_012345b2_E.P
  | (x, ()), (o0, o2, o3, o4, o6, ()) => bif (x == o0.1) then (match impl_MapSpace_1_va0_b2 (o2, ()) (o6, ()) with | some ((r, ()), (o, ())) => some ((r, ()), (o0, o2, o3, o4, o, ())) | none => none) else (match loopO (impl_maps_1_va0a1a2a3a4a5_bsfimpl_MapSpace_1_6b1bsbsfimpl_maps_1_012345b2_B0 rc) ((o3.1, (0 : Int), ()), (o0, o2, o3, o4, x, o6, ())) with | some (.inl ((t8, ()), (o0_2, o2_2, o3_2, o4_2, o6_2, ()))) => some ((t8, ()), (o0_2, o2_2, o3_2, o4_2, o6_2, ())) | some (.inr ((), (o0_3, o2_3, o3_3, o4_3, o6_3, ()))) => some ((true, ()), (o0_3, o2_3, o3_3, o4_3, o6_3, ())) | none => none)
noncomputable def impl_maps_1_va0a1a2a3a4a5_bsfimpl_MapSpace_1_6b1bsbsfimpl_maps_1_012345b2 : argP impl_maps_1_va0a1a2a3a4a5_bsfimpl_MapSpace_1_6b1bsbsfimpl_maps_1_012345b2_a → obP (extObs 0 impl_maps_1_va0a1a2a3a4a5_bsfimpl_MapSpace_1_6b1bsbsfimpl_maps_1_012345b2_o) → Option impl_maps_1_va0a1a2a3a4a5_bsfimpl_MapSpace_1_6b1bsbsfimpl_maps_1_012345b2_E.P := fuelF impl_maps_1_va0a1a2a3a4a5_bsfimpl_MapSpace_1_6b1bsbsfimpl_maps_1_012345b2_F 1000
noncomputable def impl_maps_1_va0a1a2a3a4a5_bsfimpl_MapSpace_1_6b1bsbsfimpl_maps_1_012345b2_x (rc : argP impl_maps_1_va0a1a2a3a4a5_bsfimpl_MapSpace_1_6b1bsbsfimpl_maps_1_012345b2_a → obP (extObs 0 impl_maps_1_va0a1a2a3a4a5_bsfimpl_MapSpace_1_6b1bsbsfimpl_maps_1_012345b2_o) → Option impl_maps_1_va0a1a2a3a4a5_bsfimpl_MapSpace_1_6b1bsbsfimpl_maps_1_012345b2_E.P) : Cx := ⟨tab, more slices_ContainsFunc_int_int_2_vf_impl_maps_1_1_01234__bsbsbsb1bs_e ⟨258, impl_maps_1_va0a1a2a3a4a5_bsfimpl_MapSpace_1_6b1bsbsfimpl_maps_1_012345b2_a, impl_maps_1_va0a1a2a3a4a5_bsfimpl_MapSpace_1_6b1bsbsfimpl_maps_1_012345b2_o, impl_maps_1_va0a1a2a3a4a5_bsfimpl_MapSpace_1_6b1bsbsfimpl_maps_1_012345b2_E, rc⟩, fun f n => bif Nat.beq f 147 && Nat.beq n 1 then 1 else bif Nat.beq f 258 && Nat.beq n 1 then 1 else bif Nat.beq f 258 && Nat.beq n 2 then 1 else bif Nat.beq f 258 && Nat.beq n 3 then 1 else bif Nat.beq f 258 && Nat.beq n 4 then 1 else bif Nat.beq f 258 && Nat.beq n 5 then 1 else bif Nat.beq f 258 && Nat.beq n 6 then 1 else 0, fun _ => false, [(17, 0), (17, 1), (17, 2), (17, 3), (29, 0), (29, 1), (29, 2), (29, 3), (31, 0), (31, 1), (31, 2), (31, 3), (38, 0), (38, 1), (38, 2), (38, 3)], []⟩
noncomputable def c258 : Code := bodyOf Tryz.f258
noncomputable def impl_maps_1_va0a1a2a3a4a5_bsfimpl_MapSpace_1_6b1bsbsfimpl_maps_1_012345b2_A (rc : argP impl_maps_1_va0a1a2a3a4a5_bsfimpl_MapSpace_1_6b1bsbsfimpl_maps_1_012345b2_a → obP (extObs 0 impl_maps_1_va0a1a2a3a4a5_bsfimpl_MapSpace_1_6b1bsbsfimpl_maps_1_012345b2_o) → Option impl_maps_1_va0a1a2a3a4a5_bsfimpl_MapSpace_1_6b1bsbsfimpl_maps_1_012345b2_E.P) : Ann := .seq .nil (.seq .nil (.seq (.seq .nil (.loop impl_maps_1_va0a1a2a3a4a5_bsfimpl_MapSpace_1_6b1bsbsfimpl_maps_1_012345b2_J0 impl_maps_1_va0a1a2a3a4a5_bsfimpl_MapSpace_1_6b1bsbsfimpl_maps_1_012345b2_O0 (impl_maps_1_va0a1a2a3a4a5_bsfimpl_MapSpace_1_6b1bsbsfimpl_maps_1_012345b2_B0 rc) .nil)) .nil))
theorem impl_maps_1_va0a1a2a3a4a5_bsfimpl_MapSpace_1_6b1bsbsfimpl_maps_1_012345b2_r0 (rc : argP impl_maps_1_va0a1a2a3a4a5_bsfimpl_MapSpace_1_6b1bsbsfimpl_maps_1_012345b2_a → obP (extObs 0 impl_maps_1_va0a1a2a3a4a5_bsfimpl_MapSpace_1_6b1bsbsfimpl_maps_1_012345b2_o) → Option impl_maps_1_va0a1a2a3a4a5_bsfimpl_MapSpace_1_6b1bsbsfimpl_maps_1_012345b2_E.P) (p : impl_maps_1_va0a1a2a3a4a5_bsfimpl_MapSpace_1_6b1bsbsfimpl_maps_1_012345b2_J0.P) : run (impl_maps_1_va0a1a2a3a4a5_bsfimpl_MapSpace_1_6b1bsbsfimpl_maps_1_012345b2_x rc) (subc [1, 1, 0, 1, 0, 0] c258) .nil (impl_maps_1_va0a1a2a3a4a5_bsfimpl_MapSpace_1_6b1bsbsfimpl_maps_1_012345b2_J0.S p) (leaf impl_maps_1_va0a1a2a3a4a5_bsfimpl_MapSpace_1_6b1bsbsfimpl_maps_1_012345b2_J0 impl_maps_1_va0a1a2a3a4a5_bsfimpl_MapSpace_1_6b1bsbsfimpl_maps_1_012345b2_O0) = (impl_maps_1_va0a1a2a3a4a5_bsfimpl_MapSpace_1_6b1bsbsfimpl_maps_1_012345b2_B0 rc) p := by kernel_rfl
noncomputable def impl_maps_1_va0a1a2a3a4a5_bsfimpl_MapSpace_1_6b1bsbsfimpl_maps_1_012345b2_D : Ve.Fn := ⟨258, impl_maps_1_va0a1a2a3a4a5_bsfimpl_MapSpace_1_6b1bsbsfimpl_maps_1_012345b2_a, impl_maps_1_va0a1a2a3a4a5_bsfimpl_MapSpace_1_6b1bsbsfimpl_maps_1_012345b2_o, impl_maps_1_va0a1a2a3a4a5_bsfimpl_MapSpace_1_6b1bsbsfimpl_maps_1_012345b2_E, impl_maps_1_va0a1a2a3a4a5_bsfimpl_MapSpace_1_6b1bsbsfimpl_maps_1_012345b2⟩
theorem impl_maps_1_va0a1a2a3a4a5_bsfimpl_MapSpace_1_6b1bsbsfimpl_maps_1_012345b2_w (rc : argP impl_maps_1_va0a1a2a3a4a5_bsfimpl_MapSpace_1_6b1bsbsfimpl_maps_1_012345b2_a → obP (extObs 0 impl_maps_1_va0a1a2a3a4a5_bsfimpl_MapSpace_1_6b1bsbsfimpl_maps_1_012345b2_o) → Option impl_maps_1_va0a1a2a3a4a5_bsfimpl_MapSpace_1_6b1bsbsfimpl_maps_1_012345b2_E.P) : Walk Tryz.prog (impl_maps_1_va0a1a2a3a4a5_bsfimpl_MapSpace_1_6b1bsbsfimpl_maps_1_012345b2_x rc) ⟨258, impl_maps_1_va0a1a2a3a4a5_bsfimpl_MapSpace_1_6b1bsbsfimpl_maps_1_012345b2_a, impl_maps_1_va0a1a2a3a4a5_bsfimpl_MapSpace_1_6b1bsbsfimpl_maps_1_012345b2_o, impl_maps_1_va0a1a2a3a4a5_bsfimpl_MapSpace_1_6b1bsbsfimpl_maps_1_012345b2_E, impl_maps_1_va0a1a2a3a4a5_bsfimpl_MapSpace_1_6b1bsbsfimpl_maps_1_012345b2_F rc⟩ Tryz.f258 c258 42 (impl_maps_1_va0a1a2a3a4a5_bsfimpl_MapSpace_1_6b1bsbsfimpl_maps_1_012345b2_A rc) :=
  ⟨⟨Tryz.func258, by kernel_rfl, by kernel_rfl, by kernel_rfl, by decide, by kernel_rfl, Nat.le_of_ble_eq_true (by kernel_rfl)⟩, by kernel_rfl, by kernel_rfl, by kernel_rfl, kcast (by kernel_rfl) (⟨(impl_maps_1_va0a1a2a3a4a5_bsfimpl_MapSpace_1_6b1bsbsfimpl_maps_1_012345b2_r0 rc), trivial⟩ : (∀ p, run (impl_maps_1_va0a1a2a3a4a5_bsfimpl_MapSpace_1_6b1bsbsfimpl_maps_1_012345b2_x rc) (subc [1, 1, 0, 1, 0, 0] c258) .nil (impl_maps_1_va0a1a2a3a4a5_bsfimpl_MapSpace_1_6b1bsbsfimpl_maps_1_012345b2_J0.S p) (leaf impl_maps_1_va0a1a2a3a4a5_bsfimpl_MapSpace_1_6b1bsbsfimpl_maps_1_012345b2_J0 impl_maps_1_va0a1a2a3a4a5_bsfimpl_MapSpace_1_6b1bsbsfimpl_maps_1_012345b2_O0) = (impl_maps_1_va0a1a2a3a4a5_bsfimpl_MapSpace_1_6b1bsbsfimpl_maps_1_012345b2_B0 rc) p) ∧ True), by kernel_rfl, fun x y => by kernel_rfl⟩
theorem impl_maps_1_va0a1a2a3a4a5_bsfimpl_MapSpace_1_6b1bsbsfimpl_maps_1_012345b2_s : impl_maps_1_va0a1a2a3a4a5_bsfimpl_MapSpace_1_6b1bsbsfimpl_maps_1_012345b2_D.Says Tryz.prog := fuel_says (fun rc h => (impl_maps_1_va0a1a2a3a4a5_bsfimpl_MapSpace_1_6b1bsbsfimpl_maps_1_012345b2_w rc).says follows tabOk (more_ok slices_ContainsFunc_int_int_2_vf_impl_maps_1_1_01234__bsbsbsb1bs_e_ok h)) 1000
noncomputable def impl_maps_1_va0a1a2a3a4a5_bsfimpl_MapSpace_1_6b1bsbsfimpl_maps_1_012345b2_e : Env := more slices_ContainsFunc_int_int_2_vf_impl_maps_1_1_01234__bsbsbsb1bs_e impl_maps_1_va0a1a2a3a4a5_bsfimpl_MapSpace_1_6b1bsbsfimpl_maps_1_012345b2_D
theorem impl_maps_1_va0a1a2a3a4a5_bsfimpl_MapSpace_1_6b1bsbsfimpl_maps_1_012345b2_e_ok : EnvOk Tryz.prog impl_maps_1_va0a1a2a3a4a5_bsfimpl_MapSpace_1_6b1bsbsfimpl_maps_1_012345b2_e := more_ok slices_ContainsFunc_int_int_2_vf_impl_maps_1_1_01234__bsbsbsb1bs_e_ok impl_maps_1_va0a1a2a3a4a5_bsfimpl_MapSpace_1_6b1bsbsfimpl_maps_1_012345b2_s
/-! loop.example/g01128/impl.maps -/
abbrev impl_maps_vvvf_impl_MapSpace_1_0__b2_E : Ve.End := ⟨[], [.box (.own (.own .shr)) (.list (.list I))]⟩
abbrev impl_maps_vvvf_impl_MapSpace_1_0__b2_a : List ASh := [.val (.prod I (.list (.prod I I))), .val (.prod I (.list (.prod I I))), .val .bool, .fn 147 [0]]
abbrev impl_maps_vvvf_impl_MapSpace_1_0__b2_o : List OSh := [.box (.own (.own .shr)) (.list (.list I))]
noncomputable def impl_maps_vvvf_impl_MapSpace_1_0__b2 : argP impl_maps_vvvf_impl_MapSpace_1_0__b2_a → obP (extObs 0 impl_maps_vvvf_impl_MapSpace_1_0__b2_o) → Option impl_maps_vvvf_impl_MapSpace_1_0__b2_E.P
  | (g, h, lazy, ()), (o0, ()) => guardB (decide (0 ≤ g.1) && decide (g.1 ≤ g.1) && decide (g.1 * 8 ≤ 140737488355328)) (match impl_maps_1_va0a1a2a3a4a5_bsfimpl_MapSpace_1_6b1bsbsfimpl_maps_1_012345b2 ((0 : Int), ()) (g, (List.replicate (Int.toNat g.1) (0 : Int)), h, lazy, o0, ()) with | some ((r, ()), (o, o2, o3, o4, o5, ())) => some ((), (o5, ())) | none => none)
noncomputable def impl_maps_vvvf_impl_MapSpace_1_0__b2_x : Cx := ⟨tab, impl_maps_1_va0a1a2a3a4a5_bsfimpl_MapSpace_1_6b1bsbsfimpl_maps_1_012345b2_e, fun f n => bif Nat.beq f 258 && Nat.beq n 1 then 1 else bif Nat.beq f 258 && Nat.beq n 2 then 1 else bif Nat.beq f 258 && Nat.beq n 3 then 1 else bif Nat.beq f 258 && Nat.beq n 4 then 1 else bif Nat.beq f 258 && Nat.beq n 5 then 1 else bif Nat.beq f 258 && Nat.beq n 6 then 1 else 0, fun _ => false, [(15, 0), (15, 1), (15, 2), (15, 3)], []⟩
noncomputable def c146 : Code := bodyOf Tryz.f146
noncomputable def impl_maps_vvvf_impl_MapSpace_1_0__b2_A : Ann := .nil
noncomputable def impl_maps_vvvf_impl_MapSpace_1_0__b2_D : Ve.Fn := ⟨146, impl_maps_vvvf_impl_MapSpace_1_0__b2_a, impl_maps_vvvf_impl_MapSpace_1_0__b2_o, impl_maps_vvvf_impl_MapSpace_1_0__b2_E, impl_maps_vvvf_impl_MapSpace_1_0__b2⟩
theorem impl_maps_vvvf_impl_MapSpace_1_0__b2_w : Walk Tryz.prog impl_maps_vvvf_impl_MapSpace_1_0__b2_x impl_maps_vvvf_impl_MapSpace_1_0__b2_D Tryz.f146 c146 16 impl_maps_vvvf_impl_MapSpace_1_0__b2_A :=
  ⟨⟨Tryz.func146, by kernel_rfl, by kernel_rfl, by kernel_rfl, by decide, by kernel_rfl, Nat.le_of_ble_eq_true (by kernel_rfl)⟩, by kernel_rfl, by kernel_rfl, by kernel_rfl, kcast (by kernel_rfl) trivial, by kernel_rfl, fun x y => by kernel_rfl⟩
theorem impl_maps_vvvf_impl_MapSpace_1_0__b2_s : impl_maps_vvvf_impl_MapSpace_1_0__b2_D.Says Tryz.prog := impl_maps_vvvf_impl_MapSpace_1_0__b2_w.says follows tabOk impl_maps_1_va0a1a2a3a4a5_bsfimpl_MapSpace_1_6b1bsbsfimpl_maps_1_012345b2_e_ok
noncomputable def impl_maps_vvvf_impl_MapSpace_1_0__b2_e : Env := more impl_maps_1_va0a1a2a3a4a5_bsfimpl_MapSpace_1_6b1bsbsfimpl_maps_1_012345b2_e impl_maps_vvvf_impl_MapSpace_1_0__b2_D
theorem impl_maps_vvvf_impl_MapSpace_1_0__b2_e_ok : EnvOk Tryz.prog impl_maps_vvvf_impl_MapSpace_1_0__b2_e := more_ok impl_maps_1_va0a1a2a3a4a5_bsfimpl_MapSpace_1_6b1bsbsfimpl_maps_1_012345b2_e_ok impl_maps_vvvf_impl_MapSpace_1_0__b2_s
noncomputable def slices_SortFunc_int_int_own_e : Env := more impl_maps_vvvf_impl_MapSpace_1_0__b2_e (sortRowsFn 260 261 (.own .shr))
theorem slices_SortFunc_int_int_own_e_ok : EnvOk Tryz.prog slices_SortFunc_int_int_own_e := more_ok impl_maps_vvvf_impl_MapSpace_1_0__b2_e_ok (sortRows_s (.own .shr))
noncomputable abbrev slices_SortFunc_int_int_own := (sortRowsFn 260 261 (.own .shr)).F
/-! loop.example/g01128/impl.places -/
abbrev impl_places_J0 : Tpl := ⟨[(1, .val (.list I)), (5, .own .shr I), (9, .val (.list I)), (10, .val I), (11, .val I)], [], []⟩
abbrev impl_places_J1 : Tpl := ⟨[(5, .own .shr I)], [], []⟩
abbrev impl_places_E : Ve.End := ⟨[⟨4, (.own .shr), (.list I), none⟩], []⟩
abbrev impl_places_a : List ASh := [.val (.list I), .val (.list I)]
abbrev impl_places_o : List OSh := []
abbrev impl_places_O0 : Out := .one (.ex 0) impl_places_J1
noncomputable def impl_places_B0 : impl_places_J0.P → Option (impl_places_J0.P ⊕ impl_places_O0.P)
  | ((b, out, t9, t10, t11, ()), ()) => bif (decide (t11 < t10)) then (guardB (inb t11 (List.length t9)) (guardB (inb t11 (List.length b)) (bif ((List.getD b (Int.toNat t11) (0 : Int)) != (List.getD t9 (Int.toNat t11) (0 : Int))) then (guardB (decide ((List.length out + List.length [t11]) * 8 ≤ 70368744177664)) (some (.inl ((b, (out ++ [t11]), t9, t10, (w64 (t11 + (1 : Int))), ()), ())))) else (some (.inl ((b, out, t9, t10, (w64 (t11 + (1 : Int))), ()), ())))))) else (some (.inr ((out, ()), ())))
noncomputable def impl_places : argP impl_places_a → obP (extObs 0 impl_places_o) → Option impl_places_E.P
  | (a, b, ()), () => match loopO impl_places_B0 ((b, ([] : (List Int)), a, (List.length a : Int), (0 : Int), ()), ()) with | some ((out, ()), ()) => some ((out, ()), ()) | none => none
noncomputable def impl_places_x : Cx := ⟨tab, slices_SortFunc_int_int_own_e, fun _ _ => 0, fun _ => false, [(24, 0)], []⟩
noncomputable def c262 : Code := bodyOf Tryz.f262
noncomputable def impl_places_A : Ann := .seq .nil (.seq .nil (.seq (.seq .nil (.loop impl_places_J0 impl_places_O0 impl_places_B0 .nil)) .nil))
theorem impl_places_r0 (p : impl_places_J0.P) : run impl_places_x (subc [1, 1, 0, 1, 0, 0] c262) .nil (impl_places_J0.S p) (leaf impl_places_J0 impl_places_O0) = impl_places_B0 p := by kernel_rfl
noncomputable def impl_places_D : Ve.Fn := ⟨262, impl_places_a, impl_places_o, impl_places_E, impl_places⟩
theorem impl_places_w : Walk Tryz.prog impl_places_x impl_places_D Tryz.f262 c262 28 impl_places_A :=
  ⟨⟨Tryz.func262, by kernel_rfl, by kernel_rfl, by kernel_rfl, by decide, by kernel_rfl, Nat.le_of_ble_eq_true (by kernel_rfl)⟩, by kernel_rfl, by kernel_rfl, by kernel_rfl, kcast (by kernel_rfl) (⟨impl_places_r0, trivial⟩ : (∀ p, run impl_places_x (subc [1, 1, 0, 1, 0, 0] c262) .nil (impl_places_J0.S p) (leaf impl_places_J0 impl_places_O0) = impl_places_B0 p) ∧ True), by kernel_rfl, fun x y => by kernel_rfl⟩
theorem impl_places_s : impl_places_D.Says Tryz.prog := impl_places_w.says follows tabOk slices_SortFunc_int_int_own_e_ok
noncomputable def impl_places_e : Env := more slices_SortFunc_int_int_own_e impl_places_D
theorem impl_places_e_ok : EnvOk Tryz.prog impl_places_e := more_ok slices_SortFunc_int_int_own_e_ok impl_places_s
/-! loop.example/g01128/impl.isChange -/
abbrev impl_isChange_E : Ve.End := ⟨[⟨4, .shr, .bool, none⟩], []⟩
abbrev impl_isChange_a : List ASh := [.val (.list I), .val (.list I)]
abbrev impl_isChange_o : List OSh := []
noncomputable def impl_isChange : argP impl_isChange_a → obP (extObs 0 impl_isChange_o) → Option impl_isChange_E.P
  | (a, b, ()), () => match impl_places (a, b, ()) () with | some ((r, ()), ()) => some ((((List.length r : Int) == (1 : Int)), ()), ()) | none => none
noncomputable def impl_isChange_x : Cx := ⟨tab, impl_places_e, fun _ _ => 0, fun _ => false, [(7, 0), (7, 1), (7, 2), (7, 3)], []⟩
noncomputable def c151 : Code := bodyOf Tryz.f151
noncomputable def impl_isChange_A : Ann := .nil
noncomputable def impl_isChange_D : Ve.Fn := ⟨151, impl_isChange_a, impl_isChange_o, impl_isChange_E, impl_isChange⟩
theorem impl_isChange_w : Walk Tryz.prog impl_isChange_x impl_isChange_D Tryz.f151 c151 10 impl_isChange_A :=
  ⟨⟨Tryz.func151, by kernel_rfl, by kernel_rfl, by kernel_rfl, by decide, by kernel_rfl, Nat.le_of_ble_eq_true (by kernel_rfl)⟩, by kernel_rfl, by kernel_rfl, by kernel_rfl, kcast (by kernel_rfl) trivial, by kernel_rfl, fun x y => by kernel_rfl⟩
theorem impl_isChange_s : impl_isChange_D.Says Tryz.prog := impl_isChange_w.says follows tabOk impl_places_e_ok
noncomputable def impl_isChange_e : Env := more impl_places_e impl_isChange_D
theorem impl_isChange_e_ok : EnvOk Tryz.prog impl_isChange_e := more_ok impl_places_e_ok impl_isChange_s
/-! loop.example/g01128/impl.spaceOf -/
abbrev impl_spaceOf_o2f_impl_isChange_J0 : Tpl := ⟨[(1, .fn ⟨151, []⟩), (4, .ptr (4, 0)), (5, .ptr (5, 0)), (6, .val I), (7, .str (.rix (5, 0) [.fst] [])), (16, .same (5, 0) [.fst]), (17, .val I), (18, .val I), (27, .str (.sub (5, 0) [.fst])), (28, .val I), (29, .val I)], [((4, 0), .box (.prod (.own (.own .shr)) (.own .shr)) (.prod (.list (.list I)) (.list (.prod I I)))), ((5, 0), .box (.prod (.own (.own .shr)) (.own .shr)) (.prod (.list (.list I)) (.list (.prod I I))))], []⟩
abbrev impl_spaceOf_o2f_impl_isChange_J1 : Tpl := ⟨[(1, .fn ⟨151, []⟩), (4, .ptr (4, 0)), (5, .ptr (5, 0)), (16, .same (5, 0) [.fst]), (17, .val I), (18, .val I)], [((4, 0), .box (.prod (.own (.own .shr)) (.own .shr)) (.prod (.list (.list I)) (.list (.prod I I)))), ((5, 0), .box (.prod (.own (.own .shr)) (.own .shr)) (.prod (.list (.list I)) (.list (.prod I I))))], []⟩
abbrev impl_spaceOf_o2f_impl_isChange_J2 : Tpl := ⟨[(4, .ptr (4, 0)), (5, .ptr (5, 0))], [((4, 0), .box (.prod (.own (.own .shr)) (.own .shr)) (.prod (.list (.list I)) (.list (.prod I I)))), ((5, 0), .box (.prod (.own (.own .shr)) (.own .shr)) (.prod (.list (.list I)) (.list (.prod I I))))], []⟩
abbrev impl_spaceOf_o2f_impl_isChange_E : Ve.End := ⟨[⟨4, (.prod (.own (.own .shr)) (.own .shr)), (.prod (.list (.list I)) (.list (.prod I I))), some 49⟩], []⟩
abbrev impl_spaceOf_o2f_impl_isChange_a : List ASh := [.own (.own (.own .shr)) (.list (.list I)), .fn 151 []]
abbrev impl_spaceOf_o2f_impl_isChange_o : List OSh := []
abbrev impl_spaceOf_o2f_impl_isChange_O0 : Out := .one (.ex 2) impl_spaceOf_o2f_impl_isChange_J1
noncomputable def impl_spaceOf_o2f_impl_isChange_B0 : impl_spaceOf_o2f_impl_isChange_J0.P → Option (impl_spaceOf_o2f_impl_isChange_J0.P ⊕ impl_spaceOf_o2f_impl_isChange_O0.P)
  | ((i, i2, t17, t18, (lo, hi), t28, t29, ()), (t4, out, ())) => bif (decide (t29 < t28)) then (guardB (decide (0 ≤ t29) && decide (t29 < (((hi : Nat) : Int) - ((lo : Nat) : Int)))) (match impl_isChange ((List.getD out.1 i2 ([] : (List Int))), (List.getD out.1 (lo + (Int.toNat t29)) ([] : (List Int))), ()) () with | some ((r, ()), ()) => (bif r then (guardB (decide ((List.length out.2 + List.length [(i, (w64 ((w64 (i + (1 : Int))) + t29)))]) * 16 ≤ 70368744177664)) (some (.inl ((i, i2, t17, t18, (lo, hi), t28, (w64 (t29 + (1 : Int))), ()), (t4, (out.1, (out.2 ++ [(i, (w64 ((w64 (i + (1 : Int))) + t29)))])), ()))))) else (some (.inl ((i, i2, t17, t18, (lo, hi), t28, (w64 (t29 + (1 : Int))), ()), (t4, out, ()))))) | none => none)) else (some (.inr ((t17, t18, ()), (t4, out, ()))))
abbrev impl_spaceOf_o2f_impl_isChange_O1 : Out := .one (.ex 0) impl_spaceOf_o2f_impl_isChange_J2
noncomputable def impl_spaceOf_o2f_impl_isChange_B1 : impl_spaceOf_o2f_impl_isChange_J1.P → Option (impl_spaceOf_o2f_impl_isChange_J1.P ⊕ impl_spaceOf_o2f_impl_isChange_O1.P)
  | ((t17, t18, ()), (t4, out, ())) => bif (decide (t18 < t17)) then (guardB (inb t18 (List.length out.1)) (guardB (decide (0 ≤ (w64 (t18 + (1 : Int)))) && decide ((w64 (t18 + (1 : Int))) ≤ (List.length out.1 : Int)) && decide ((List.length out.1 : Int) ≤ (List.length out.1 : Int))) (match loopO impl_spaceOf_o2f_impl_isChange_B0 ((t18, (Int.toNat t18), t17, t18, ((Int.toNat (w64 (t18 + (1 : Int)))), (Int.toNat (List.length out.1 : Int))), ((((Int.toNat (List.length out.1 : Int)) - (Int.toNat (w64 (t18 + (1 : Int))))) : Nat) : Int), (0 : Int), ()), (t4, out, ())) with | some ((t17_2, t18_2, ()), (t4_2, out2, ())) => some (.inl ((t17_2, (w64 (t18_2 + (1 : Int))), ()), (t4_2, out2, ()))) | none => none))) else (some (.inr ((), (t4, out, ()))))
noncomputable def impl_spaceOf_o2f_impl_isChange : argP impl_spaceOf_o2f_impl_isChange_a → obP (extObs 0 impl_spaceOf_o2f_impl_isChange_o) → Option impl_spaceOf_o2f_impl_isChange_E.P
  | (states, ()), () => match slices_SortFunc_int_int_own () (states, ()) with | some ((), (o, ())) => (match loopO impl_spaceOf_o2f_impl_isChange_B1 (((List.length o : Int), (0 : Int), ()), ((([] : (List (List Int))), ([] : (List (Int × Int)))), (o, ([] : (List (Int × Int)))), ())) with | some ((), (t4, out, ())) => some (((out.1, out.2), ()), ()) | none => none) | none => none
noncomputable def impl_spaceOf_o2f_impl_isChange_x : Cx := ⟨tab, impl_isChange_e, fun f n => bif Nat.beq f 260 && Nat.beq n 0 then 1 else 0, fun _ => false, [(14, 0), (14, 1), (14, 2), (14, 3), (7, 0), (9, 0), (37, 0), (37, 1), (37, 2), (37, 3), (46, 0)], []⟩
noncomputable def c150 : Code := bodyOf Tryz.f150
noncomputable def impl_spaceOf_o2f_impl_isChange_A : Ann := .seq .nil (.seq .nil (.seq .nil (.seq (.seq .nil (.loop impl_spaceOf_o2f_impl_isChange_J1 impl_spaceOf_o2f_impl_isChange_O1 impl_spaceOf_o2f_impl_isChange_B1 (.seq .nil (.seq .nil (.seq (.seq .nil (.seq .nil (.loop impl_spaceOf_o2f_impl_isChange_J0 impl_spaceOf_o2f_impl_isChange_O0 impl_spaceOf_o2f_impl_isChange_B0 .nil))) .nil))))) .nil)))
theorem impl_spaceOf_o2f_impl_isChange_r0 (p : impl_spaceOf_o2f_impl_isChange_J1.P) : run impl_spaceOf_o2f_impl_isChange_x (subc [1, 1, 1, 0, 1, 0, 0] c150) (.seq .nil (.seq .nil (.seq (.seq .nil (.seq .nil (.loop impl_spaceOf_o2f_impl_isChange_J0 impl_spaceOf_o2f_impl_isChange_O0 impl_spaceOf_o2f_impl_isChange_B0 .nil))) .nil))) (impl_spaceOf_o2f_impl_isChange_J1.S p) (leaf impl_spaceOf_o2f_impl_isChange_J1 impl_spaceOf_o2f_impl_isChange_O1) = impl_spaceOf_o2f_impl_isChange_B1 p := by kernel_rfl
theorem impl_spaceOf_o2f_impl_isChange_r1 (p : impl_spaceOf_o2f_impl_isChange_J0.P) : run impl_spaceOf_o2f_impl_isChange_x (subc [1, 1, 1, 0, 1, 0, 0, 1, 1, 0, 0, 1, 1, 0, 0] c150) .nil (impl_spaceOf_o2f_impl_isChange_J0.S p) (leaf impl_spaceOf_o2f_impl_isChange_J0 impl_spaceOf_o2f_impl_isChange_O0) = impl_spaceOf_o2f_impl_isChange_B0 p := by kernel_rfl
noncomputable def impl_spaceOf_o2f_impl_isChange_D : Ve.Fn := ⟨150, impl_spaceOf_o2f_impl_isChange_a, impl_spaceOf_o2f_impl_isChange_o, impl_spaceOf_o2f_impl_isChange_E, impl_spaceOf_o2f_impl_isChange⟩
theorem impl_spaceOf_o2f_impl_isChange_w : Walk Tryz.prog impl_spaceOf_o2f_impl_isChange_x impl_spaceOf_o2f_impl_isChange_D Tryz.f150 c150 52 impl_spaceOf_o2f_impl_isChange_A :=
  ⟨⟨Tryz.func150, by kernel_rfl, by kernel_rfl, by kernel_rfl, by decide, by kernel_rfl, Nat.le_of_ble_eq_true (by kernel_rfl)⟩, by kernel_rfl, by kernel_rfl, by kernel_rfl, kcast (by kernel_rfl) (⟨impl_spaceOf_o2f_impl_isChange_r0, impl_spaceOf_o2f_impl_isChange_r1, trivial⟩ : (∀ p, run impl_spaceOf_o2f_impl_isChange_x (subc [1, 1, 1, 0, 1, 0, 0] c150) (.seq .nil (.seq .nil (.seq (.seq .nil (.seq .nil (.loop impl_spaceOf_o2f_impl_isChange_J0 impl_spaceOf_o2f_impl_isChange_O0 impl_spaceOf_o2f_impl_isChange_B0 .nil))) .nil))) (impl_spaceOf_o2f_impl_isChange_J1.S p) (leaf impl_spaceOf_o2f_impl_isChange_J1 impl_spaceOf_o2f_impl_isChange_O1) = impl_spaceOf_o2f_impl_isChange_B1 p) ∧ (∀ p, run impl_spaceOf_o2f_impl_isChange_x (subc [1, 1, 1, 0, 1, 0, 0, 1, 1, 0, 0, 1, 1, 0, 0] c150) .nil (impl_spaceOf_o2f_impl_isChange_J0.S p) (leaf impl_spaceOf_o2f_impl_isChange_J0 impl_spaceOf_o2f_impl_isChange_O0) = impl_spaceOf_o2f_impl_isChange_B0 p) ∧ True), by kernel_rfl, fun x y => by kernel_rfl⟩
theorem impl_spaceOf_o2f_impl_isChange_s : impl_spaceOf_o2f_impl_isChange_D.Says Tryz.prog := impl_spaceOf_o2f_impl_isChange_w.says follows tabOk impl_isChange_e_ok
noncomputable def impl_spaceOf_o2f_impl_isChange_e : Env := more impl_isChange_e impl_spaceOf_o2f_impl_isChange_D
theorem impl_spaceOf_o2f_impl_isChange_e_ok : EnvOk Tryz.prog impl_spaceOf_o2f_impl_isChange_e := more_ok impl_isChange_e_ok impl_spaceOf_o2f_impl_isChange_s
/-! loop.example/g01128/impl.orNone -/
abbrev impl_orNone_op21_E : Ve.End := ⟨[⟨2, (.prod (.own (.own .shr)) (.own .shr)), (.prod (.list (.list I)) (.list (.prod I I))), some 49⟩, ⟨3, .shr, .bool, none⟩], []⟩
abbrev impl_orNone_op21_a : List ASh := [.own (.prod (.own (.own .shr)) (.own .shr)) (.prod (.list (.list I)) (.list (.prod I I)))]
abbrev impl_orNone_op21_o : List OSh := []
noncomputable def impl_orNone_op21 : argP impl_orNone_op21_a → obP (extObs 0 impl_orNone_op21_o) → Option impl_orNone_op21_E.P
  | (x, ()), () => bif (decide ((300 : Int) < (List.length x.1 : Int))) then (some (((([] : (List (List Int))), ([] : (List (Int × Int)))), false, ()), ())) else (bif (decide ((6000 : Int) < (List.length x.2 : Int))) then (some (((([] : (List (List Int))), ([] : (List (Int × Int)))), false, ()), ())) else (some (((x.1, x.2), true, ()), ())))
noncomputable def impl_orNone_op21_x : Cx := ⟨tab, impl_spaceOf_o2f_impl_isChange_e, fun _ _ => 0, fun _ => false, [], []⟩
noncomputable def c149 : Code := bodyOf Tryz.f149
noncomputable def impl_orNone_op21_A : Ann := .nil
noncomputable def impl_orNone_op21_D : Ve.Fn := ⟨149, impl_orNone_op21_a, impl_orNone_op21_o, impl_orNone_op21_E, impl_orNone_op21⟩
theorem impl_orNone_op21_w : Walk Tryz.prog impl_orNone_op21_x impl_orNone_op21_D Tryz.f149 c149 16 impl_orNone_op21_A :=
  ⟨⟨Tryz.func149, by kernel_rfl, by kernel_rfl, by kernel_rfl, by decide, by kernel_rfl, Nat.le_of_ble_eq_true (by kernel_rfl)⟩, by kernel_rfl, by kernel_rfl, by kernel_rfl, kcast (by kernel_rfl) trivial, by kernel_rfl, fun x y => by kernel_rfl⟩
theorem impl_orNone_op21_s : impl_orNone_op21_D.Says Tryz.prog := impl_orNone_op21_w.says follows tabOk impl_spaceOf_o2f_impl_isChange_e_ok
noncomputable def impl_orNone_op21_e : Env := more impl_spaceOf_o2f_impl_isChange_e impl_orNone_op21_D
theorem impl_orNone_op21_e_ok : EnvOk Tryz.prog impl_orNone_op21_e := more_ok impl_spaceOf_o2f_impl_isChange_e_ok impl_orNone_op21_s
/-! loop.example/g01128/impl.MapSpace -/
abbrev impl_MapSpace_E : Ve.End := ⟨[⟨6, (.prod (.own (.own .shr)) (.own .shr)), (.prod (.list (.list I)) (.list (.prod I I))), some 49⟩, ⟨7, .shr, .bool, none⟩], []⟩
abbrev impl_MapSpace_a : List ASh := [.val (.prod I (.list (.prod I I))), .val (.prod I (.list (.prod I I))), .val .bool]
abbrev impl_MapSpace_o : List OSh := []
noncomputable def impl_MapSpace : argP impl_MapSpace_a → obP (extObs 0 impl_MapSpace_o) → Option impl_MapSpace_E.P
  | (g, h, lazy, ()), () => match impl_isMapCase (g, h, ()) () with | some ((r, ()), ()) => (bif (!r) then (some (((([] : (List (List Int))), ([] : (List (Int × Int)))), false, ()), ())) else (match impl_maps_vvvf_impl_MapSpace_1_0__b2 (g, h, lazy, ()) (([] : (List (List Int))), ()) with | some ((), (o, ())) => (bif (decide ((300 : Int) < (List.length o : Int))) then (some (((([] : (List (List Int))), ([] : (List (Int × Int)))), false, ()), ())) else (match impl_spaceOf_o2f_impl_isChange (o, ()) () with | some ((r2, ()), ()) => (match impl_orNone_op21 ((r2.1, r2.2), ()) () with | some ((r3, r4, ()), ()) => some (((r3.1, r3.2), r4, ()), ()) | none => none) | none => none)) | none => none)) | none => none
noncomputable def impl_MapSpace_x : Cx := ⟨tab, impl_orNone_op21_e, fun f n => bif Nat.beq f 149 && Nat.beq n 0 then 2 else bif Nat.beq f 150 && Nat.beq n 0 then 2 else 0, fun _ => false, [(11, 0), (11, 1), (11, 2), (11, 3), (19, 0), (19, 1), (19, 2), (19, 3)], [(3, 0), (4, 0)]⟩
noncomputable def c29 : Code := bodyOf Tryz.f29
noncomputable def impl_MapSpace_A : Ann := .nil
noncomputable def impl_MapSpace_D : Ve.Fn := ⟨29, impl_MapSpace_a, impl_MapSpace_o, impl_MapSpace_E, impl_MapSpace⟩
theorem impl_MapSpace_w : Walk Tryz.prog impl_MapSpace_x impl_MapSpace_D Tryz.f29 c29 29 impl_MapSpace_A :=
  ⟨⟨Tryz.func29, by kernel_rfl, by kernel_rfl, by kernel_rfl, by decide, by kernel_rfl, Nat.le_of_ble_eq_true (by kernel_rfl)⟩, by kernel_rfl, by kernel_rfl, by kernel_rfl, kcast (by kernel_rfl) trivial, by kernel_rfl, fun x y => by kernel_rfl⟩
theorem impl_MapSpace_s : impl_MapSpace_D.Says Tryz.prog := impl_MapSpace_w.says follows tabOk impl_orNone_op21_e_ok
noncomputable def impl_MapSpace_e : Env := more impl_orNone_op21_e impl_MapSpace_D
theorem impl_MapSpace_e_ok : EnvOk Tryz.prog impl_MapSpace_e := more_ok impl_orNone_op21_e_ok impl_MapSpace_s
/-! loop.example/g01128/impl.isMap$1 -/
abbrev impl_isMap_1_vc_E : Ve.End := ⟨[⟨3, .shr, .bool, none⟩], []⟩
abbrev impl_isMap_1_vc_a : List ASh := [.val I, .cst (.prod I (.list (.prod I I)))]
abbrev impl_isMap_1_vc_o : List OSh := []
noncomputable def impl_isMap_1_vc : argP impl_isMap_1_vc_a → obP (extObs 0 impl_isMap_1_vc_o) → Option impl_isMap_1_vc_E.P
  | (x, t1, ()), () => match impl_between (x, (0 : Int), (w64 (t1.1 - (1 : Int))), ()) () with | some ((r, ()), ()) => some (((!r), ()), ()) | none => none
noncomputable def impl_isMap_1_vc_x : Cx := ⟨tab, impl_MapSpace_e, fun _ _ => 0, fun _ => false, [(8, 0), (8, 1), (8, 2), (8, 3)], []⟩
noncomputable def c250 : Code := bodyOf Tryz.f250
noncomputable def impl_isMap_1_vc_A : Ann := .nil
noncomputable def impl_isMap_1_vc_D : Ve.Fn := ⟨250, impl_isMap_1_vc_a, impl_isMap_1_vc_o, impl_isMap_1_vc_E, impl_isMap_1_vc⟩
theorem impl_isMap_1_vc_w : Walk Tryz.prog impl_isMap_1_vc_x impl_isMap_1_vc_D Tryz.f250 c250 10 impl_isMap_1_vc_A :=
  ⟨⟨Tryz.func250, by kernel_rfl, by kernel_rfl, by kernel_rfl, by decide, by kernel_rfl, Nat.le_of_ble_eq_true (by kernel_rfl)⟩, by kernel_rfl, by kernel_rfl, by kernel_rfl, kcast (by kernel_rfl) trivial, by kernel_rfl, fun x y => by kernel_rfl⟩
theorem impl_isMap_1_vc_s : impl_isMap_1_vc_D.Says Tryz.prog := impl_isMap_1_vc_w.says follows tabOk impl_MapSpace_e_ok
noncomputable def impl_isMap_1_vc_e : Env := more impl_MapSpace_e impl_isMap_1_vc_D
theorem impl_isMap_1_vc_e_ok : EnvOk Tryz.prog impl_isMap_1_vc_e := more_ok impl_MapSpace_e_ok impl_isMap_1_vc_s
/-! slices.IndexFunc[[]int,int] -/
abbrev slices_IndexFunc_int_int_2_vf_impl_isMap_1_0__bs_J0 : Tpl := ⟨[(0, .val (.list I)), (1, .fn ⟨250, [(1000000, 0)]⟩), (7, .val I), (8, .val I)], [((1000000, 0), .box .shr (.prod I (.list (.prod I I))))], []⟩
abbrev slices_IndexFunc_int_int_2_vf_impl_isMap_1_0__bs_J1 : Tpl := ⟨[(4, .val I)], [((1000000, 0), .box .shr (.prod I (.list (.prod I I))))], []⟩
abbrev slices_IndexFunc_int_int_2_vf_impl_isMap_1_0__bs_J2 : Tpl := ⟨[], [((1000000, 0), .box .shr (.prod I (.list (.prod I I))))], []⟩
abbrev slices_IndexFunc_int_int_2_vf_impl_isMap_1_0__bs_E : Ve.End := ⟨[⟨4, .shr, I, none⟩], [.box .shr (.prod I (.list (.prod I I)))]⟩
abbrev slices_IndexFunc_int_int_2_vf_impl_isMap_1_0__bs_a : List ASh := [.val (.list I), .fn 250 [0]]
abbrev slices_IndexFunc_int_int_2_vf_impl_isMap_1_0__bs_o : List OSh := [.box .shr (.prod I (.list (.prod I I)))]
abbrev slices_IndexFunc_int_int_2_vf_impl_isMap_1_0__bs_O0 : Out := .or .ret slices_IndexFunc_int_int_2_vf_impl_isMap_1_0__bs_J1 (.one (.ex 0) slices_IndexFunc_int_int_2_vf_impl_isMap_1_0__bs_J2)
noncomputable def slices_IndexFunc_int_int_2_vf_impl_isMap_1_0__bs_B0 : slices_IndexFunc_int_int_2_vf_impl_isMap_1_0__bs_J0.P → Option (slices_IndexFunc_int_int_2_vf_impl_isMap_1_0__bs_J0.P ⊕ slices_IndexFunc_int_int_2_vf_impl_isMap_1_0__bs_O0.P)
  | ((s, t7, t8, ()), (o0, ())) => bif (decide (t8 < t7)) then (guardB (inb t8 (List.length s)) (match impl_isMap_1_vc ((List.getD s (Int.toNat t8) (0 : Int)), o0, ()) () with | some ((r, ()), ()) => (bif r then (some (.inr (.inl ((t8, ()), (o0, ()))))) else (some (.inl ((s, t7, (w64 (t8 + (1 : Int))), ()), (o0, ()))))) | none => none)) else (some (.inr (.inr ((), (o0, ())))))
noncomputable def slices_IndexFunc_int_int_2_vf_impl_isMap_1_0__bs : argP slices_IndexFunc_int_int_2_vf_impl_isMap_1_0__bs_a → obP (extObs 0 slices_IndexFunc_int_int_2_vf_impl_isMap_1_0__bs_o) → Option slices_IndexFunc_int_int_2_vf_impl_isMap_1_0__bs_E.P
  | (s, ()), (o0, ()) => match loopO slices_IndexFunc_int_int_2_vf_impl_isMap_1_0__bs_B0 ((s, (List.length s : Int), (0 : Int), ()), (o0, ())) with | some (.inl ((t4, ()), (o0_2, ()))) => some ((t4, ()), (o0_2, ())) | some (.inr ((), (o0_3, ()))) => some (((-1 : Int), ()), (o0_3, ())) | none => none
noncomputable def slices_IndexFunc_int_int_2_vf_impl_isMap_1_0__bs_x : Cx := ⟨tab, impl_isMap_1_vc_e, fun _ _ => 0, fun _ => false, [(16, 0), (16, 1), (16, 2), (16, 3)], []⟩
noncomputable def slices_IndexFunc_int_int_2_vf_impl_isMap_1_0__bs_A : Ann := .seq .nil (.seq (.seq .nil (.loop slices_IndexFunc_int_int_2_vf_impl_isMap_1_0__bs_J0 slices_IndexFunc_int_int_2_vf_impl_isMap_1_0__bs_O0 slices_IndexFunc_int_int_2_vf_impl_isMap_1_0__bs_B0 .nil)) .nil)
theorem slices_IndexFunc_int_int_2_vf_impl_isMap_1_0__bs_r0 (p : slices_IndexFunc_int_int_2_vf_impl_isMap_1_0__bs_J0.P) : run slices_IndexFunc_int_int_2_vf_impl_isMap_1_0__bs_x (subc [1, 0, 1, 0, 0] c310) .nil (slices_IndexFunc_int_int_2_vf_impl_isMap_1_0__bs_J0.S p) (leaf slices_IndexFunc_int_int_2_vf_impl_isMap_1_0__bs_J0 slices_IndexFunc_int_int_2_vf_impl_isMap_1_0__bs_O0) = slices_IndexFunc_int_int_2_vf_impl_isMap_1_0__bs_B0 p := by kernel_rfl
noncomputable def slices_IndexFunc_int_int_2_vf_impl_isMap_1_0__bs_D : Ve.Fn := ⟨310, slices_IndexFunc_int_int_2_vf_impl_isMap_1_0__bs_a, slices_IndexFunc_int_int_2_vf_impl_isMap_1_0__bs_o, slices_IndexFunc_int_int_2_vf_impl_isMap_1_0__bs_E, slices_IndexFunc_int_int_2_vf_impl_isMap_1_0__bs⟩
theorem slices_IndexFunc_int_int_2_vf_impl_isMap_1_0__bs_w : Walk Tryz.prog slices_IndexFunc_int_int_2_vf_impl_isMap_1_0__bs_x slices_IndexFunc_int_int_2_vf_impl_isMap_1_0__bs_D Tryz.f310 c310 19 slices_IndexFunc_int_int_2_vf_impl_isMap_1_0__bs_A :=
  ⟨⟨Tryz.func310, by kernel_rfl, by kernel_rfl, by kernel_rfl, by decide, by kernel_rfl, Nat.le_of_ble_eq_true (by kernel_rfl)⟩, by kernel_rfl, by kernel_rfl, by kernel_rfl, kcast (by kernel_rfl) (⟨slices_IndexFunc_int_int_2_vf_impl_isMap_1_0__bs_r0, trivial⟩ : (∀ p, run slices_IndexFunc_int_int_2_vf_impl_isMap_1_0__bs_x (subc [1, 0, 1, 0, 0] c310) .nil (slices_IndexFunc_int_int_2_vf_impl_isMap_1_0__bs_J0.S p) (leaf slices_IndexFunc_int_int_2_vf_impl_isMap_1_0__bs_J0 slices_IndexFunc_int_int_2_vf_impl_isMap_1_0__bs_O0) = slices_IndexFunc_int_int_2_vf_impl_isMap_1_0__bs_B0 p) ∧ True), by kernel_rfl, fun x y => by kernel_rfl⟩
theorem slices_IndexFunc_int_int_2_vf_impl_isMap_1_0__bs_s : slices_IndexFunc_int_int_2_vf_impl_isMap_1_0__bs_D.Says Tryz.prog := slices_IndexFunc_int_int_2_vf_impl_isMap_1_0__bs_w.says follows tabOk impl_isMap_1_vc_e_ok
noncomputable def slices_IndexFunc_int_int_2_vf_impl_isMap_1_0__bs_e : Env := more impl_isMap_1_vc_e slices_IndexFunc_int_int_2_vf_impl_isMap_1_0__bs_D
theorem slices_IndexFunc_int_int_2_vf_impl_isMap_1_0__bs_e_ok : EnvOk Tryz.prog slices_IndexFunc_int_int_2_vf_impl_isMap_1_0__bs_e := more_ok impl_isMap_1_vc_e_ok slices_IndexFunc_int_int_2_vf_impl_isMap_1_0__bs_s
/-! slices.ContainsFunc[[]int,int] -/
abbrev slices_ContainsFunc_int_int_2_vf_impl_isMap_1_0__bs_E : Ve.End := ⟨[⟨4, .shr, .bool, none⟩], [.box .shr (.prod I (.list (.prod I I)))]⟩
abbrev slices_ContainsFunc_int_int_2_vf_impl_isMap_1_0__bs_a : List ASh := [.val (.list I), .fn 250 [0]]
abbrev slices_ContainsFunc_int_int_2_vf_impl_isMap_1_0__bs_o : List OSh := [.box .shr (.prod I (.list (.prod I I)))]
noncomputable def slices_ContainsFunc_int_int_2_vf_impl_isMap_1_0__bs : argP slices_ContainsFunc_int_int_2_vf_impl_isMap_1_0__bs_a → obP (extObs 0 slices_ContainsFunc_int_int_2_vf_impl_isMap_1_0__bs_o) → Option slices_ContainsFunc_int_int_2_vf_impl_isMap_1_0__bs_E.P
  | (s, ()), (o0, ()) => match slices_IndexFunc_int_int_2_vf_impl_isMap_1_0__bs (s, ()) (o0, ()) with | some ((r, ()), (o, ())) => some (((decide ((0 : Int) ≤ r)), ()), (o, ())) | none => none
noncomputable def slices_ContainsFunc_int_int_2_vf_impl_isMap_1_0__bs_x : Cx := ⟨tab, slices_IndexFunc_int_int_2_vf_impl_isMap_1_0__bs_e, fun _ _ => 0, fun _ => false, [(7, 0), (7, 1), (7, 2), (7, 3)], []⟩
noncomputable def slices_ContainsFunc_int_int_2_vf_impl_isMap_1_0__bs_A : Ann := .nil
noncomputable def slices_ContainsFunc_int_int_2_vf_impl_isMap_1_0__bs_D : Ve.Fn := ⟨249, slices_ContainsFunc_int_int_2_vf_impl_isMap_1_0__bs_a, slices_ContainsFunc_int_int_2_vf_impl_isMap_1_0__bs_o, slices_ContainsFunc_int_int_2_vf_impl_isMap_1_0__bs_E, slices_ContainsFunc_int_int_2_vf_impl_isMap_1_0__bs⟩
theorem slices_ContainsFunc_int_int_2_vf_impl_isMap_1_0__bs_w : Walk Tryz.prog slices_ContainsFunc_int_int_2_vf_impl_isMap_1_0__bs_x slices_ContainsFunc_int_int_2_vf_impl_isMap_1_0__bs_D Tryz.f249 c249 9 slices_ContainsFunc_int_int_2_vf_impl_isMap_1_0__bs_A :=
  ⟨⟨Tryz.func249, by kernel_rfl, by kernel_rfl, by kernel_rfl, by decide, by kernel_rfl, Nat.le_of_ble_eq_true (by kernel_rfl)⟩, by kernel_rfl, by kernel_rfl, by kernel_rfl, kcast (by kernel_rfl) trivial, by kernel_rfl, fun x y => by kernel_rfl⟩
theorem slices_ContainsFunc_int_int_2_vf_impl_isMap_1_0__bs_s : slices_ContainsFunc_int_int_2_vf_impl_isMap_1_0__bs_D.Says Tryz.prog := slices_ContainsFunc_int_int_2_vf_impl_isMap_1_0__bs_w.says follows tabOk slices_IndexFunc_int_int_2_vf_impl_isMap_1_0__bs_e_ok
noncomputable def slices_ContainsFunc_int_int_2_vf_impl_isMap_1_0__bs_e : Env := more slices_IndexFunc_int_int_2_vf_impl_isMap_1_0__bs_e slices_ContainsFunc_int_int_2_vf_impl_isMap_1_0__bs_D
theorem slices_ContainsFunc_int_int_2_vf_impl_isMap_1_0__bs_e_ok : EnvOk Tryz.prog slices_ContainsFunc_int_int_2_vf_impl_isMap_1_0__bs_e := more_ok slices_IndexFunc_int_int_2_vf_impl_isMap_1_0__bs_e_ok slices_ContainsFunc_int_int_2_vf_impl_isMap_1_0__bs_s
/-! loop.example/g01128/impl.isMap$2 -/
abbrev impl_isMap_2_vccc_E : Ve.End := ⟨[⟨5, .shr, .bool, none⟩], []⟩
abbrev impl_isMap_2_vccc_a : List ASh := [.val (.prod I I), .cst (.prod I (.list (.prod I I))), .cst (.list I), .cst .bool]
abbrev impl_isMap_2_vccc_o : List OSh := []
noncomputable def impl_isMap_2_vccc : argP impl_isMap_2_vccc_a → obP (extObs 0 impl_isMap_2_vccc_o) → Option impl_isMap_2_vccc_E.P
  | (e, t1, t2, t3, ()), () => guardB (inb e.1 (List.length t2)) (guardB (inb e.2 (List.length t2)) (match impl_Graph_isFit (t1, (List.getD t2 (Int.toNat e.1) (0 : Int)), (List.getD t2 (Int.toNat e.2) (0 : Int)), t3, ()) () with | some ((r, ()), ()) => some (((!r), ()), ()) | none => none))
noncomputable def impl_isMap_2_vccc_x : Cx := ⟨tab, slices_ContainsFunc_int_int_2_vf_impl_isMap_1_0__bs_e, fun _ _ => 0, fun _ => false, [(18, 0), (18, 1), (18, 2), (18, 3)], [(4, 0)]⟩
noncomputable def c252 : Code := bodyOf Tryz.f252
noncomputable def impl_isMap_2_vccc_A : Ann := .seq .nil (.seq (.draw [(0, .flo), (1, .flo), (2, .flo), (3, .flo), (4, .flo), (5, .flo), (6, .flo), (7, .flo), (8, .flo), (9, .flo), (10, .flo), (11, .flo), (12, .sole), (13, .flo), (14, .flo)]) .nil)
noncomputable def impl_isMap_2_vccc_D : Ve.Fn := ⟨252, impl_isMap_2_vccc_a, impl_isMap_2_vccc_o, impl_isMap_2_vccc_E, impl_isMap_2_vccc⟩
theorem impl_isMap_2_vccc_w : Walk Tryz.prog impl_isMap_2_vccc_x impl_isMap_2_vccc_D Tryz.f252 c252 20 impl_isMap_2_vccc_A :=
  ⟨⟨Tryz.func252, by kernel_rfl, by kernel_rfl, by kernel_rfl, by decide, by kernel_rfl, Nat.le_of_ble_eq_true (by kernel_rfl)⟩, by kernel_rfl, by kernel_rfl, by kernel_rfl, kcast (by kernel_rfl) trivial, by kernel_rfl, fun x y => by kernel_rfl⟩
theorem impl_isMap_2_vccc_s : impl_isMap_2_vccc_D.Says Tryz.prog := impl_isMap_2_vccc_w.says follows tabOk slices_ContainsFunc_int_int_2_vf_impl_isMap_1_0__bs_e_ok
noncomputable def impl_isMap_2_vccc_e : Env := more slices_ContainsFunc_int_int_2_vf_impl_isMap_1_0__bs_e impl_isMap_2_vccc_D
theorem impl_isMap_2_vccc_e_ok : EnvOk Tryz.prog impl_isMap_2_vccc_e := more_ok slices_ContainsFunc_int_int_2_vf_impl_isMap_1_0__bs_e_ok impl_isMap_2_vccc_s
/-! slices.IndexFunc[[][2]int,[2]int] -/
abbrev slices_IndexFunc_2_int_2_int_vf_impl_isMap_2_012__bsbsbs_J0 : Tpl := ⟨[(0, .val (.list (.prod I I))), (1, .fn ⟨252, [(1000000, 0), (1000001, 0), (1000002, 0)]⟩), (7, .val I), (8, .val I)], [((1000000, 0), .box .shr (.prod I (.list (.prod I I)))), ((1000001, 0), .box .shr (.list I)), ((1000002, 0), .box .shr .bool)], []⟩
abbrev slices_IndexFunc_2_int_2_int_vf_impl_isMap_2_012__bsbsbs_J1 : Tpl := ⟨[(4, .val I)], [((1000000, 0), .box .shr (.prod I (.list (.prod I I)))), ((1000001, 0), .box .shr (.list I)), ((1000002, 0), .box .shr .bool)], []⟩
abbrev slices_IndexFunc_2_int_2_int_vf_impl_isMap_2_012__bsbsbs_J2 : Tpl := ⟨[], [((1000000, 0), .box .shr (.prod I (.list (.prod I I)))), ((1000001, 0), .box .shr (.list I)), ((1000002, 0), .box .shr .bool)], []⟩
abbrev slices_IndexFunc_2_int_2_int_vf_impl_isMap_2_012__bsbsbs_E : Ve.End := ⟨[⟨4, .shr, I, none⟩], [.box .shr (.prod I (.list (.prod I I))), .box .shr (.list I), .box .shr .bool]⟩
abbrev slices_IndexFunc_2_int_2_int_vf_impl_isMap_2_012__bsbsbs_a : List ASh := [.val (.list (.prod I I)), .fn 252 [0, 1, 2]]
abbrev slices_IndexFunc_2_int_2_int_vf_impl_isMap_2_012__bsbsbs_o : List OSh := [.box .shr (.prod I (.list (.prod I I))), .box .shr (.list I), .box .shr .bool]
abbrev slices_IndexFunc_2_int_2_int_vf_impl_isMap_2_012__bsbsbs_O0 : Out := .or .ret slices_IndexFunc_2_int_2_int_vf_impl_isMap_2_012__bsbsbs_J1 (.one (.ex 0) slices_IndexFunc_2_int_2_int_vf_impl_isMap_2_012__bsbsbs_J2)
noncomputable def slices_IndexFunc_2_int_2_int_vf_impl_isMap_2_012__bsbsbs_B0 : slices_IndexFunc_2_int_2_int_vf_impl_isMap_2_012__bsbsbs_J0.P → Option (slices_IndexFunc_2_int_2_int_vf_impl_isMap_2_012__bsbsbs_J0.P ⊕ slices_IndexFunc_2_int_2_int_vf_impl_isMap_2_012__bsbsbs_O0.P)
  | ((s, t7, t8, ()), (o0, o1, o2, ())) => bif (decide (t8 < t7)) then (guardB (inb t8 (List.length s)) (match impl_isMap_2_vccc ((List.getD s (Int.toNat t8) ((0 : Int), (0 : Int))), o0, o1, o2, ()) () with | some ((r, ()), ()) => (bif r then (some (.inr (.inl ((t8, ()), (o0, o1, o2, ()))))) else (some (.inl ((s, t7, (w64 (t8 + (1 : Int))), ()), (o0, o1, o2, ()))))) | none => none)) else (some (.inr (.inr ((), (o0, o1, o2, ())))))
noncomputable def slices_IndexFunc_2_int_2_int_vf_impl_isMap_2_012__bsbsbs : argP slices_IndexFunc_2_int_2_int_vf_impl_isMap_2_012__bsbsbs_a → obP (extObs 0 slices_IndexFunc_2_int_2_int_vf_impl_isMap_2_012__bsbsbs_o) → Option slices_IndexFunc_2_int_2_int_vf_impl_isMap_2_012__bsbsbs_E.P
  | (s, ()), (o0, o1, o2, ()) => match loopO slices_IndexFunc_2_int_2_int_vf_impl_isMap_2_012__bsbsbs_B0 ((s, (List.length s : Int), (0 : Int), ()), (o0, o1, o2, ())) with | some (.inl ((t4, ()), (o0_2, o1_2, o2_2, ()))) => some ((t4, ()), (o0_2, o1_2, o2_2, ())) | some (.inr ((), (o0_3, o1_3, o2_3, ()))) => some (((-1 : Int), ()), (o0_3, o1_3, o2_3, ())) | none => none
noncomputable def slices_IndexFunc_2_int_2_int_vf_impl_isMap_2_012__bsbsbs_x : Cx := ⟨tab, impl_isMap_2_vccc_e, fun _ _ => 0, fun _ => false, [(16, 0), (16, 1), (16, 2), (16, 3)], []⟩
noncomputable def c311 : Code := bodyOf Tryz.f311
noncomputable def slices_IndexFunc_2_int_2_int_vf_impl_isMap_2_012__bsbsbs_A : Ann := .seq .nil (.seq (.seq .nil (.loop slices_IndexFunc_2_int_2_int_vf_impl_isMap_2_012__bsbsbs_J0 slices_IndexFunc_2_int_2_int_vf_impl_isMap_2_012__bsbsbs_O0 slices_IndexFunc_2_int_2_int_vf_impl_isMap_2_012__bsbsbs_B0 .nil)) .nil)
theorem slices_IndexFunc_2_int_2_int_vf_impl_isMap_2_012__bsbsbs_r0 (p : slices_IndexFunc_2_int_2_int_vf_impl_isMap_2_012__bsbsbs_J0.P) : run slices_IndexFunc_2_int_2_int_vf_impl_isMap_2_012__bsbsbs_x (subc [1, 0, 1, 0, 0] c311) .nil (slices_IndexFunc_2_int_2_int_vf_impl_isMap_2_012__bsbsbs_J0.S p) (leaf slices_IndexFunc_2_int_2_int_vf_impl_isMap_2_012__bsbsbs_J0 slices_IndexFunc_2_int_2_int_vf_impl_isMap_2_012__bsbsbs_O0) = slices_IndexFunc_2_int_2_int_vf_impl_isMap_2_012__bsbsbs_B0 p := by kernel_rfl
noncomputable def slices_IndexFunc_2_int_2_int_vf_impl_isMap_2_012__bsbsbs_D : Ve.Fn := ⟨311, slices_IndexFunc_2_int_2_int_vf_impl_isMap_2_012__bsbsbs_a, slices_IndexFunc_2_int_2_int_vf_impl_isMap_2_012__bsbsbs_o, slices_IndexFunc_2_int_2_int_vf_impl_isMap_2_012__bsbsbs_E, slices_IndexFunc_2_int_2_int_vf_impl_isMap_2_012__bsbsbs⟩
theorem slices_IndexFunc_2_int_2_int_vf_impl_isMap_2_012__bsbsbs_w : Walk Tryz.prog slices_IndexFunc_2_int_2_int_vf_impl_isMap_2_012__bsbsbs_x slices_IndexFunc_2_int_2_int_vf_impl_isMap_2_012__bsbsbs_D Tryz.f311 c311 19 slices_IndexFunc_2_int_2_int_vf_impl_isMap_2_012__bsbsbs_A :=
  ⟨⟨Tryz.func311, by kernel_rfl, by kernel_rfl, by kernel_rfl, by decide, by kernel_rfl, Nat.le_of_ble_eq_true (by kernel_rfl)⟩, by kernel_rfl, by kernel_rfl, by kernel_rfl, kcast (by kernel_rfl) (⟨slices_IndexFunc_2_int_2_int_vf_impl_isMap_2_012__bsbsbs_r0, trivial⟩ : (∀ p, run slices_IndexFunc_2_int_2_int_vf_impl_isMap_2_012__bsbsbs_x (subc [1, 0, 1, 0, 0] c311) .nil (slices_IndexFunc_2_int_2_int_vf_impl_isMap_2_012__bsbsbs_J0.S p) (leaf slices_IndexFunc_2_int_2_int_vf_impl_isMap_2_012__bsbsbs_J0 slices_IndexFunc_2_int_2_int_vf_impl_isMap_2_012__bsbsbs_O0) = slices_IndexFunc_2_int_2_int_vf_impl_isMap_2_012__bsbsbs_B0 p) ∧ True), by kernel_rfl, fun x y => by kernel_rfl⟩
theorem slices_IndexFunc_2_int_2_int_vf_impl_isMap_2_012__bsbsbs_s : slices_IndexFunc_2_int_2_int_vf_impl_isMap_2_012__bsbsbs_D.Says Tryz.prog := slices_IndexFunc_2_int_2_int_vf_impl_isMap_2_012__bsbsbs_w.says follows tabOk impl_isMap_2_vccc_e_ok
noncomputable def slices_IndexFunc_2_int_2_int_vf_impl_isMap_2_012__bsbsbs_e : Env := more impl_isMap_2_vccc_e slices_IndexFunc_2_int_2_int_vf_impl_isMap_2_012__bsbsbs_D
theorem slices_IndexFunc_2_int_2_int_vf_impl_isMap_2_012__bsbsbs_e_ok : EnvOk Tryz.prog slices_IndexFunc_2_int_2_int_vf_impl_isMap_2_012__bsbsbs_e := more_ok impl_isMap_2_vccc_e_ok slices_IndexFunc_2_int_2_int_vf_impl_isMap_2_012__bsbsbs_s
/-! slices.ContainsFunc[[][2]int,[2]int] -/
abbrev slices_ContainsFunc_2_int_2_int_vf_impl_isMap_2_012__bsbsbs_E : Ve.End := ⟨[⟨4, .shr, .bool, none⟩], [.box .shr (.prod I (.list (.prod I I))), .box .shr (.list I), .box .shr .bool]⟩
abbrev slices_ContainsFunc_2_int_2_int_vf_impl_isMap_2_012__bsbsbs_a : List ASh := [.val (.list (.prod I I)), .fn 252 [0, 1, 2]]
abbrev slices_ContainsFunc_2_int_2_int_vf_impl_isMap_2_012__bsbsbs_o : List OSh := [.box .shr (.prod I (.list (.prod I I))), .box .shr (.list I), .box .shr .bool]
noncomputable def slices_ContainsFunc_2_int_2_int_vf_impl_isMap_2_012__bsbsbs : argP slices_ContainsFunc_2_int_2_int_vf_impl_isMap_2_012__bsbsbs_a → obP (extObs 0 slices_ContainsFunc_2_int_2_int_vf_impl_isMap_2_012__bsbsbs_o) → Option slices_ContainsFunc_2_int_2_int_vf_impl_isMap_2_012__bsbsbs_E.P
  | (s, ()), (o0, o1, o2, ()) => match slices_IndexFunc_2_int_2_int_vf_impl_isMap_2_012__bsbsbs (s, ()) (o0, o1, o2, ()) with | some ((r, ()), (o, o3, o4, ())) => some (((decide ((0 : Int) ≤ r)), ()), (o, o3, o4, ())) | none => none
noncomputable def slices_ContainsFunc_2_int_2_int_vf_impl_isMap_2_012__bsbsbs_x : Cx := ⟨tab, slices_IndexFunc_2_int_2_int_vf_impl_isMap_2_012__bsbsbs_e, fun _ _ => 0, fun _ => false, [(7, 0), (7, 1), (7, 2), (7, 3)], []⟩
noncomputable def c251 : Code := bodyOf Tryz.f251
noncomputable def slices_ContainsFunc_2_int_2_int_vf_impl_isMap_2_012__bsbsbs_A : Ann := .nil
noncomputable def slices_ContainsFunc_2_int_2_int_vf_impl_isMap_2_012__bsbsbs_D : Ve.Fn := ⟨251, slices_ContainsFunc_2_int_2_int_vf_impl_isMap_2_012__bsbsbs_a, slices_ContainsFunc_2_int_2_int_vf_impl_isMap_2_012__bsbsbs_o, slices_ContainsFunc_2_int_2_int_vf_impl_isMap_2_012__bsbsbs_E, slices_ContainsFunc_2_int_2_int_vf_impl_isMap_2_012__bsbsbs⟩
theorem slices_ContainsFunc_2_int_2_int_vf_impl_isMap_2_012__bsbsbs_w : Walk Tryz.prog slices_ContainsFunc_2_int_2_int_vf_impl_isMap_2_012__bsbsbs_x slices_ContainsFunc_2_int_2_int_vf_impl_isMap_2_012__bsbsbs_D Tryz.f251 c251 9 slices_ContainsFunc_2_int_2_int_vf_impl_isMap_2_012__bsbsbs_A :=
  ⟨⟨Tryz.func251, by kernel_rfl, by kernel_rfl, by kernel_rfl, by decide, by kernel_rfl, Nat.le_of_ble_eq_true (by kernel_rfl)⟩, by kernel_rfl, by kernel_rfl, by kernel_rfl, kcast (by kernel_rfl) trivial, by kernel_rfl, fun x y => by kernel_rfl⟩
theorem slices_ContainsFunc_2_int_2_int_vf_impl_isMap_2_012__bsbsbs_s : slices_ContainsFunc_2_int_2_int_vf_impl_isMap_2_012__bsbsbs_D.Says Tryz.prog := slices_ContainsFunc_2_int_2_int_vf_impl_isMap_2_012__bsbsbs_w.says follows tabOk slices_IndexFunc_2_int_2_int_vf_impl_isMap_2_012__bsbsbs_e_ok
noncomputable def slices_ContainsFunc_2_int_2_int_vf_impl_isMap_2_012__bsbsbs_e : Env := more slices_IndexFunc_2_int_2_int_vf_impl_isMap_2_012__bsbsbs_e slices_ContainsFunc_2_int_2_int_vf_impl_isMap_2_012__bsbsbs_D
theorem slices_ContainsFunc_2_int_2_int_vf_impl_isMap_2_012__bsbsbs_e_ok : EnvOk Tryz.prog slices_ContainsFunc_2_int_2_int_vf_impl_isMap_2_012__bsbsbs_e := more_ok slices_IndexFunc_2_int_2_int_vf_impl_isMap_2_012__bsbsbs_e_ok slices_ContainsFunc_2_int_2_int_vf_impl_isMap_2_012__bsbsbs_s
/-! loop.example/g01128/impl.isMap -/
abbrev impl_isMap_E : Ve.End := ⟨[⟨8, .shr, .bool, none⟩], []⟩
abbrev impl_isMap_a : List ASh := [.val (.prod I (.list (.prod I I))), .val (.prod I (.list (.prod I I))), .val (.list I), .val .bool]
abbrev impl_isMap_o : List OSh := []
noncomputable def impl_isMap : argP impl_isMap_a → obP (extObs 0 impl_isMap_o) → Option impl_isMap_E.P
  | (g, h, list, lazy, ()), () => bif ((List.length list : Int) != g.1) then (some ((false, ()), ())) else (match slices_ContainsFunc_int_int_2_vf_impl_isMap_1_0__bs (list, ()) (h, ()) with | some ((r, ()), (o, ())) => (bif r then (some ((false, ()), ())) else (match slices_ContainsFunc_2_int_2_int_vf_impl_isMap_2_012__bsbsbs (g.2, ()) (o, list, lazy, ()) with | some ((r2, ()), (o2, o3, o4, ())) => some (((!r2), ()), ()) | none => none)) | none => none)
noncomputable def impl_isMap_x : Cx := ⟨tab, slices_ContainsFunc_2_int_2_int_vf_impl_isMap_2_012__bsbsbs_e, fun _ _ => 0, fun _ => false, [(17, 0), (17, 1), (17, 2), (17, 3), (22, 0), (22, 1), (22, 2), (22, 3)], [(4, 0)]⟩
noncomputable def c132 : Code := bodyOf Tryz.f132
noncomputable def impl_isMap_A : Ann := .nil
noncomputable def impl_isMap_D : Ve.Fn := ⟨132, impl_isMap_a, impl_isMap_o, impl_isMap_E, impl_isMap⟩
theorem impl_isMap_w : Walk Tryz.prog impl_isMap_x impl_isMap_D Tryz.f132 c132 24 impl_isMap_A :=
  ⟨⟨Tryz.func132, by kernel_rfl, by kernel_rfl, by kernel_rfl, by decide, by kernel_rfl, Nat.le_of_ble_eq_true (by kernel_rfl)⟩, by kernel_rfl, by kernel_rfl, by kernel_rfl, kcast (by kernel_rfl) trivial, by kernel_rfl, fun x y => by kernel_rfl⟩
theorem impl_isMap_s : impl_isMap_D.Says Tryz.prog := impl_isMap_w.says follows tabOk slices_ContainsFunc_2_int_2_int_vf_impl_isMap_2_012__bsbsbs_e_ok
noncomputable def impl_isMap_e : Env := more slices_ContainsFunc_2_int_2_int_vf_impl_isMap_2_012__bsbsbs_e impl_isMap_D
theorem impl_isMap_e_ok : EnvOk Tryz.prog impl_isMap_e := more_ok slices_ContainsFunc_2_int_2_int_vf_impl_isMap_2_012__bsbsbs_e_ok impl_isMap_s
/-! slices.Compare[[]int,int] -/
abbrev slices_Compare_int_int_J0 : Tpl := ⟨[(0, .val (.list I)), (1, .val (.list I)), (9, .val (.list I)), (10, .val I), (11, .val I)], [], []⟩
abbrev slices_Compare_int_int_J1 : Tpl := ⟨[(4, .val I)], [], []⟩
abbrev slices_Compare_int_int_J2 : Tpl := ⟨[(0, .val (.list I)), (1, .val (.list I))], [], []⟩
abbrev slices_Compare_int_int_E : Ve.End := ⟨[⟨4, .shr, I, none⟩], []⟩
abbrev slices_Compare_int_int_a : List ASh := [.val (.list I), .val (.list I)]
abbrev slices_Compare_int_int_o : List OSh := []
abbrev slices_Compare_int_int_O0 : Out := .or .ret slices_Compare_int_int_J1 (.one (.ex 0) slices_Compare_int_int_J2)
noncomputable def slices_Compare_int_int_B0 : slices_Compare_int_int_J0.P → Option (slices_Compare_int_int_J0.P ⊕ slices_Compare_int_int_O0.P)
  | ((s1, s2, t9, t10, t11, ()), ()) => bif (decide (t11 < t10)) then (guardB (inb t11 (List.length t9)) (bif (decide ((List.length s2 : Int) ≤ t11)) then (some (.inr (.inl (((1 : Int), ()), ())))) else (guardB (inb t11 (List.length s2)) (match cmp_Compare_int ((List.getD t9 (Int.toNat t11) (0 : Int)), (List.getD s2 (Int.toNat t11) (0 : Int)), ()) () with | some ((r, ()), ()) => (bif (r != (0 : Int)) then (some (.inr (.inl ((r, ()), ())))) else (some (.inl ((s1, s2, t9, t10, (w64 (t11 + (1 : Int))), ()), ())))) | none => none)))) else (some (.inr (.inr ((s1, s2, ()), ()))))
noncomputable def slices_Compare_int_int : argP slices_Compare_int_int_a → obP (extObs 0 slices_Compare_int_int_o) → Option slices_Compare_int_int_E.P
  | (s1, s2, ()), () => match loopO slices_Compare_int_int_B0 ((s1, s2, s1, (List.length s1 : Int), (0 : Int), ()), ()) with | some (.inl ((t4, ()), ())) => some ((t4, ()), ()) | some (.inr ((s1_2, s2_2, ()), ())) => (bif (decide ((List.length s1_2 : Int) < (List.length s2_2 : Int))) then (some (((-1 : Int), ()), ())) else (some (((0 : Int), ()), ()))) | none => none
noncomputable def slices_Compare_int_int_x : Cx := ⟨tab, impl_isMap_e, fun _ _ => 0, fun _ => false, [(26, 0), (26, 1), (26, 2), (26, 3)], []⟩
noncomputable def c261 : Code := bodyOf Tryz.f261
noncomputable def slices_Compare_int_int_A : Ann := .seq .nil (.seq (.seq .nil (.loop slices_Compare_int_int_J0 slices_Compare_int_int_O0 slices_Compare_int_int_B0 .nil)) .nil)
theorem slices_Compare_int_int_r0 (p : slices_Compare_int_int_J0.P) : run slices_Compare_int_int_x (subc [1, 0, 1, 0, 0] c261) .nil (slices_Compare_int_int_J0.S p) (leaf slices_Compare_int_int_J0 slices_Compare_int_int_O0) = slices_Compare_int_int_B0 p := by kernel_rfl
noncomputable def slices_Compare_int_int_D : Ve.Fn := ⟨261, slices_Compare_int_int_a, slices_Compare_int_int_o, slices_Compare_int_int_E, slices_Compare_int_int⟩
theorem slices_Compare_int_int_w : Walk Tryz.prog slices_Compare_int_int_x slices_Compare_int_int_D Tryz.f261 c261 36 slices_Compare_int_int_A :=
  ⟨⟨Tryz.func261, by kernel_rfl, by kernel_rfl, by kernel_rfl, by decide, by kernel_rfl, Nat.le_of_ble_eq_true (by kernel_rfl)⟩, by kernel_rfl, by kernel_rfl, by kernel_rfl, kcast (by kernel_rfl) (⟨slices_Compare_int_int_r0, trivial⟩ : (∀ p, run slices_Compare_int_int_x (subc [1, 0, 1, 0, 0] c261) .nil (slices_Compare_int_int_J0.S p) (leaf slices_Compare_int_int_J0 slices_Compare_int_int_O0) = slices_Compare_int_int_B0 p) ∧ True), by kernel_rfl, fun x y => by kernel_rfl⟩
theorem slices_Compare_int_int_s : slices_Compare_int_int_D.Says Tryz.prog := slices_Compare_int_int_w.says follows tabOk impl_isMap_e_ok
noncomputable def slices_Compare_int_int_e : Env := more impl_isMap_e slices_Compare_int_int_D
theorem slices_Compare_int_int_e_ok : EnvOk Tryz.prog slices_Compare_int_int_e := more_ok impl_isMap_e_ok slices_Compare_int_int_s
/-! slices.BinarySearchFunc[[][]int,[]int,[]int] -/
abbrev slices_BinarySearchFunc_int_int_int_vvf_slices_Compare_int_int_J0 : Tpl := ⟨[(0, .val (.list (.list I))), (1, .val (.list I)), (2, .fn ⟨261, []⟩), (8, .val I), (9, .val I), (10, .val I)], [], []⟩
abbrev slices_BinarySearchFunc_int_int_int_vvf_slices_Compare_int_int_J1 : Tpl := ⟨[(0, .val (.list (.list I))), (1, .val (.list I)), (2, .fn ⟨261, []⟩), (8, .val I), (9, .val I)], [], []⟩
abbrev slices_BinarySearchFunc_int_int_int_vvf_slices_Compare_int_int_E : Ve.End := ⟨[⟨6, .shr, I, none⟩, ⟨7, .shr, .bool, none⟩], []⟩
abbrev slices_BinarySearchFunc_int_int_int_vvf_slices_Compare_int_int_a : List ASh := [.val (.list (.list I)), .val (.list I), .fn 261 []]
abbrev slices_BinarySearchFunc_int_int_int_vvf_slices_Compare_int_int_o : List OSh := []
abbrev slices_BinarySearchFunc_int_int_int_vvf_slices_Compare_int_int_O0 : Out := .one (.ex 0) slices_BinarySearchFunc_int_int_int_vvf_slices_Compare_int_int_J1
noncomputable def slices_BinarySearchFunc_int_int_int_vvf_slices_Compare_int_int_B0 : slices_BinarySearchFunc_int_int_int_vvf_slices_Compare_int_int_J0.P → Option (slices_BinarySearchFunc_int_int_int_vvf_slices_Compare_int_int_J0.P ⊕ slices_BinarySearchFunc_int_int_int_vvf_slices_Compare_int_int_O0.P)
  | ((x, target, n, i, j, ()), ()) => bif (decide (i < j)) then (guardB (inb (w64 (Int.fdiv (IntKind.wrap .u64 (w64 (i + j))) (2 ^ (min 1 64)))) (List.length x)) (match slices_Compare_int_int ((List.getD x (Int.toNat (w64 (Int.fdiv (IntKind.wrap .u64 (w64 (i + j))) (2 ^ (min 1 64))))) ([] : (List Int))), target, ()) () with | some ((r, ()), ()) => (bif (decide (r < (0 : Int))) then (some (.inl ((x, target, n, (w64 ((w64 (Int.fdiv (IntKind.wrap .u64 (w64 (i + j))) (2 ^ (min 1 64)))) + (1 : Int))), j, ()), ()))) else (some (.inl ((x, target, n, i, (w64 (Int.fdiv (IntKind.wrap .u64 (w64 (i + j))) (2 ^ (min 1 64)))), ()), ())))) | none => none)) else (some (.inr ((x, target, n, i, ()), ())))
noncomputable def slices_BinarySearchFunc_int_int_int_vvf_slices_Compare_int_int : argP slices_BinarySearchFunc_int_int_int_vvf_slices_Compare_int_int_a → obP (extObs 0 slices_BinarySearchFunc_int_int_int_vvf_slices_Compare_int_int_o) → Option slices_BinarySearchFunc_int_int_int_vvf_slices_Compare_int_int_E.P
  | (x, target, ()), () => match loopO slices_BinarySearchFunc_int_int_int_vvf_slices_Compare_int_int_B0 ((x, target, (List.length x : Int), (0 : Int), (List.length x : Int), ()), ()) with | some ((x2, target2, n, i, ()), ()) => (bif (decide (i < n)) then (guardB (inb i (List.length x2)) (match slices_Compare_int_int ((List.getD x2 (Int.toNat i) ([] : (List Int))), target2, ()) () with | some ((r, ()), ()) => some ((i, (r == (0 : Int)), ()), ()) | none => none)) else (some ((i, false, ()), ()))) | none => none
noncomputable def slices_BinarySearchFunc_int_int_int_vvf_slices_Compare_int_int_x : Cx := ⟨tab, slices_Compare_int_int_e, fun _ _ => 0, fun _ => false, [(30, 0), (30, 1), (30, 2), (30, 3), (46, 0), (46, 1), (46, 2), (46, 3)], []⟩
noncomputable def c308 : Code := bodyOf Tryz.f308
noncomputable def slices_BinarySearchFunc_int_int_int_vvf_slices_Compare_int_int_A : Ann := .seq .nil (.seq .nil (.seq .nil (.seq (.loop slices_BinarySearchFunc_int_int_int_vvf_slices_Compare_int_int_J0 slices_BinarySearchFunc_int_int_int_vvf_slices_Compare_int_int_O0 slices_BinarySearchFunc_int_int_int_vvf_slices_Compare_int_int_B0 .nil) .nil)))
theorem slices_BinarySearchFunc_int_int_int_vvf_slices_Compare_int_int_r0 (p : slices_BinarySearchFunc_int_int_int_vvf_slices_Compare_int_int_J0.P) : run slices_BinarySearchFunc_int_int_int_vvf_slices_Compare_int_int_x (subc [1, 1, 1, 0, 0, 0] c308) .nil (slices_BinarySearchFunc_int_int_int_vvf_slices_Compare_int_int_J0.S p) (leaf slices_BinarySearchFunc_int_int_int_vvf_slices_Compare_int_int_J0 slices_BinarySearchFunc_int_int_int_vvf_slices_Compare_int_int_O0) = slices_BinarySearchFunc_int_int_int_vvf_slices_Compare_int_int_B0 p := by kernel_rfl
noncomputable def slices_BinarySearchFunc_int_int_int_vvf_slices_Compare_int_int_D : Ve.Fn := ⟨308, slices_BinarySearchFunc_int_int_int_vvf_slices_Compare_int_int_a, slices_BinarySearchFunc_int_int_int_vvf_slices_Compare_int_int_o, slices_BinarySearchFunc_int_int_int_vvf_slices_Compare_int_int_E, slices_BinarySearchFunc_int_int_int_vvf_slices_Compare_int_int⟩
theorem slices_BinarySearchFunc_int_int_int_vvf_slices_Compare_int_int_w : Walk Tryz.prog slices_BinarySearchFunc_int_int_int_vvf_slices_Compare_int_int_x slices_BinarySearchFunc_int_int_int_vvf_slices_Compare_int_int_D Tryz.f308 c308 49 slices_BinarySearchFunc_int_int_int_vvf_slices_Compare_int_int_A :=
  ⟨⟨Tryz.func308, by kernel_rfl, by kernel_rfl, by kernel_rfl, by decide, by kernel_rfl, Nat.le_of_ble_eq_true (by kernel_rfl)⟩, by kernel_rfl, by kernel_rfl, by kernel_rfl, kcast (by kernel_rfl) (⟨slices_BinarySearchFunc_int_int_int_vvf_slices_Compare_int_int_r0, trivial⟩ : (∀ p, run slices_BinarySearchFunc_int_int_int_vvf_slices_Compare_int_int_x (subc [1, 1, 1, 0, 0, 0] c308) .nil (slices_BinarySearchFunc_int_int_int_vvf_slices_Compare_int_int_J0.S p) (leaf slices_BinarySearchFunc_int_int_int_vvf_slices_Compare_int_int_J0 slices_BinarySearchFunc_int_int_int_vvf_slices_Compare_int_int_O0) = slices_BinarySearchFunc_int_int_int_vvf_slices_Compare_int_int_B0 p) ∧ True), by kernel_rfl, fun x y => by kernel_rfl⟩
theorem slices_BinarySearchFunc_int_int_int_vvf_slices_Compare_int_int_s : slices_BinarySearchFunc_int_int_int_vvf_slices_Compare_int_int_D.Says Tryz.prog := slices_BinarySearchFunc_int_int_int_vvf_slices_Compare_int_int_w.says follows tabOk slices_Compare_int_int_e_ok
noncomputable def slices_BinarySearchFunc_int_int_int_vvf_slices_Compare_int_int_e : Env := more slices_Compare_int_int_e slices_BinarySearchFunc_int_int_int_vvf_slices_Compare_int_int_D
theorem slices_BinarySearchFunc_int_int_int_vvf_slices_Compare_int_int_e_ok : EnvOk Tryz.prog slices_BinarySearchFunc_int_int_int_vvf_slices_Compare_int_int_e := more_ok slices_Compare_int_int_e_ok slices_BinarySearchFunc_int_int_int_vvf_slices_Compare_int_int_s
/-! (loop.example/g01128/impl.Space).place -/
abbrev impl_Space_place_E : Ve.End := ⟨[⟨4, .shr, I, none⟩, ⟨5, .shr, .bool, none⟩], []⟩
abbrev impl_Space_place_a : List ASh := [.val (.prod (.list (.list I)) (.list (.prod I I))), .val (.list I)]
abbrev impl_Space_place_o : List OSh := []
noncomputable def impl_Space_place : argP impl_Space_place_a → obP (extObs 0 impl_Space_place_o) → Option impl_Space_place_E.P
  | (x, state, ()), () => match slices_BinarySearchFunc_int_int_int_vvf_slices_Compare_int_int (x.1, state, ()) () with | some ((r, r2, ()), ()) => some ((r, r2, ()), ()) | none => none
noncomputable def impl_Space_place_x : Cx := ⟨tab, slices_BinarySearchFunc_int_int_int_vvf_slices_Compare_int_int_e, fun _ _ => 0, fun _ => false, [(9, 0), (9, 1), (9, 2), (9, 3)], [(2, 0)]⟩
noncomputable def c239 : Code := bodyOf Tryz.f239
noncomputable def impl_Space_place_A : Ann := .nil
noncomputable def impl_Space_place_D : Ve.Fn := ⟨239, impl_Space_place_a, impl_Space_place_o, impl_Space_place_E, impl_Space_place⟩
theorem impl_Space_place_w : Walk Tryz.prog impl_Space_place_x impl_Space_place_D Tryz.f239 c239 12 impl_Space_place_A :=
  ⟨⟨Tryz.func239, by kernel_rfl, by kernel_rfl, by kernel_rfl, by decide, by kernel_rfl, Nat.le_of_ble_eq_true (by kernel_rfl)⟩, by kernel_rfl, by kernel_rfl, by kernel_rfl, kcast (by kernel_rfl) trivial, by kernel_rfl, fun x y => by kernel_rfl⟩
theorem impl_Space_place_s : impl_Space_place_D.Says Tryz.prog := impl_Space_place_w.says follows tabOk slices_BinarySearchFunc_int_int_int_vvf_slices_Compare_int_int_e_ok
noncomputable def impl_Space_place_e : Env := more slices_BinarySearchFunc_int_int_int_vvf_slices_Compare_int_int_e impl_Space_place_D
theorem impl_Space_place_e_ok : EnvOk Tryz.prog impl_Space_place_e := more_ok slices_BinarySearchFunc_int_int_int_vvf_slices_Compare_int_int_e_ok impl_Space_place_s
noncomputable def slices_Sort_int_int_e : Env := more impl_Space_place_e (sortFn 280)
theorem slices_Sort_int_int_e_ok : EnvOk Tryz.prog slices_Sort_int_int_e := more_ok impl_Space_place_e_ok sort_s
noncomputable abbrev slices_Sort_int_int := (sortFn 280).F
/-! (loop.example/g01128/impl.Space).roads -/
abbrev impl_Space_roads_J0 : Tpl := ⟨[(3, .own (.own .shr) (.list I)), (13, .val (.list (.prod I I))), (14, .val I), (15, .val I)], [], []⟩
abbrev impl_Space_roads_J1 : Tpl := ⟨[(3, .own (.own .shr) (.list I))], [], []⟩
abbrev impl_Space_roads_J2 : Tpl := ⟨[(3, .own (.own .shr) (.list I)), (46, .same (3, 0) []), (47, .val I), (48, .val I)], [], []⟩
abbrev impl_Space_roads_E : Ve.End := ⟨[⟨2, (.own (.own .shr)), (.list (.list I)), none⟩], []⟩
abbrev impl_Space_roads_a : List ASh := [.val (.prod (.list (.list I)) (.list (.prod I I)))]
abbrev impl_Space_roads_o : List OSh := []
abbrev impl_Space_roads_O0 : Out := .one (.ex 0) impl_Space_roads_J1
noncomputable def impl_Space_roads_B0 : impl_Space_roads_J0.P → Option (impl_Space_roads_J0.P ⊕ impl_Space_roads_O0.P)
  | ((out, t13, t14, t15, ()), ()) => bif (decide (t15 < t14)) then (guardB (inb t15 (List.length t13)) (guardB (inb ((List.getD t13 (Int.toNat t15) ((0 : Int), (0 : Int))).1) (List.length out)) (guardB (decide ((List.length (List.getD out (Int.toNat ((List.getD t13 (Int.toNat t15) ((0 : Int), (0 : Int))).1)) ([] : (List Int))) + List.length [(List.getD t13 (Int.toNat t15) ((0 : Int), (0 : Int))).2]) * 8 ≤ 70368744177664)) (guardB (inb ((List.getD t13 (Int.toNat t15) ((0 : Int), (0 : Int))).1) (List.length out)) (guardB (Nat.beq (Int.toNat ((List.getD t13 (Int.toNat t15) ((0 : Int), (0 : Int))).1)) (Int.toNat ((List.getD t13 (Int.toNat t15) ((0 : Int), (0 : Int))).1)) && true) (guardB (inb ((List.getD t13 (Int.toNat t15) ((0 : Int), (0 : Int))).2) (List.length (List.set out (Int.toNat ((List.getD t13 (Int.toNat t15) ((0 : Int), (0 : Int))).1)) ((List.getD out (Int.toNat ((List.getD t13 (Int.toNat t15) ((0 : Int), (0 : Int))).1)) ([] : (List Int))) ++ [(List.getD t13 (Int.toNat t15) ((0 : Int), (0 : Int))).2])))) (guardB (decide ((List.length (List.getD (List.set out (Int.toNat ((List.getD t13 (Int.toNat t15) ((0 : Int), (0 : Int))).1)) ((List.getD out (Int.toNat ((List.getD t13 (Int.toNat t15) ((0 : Int), (0 : Int))).1)) ([] : (List Int))) ++ [(List.getD t13 (Int.toNat t15) ((0 : Int), (0 : Int))).2])) (Int.toNat ((List.getD t13 (Int.toNat t15) ((0 : Int), (0 : Int))).2)) ([] : (List Int))) + List.length [(List.getD t13 (Int.toNat t15) ((0 : Int), (0 : Int))).1]) * 8 ≤ 70368744177664)) (guardB (inb ((List.getD t13 (Int.toNat t15) ((0 : Int), (0 : Int))).2) (List.length (List.set out (Int.toNat ((List.getD t13 (Int.toNat t15) ((0 : Int), (0 : Int))).1)) ((List.getD out (Int.toNat ((List.getD t13 (Int.toNat t15) ((0 : Int), (0 : Int))).1)) ([] : (List Int))) ++ [(List.getD t13 (Int.toNat t15) ((0 : Int), (0 : Int))).2])))) (guardB (Nat.beq (Int.toNat ((List.getD t13 (Int.toNat t15) ((0 : Int), (0 : Int))).2)) (Int.toNat ((List.getD t13 (Int.toNat t15) ((0 : Int), (0 : Int))).2)) && true) (some (.inl (((List.set (List.set out (Int.toNat ((List.getD t13 (Int.toNat t15) ((0 : Int), (0 : Int))).1)) ((List.getD out (Int.toNat ((List.getD t13 (Int.toNat t15) ((0 : Int), (0 : Int))).1)) ([] : (List Int))) ++ [(List.getD t13 (Int.toNat t15) ((0 : Int), (0 : Int))).2])) (Int.toNat ((List.getD t13 (Int.toNat t15) ((0 : Int), (0 : Int))).2)) ((List.getD (List.set out (Int.toNat ((List.getD t13 (Int.toNat t15) ((0 : Int), (0 : Int))).1)) ((List.getD out (Int.toNat ((List.getD t13 (Int.toNat t15) ((0 : Int), (0 : Int))).1)) ([] : (List Int))) ++ [(List.getD t13 (Int.toNat t15) ((0 : Int), (0 : Int))).2])) (Int.toNat ((List.getD t13 (Int.toNat t15) ((0 : Int), (0 : Int))).2)) ([] : (List Int))) ++ [(List.getD t13 (Int.toNat t15) ((0 : Int), (0 : Int))).1])), t13, t14, (w64 (t15 + (1 : Int))), ()), ())))))))))))) else (some (.inr ((out, ()), ())))
abbrev impl_Space_roads_O1 : Out := .one (.ex 2) impl_Space_roads_J1
noncomputable def impl_Space_roads_B1 : impl_Space_roads_J2.P → Option (impl_Space_roads_J2.P ⊕ impl_Space_roads_O1.P)
  | ((out, t47, t48, ()), ()) => bif (decide (t48 < t47)) then (guardB (inb t48 (List.length out)) (match slices_Sort_int_int () ((List.getD out (Int.toNat t48) ([] : (List Int))), ()) with | some ((), (o, ())) => some (.inl (((List.set out (Int.toNat t48) o), t47, (w64 (t48 + (1 : Int))), ()), ())) | none => none)) else (some (.inr ((out, ()), ())))
noncomputable def impl_Space_roads : argP impl_Space_roads_a → obP (extObs 0 impl_Space_roads_o) → Option impl_Space_roads_E.P
  | (x, ()), () => guardB (decide (0 ≤ (List.length x.1 : Int)) && decide ((List.length x.1 : Int) ≤ (List.length x.1 : Int)) && decide ((List.length x.1 : Int) * 24 ≤ 140737488355328)) (match loopO impl_Space_roads_B0 (((List.replicate (Int.toNat (List.length x.1 : Int)) ([] : (List Int))), x.2, (List.length x.2 : Int), (0 : Int), ()), ()) with | some ((out, ()), ()) => (match loopO impl_Space_roads_B1 ((out, (List.length out : Int), (0 : Int), ()), ()) with | some ((out2, ()), ()) => some ((out2, ()), ()) | none => none) | none => none)
noncomputable def impl_Space_roads_x : Cx := ⟨tab, slices_Sort_int_int_e, fun f n => bif Nat.beq f 280 && Nat.beq n 0 then 1 else 0, fun _ => false, [(29, 0), (42, 0), (53, 0), (53, 1), (53, 2), (53, 3)], [(1, 0), (5, 0)]⟩
noncomputable def c175 : Code := bodyOf Tryz.f175
noncomputable def impl_Space_roads_A : Ann := .seq .nil (.seq .nil (.seq (.seq .nil (.loop impl_Space_roads_J0 impl_Space_roads_O0 impl_Space_roads_B0 (.seq .nil (.seq .nil (.seq (.seq .nil (.seq (.draw [(0, .flo), (1, .flo), (2, .flo), (3, .flo), (4, .flo), (5, .flo), (6, .flo), (8, .flo), (9, .flo), (7, .qui), (10, .sole), (11, .sole), (12, .flo), (13, .sole)]) (.draw [(0, .flo), (1, .flo), (2, .flo), (3, .flo), (4, .flo), (5, .flo), (6, .flo), (8, .flo), (9, .flo), (7, .qui), (10, .sole), (11, .sole), (12, .flo), (13, .sole)]))) .nil))))) (.seq (.seq .nil (.loop impl_Space_roads_J2 impl_Space_roads_O1 impl_Space_roads_B1 .nil)) .nil)))
theorem impl_Space_roads_r0 (p : impl_Space_roads_J0.P) : run impl_Space_roads_x (subc [1, 1, 0, 1, 0, 0] c175) (.seq .nil (.seq .nil (.seq (.seq .nil (.seq (.draw [(0, .flo), (1, .flo), (2, .flo), (3, .flo), (4, .flo), (5, .flo), (6, .flo), (8, .flo), (9, .flo), (7, .qui), (10, .sole), (11, .sole), (12, .flo), (13, .sole)]) (.draw [(0, .flo), (1, .flo), (2, .flo), (3, .flo), (4, .flo), (5, .flo), (6, .flo), (8, .flo), (9, .flo), (7, .qui), (10, .sole), (11, .sole), (12, .flo), (13, .sole)]))) .nil))) (impl_Space_roads_J0.S p) (leaf impl_Space_roads_J0 impl_Space_roads_O0) = impl_Space_roads_B0 p := by kernel_rfl
theorem impl_Space_roads_r1 (p : impl_Space_roads_J2.P) : run impl_Space_roads_x (subc [1, 1, 1, 0, 1, 0, 0] c175) .nil (impl_Space_roads_J2.S p) (leaf impl_Space_roads_J2 impl_Space_roads_O1) = impl_Space_roads_B1 p := by kernel_rfl
noncomputable def impl_Space_roads_D : Ve.Fn := ⟨175, impl_Space_roads_a, impl_Space_roads_o, impl_Space_roads_E, impl_Space_roads⟩
theorem impl_Space_roads_w : Walk Tryz.prog impl_Space_roads_x impl_Space_roads_D Tryz.f175 c175 56 impl_Space_roads_A :=
  ⟨⟨Tryz.func175, by kernel_rfl, by kernel_rfl, by kernel_rfl, by decide, by kernel_rfl, Nat.le_of_ble_eq_true (by kernel_rfl)⟩, by kernel_rfl, by kernel_rfl, by kernel_rfl, kcast (by kernel_rfl) (⟨impl_Space_roads_r0, impl_Space_roads_r1, trivial⟩ : (∀ p, run impl_Space_roads_x (subc [1, 1, 0, 1, 0, 0] c175) (.seq .nil (.seq .nil (.seq (.seq .nil (.seq (.draw [(0, .flo), (1, .flo), (2, .flo), (3, .flo), (4, .flo), (5, .flo), (6, .flo), (8, .flo), (9, .flo), (7, .qui), (10, .sole), (11, .sole), (12, .flo), (13, .sole)]) (.draw [(0, .flo), (1, .flo), (2, .flo), (3, .flo), (4, .flo), (5, .flo), (6, .flo), (8, .flo), (9, .flo), (7, .qui), (10, .sole), (11, .sole), (12, .flo), (13, .sole)]))) .nil))) (impl_Space_roads_J0.S p) (leaf impl_Space_roads_J0 impl_Space_roads_O0) = impl_Space_roads_B0 p) ∧ (∀ p, run impl_Space_roads_x (subc [1, 1, 1, 0, 1, 0, 0] c175) .nil (impl_Space_roads_J2.S p) (leaf impl_Space_roads_J2 impl_Space_roads_O1) = impl_Space_roads_B1 p) ∧ True), by kernel_rfl, fun x y => by kernel_rfl⟩
theorem impl_Space_roads_s : impl_Space_roads_D.Says Tryz.prog := impl_Space_roads_w.says follows tabOk slices_Sort_int_int_e_ok
noncomputable def impl_Space_roads_e : Env := more slices_Sort_int_int_e impl_Space_roads_D
theorem impl_Space_roads_e_ok : EnvOk Tryz.prog impl_Space_roads_e := more_ok slices_Sort_int_int_e_ok impl_Space_roads_s
/-! math/bits.Mul64 -/
abbrev bits_Mul64_E : Ve.End := ⟨[⟨4, .shr, (.int .u64), none⟩, ⟨5, .shr, (.int .u64), none⟩], []⟩
abbrev bits_Mul64_a : List ASh := [.val (.int .u64), .val (.int .u64)]
abbrev bits_Mul64_o : List OSh := []
noncomputable def bits_Mul64 : argP bits_Mul64_a → obP (extObs 0 bits_Mul64_o) → Option bits_Mul64_E.P
  | (x, y, ()), () => some (((IntKind.wrap .u64 ((IntKind.wrap .u64 ((IntKind.wrap .u64 ((Int.fdiv x (2 ^ (min 32 64))) * (Int.fdiv y (2 ^ (min 32 64))))) + (Int.fdiv (IntKind.wrap .u64 ((IntKind.wrap .u64 ((Int.fdiv x (2 ^ (min 32 64))) * (IntKind.wrap .u64 (BitVec.ofInt 64 y &&& BitVec.ofInt 64 (4294967295 : Int)).toNat))) + (Int.fdiv (IntKind.wrap .u64 ((IntKind.wrap .u64 (BitVec.ofInt 64 x &&& BitVec.ofInt 64 (4294967295 : Int)).toNat) * (IntKind.wrap .u64 (BitVec.ofInt 64 y &&& BitVec.ofInt 64 (4294967295 : Int)).toNat))) (2 ^ (min 32 64))))) (2 ^ (min 32 64))))) + (Int.fdiv (IntKind.wrap .u64 ((IntKind.wrap .u64 (BitVec.ofInt 64 (IntKind.wrap .u64 ((IntKind.wrap .u64 ((Int.fdiv x (2 ^ (min 32 64))) * (IntKind.wrap .u64 (BitVec.ofInt 64 y &&& BitVec.ofInt 64 (4294967295 : Int)).toNat))) + (Int.fdiv (IntKind.wrap .u64 ((IntKind.wrap .u64 (BitVec.ofInt 64 x &&& BitVec.ofInt 64 (4294967295 : Int)).toNat) * (IntKind.wrap .u64 (BitVec.ofInt 64 y &&& BitVec.ofInt 64 (4294967295 : Int)).toNat))) (2 ^ (min 32 64))))) &&& BitVec.ofInt 64 (4294967295 : Int)).toNat) + (IntKind.wrap .u64 ((IntKind.wrap .u64 (BitVec.ofInt 64 x &&& BitVec.ofInt 64 (4294967295 : Int)).toNat) * (Int.fdiv y (2 ^ (min 32 64))))))) (2 ^ (min 32 64))))), (IntKind.wrap .u64 (x * y)), ()), ())
noncomputable def bits_Mul64_x : Cx := ⟨tab, impl_Space_roads_e, fun _ _ => 0, fun _ => false, [], []⟩
noncomputable def c360 : Code := bodyOf Tryz.f360
noncomputable def bits_Mul64_A : Ann := .nil
noncomputable def bits_Mul64_D : Ve.Fn := ⟨360, bits_Mul64_a, bits_Mul64_o, bits_Mul64_E, bits_Mul64⟩
theorem bits_Mul64_w : Walk Tryz.prog bits_Mul64_x bits_Mul64_D Tryz.f360 c360 51 bits_Mul64_A :=
  ⟨⟨Tryz.func360, by kernel_rfl, by kernel_rfl, by kernel_rfl, by decide, by kernel_rfl, Nat.le_of_ble_eq_true (by kernel_rfl)⟩, by kernel_rfl, by kernel_rfl, by kernel_rfl, kcast (by kernel_rfl) trivial, by kernel_rfl, fun x y => by kernel_rfl⟩
theorem bits_Mul64_s : bits_Mul64_D.Says Tryz.prog := bits_Mul64_w.says follows tabOk impl_Space_roads_e_ok
noncomputable def bits_Mul64_e : Env := more impl_Space_roads_e bits_Mul64_D
theorem bits_Mul64_e_ok : EnvOk Tryz.prog bits_Mul64_e := more_ok impl_Space_roads_e_ok bits_Mul64_s
/-! math/bits.Mul -/
abbrev bits_Mul_E : Ve.End := ⟨[⟨4, .shr, (.int .u64), none⟩, ⟨5, .shr, (.int .u64), none⟩], []⟩
abbrev bits_Mul_a : List ASh := [.val (.int .u64), .val (.int .u64)]
abbrev bits_Mul_o : List OSh := []
noncomputable def bits_Mul : argP bits_Mul_a → obP (extObs 0 bits_Mul_o) → Option bits_Mul_E.P
  | (x, y, ()), () => match bits_Mul64 (x, y, ()) () with | some ((hi, lo, ()), ()) => some ((hi, lo, ()), ()) | none => none
noncomputable def bits_Mul_x : Cx := ⟨tab, bits_Mul64_e, fun _ _ => 0, fun _ => false, [(15, 0), (15, 1), (15, 2), (15, 3), (25, 0), (25, 1), (25, 2), (25, 3)], []⟩
noncomputable def c324 : Code := bodyOf Tryz.f324
noncomputable def bits_Mul_A : Ann := .nil
noncomputable def bits_Mul_D : Ve.Fn := ⟨324, bits_Mul_a, bits_Mul_o, bits_Mul_E, bits_Mul⟩
theorem bits_Mul_w : Walk Tryz.prog bits_Mul_x bits_Mul_D Tryz.f324 c324 30 bits_Mul_A :=
  ⟨⟨Tryz.func324, by kernel_rfl, by kernel_rfl, by kernel_rfl, by decide, by kernel_rfl, Nat.le_of_ble_eq_true (by kernel_rfl)⟩, by kernel_rfl, by kernel_rfl, by kernel_rfl, kcast (by kernel_rfl) trivial, by kernel_rfl, fun x y => by kernel_rfl⟩
theorem bits_Mul_s : bits_Mul_D.Says Tryz.prog := bits_Mul_w.says follows tabOk bits_Mul64_e_ok
noncomputable def bits_Mul_e : Env := more bits_Mul64_e bits_Mul_D
theorem bits_Mul_e_ok : EnvOk Tryz.prog bits_Mul_e := more_ok bits_Mul64_e_ok bits_Mul_s
/-! slices.Repeat[[]int,int] -/
abbrev slices_Repeat_int_int_J0 : Tpl := ⟨[(7, .own .shr I), (8, .val I)], [], []⟩
abbrev slices_Repeat_int_int_J1 : Tpl := ⟨[(7, .own .shr I)], [], []⟩
abbrev slices_Repeat_int_int_E : Ve.End := ⟨[⟨4, (.own .shr), (.list I), none⟩], []⟩
abbrev slices_Repeat_int_int_a : List ASh := [.val (.list I), .val I]
abbrev slices_Repeat_int_int_o : List OSh := []
abbrev slices_Repeat_int_int_O0 : Out := .one (.ex 0) slices_Repeat_int_int_J1
noncomputable def slices_Repeat_int_int_B0 : slices_Repeat_int_int_J0.P → Option (slices_Repeat_int_int_J0.P ⊕ slices_Repeat_int_int_O0.P)
  | ((newslice, n, ()), ()) => bif (decide (n < (List.length newslice : Int))) then (guardB (decide (0 ≤ n) && decide (n ≤ (List.length newslice : Int)) && decide ((List.length newslice : Int) ≤ (List.length newslice : Int))) (guardB (decide (0 ≤ (0 : Int)) && decide ((0 : Int) ≤ n) && decide (n ≤ (List.length newslice : Int))) (guardB (decide ((Int.toNat n) ≤ (Int.toNat (List.length newslice : Int))) && decide ((Int.toNat (List.length newslice : Int)) ≤ List.length newslice)) (some (.inl (((List.take (Int.toNat n) newslice ++ List.take (min (List.length (List.drop 0 (List.take (Int.toNat n) newslice))) ((Int.toNat (List.length newslice : Int)) - (Int.toNat n))) (List.drop 0 (List.take (Int.toNat n) newslice)) ++ List.drop ((Int.toNat n) + (min (List.length (List.drop 0 (List.take (Int.toNat n) newslice))) ((Int.toNat (List.length newslice : Int)) - (Int.toNat n)))) newslice), (w64 (n + (((min (List.length (List.drop 0 (List.take (Int.toNat n) newslice))) ((Int.toNat (List.length newslice : Int)) - (Int.toNat n))) : Nat) : Int))), ()), ())))))) else (some (.inr ((newslice, ()), ())))
noncomputable def slices_Repeat_int_int : argP slices_Repeat_int_int_a → obP (extObs 0 slices_Repeat_int_int_o) → Option slices_Repeat_int_int_E.P
  | (x, count, ()), () => bif (decide (count < (0 : Int))) then none else (match bits_Mul ((IntKind.wrap .u64 (List.length x : Int)), (IntKind.wrap .u64 count), ()) () with | some ((hi, lo, ()), ()) => (bif (decide ((0 : Int) < hi)) then none else (bif (decide ((9223372036854775807 : Int) < lo)) then none else (guardB (decide (0 ≤ (w64 lo)) && decide ((w64 lo) ≤ (w64 lo)) && decide ((w64 lo) * 8 ≤ 140737488355328)) (guardB (decide (0 ≤ List.length (List.replicate (Int.toNat (w64 lo)) (0 : Int))) && decide (List.length (List.replicate (Int.toNat (w64 lo)) (0 : Int)) ≤ List.length (List.replicate (Int.toNat (w64 lo)) (0 : Int)))) (match loopO slices_Repeat_int_int_B0 (((List.take 0 (List.replicate (Int.toNat (w64 lo)) (0 : Int)) ++ List.take (min (List.length x) (List.length (List.replicate (Int.toNat (w64 lo)) (0 : Int)) - 0)) x ++ List.drop (0 + (min (List.length x) (List.length (List.replicate (Int.toNat (w64 lo)) (0 : Int)) - 0))) (List.replicate (Int.toNat (w64 lo)) (0 : Int))), (((min (List.length x) (List.length (List.replicate (Int.toNat (w64 lo)) (0 : Int)) - 0)) : Nat) : Int), ()), ()) with | some ((newslice, ()), ()) => some ((newslice, ()), ()) | none => none))))) | none => none)
noncomputable def slices_Repeat_int_int_x : Cx := ⟨tab, bits_Mul_e, fun _ _ => 0, fun _ => false, [(18, 0), (18, 1), (18, 2), (18, 3)], []⟩
noncomputable def c298 : Code := bodyOf Tryz.f298
noncomputable def slices_Repeat_int_int_A : Ann := .seq .nil (.seq .nil (.seq .nil (.seq .nil (.seq .nil (.seq .nil (.seq (.loop slices_Repeat_int_int_J0 slices_Repeat_int_int_O0 slices_Repeat_int_int_B0 (.seq .nil (.draw [(0, .flo), (1, .flo), (2, .flo), (3, .flo), (4, .flo), (5, .flo), (6, .flo), (7, .sole), (8, .flo), (9, .flo)]))) .nil))))))
theorem slices_Repeat_int_int_r0 (p : slices_Repeat_int_int_J0.P) : run slices_Repeat_int_int_x (subc [1, 1, 1, 1, 1, 1, 0, 0, 0] c298) (.seq .nil (.draw [(0, .flo), (1, .flo), (2, .flo), (3, .flo), (4, .flo), (5, .flo), (6, .flo), (7, .sole), (8, .flo), (9, .flo)])) (slices_Repeat_int_int_J0.S p) (leaf slices_Repeat_int_int_J0 slices_Repeat_int_int_O0) = slices_Repeat_int_int_B0 p := by kernel_rfl
noncomputable def slices_Repeat_int_int_D : Ve.Fn := ⟨298, slices_Repeat_int_int_a, slices_Repeat_int_int_o, slices_Repeat_int_int_E, slices_Repeat_int_int⟩
theorem slices_Repeat_int_int_w : Walk Tryz.prog slices_Repeat_int_int_x slices_Repeat_int_int_D Tryz.f298 c298 48 slices_Repeat_int_int_A :=
  ⟨⟨Tryz.func298, by kernel_rfl, by kernel_rfl, by kernel_rfl, by decide, by kernel_rfl, Nat.le_of_ble_eq_true (by kernel_rfl)⟩, by kernel_rfl, by kernel_rfl, by kernel_rfl, kcast (by kernel_rfl) (⟨slices_Repeat_int_int_r0, trivial⟩ : (∀ p, run slices_Repeat_int_int_x (subc [1, 1, 1, 1, 1, 1, 0, 0, 0] c298) (.seq .nil (.draw [(0, .flo), (1, .flo), (2, .flo), (3, .flo), (4, .flo), (5, .flo), (6, .flo), (7, .sole), (8, .flo), (9, .flo)])) (slices_Repeat_int_int_J0.S p) (leaf slices_Repeat_int_int_J0 slices_Repeat_int_int_O0) = slices_Repeat_int_int_B0 p) ∧ True), by kernel_rfl, fun x y => by kernel_rfl⟩
theorem slices_Repeat_int_int_s : slices_Repeat_int_int_D.Says Tryz.prog := slices_Repeat_int_int_w.says follows tabOk bits_Mul_e_ok
noncomputable def slices_Repeat_int_int_e : Env := more bits_Mul_e slices_Repeat_int_int_D
theorem slices_Repeat_int_int_e_ok : EnvOk Tryz.prog slices_Repeat_int_int_e := more_ok bits_Mul_e_ok slices_Repeat_int_int_s
/-! loop.example/g01128/impl.spread -/
abbrev impl_spread_J0 : Tpl := ⟨[(0, .val (.list (.list I))), (5, .own .shr I), (6, .own .shr I), (7, .val I), (30, .val (.list I)), (31, .val I), (32, .val I)], [], []⟩
abbrev impl_spread_J1 : Tpl := ⟨[(0, .val (.list (.list I))), (5, .own .shr I), (6, .own .shr I)], [], []⟩
abbrev impl_spread_J2 : Tpl := ⟨[(5, .own .shr I)], [], []⟩
abbrev impl_spread_E : Ve.End := ⟨[⟨4, (.own .shr), (.list I), none⟩], []⟩
abbrev impl_spread_a : List ASh := [.val (.list (.list I)), .val I]
abbrev impl_spread_o : List OSh := []
abbrev impl_spread_O0 : Out := .one (.ex 2) impl_spread_J1
noncomputable def impl_spread_B0 : impl_spread_J0.P → Option (impl_spread_J0.P ⊕ impl_spread_O0.P)
  | ((roads, out, queue, i, t30, t31, t32, ()), ()) => bif (decide (t32 < t31)) then (guardB (inb t32 (List.length t30)) (guardB (inb (List.getD t30 (Int.toNat t32) (0 : Int)) (List.length out)) (bif (decide ((List.getD out (Int.toNat (List.getD t30 (Int.toNat t32) (0 : Int))) (0 : Int)) < (0 : Int))) then (guardB (inb i (List.length out)) (guardB (inb (List.getD t30 (Int.toNat t32) (0 : Int)) (List.length out)) (guardB (decide ((List.length queue + List.length [(List.getD t30 (Int.toNat t32) (0 : Int))]) * 8 ≤ 70368744177664)) (some (.inl ((roads, (List.set out (Int.toNat (List.getD t30 (Int.toNat t32) (0 : Int))) (w64 ((List.getD out (Int.toNat i) (0 : Int)) + (1 : Int)))), (queue ++ [(List.getD t30 (Int.toNat t32) (0 : Int))]), i, t30, t31, (w64 (t32 + (1 : Int))), ()), ())))))) else (some (.inl ((roads, out, queue, i, t30, t31, (w64 (t32 + (1 : Int))), ()), ())))))) else (some (.inr ((roads, out, queue, ()), ())))
abbrev impl_spread_O1 : Out := .one (.ex 0) impl_spread_J2
noncomputable def impl_spread_B1 : impl_spread_J1.P → Option (impl_spread_J1.P ⊕ impl_spread_O1.P)
  | ((roads, out, queue, ()), ()) => bif (decide ((0 : Int) < (List.length queue : Int))) then (guardB (inb (0 : Int) (List.length queue)) (guardB (decide (0 ≤ (1 : Int)) && decide ((1 : Int) ≤ (List.length queue : Int)) && decide ((List.length queue : Int) ≤ (List.length queue : Int))) (guardB (inb (List.getD queue 0 (0 : Int)) (List.length roads)) (match loopO impl_spread_B0 ((roads, out, (List.drop 1 (List.take (Int.toNat (List.length queue : Int)) queue)), (List.getD queue 0 (0 : Int)), (List.getD roads (Int.toNat (List.getD queue 0 (0 : Int))) ([] : (List Int))), (List.length (List.getD roads (Int.toNat (List.getD queue 0 (0 : Int))) ([] : (List Int))) : Int), (0 : Int), ()), ()) with | some ((roads2, out2, queue2, ()), ()) => some (.inl ((roads2, out2, queue2, ()), ())) | none => none)))) else (some (.inr ((out, ()), ())))
noncomputable def impl_spread : argP impl_spread_a → obP (extObs 0 impl_spread_o) → Option impl_spread_E.P
  | (roads, from_, ()), () => match slices_Repeat_int_int ([(-1 : Int)], (List.length roads : Int), ()) () with | some ((r, ()), ()) => guardB (inb from_ (List.length r)) (match loopO impl_spread_B1 ((roads, (List.set r (Int.toNat from_) (0 : Int)), [from_], ()), ()) with | some ((out, ()), ()) => some ((out, ()), ()) | none => none) | none => none
noncomputable def impl_spread_x : Cx := ⟨tab, slices_Repeat_int_int_e, fun _ _ => 0, fun _ => false, [(10, 0), (51, 0)], []⟩
noncomputable def c216 : Code := bodyOf Tryz.f216
noncomputable def impl_spread_A : Ann := .seq .nil (.seq .nil (.seq .nil (.seq .nil (.seq (.loop impl_spread_J1 impl_spread_O1 impl_spread_B1 (.seq .nil (.seq .nil (.seq .nil (.seq .nil (.loop impl_spread_J0 impl_spread_O0 impl_spread_B0 .nil)))))) .nil))))
theorem impl_spread_r0 (p : impl_spread_J1.P) : run impl_spread_x (subc [1, 1, 1, 1, 0, 0, 0] c216) (.seq .nil (.seq .nil (.seq .nil (.seq .nil (.loop impl_spread_J0 impl_spread_O0 impl_spread_B0 .nil))))) (impl_spread_J1.S p) (leaf impl_spread_J1 impl_spread_O1) = impl_spread_B1 p := by kernel_rfl
theorem impl_spread_r1 (p : impl_spread_J0.P) : run impl_spread_x (subc [1, 1, 1, 1, 0, 0, 0, 1, 0, 1, 1, 1, 0, 0] c216) .nil (impl_spread_J0.S p) (leaf impl_spread_J0 impl_spread_O0) = impl_spread_B0 p := by kernel_rfl
noncomputable def impl_spread_D : Ve.Fn := ⟨216, impl_spread_a, impl_spread_o, impl_spread_E, impl_spread⟩
theorem impl_spread_w : Walk Tryz.prog impl_spread_x impl_spread_D Tryz.f216 c216 55 impl_spread_A :=
  ⟨⟨Tryz.func216, by kernel_rfl, by kernel_rfl, by kernel_rfl, by decide, by kernel_rfl, Nat.le_of_ble_eq_true (by kernel_rfl)⟩, by kernel_rfl, by kernel_rfl, by kernel_rfl, kcast (by kernel_rfl) (⟨impl_spread_r0, impl_spread_r1, trivial⟩ : (∀ p, run impl_spread_x (subc [1, 1, 1, 1, 0, 0, 0] c216) (.seq .nil (.seq .nil (.seq .nil (.seq .nil (.loop impl_spread_J0 impl_spread_O0 impl_spread_B0 .nil))))) (impl_spread_J1.S p) (leaf impl_spread_J1 impl_spread_O1) = impl_spread_B1 p) ∧ (∀ p, run impl_spread_x (subc [1, 1, 1, 1, 0, 0, 0, 1, 0, 1, 1, 1, 0, 0] c216) .nil (impl_spread_J0.S p) (leaf impl_spread_J0 impl_spread_O0) = impl_spread_B0 p) ∧ True), by kernel_rfl, fun x y => by kernel_rfl⟩
theorem impl_spread_s : impl_spread_D.Says Tryz.prog := impl_spread_w.says follows tabOk slices_Repeat_int_int_e_ok
noncomputable def impl_spread_e : Env := more slices_Repeat_int_int_e impl_spread_D
theorem impl_spread_e_ok : EnvOk Tryz.prog impl_spread_e := more_ok slices_Repeat_int_int_e_ok impl_spread_s
/-! (loop.example/g01128/impl.Space).firstWay -/
abbrev impl_Space_firstWay_J0 : Tpl := ⟨[(1, .val I), (2, .val I), (8, .val (.list (.list I))), (9, .val (.list I)), (10, .own .shr I), (31, .val (.list I)), (32, .val I), (33, .val I)], [], []⟩
abbrev impl_Space_firstWay_J1 : Tpl := ⟨[(1, .val I), (2, .val I), (8, .val (.list (.list I))), (9, .val (.list I)), (10, .own .shr I)], [], []⟩
abbrev impl_Space_firstWay_J2 : Tpl := ⟨[(10, .own .shr I)], [], []⟩
abbrev impl_Space_firstWay_E : Ve.End := ⟨[⟨6, (.own .shr), (.list I), none⟩, ⟨7, .shr, .bool, none⟩], []⟩
abbrev impl_Space_firstWay_a : List ASh := [.val (.prod (.list (.list I)) (.list (.prod I I))), .val I, .val I]
abbrev impl_Space_firstWay_o : List OSh := []
abbrev impl_Space_firstWay_O0 : Out := .one (.ex 2) impl_Space_firstWay_J1
noncomputable def impl_Space_firstWay_B0 : impl_Space_firstWay_J0.P → Option (impl_Space_firstWay_J0.P ⊕ impl_Space_firstWay_O0.P)
  | ((i, j, roads, far, out, t31, t32, t33, ()), ()) => bif (decide (t33 < t32)) then (guardB (inb t33 (List.length t31)) (guardB (inb (List.getD t31 (Int.toNat t33) (0 : Int)) (List.length far)) (guardB (inb i (List.length far)) (bif ((List.getD far (Int.toNat (List.getD t31 (Int.toNat t33) (0 : Int))) (0 : Int)) == (w64 ((List.getD far (Int.toNat i) (0 : Int)) - (1 : Int)))) then (some (.inr (((List.getD t31 (Int.toNat t33) (0 : Int)), j, roads, far, out, ()), ()))) else (some (.inl ((i, j, roads, far, out, t31, t32, (w64 (t33 + (1 : Int))), ()), ()))))))) else (some (.inr ((i, j, roads, far, out, ()), ())))
abbrev impl_Space_firstWay_O1 : Out := .one (.ex 0) impl_Space_firstWay_J2
noncomputable def impl_Space_firstWay_B1 : impl_Space_firstWay_J1.P → Option (impl_Space_firstWay_J1.P ⊕ impl_Space_firstWay_O1.P)
  | ((i, j, roads, far, out, ()), ()) => bif (i != j) then (guardB (inb i (List.length roads)) (match loopO impl_Space_firstWay_B0 ((i, j, roads, far, out, (List.getD roads (Int.toNat i) ([] : (List Int))), (List.length (List.getD roads (Int.toNat i) ([] : (List Int))) : Int), (0 : Int), ()), ()) with | some ((i2, j2, roads2, far2, out2, ()), ()) => guardB (decide ((List.length out2 + List.length [i2]) * 8 ≤ 70368744177664)) (some (.inl ((i2, j2, roads2, far2, (out2 ++ [i2]), ()), ()))) | none => none)) else (some (.inr ((out, ()), ())))
noncomputable def impl_Space_firstWay : argP impl_Space_firstWay_a → obP (extObs 0 impl_Space_firstWay_o) → Option impl_Space_firstWay_E.P
  | (x, i, j, ()), () => match impl_Space_roads (x, ()) () with | some ((r, ()), ()) => (match impl_spread (r, j, ()) () with | some ((r2, ()), ()) => guardB (inb i (List.length r2)) (bif (decide ((List.getD r2 (Int.toNat i) (0 : Int)) < (0 : Int))) then (some ((([] : (List Int)), false, ()), ())) else (match loopO impl_Space_firstWay_B1 ((i, j, r, r2, [i], ()), ()) with | some ((out, ()), ()) => some ((out, true, ()), ()) | none => none)) | none => none) | none => none
noncomputable def impl_Space_firstWay_x : Cx := ⟨tab, impl_spread_e, fun _ _ => 0, fun _ => false, [(14, 0), (14, 1), (14, 2), (14, 3), (8, 0), (17, 0), (17, 1), (17, 2), (17, 3), (9, 0), (51, 0)], [(3, 0)]⟩
noncomputable def c240 : Code := bodyOf Tryz.f240
noncomputable def impl_Space_firstWay_A : Ann := .seq .nil (.seq .nil (.seq .nil (.seq .nil (.seq .nil (.seq (.loop impl_Space_firstWay_J1 impl_Space_firstWay_O1 impl_Space_firstWay_B1 (.seq .nil (.seq (.seq .nil (.loop impl_Space_firstWay_J0 impl_Space_firstWay_O0 impl_Space_firstWay_B0 (.seq .nil (.seq .nil (.seq (.seq .nil (.seq (.draw [(0, .flo), (1, .flo), (2, .flo), (3, .flo), (4, .flo), (5, .flo), (6, .flo), (7, .flo), (8, .flo), (9, .flo)]) .nil)) .nil))))) .nil))) .nil)))))
theorem impl_Space_firstWay_r0 (p : impl_Space_firstWay_J1.P) : run impl_Space_firstWay_x (subc [1, 1, 1, 1, 1, 0, 0, 0] c240) (.seq .nil (.seq (.seq .nil (.loop impl_Space_firstWay_J0 impl_Space_firstWay_O0 impl_Space_firstWay_B0 (.seq .nil (.seq .nil (.seq (.seq .nil (.seq (.draw [(0, .flo), (1, .flo), (2, .flo), (3, .flo), (4, .flo), (5, .flo), (6, .flo), (7, .flo), (8, .flo), (9, .flo)]) .nil)) .nil))))) .nil)) (impl_Space_firstWay_J1.S p) (leaf impl_Space_firstWay_J1 impl_Space_firstWay_O1) = impl_Space_firstWay_B1 p := by kernel_rfl
theorem impl_Space_firstWay_r1 (p : impl_Space_firstWay_J0.P) : run impl_Space_firstWay_x (subc [1, 1, 1, 1, 1, 0, 0, 0, 1, 0, 0, 1, 0, 0] c240) (.seq .nil (.seq .nil (.seq (.seq .nil (.seq (.draw [(0, .flo), (1, .flo), (2, .flo), (3, .flo), (4, .flo), (5, .flo), (6, .flo), (7, .flo), (8, .flo), (9, .flo)]) .nil)) .nil))) (impl_Space_firstWay_J0.S p) (leaf impl_Space_firstWay_J0 impl_Space_firstWay_O0) = impl_Space_firstWay_B0 p := by kernel_rfl
noncomputable def impl_Space_firstWay_D : Ve.Fn := ⟨240, impl_Space_firstWay_a, impl_Space_firstWay_o, impl_Space_firstWay_E, impl_Space_firstWay⟩
theorem impl_Space_firstWay_w : Walk Tryz.prog impl_Space_firstWay_x impl_Space_firstWay_D Tryz.f240 c240 54 impl_Space_firstWay_A :=
  ⟨⟨Tryz.func240, by kernel_rfl, by kernel_rfl, by kernel_rfl, by decide, by kernel_rfl, Nat.le_of_ble_eq_true (by kernel_rfl)⟩, by kernel_rfl, by kernel_rfl, by kernel_rfl, kcast (by kernel_rfl) (⟨impl_Space_firstWay_r0, impl_Space_firstWay_r1, trivial⟩ : (∀ p, run impl_Space_firstWay_x (subc [1, 1, 1, 1, 1, 0, 0, 0] c240) (.seq .nil (.seq (.seq .nil (.loop impl_Space_firstWay_J0 impl_Space_firstWay_O0 impl_Space_firstWay_B0 (.seq .nil (.seq .nil (.seq (.seq .nil (.seq (.draw [(0, .flo), (1, .flo), (2, .flo), (3, .flo), (4, .flo), (5, .flo), (6, .flo), (7, .flo), (8, .flo), (9, .flo)]) .nil)) .nil))))) .nil)) (impl_Space_firstWay_J1.S p) (leaf impl_Space_firstWay_J1 impl_Space_firstWay_O1) = impl_Space_firstWay_B1 p) ∧ (∀ p, run impl_Space_firstWay_x (subc [1, 1, 1, 1, 1, 0, 0, 0, 1, 0, 0, 1, 0, 0] c240) (.seq .nil (.seq .nil (.seq (.seq .nil (.seq (.draw [(0, .flo), (1, .flo), (2, .flo), (3, .flo), (4, .flo), (5, .flo), (6, .flo), (7, .flo), (8, .flo), (9, .flo)]) .nil)) .nil))) (impl_Space_firstWay_J0.S p) (leaf impl_Space_firstWay_J0 impl_Space_firstWay_O0) = impl_Space_firstWay_B0 p) ∧ True), by kernel_rfl, fun x y => by kernel_rfl⟩
theorem impl_Space_firstWay_s : impl_Space_firstWay_D.Says Tryz.prog := impl_Space_firstWay_w.says follows tabOk impl_spread_e_ok
noncomputable def impl_Space_firstWay_e : Env := more impl_spread_e impl_Space_firstWay_D
theorem impl_Space_firstWay_e_ok : EnvOk Tryz.prog impl_Space_firstWay_e := more_ok impl_spread_e_ok impl_Space_firstWay_s
/-! (loop.example/g01128/impl.Space).walk -/
abbrev impl_Space_walk_J0 : Tpl := ⟨[(3, .cst (.prod (.list (.list I)) (.list (.prod I I)))), (13, .val .bool), (14, .own (.own .shr) (.list I)), (43, .val (.list I)), (44, .val I), (45, .val I)], [], []⟩
abbrev impl_Space_walk_J1 : Tpl := ⟨[(13, .val .bool), (14, .own (.own .shr) (.list I))], [], []⟩
abbrev impl_Space_walk_E : Ve.End := ⟨[⟨6, (.own (.own .shr)), (.list (.list I)), none⟩, ⟨7, .shr, .bool, none⟩], []⟩
abbrev impl_Space_walk_a : List ASh := [.val (.prod (.list (.list I)) (.list (.prod I I))), .val (.list I), .val (.list I)]
abbrev impl_Space_walk_o : List OSh := []
abbrev impl_Space_walk_O0 : Out := .one (.ex 0) impl_Space_walk_J1
noncomputable def impl_Space_walk_B0 : impl_Space_walk_J0.P → Option (impl_Space_walk_J0.P ⊕ impl_Space_walk_O0.P)
  | ((x, ok, out, t43, t44, t45, ()), ()) => bif (decide (t45 < t44)) then (guardB (inb t45 (List.length t43)) (guardB (inb (List.getD t43 (Int.toNat t45) (0 : Int)) (List.length x.1)) (match slices_Clone_int_int ((List.getD x.1 (Int.toNat (List.getD t43 (Int.toNat t45) (0 : Int))) ([] : (List Int))), ()) () with | some ((r, ()), ()) => guardB (decide ((List.length out + List.length [r]) * 24 ≤ 70368744177664)) (some (.inl ((x, ok, (out ++ [r]), t43, t44, (w64 (t45 + (1 : Int))), ()), ()))) | none => none))) else (some (.inr ((ok, out, ()), ())))
noncomputable def impl_Space_walk : argP impl_Space_walk_a → obP (extObs 0 impl_Space_walk_o) → Option impl_Space_walk_E.P
  | (x, a, b, ()), () => match impl_Space_place (x, a, ()) () with | some ((r, r2, ()), ()) => (match impl_Space_place (x, b, ()) () with | some ((r3, r4, ()), ()) => (bif (!r2) then (some ((([] : (List (List Int))), false, ()), ())) else (bif (!r4) then (some ((([] : (List (List Int))), false, ()), ())) else (match impl_Space_firstWay (x, r, r3, ()) () with | some ((r5, r6, ()), ()) => (match loopO impl_Space_walk_B0 ((x, r6, ([] : (List (List Int))), r5, (List.length r5 : Int), (0 : Int), ()), ()) with | some ((ok, out, ()), ()) => some ((out, ok, ()), ()) | none => none) | none => none))) | none => none) | none => none
noncomputable def impl_Space_walk_x : Cx := ⟨tab, impl_Space_firstWay_e, fun _ _ => 0, fun _ => false, [(20, 0), (20, 1), (20, 2), (20, 3), (26, 0), (26, 1), (26, 2), (26, 3), (39, 0), (39, 1), (39, 2), (39, 3), (12, 0)], [(3, 0)]⟩
noncomputable def c133 : Code := bodyOf Tryz.f133
noncomputable def impl_Space_walk_A : Ann := .seq .nil (.seq .nil (.seq .nil (.seq .nil (.seq .nil (.seq .nil (.seq (.seq .nil (.loop impl_Space_walk_J0 impl_Space_walk_O0 impl_Space_walk_B0 .nil)) .nil))))))
theorem impl_Space_walk_r0 (p : impl_Space_walk_J0.P) : run impl_Space_walk_x (subc [1, 1, 1, 1, 1, 1, 0, 1, 0, 0] c133) .nil (impl_Space_walk_J0.S p) (leaf impl_Space_walk_J0 impl_Space_walk_O0) = impl_Space_walk_B0 p := by kernel_rfl
noncomputable def impl_Space_walk_D : Ve.Fn := ⟨133, impl_Space_walk_a, impl_Space_walk_o, impl_Space_walk_E, impl_Space_walk⟩
theorem impl_Space_walk_w : Walk Tryz.prog impl_Space_walk_x impl_Space_walk_D Tryz.f133 c133 61 impl_Space_walk_A :=
  ⟨⟨Tryz.func133, by kernel_rfl, by kernel_rfl, by kernel_rfl, by decide, by kernel_rfl, Nat.le_of_ble_eq_true (by kernel_rfl)⟩, by kernel_rfl, by kernel_rfl, by kernel_rfl, kcast (by kernel_rfl) (⟨impl_Space_walk_r0, trivial⟩ : (∀ p, run impl_Space_walk_x (subc [1, 1, 1, 1, 1, 1, 0, 1, 0, 0] c133) .nil (impl_Space_walk_J0.S p) (leaf impl_Space_walk_J0 impl_Space_walk_O0) = impl_Space_walk_B0 p) ∧ True), by kernel_rfl, fun x y => by kernel_rfl⟩
theorem impl_Space_walk_s : impl_Space_walk_D.Says Tryz.prog := impl_Space_walk_w.says follows tabOk impl_Space_firstWay_e_ok
noncomputable def impl_Space_walk_e : Env := more impl_Space_firstWay_e impl_Space_walk_D
theorem impl_Space_walk_e_ok : EnvOk Tryz.prog impl_Space_walk_e := more_ok impl_Space_firstWay_e_ok impl_Space_walk_s
/-! loop.example/g01128/impl.MapWay -/
abbrev impl_MapWay_E : Ve.End := ⟨[⟨10, (.own (.own .shr)), (.list (.list I)), none⟩, ⟨11, .shr, .bool, none⟩], []⟩
abbrev impl_MapWay_a : List ASh := [.val (.prod I (.list (.prod I I))), .val (.prod I (.list (.prod I I))), .val (.list I), .val (.list I), .val .bool]
abbrev impl_MapWay_o : List OSh := []
noncomputable def impl_MapWay : argP impl_MapWay_a → obP (extObs 0 impl_MapWay_o) → Option impl_MapWay_E.P
  | (g, h, a, b, lazy, ()), () => match impl_MapSpace (g, h, lazy, ()) () with | some ((r, r2, ()), ()) => (bif (!r2) then (some ((([] : (List (List Int))), false, ()), ())) else (match impl_isMap (g, h, a, lazy, ()) () with | some ((r3, ()), ()) => (bif (!r3) then (some ((([] : (List (List Int))), false, ()), ())) else (match impl_isMap (g, h, b, lazy, ()) () with | some ((r4, ()), ()) => (bif (!r4) then (some ((([] : (List (List Int))), false, ()), ())) else (match impl_Space_walk ((r.1, r.2), a, b, ()) () with | some ((r5, r6, ()), ()) => some ((r5, r6, ()), ()) | none => none)) | none => none)) | none => none)) | none => none
noncomputable def impl_MapWay_x : Cx := ⟨tab, impl_Space_walk_e, fun _ _ => 0, fun _ => false, [(28, 0), (28, 1), (28, 2), (28, 3), (36, 0), (36, 1), (36, 2), (36, 3)], [(5, 0), (6, 0), (12, 0)]⟩
noncomputable def c15 : Code := bodyOf Tryz.f15
noncomputable def impl_MapWay_A : Ann := .nil
noncomputable def impl_MapWay_D : Ve.Fn := ⟨15, impl_MapWay_a, impl_MapWay_o, impl_MapWay_E, impl_MapWay⟩
theorem impl_MapWay_w : Walk Tryz.prog impl_MapWay_x impl_MapWay_D Tryz.f15 c15 45 impl_MapWay_A :=
  ⟨⟨Tryz.func15, by kernel_rfl, by kernel_rfl, by kernel_rfl, by decide, by kernel_rfl, Nat.le_of_ble_eq_true (by kernel_rfl)⟩, by kernel_rfl, by kernel_rfl, by kernel_rfl, kcast (by kernel_rfl) trivial, by kernel_rfl, fun x y => by kernel_rfl⟩
theorem impl_MapWay_s : impl_MapWay_D.Says Tryz.prog := impl_MapWay_w.says follows tabOk impl_Space_walk_e_ok
noncomputable def impl_MapWay_e : Env := more impl_Space_walk_e impl_MapWay_D
theorem impl_MapWay_e_ok : EnvOk Tryz.prog impl_MapWay_e := more_ok impl_Space_walk_e_ok impl_MapWay_s
/-! loop.example/g01128/laws.eqIntS -/
abbrev laws_eqIntS_J0 : Tpl := ⟨[(0, .val (.list I)), (1, .val (.list I)), (5, .val I)], [], []⟩
abbrev laws_eqIntS_J1 : Tpl := ⟨[(4, .val .bool)], [], []⟩
abbrev laws_eqIntS_J2 : Tpl := ⟨[], [], []⟩
abbrev laws_eqIntS_E : Ve.End := ⟨[⟨4, .shr, .bool, none⟩], []⟩
abbrev laws_eqIntS_a : List ASh := [.val (.list I), .val (.list I)]
abbrev laws_eqIntS_o : List OSh := []
abbrev laws_eqIntS_O0 : Out := .or .ret laws_eqIntS_J1 (.one (.ex 0) laws_eqIntS_J2)
noncomputable def laws_eqIntS_B0 : laws_eqIntS_J0.P → Option (laws_eqIntS_J0.P ⊕ laws_eqIntS_O0.P)
  | ((a, b, i, ()), ()) => bif (decide (i < (List.length a : Int))) then (guardB (inb i (List.length a)) (guardB (inb i (List.length b)) (bif ((List.getD a (Int.toNat i) (0 : Int)) != (List.getD b (Int.toNat i) (0 : Int))) then (some (.inr (.inl ((false, ()), ())))) else (some (.inl ((a, b, (w64 (i + (1 : Int))), ()), ())))))) else (some (.inr (.inr ((), ()))))
noncomputable def laws_eqIntS : argP laws_eqIntS_a → obP (extObs 0 laws_eqIntS_o) → Option laws_eqIntS_E.P
  | (a, b, ()), () => bif ((List.length a : Int) != (List.length b : Int)) then (some ((false, ()), ())) else (match loopO laws_eqIntS_B0 ((a, b, (0 : Int), ()), ()) with | some (.inl ((t4, ()), ())) => some ((t4, ()), ()) | some (.inr ((), ())) => some ((true, ()), ()) | none => none)
noncomputable def laws_eqIntS_x : Cx := ⟨tab, impl_MapWay_e, fun _ _ => 0, fun _ => false, [], []⟩
noncomputable def c18 : Code := bodyOf Tryz.f18
noncomputable def laws_eqIntS_A : Ann := .seq .nil (.seq .nil (.seq (.seq .nil (.loop laws_eqIntS_J0 laws_eqIntS_O0 laws_eqIntS_B0 (.seq .nil (.seq (.seq (.draw [(0, .flo), (1, .flo), (2, .flo), (3, .flo), (4, .flo), (5, .flo), (6, .flo), (7, .flo), (8, .flo)]) .nil) .nil)))) .nil))
theorem laws_eqIntS_r0 (p : laws_eqIntS_J0.P) : run laws_eqIntS_x (subc [1, 1, 0, 1, 0, 0] c18) (.seq .nil (.seq (.seq (.draw [(0, .flo), (1, .flo), (2, .flo), (3, .flo), (4, .flo), (5, .flo), (6, .flo), (7, .flo), (8, .flo)]) .nil) .nil)) (laws_eqIntS_J0.S p) (leaf laws_eqIntS_J0 laws_eqIntS_O0) = laws_eqIntS_B0 p := by kernel_rfl
noncomputable def laws_eqIntS_D : Ve.Fn := ⟨18, laws_eqIntS_a, laws_eqIntS_o, laws_eqIntS_E, laws_eqIntS⟩
theorem laws_eqIntS_w : Walk Tryz.prog laws_eqIntS_x laws_eqIntS_D Tryz.f18 c18 26 laws_eqIntS_A :=
  ⟨⟨Tryz.func18, by kernel_rfl, by kernel_rfl, by kernel_rfl, by decide, by kernel_rfl, Nat.le_of_ble_eq_true (by kernel_rfl)⟩, by kernel_rfl, by kernel_rfl, by kernel_rfl, kcast (by kernel_rfl) (⟨laws_eqIntS_r0, trivial⟩ : (∀ p, run laws_eqIntS_x (subc [1, 1, 0, 1, 0, 0] c18) (.seq .nil (.seq (.seq (.draw [(0, .flo), (1, .flo), (2, .flo), (3, .flo), (4, .flo), (5, .flo), (6, .flo), (7, .flo), (8, .flo)]) .nil) .nil)) (laws_eqIntS_J0.S p) (leaf laws_eqIntS_J0 laws_eqIntS_O0) = laws_eqIntS_B0 p) ∧ True), by kernel_rfl, fun x y => by kernel_rfl⟩
theorem laws_eqIntS_s : laws_eqIntS_D.Says Tryz.prog := laws_eqIntS_w.says follows tabOk impl_MapWay_e_ok
noncomputable def laws_eqIntS_e : Env := more impl_MapWay_e laws_eqIntS_D
theorem laws_eqIntS_e_ok : EnvOk Tryz.prog laws_eqIntS_e := more_ok impl_MapWay_e_ok laws_eqIntS_s
/-! loop.example/g01128/laws.eqIntSS -/
abbrev laws_eqIntSS_J0 : Tpl := ⟨[(0, .val (.list (.list I))), (1, .val (.list (.list I))), (5, .val I)], [], []⟩
abbrev laws_eqIntSS_J1 : Tpl := ⟨[(4, .val .bool)], [], []⟩
abbrev laws_eqIntSS_J2 : Tpl := ⟨[], [], []⟩
abbrev laws_eqIntSS_E : Ve.End := ⟨[⟨4, .shr, .bool, none⟩], []⟩
abbrev laws_eqIntSS_a : List ASh := [.val (.list (.list I)), .val (.list (.list I))]
abbrev laws_eqIntSS_o : List OSh := []
abbrev laws_eqIntSS_O0 : Out := .or .ret laws_eqIntSS_J1 (.one (.ex 0) laws_eqIntSS_J2)
noncomputable def laws_eqIntSS_B0 : laws_eqIntSS_J0.P → Option (laws_eqIntSS_J0.P ⊕ laws_eqIntSS_O0.P)
  | ((a, b, i, ()), ()) => bif (decide (i < (List.length a : Int))) then (guardB (inb i (List.length a)) (guardB (inb i (List.length b)) (match laws_eqIntS ((List.getD a (Int.toNat i) ([] : (List Int))), (List.getD b (Int.toNat i) ([] : (List Int))), ()) () with | some ((r, ()), ()) => (bif (!r) then (some (.inr (.inl ((false, ()), ())))) else (some (.inl ((a, b, (w64 (i + (1 : Int))), ()), ())))) | none => none))) else (some (.inr (.inr ((), ()))))
noncomputable def laws_eqIntSS : argP laws_eqIntSS_a → obP (extObs 0 laws_eqIntSS_o) → Option laws_eqIntSS_E.P
  | (a, b, ()), () => bif ((List.length a : Int) != (List.length b : Int)) then (some ((false, ()), ())) else (match loopO laws_eqIntSS_B0 ((a, b, (0 : Int), ()), ()) with | some (.inl ((t4, ()), ())) => some ((t4, ()), ()) | some (.inr ((), ())) => some ((true, ()), ()) | none => none)
noncomputable def laws_eqIntSS_x : Cx := ⟨tab, laws_eqIntS_e, fun _ _ => 0, fun _ => false, [(25, 0), (25, 1), (25, 2), (25, 3)], []⟩
noncomputable def c16 : Code := bodyOf Tryz.f16
noncomputable def laws_eqIntSS_A : Ann := .seq .nil (.seq .nil (.seq (.seq .nil (.loop laws_eqIntSS_J0 laws_eqIntSS_O0 laws_eqIntSS_B0 (.seq .nil (.seq (.seq (.draw [(0, .flo), (1, .flo), (2, .flo), (3, .flo), (4, .flo), (5, .flo), (6, .flo), (7, .flo), (8, .sole), (9, .flo)]) .nil) .nil)))) .nil))
theorem laws_eqIntSS_r0 (p : laws_eqIntSS_J0.P) : run laws_eqIntSS_x (subc [1, 1, 0, 1, 0, 0] c16) (.seq .nil (.seq (.seq (.draw [(0, .flo), (1, .flo), (2, .flo), (3, .flo), (4, .flo), (5, .flo), (6, .flo), (7, .flo), (8, .sole), (9, .flo)]) .nil) .nil)) (laws_eqIntSS_J0.S p) (leaf laws_eqIntSS_J0 laws_eqIntSS_O0) = laws_eqIntSS_B0 p := by kernel_rfl
noncomputable def laws_eqIntSS_D : Ve.Fn := ⟨16, laws_eqIntSS_a, laws_eqIntSS_o, laws_eqIntSS_E, laws_eqIntSS⟩
theorem laws_eqIntSS_w : Walk Tryz.prog laws_eqIntSS_x laws_eqIntSS_D Tryz.f16 c16 27 laws_eqIntSS_A :=
  ⟨⟨Tryz.func16, by kernel_rfl, by kernel_rfl, by kernel_rfl, by decide, by kernel_rfl, Nat.le_of_ble_eq_true (by kernel_rfl)⟩, by kernel_rfl, by kernel_rfl, by kernel_rfl, kcast (by kernel_rfl) (⟨laws_eqIntSS_r0, trivial⟩ : (∀ p, run laws_eqIntSS_x (subc [1, 1, 0, 1, 0, 0] c16) (.seq .nil (.seq (.seq (.draw [(0, .flo), (1, .flo), (2, .flo), (3, .flo), (4, .flo), (5, .flo), (6, .flo), (7, .flo), (8, .sole), (9, .flo)]) .nil) .nil)) (laws_eqIntSS_J0.S p) (leaf laws_eqIntSS_J0 laws_eqIntSS_O0) = laws_eqIntSS_B0 p) ∧ True), by kernel_rfl, fun x y => by kernel_rfl⟩
theorem laws_eqIntSS_s : laws_eqIntSS_D.Says Tryz.prog := laws_eqIntSS_w.says follows tabOk laws_eqIntS_e_ok
noncomputable def laws_eqIntSS_e : Env := more laws_eqIntS_e laws_eqIntSS_D
theorem laws_eqIntSS_e_ok : EnvOk Tryz.prog laws_eqIntSS_e := more_ok laws_eqIntS_e_ok laws_eqIntSS_s
/-! loop.example/g01128/laws.eqIntA2 -/
abbrev laws_eqIntA2_J0 : Tpl := ⟨[(2, .cst (.prod I I)), (3, .cst (.prod I I)), (5, .val I)], [], []⟩
abbrev laws_eqIntA2_J1 : Tpl := ⟨[(4, .val .bool)], [], []⟩
abbrev laws_eqIntA2_J2 : Tpl := ⟨[], [], []⟩
abbrev laws_eqIntA2_E : Ve.End := ⟨[⟨4, .shr, .bool, none⟩], []⟩
abbrev laws_eqIntA2_a : List ASh := [.val (.prod I I), .val (.prod I I)]
abbrev laws_eqIntA2_o : List OSh := []
abbrev laws_eqIntA2_O0 : Out := .or .ret laws_eqIntA2_J1 (.one (.ex 0) laws_eqIntA2_J2)
noncomputable def laws_eqIntA2_B0 : laws_eqIntA2_J0.P → Option (laws_eqIntA2_J0.P ⊕ laws_eqIntA2_O0.P)
  | ((a, b, i, ()), ()) => bif (decide (i < (2 : Int))) then (guardB (decide (0 ≤ i) && decide (i < 2)) (guardB (decide (0 ≤ i) && decide (i < 2)) (bif ((bif Nat.beq (Int.toNat i) 0 then a.1 else a.2) != (bif Nat.beq (Int.toNat i) 0 then b.1 else b.2)) then (some (.inr (.inl ((false, ()), ())))) else (some (.inl ((a, b, (w64 (i + (1 : Int))), ()), ())))))) else (some (.inr (.inr ((), ()))))
noncomputable def laws_eqIntA2 : argP laws_eqIntA2_a → obP (extObs 0 laws_eqIntA2_o) → Option laws_eqIntA2_E.P
  | (a, b, ()), () => match loopO laws_eqIntA2_B0 ((a, b, (0 : Int), ()), ()) with | some (.inl ((t4, ()), ())) => some ((t4, ()), ()) | some (.inr ((), ())) => some ((true, ()), ()) | none => none
noncomputable def laws_eqIntA2_x : Cx := ⟨tab, laws_eqIntSS_e, fun _ _ => 0, fun _ => false, [], [(2, 0), (3, 0)]⟩
noncomputable def c254 : Code := bodyOf Tryz.f254
noncomputable def laws_eqIntA2_A : Ann := .seq .nil (.seq (.seq .nil (.loop laws_eqIntA2_J0 laws_eqIntA2_O0 laws_eqIntA2_B0 (.seq .nil (.seq (.seq (.draw [(0, .flo), (1, .flo), (2, .flo), (3, .flo), (4, .flo), (5, .flo), (6, .flo)]) .nil) .nil)))) .nil)
theorem laws_eqIntA2_r0 (p : laws_eqIntA2_J0.P) : run laws_eqIntA2_x (subc [1, 0, 1, 0, 0] c254) (.seq .nil (.seq (.seq (.draw [(0, .flo), (1, .flo), (2, .flo), (3, .flo), (4, .flo), (5, .flo), (6, .flo)]) .nil) .nil)) (laws_eqIntA2_J0.S p) (leaf laws_eqIntA2_J0 laws_eqIntA2_O0) = laws_eqIntA2_B0 p := by kernel_rfl
noncomputable def laws_eqIntA2_D : Ve.Fn := ⟨254, laws_eqIntA2_a, laws_eqIntA2_o, laws_eqIntA2_E, laws_eqIntA2⟩
theorem laws_eqIntA2_w : Walk Tryz.prog laws_eqIntA2_x laws_eqIntA2_D Tryz.f254 c254 17 laws_eqIntA2_A :=
  ⟨⟨Tryz.func254, by kernel_rfl, by kernel_rfl, by kernel_rfl, by decide, by kernel_rfl, Nat.le_of_ble_eq_true (by kernel_rfl)⟩, by kernel_rfl, by kernel_rfl, by kernel_rfl, kcast (by kernel_rfl) (⟨laws_eqIntA2_r0, trivial⟩ : (∀ p, run laws_eqIntA2_x (subc [1, 0, 1, 0, 0] c254) (.seq .nil (.seq (.seq (.draw [(0, .flo), (1, .flo), (2, .flo), (3, .flo), (4, .flo), (5, .flo), (6, .flo)]) .nil) .nil)) (laws_eqIntA2_J0.S p) (leaf laws_eqIntA2_J0 laws_eqIntA2_O0) = laws_eqIntA2_B0 p) ∧ True), by kernel_rfl, fun x y => by kernel_rfl⟩
theorem laws_eqIntA2_s : laws_eqIntA2_D.Says Tryz.prog := laws_eqIntA2_w.says follows tabOk laws_eqIntSS_e_ok
noncomputable def laws_eqIntA2_e : Env := more laws_eqIntSS_e laws_eqIntA2_D
theorem laws_eqIntA2_e_ok : EnvOk Tryz.prog laws_eqIntA2_e := more_ok laws_eqIntSS_e_ok laws_eqIntA2_s
/-! loop.example/g01128/laws.eqIntA2S -/
abbrev laws_eqIntA2S_J0 : Tpl := ⟨[(0, .val (.list (.prod I I))), (1, .val (.list (.prod I I))), (5, .val I)], [], []⟩
abbrev laws_eqIntA2S_J1 : Tpl := ⟨[(4, .val .bool)], [], []⟩
abbrev laws_eqIntA2S_J2 : Tpl := ⟨[], [], []⟩
abbrev laws_eqIntA2S_E : Ve.End := ⟨[⟨4, .shr, .bool, none⟩], []⟩
abbrev laws_eqIntA2S_a : List ASh := [.val (.list (.prod I I)), .val (.list (.prod I I))]
abbrev laws_eqIntA2S_o : List OSh := []
abbrev laws_eqIntA2S_O0 : Out := .or .ret laws_eqIntA2S_J1 (.one (.ex 0) laws_eqIntA2S_J2)
noncomputable def laws_eqIntA2S_B0 : laws_eqIntA2S_J0.P → Option (laws_eqIntA2S_J0.P ⊕ laws_eqIntA2S_O0.P)
  | ((a, b, i, ()), ()) => bif (decide (i < (List.length a : Int))) then (guardB (inb i (List.length a)) (guardB (inb i (List.length b)) (match laws_eqIntA2 ((List.getD a (Int.toNat i) ((0 : Int), (0 : Int))), (List.getD b (Int.toNat i) ((0 : Int), (0 : Int))), ()) () with | some ((r, ()), ()) => (bif (!r) then (some (.inr (.inl ((false, ()), ())))) else (some (.inl ((a, b, (w64 (i + (1 : Int))), ()), ())))) | none => none))) else (some (.inr (.inr ((), ()))))
noncomputable def laws_eqIntA2S : argP laws_eqIntA2S_a → obP (extObs 0 laws_eqIntA2S_o) → Option laws_eqIntA2S_E.P
  | (a, b, ()), () => bif ((List.length a : Int) != (List.length b : Int)) then (some ((false, ()), ())) else (match loopO laws_eqIntA2S_B0 ((a, b, (0 : Int), ()), ()) with | some (.inl ((t4, ()), ())) => some ((t4, ()), ()) | some (.inr ((), ())) => some ((true, ()), ()) | none => none)
noncomputable def laws_eqIntA2S_x : Cx := ⟨tab, laws_eqIntA2_e, fun _ _ => 0, fun _ => false, [(25, 0), (25, 1), (25, 2), (25, 3)], []⟩
noncomputable def c134 : Code := bodyOf Tryz.f134
noncomputable def laws_eqIntA2S_A : Ann := .seq .nil (.seq .nil (.seq (.seq .nil (.loop laws_eqIntA2S_J0 laws_eqIntA2S_O0 laws_eqIntA2S_B0 (.seq .nil (.seq (.seq (.draw [(0, .flo), (1, .flo), (2, .flo), (3, .flo), (4, .flo), (5, .flo), (6, .flo), (7, .flo), (8, .sole), (9, .flo)]) .nil) .nil)))) .nil))
theorem laws_eqIntA2S_r0 (p : laws_eqIntA2S_J0.P) : run laws_eqIntA2S_x (subc [1, 1, 0, 1, 0, 0] c134) (.seq .nil (.seq (.seq (.draw [(0, .flo), (1, .flo), (2, .flo), (3, .flo), (4, .flo), (5, .flo), (6, .flo), (7, .flo), (8, .sole), (9, .flo)]) .nil) .nil)) (laws_eqIntA2S_J0.S p) (leaf laws_eqIntA2S_J0 laws_eqIntA2S_O0) = laws_eqIntA2S_B0 p := by kernel_rfl
noncomputable def laws_eqIntA2S_D : Ve.Fn := ⟨134, laws_eqIntA2S_a, laws_eqIntA2S_o, laws_eqIntA2S_E, laws_eqIntA2S⟩
theorem laws_eqIntA2S_w : Walk Tryz.prog laws_eqIntA2S_x laws_eqIntA2S_D Tryz.f134 c134 27 laws_eqIntA2S_A :=
  ⟨⟨Tryz.func134, by kernel_rfl, by kernel_rfl, by kernel_rfl, by decide, by kernel_rfl, Nat.le_of_ble_eq_true (by kernel_rfl)⟩, by kernel_rfl, by kernel_rfl, by kernel_rfl, kcast (by kernel_rfl) (⟨laws_eqIntA2S_r0, trivial⟩ : (∀ p, run laws_eqIntA2S_x (subc [1, 1, 0, 1, 0, 0] c134) (.seq .nil (.seq (.seq (.draw [(0, .flo), (1, .flo), (2, .flo), (3, .flo), (4, .flo), (5, .flo), (6, .flo), (7, .flo), (8, .sole), (9, .flo)]) .nil) .nil)) (laws_eqIntA2S_J0.S p) (leaf laws_eqIntA2S_J0 laws_eqIntA2S_O0) = laws_eqIntA2S_B0 p) ∧ True), by kernel_rfl, fun x y => by kernel_rfl⟩
theorem laws_eqIntA2S_s : laws_eqIntA2S_D.Says Tryz.prog := laws_eqIntA2S_w.says follows tabOk laws_eqIntA2_e_ok
noncomputable def laws_eqIntA2S_e : Env := more laws_eqIntA2_e laws_eqIntA2S_D
theorem laws_eqIntA2S_e_ok : EnvOk Tryz.prog laws_eqIntA2S_e := more_ok laws_eqIntA2_e_ok laws_eqIntA2S_s
/-! loop.example/g01128/laws.eqGraph -/
abbrev laws_eqGraph_E : Ve.End := ⟨[⟨4, .shr, .bool, none⟩], []⟩
abbrev laws_eqGraph_a : List ASh := [.val (.prod I (.list (.prod I I))), .val (.prod I (.list (.prod I I)))]
abbrev laws_eqGraph_o : List OSh := []
noncomputable def laws_eqGraph : argP laws_eqGraph_a → obP (extObs 0 laws_eqGraph_o) → Option laws_eqGraph_E.P
  | (a, b, ()), () => bif (a.1 != b.1) then (some ((false, ()), ())) else (match laws_eqIntA2S (a.2, b.2, ()) () with | some ((r, ()), ()) => (bif (!r) then (some ((false, ()), ())) else (some ((true, ()), ()))) | none => none)
noncomputable def laws_eqGraph_x : Cx := ⟨tab, laws_eqIntA2S_e, fun _ _ => 0, fun _ => false, [(14, 0), (14, 1), (14, 2), (14, 3)], [(2, 0), (3, 0)]⟩
noncomputable def c17 : Code := bodyOf Tryz.f17
noncomputable def laws_eqGraph_A : Ann := .nil
noncomputable def laws_eqGraph_D : Ve.Fn := ⟨17, laws_eqGraph_a, laws_eqGraph_o, laws_eqGraph_E, laws_eqGraph⟩
theorem laws_eqGraph_w : Walk Tryz.prog laws_eqGraph_x laws_eqGraph_D Tryz.f17 c17 16 laws_eqGraph_A :=
  ⟨⟨Tryz.func17, by kernel_rfl, by kernel_rfl, by kernel_rfl, by decide, by kernel_rfl, Nat.le_of_ble_eq_true (by kernel_rfl)⟩, by kernel_rfl, by kernel_rfl, by kernel_rfl, kcast (by kernel_rfl) trivial, by kernel_rfl, fun x y => by kernel_rfl⟩
theorem laws_eqGraph_s : laws_eqGraph_D.Says Tryz.prog := laws_eqGraph_w.says follows tabOk laws_eqIntA2S_e_ok
noncomputable def laws_eqGraph_e : Env := more laws_eqIntA2S_e laws_eqGraph_D
theorem laws_eqGraph_e_ok : EnvOk Tryz.prog laws_eqGraph_e := more_ok laws_eqIntA2S_e_ok laws_eqGraph_s
/-! loop.example/g01128/laws.markIntA2S -/
abbrev laws_markIntA2S_e0v_ls_J0 : Tpl := ⟨[(0, .same (1000000, 0) []), (1, .val I), (5, .val I), (6, .val I)], [((1000000, 0), .vec .shr (.prod I I))], []⟩
abbrev laws_markIntA2S_e0v_ls_J1 : Tpl := ⟨[(0, .same (1000000, 0) []), (1, .val I), (5, .val I)], [((1000000, 0), .vec .shr (.prod I I))], []⟩
abbrev laws_markIntA2S_e0v_ls_J2 : Tpl := ⟨[(1, .val I)], [((1000000, 0), .vec .shr (.prod I I))], []⟩
abbrev laws_markIntA2S_e0v_ls_E : Ve.End := ⟨[⟨4, .shr, I, none⟩], [.vec .shr (.prod I I)]⟩
abbrev laws_markIntA2S_e0v_ls_a : List ASh := [.ext 0, .val I]
abbrev laws_markIntA2S_e0v_ls_o : List OSh := [.vec .shr (.prod I I)]
abbrev laws_markIntA2S_e0v_ls_O0 : Out := .one (.ex 2) laws_markIntA2S_e0v_ls_J1
noncomputable def laws_markIntA2S_e0v_ls_B0 : laws_markIntA2S_e0v_ls_J0.P → Option (laws_markIntA2S_e0v_ls_J0.P ⊕ laws_markIntA2S_e0v_ls_O0.P)
  | ((k, i, j, ()), (o0, ())) => bif (decide (j < (2 : Int))) then (guardB (inb i (List.length o0)) (guardB (decide (0 ≤ j) && decide (j < 2)) (some (.inl (((w64 (k + (1 : Int))), i, (w64 (j + (1 : Int))), ()), ((List.set o0 (Int.toNat i) (bif Nat.beq (Int.toNat j) 0 then (k, (List.getD o0 (Int.toNat i) ((0 : Int), (0 : Int))).2) else ((List.getD o0 (Int.toNat i) ((0 : Int), (0 : Int))).1, k))), ())))))) else (some (.inr ((k, i, ()), (o0, ()))))
abbrev laws_markIntA2S_e0v_ls_O1 : Out := .one (.ex 0) laws_markIntA2S_e0v_ls_J2
noncomputable def laws_markIntA2S_e0v_ls_B1 : laws_markIntA2S_e0v_ls_J1.P → Option (laws_markIntA2S_e0v_ls_J1.P ⊕ laws_markIntA2S_e0v_ls_O1.P)
  | ((k, i, ()), (o0, ())) => bif (decide (i < (List.length o0 : Int))) then (match loopO laws_markIntA2S_e0v_ls_B0 ((k, i, (0 : Int), ()), (o0, ())) with | some ((k2, i2, ()), (o0_2, ())) => some (.inl ((k2, (w64 (i2 + (1 : Int))), ()), (o0_2, ()))) | none => none) else (some (.inr ((k, ()), (o0, ()))))
noncomputable def laws_markIntA2S_e0v_ls : argP laws_markIntA2S_e0v_ls_a → obP (extObs 0 laws_markIntA2S_e0v_ls_o) → Option laws_markIntA2S_e0v_ls_E.P
  | (k, ()), (o0, ()) => match loopO laws_markIntA2S_e0v_ls_B1 ((k, (0 : Int), ()), (o0, ())) with | some ((k2, ()), (o0_2, ())) => some ((k2, ()), (o0_2, ())) | none => none
noncomputable def laws_markIntA2S_e0v_ls_x : Cx := ⟨tab, laws_eqGraph_e, fun _ _ => 0, fun _ => false, [], []⟩
noncomputable def c135 : Code := bodyOf Tryz.f135
noncomputable def laws_markIntA2S_e0v_ls_A : Ann := .seq .nil (.seq (.seq .nil (.loop laws_markIntA2S_e0v_ls_J1 laws_markIntA2S_e0v_ls_O1 laws_markIntA2S_e0v_ls_B1 (.seq .nil (.seq (.seq .nil (.loop laws_markIntA2S_e0v_ls_J0 laws_markIntA2S_e0v_ls_O0 laws_markIntA2S_e0v_ls_B0 .nil)) .nil)))) .nil)
theorem laws_markIntA2S_e0v_ls_r0 (p : laws_markIntA2S_e0v_ls_J1.P) : run laws_markIntA2S_e0v_ls_x (subc [1, 0, 1, 0, 0] c135) (.seq .nil (.seq (.seq .nil (.loop laws_markIntA2S_e0v_ls_J0 laws_markIntA2S_e0v_ls_O0 laws_markIntA2S_e0v_ls_B0 .nil)) .nil)) (laws_markIntA2S_e0v_ls_J1.S p) (leaf laws_markIntA2S_e0v_ls_J1 laws_markIntA2S_e0v_ls_O1) = laws_markIntA2S_e0v_ls_B1 p := by kernel_rfl
theorem laws_markIntA2S_e0v_ls_r1 (p : laws_markIntA2S_e0v_ls_J0.P) : run laws_markIntA2S_e0v_ls_x (subc [1, 0, 1, 0, 0, 1, 0, 0, 1, 0, 0] c135) .nil (laws_markIntA2S_e0v_ls_J0.S p) (leaf laws_markIntA2S_e0v_ls_J0 laws_markIntA2S_e0v_ls_O0) = laws_markIntA2S_e0v_ls_B0 p := by kernel_rfl
noncomputable def laws_markIntA2S_e0v_ls_D : Ve.Fn := ⟨135, laws_markIntA2S_e0v_ls_a, laws_markIntA2S_e0v_ls_o, laws_markIntA2S_e0v_ls_E, laws_markIntA2S_e0v_ls⟩
theorem laws_markIntA2S_e0v_ls_w : Walk Tryz.prog laws_markIntA2S_e0v_ls_x laws_markIntA2S_e0v_ls_D Tryz.f135 c135 26 laws_markIntA2S_e0v_ls_A :=
  ⟨⟨Tryz.func135, by kernel_rfl, by kernel_rfl, by kernel_rfl, by decide, by kernel_rfl, Nat.le_of_ble_eq_true (by kernel_rfl)⟩, by kernel_rfl, by kernel_rfl, by kernel_rfl, kcast (by kernel_rfl) (⟨laws_markIntA2S_e0v_ls_r0, laws_markIntA2S_e0v_ls_r1, trivial⟩ : (∀ p, run laws_markIntA2S_e0v_ls_x (subc [1, 0, 1, 0, 0] c135) (.seq .nil (.seq (.seq .nil (.loop laws_markIntA2S_e0v_ls_J0 laws_markIntA2S_e0v_ls_O0 laws_markIntA2S_e0v_ls_B0 .nil)) .nil)) (laws_markIntA2S_e0v_ls_J1.S p) (leaf laws_markIntA2S_e0v_ls_J1 laws_markIntA2S_e0v_ls_O1) = laws_markIntA2S_e0v_ls_B1 p) ∧ (∀ p, run laws_markIntA2S_e0v_ls_x (subc [1, 0, 1, 0, 0, 1, 0, 0, 1, 0, 0] c135) .nil (laws_markIntA2S_e0v_ls_J0.S p) (leaf laws_markIntA2S_e0v_ls_J0 laws_markIntA2S_e0v_ls_O0) = laws_markIntA2S_e0v_ls_B0 p) ∧ True), by kernel_rfl, fun x y => by kernel_rfl⟩
theorem laws_markIntA2S_e0v_ls_s : laws_markIntA2S_e0v_ls_D.Says Tryz.prog := laws_markIntA2S_e0v_ls_w.says follows tabOk laws_eqGraph_e_ok
noncomputable def laws_markIntA2S_e0v_ls_e : Env := more laws_eqGraph_e laws_markIntA2S_e0v_ls_D
theorem laws_markIntA2S_e0v_ls_e_ok : EnvOk Tryz.prog laws_markIntA2S_e0v_ls_e := more_ok laws_eqGraph_e_ok laws_markIntA2S_e0v_ls_s
/-! loop.example/g01128/laws.markGraph -/
abbrev laws_markGraph_ops1v_E : Ve.End := ⟨[⟨4, .shr, I, none⟩], []⟩
abbrev laws_markGraph_ops1v_a : List ASh := [.own (.prod .shr (.own .shr)) (.prod I (.list (.prod I I))), .val I]
abbrev laws_markGraph_ops1v_o : List OSh := []
noncomputable def laws_markGraph_ops1v : argP laws_markGraph_ops1v_a → obP (extObs 0 laws_markGraph_ops1v_o) → Option laws_markGraph_ops1v_E.P
  | (a, k, ()), () => match laws_markIntA2S_e0v_ls (k, ()) (a.2, ()) with | some ((r, ()), (o, ())) => some ((r, ()), ()) | none => none
noncomputable def laws_markGraph_ops1v_x : Cx := ⟨tab, laws_markIntA2S_e0v_ls_e, fun f n => bif Nat.beq f 135 && Nat.beq n 0 then 1 else 0, fun _ => false, [(8, 0), (8, 1), (8, 2), (8, 3)], []⟩
noncomputable def c19 : Code := bodyOf Tryz.f19
noncomputable def laws_markGraph_ops1v_A : Ann := .nil
noncomputable def laws_markGraph_ops1v_D : Ve.Fn := ⟨19, laws_markGraph_ops1v_a, laws_markGraph_ops1v_o, laws_markGraph_ops1v_E, laws_markGraph_ops1v⟩
theorem laws_markGraph_ops1v_w : Walk Tryz.prog laws_markGraph_ops1v_x laws_markGraph_ops1v_D Tryz.f19 c19 10 laws_markGraph_ops1v_A :=
  ⟨⟨Tryz.func19, by kernel_rfl, by kernel_rfl, by kernel_rfl, by decide, by kernel_rfl, Nat.le_of_ble_eq_true (by kernel_rfl)⟩, by kernel_rfl, by kernel_rfl, by kernel_rfl, kcast (by kernel_rfl) trivial, by kernel_rfl, fun x y => by kernel_rfl⟩
theorem laws_markGraph_ops1v_s : laws_markGraph_ops1v_D.Says Tryz.prog := laws_markGraph_ops1v_w.says follows tabOk laws_markIntA2S_e0v_ls_e_ok
noncomputable def laws_markGraph_ops1v_e : Env := more laws_markIntA2S_e0v_ls_e laws_markGraph_ops1v_D
theorem laws_markGraph_ops1v_e_ok : EnvOk Tryz.prog laws_markGraph_ops1v_e := more_ok laws_markIntA2S_e0v_ls_e_ok laws_markGraph_ops1v_s
/-! loop.example/g01128/laws.markIntS -/
abbrev laws_markIntS_e0v_ls_J0 : Tpl := ⟨[(0, .same (1000000, 0) []), (1, .val I), (5, .val I)], [((1000000, 0), .vec .shr I)], []⟩
abbrev laws_markIntS_e0v_ls_J1 : Tpl := ⟨[(1, .val I)], [((1000000, 0), .vec .shr I)], []⟩
abbrev laws_markIntS_e0v_ls_E : Ve.End := ⟨[⟨4, .shr, I, none⟩], [.vec .shr I]⟩
abbrev laws_markIntS_e0v_ls_a : List ASh := [.ext 0, .val I]
abbrev laws_markIntS_e0v_ls_o : List OSh := [.vec .shr I]
abbrev laws_markIntS_e0v_ls_O0 : Out := .one (.ex 0) laws_markIntS_e0v_ls_J1
noncomputable def laws_markIntS_e0v_ls_B0 : laws_markIntS_e0v_ls_J0.P → Option (laws_markIntS_e0v_ls_J0.P ⊕ laws_markIntS_e0v_ls_O0.P)
  | ((k, i, ()), (o0, ())) => bif (decide (i < (List.length o0 : Int))) then (guardB (inb i (List.length o0)) (some (.inl (((w64 (k + (1 : Int))), (w64 (i + (1 : Int))), ()), ((List.set o0 (Int.toNat i) k), ()))))) else (some (.inr ((k, ()), (o0, ()))))
noncomputable def laws_markIntS_e0v_ls : argP laws_markIntS_e0v_ls_a → obP (extObs 0 laws_markIntS_e0v_ls_o) → Option laws_markIntS_e0v_ls_E.P
  | (k, ()), (o0, ()) => match loopO laws_markIntS_e0v_ls_B0 ((k, (0 : Int), ()), (o0, ())) with | some ((k2, ()), (o0_2, ())) => some ((k2, ()), (o0_2, ())) | none => none
noncomputable def laws_markIntS_e0v_ls_x : Cx := ⟨tab, laws_markGraph_ops1v_e, fun _ _ => 0, fun _ => false, [], []⟩
noncomputable def c20 : Code := bodyOf Tryz.f20
noncomputable def laws_markIntS_e0v_ls_A : Ann := .seq .nil (.seq (.seq .nil (.loop laws_markIntS_e0v_ls_J0 laws_markIntS_e0v_ls_O0 laws_markIntS_e0v_ls_B0 .nil)) .nil)
theorem laws_markIntS_e0v_ls_r0 (p : laws_markIntS_e0v_ls_J0.P) : run laws_markIntS_e0v_ls_x (subc [1, 0, 1, 0, 0] c20) .nil (laws_markIntS_e0v_ls_J0.S p) (leaf laws_markIntS_e0v_ls_J0 laws_markIntS_e0v_ls_O0) = laws_markIntS_e0v_ls_B0 p := by kernel_rfl
noncomputable def laws_markIntS_e0v_ls_D : Ve.Fn := ⟨20, laws_markIntS_e0v_ls_a, laws_markIntS_e0v_ls_o, laws_markIntS_e0v_ls_E, laws_markIntS_e0v_ls⟩
theorem laws_markIntS_e0v_ls_w : Walk Tryz.prog laws_markIntS_e0v_ls_x laws_markIntS_e0v_ls_D Tryz.f20 c20 19 laws_markIntS_e0v_ls_A :=
  ⟨⟨Tryz.func20, by kernel_rfl, by kernel_rfl, by kernel_rfl, by decide, by kernel_rfl, Nat.le_of_ble_eq_true (by kernel_rfl)⟩, by kernel_rfl, by kernel_rfl, by kernel_rfl, kcast (by kernel_rfl) (⟨laws_markIntS_e0v_ls_r0, trivial⟩ : (∀ p, run laws_markIntS_e0v_ls_x (subc [1, 0, 1, 0, 0] c20) .nil (laws_markIntS_e0v_ls_J0.S p) (leaf laws_markIntS_e0v_ls_J0 laws_markIntS_e0v_ls_O0) = laws_markIntS_e0v_ls_B0 p) ∧ True), by kernel_rfl, fun x y => by kernel_rfl⟩
theorem laws_markIntS_e0v_ls_s : laws_markIntS_e0v_ls_D.Says Tryz.prog := laws_markIntS_e0v_ls_w.says follows tabOk laws_markGraph_ops1v_e_ok
noncomputable def laws_markIntS_e0v_ls_e : Env := more laws_markGraph_ops1v_e laws_markIntS_e0v_ls_D
theorem laws_markIntS_e0v_ls_e_ok : EnvOk Tryz.prog laws_markIntS_e0v_ls_e := more_ok laws_markGraph_ops1v_e_ok laws_markIntS_e0v_ls_s
/-! loop.example/g01128/laws.markIntSS -/
abbrev laws_markIntSS_e0v_l1_J0 : Tpl := ⟨[(0, .same (1000000, 0) []), (1, .val I), (5, .val I)], [((1000000, 0), .vec (.own .shr) (.list I))], []⟩
abbrev laws_markIntSS_e0v_l1_J1 : Tpl := ⟨[(1, .val I)], [((1000000, 0), .vec (.own .shr) (.list I))], []⟩
abbrev laws_markIntSS_e0v_l1_E : Ve.End := ⟨[⟨4, .shr, I, none⟩], [.vec (.own .shr) (.list I)]⟩
abbrev laws_markIntSS_e0v_l1_a : List ASh := [.ext 0, .val I]
abbrev laws_markIntSS_e0v_l1_o : List OSh := [.vec (.own .shr) (.list I)]
abbrev laws_markIntSS_e0v_l1_O0 : Out := .one (.ex 0) laws_markIntSS_e0v_l1_J1
noncomputable def laws_markIntSS_e0v_l1_B0 : laws_markIntSS_e0v_l1_J0.P → Option (laws_markIntSS_e0v_l1_J0.P ⊕ laws_markIntSS_e0v_l1_O0.P)
  | ((k, i, ()), (o0, ())) => bif (decide (i < (List.length o0 : Int))) then (guardB (inb i (List.length o0)) (match laws_markIntS_e0v_ls (k, ()) ((List.getD o0 (Int.toNat i) ([] : (List Int))), ()) with | some ((r, ()), (o, ())) => some (.inl ((r, (w64 (i + (1 : Int))), ()), ((List.set o0 (Int.toNat i) o), ()))) | none => none)) else (some (.inr ((k, ()), (o0, ()))))
noncomputable def laws_markIntSS_e0v_l1 : argP laws_markIntSS_e0v_l1_a → obP (extObs 0 laws_markIntSS_e0v_l1_o) → Option laws_markIntSS_e0v_l1_E.P
  | (k, ()), (o0, ()) => match loopO laws_markIntSS_e0v_l1_B0 ((k, (0 : Int), ()), (o0, ())) with | some ((k2, ()), (o0_2, ())) => some ((k2, ()), (o0_2, ())) | none => none
noncomputable def laws_markIntSS_e0v_l1_x : Cx := ⟨tab, laws_markIntS_e0v_ls_e, fun f n => bif Nat.beq f 20 && Nat.beq n 0 then 1 else 0, fun _ => false, [(17, 0), (17, 1), (17, 2), (17, 3)], []⟩
noncomputable def c21 : Code := bodyOf Tryz.f21
noncomputable def laws_markIntSS_e0v_l1_A : Ann := .seq .nil (.seq (.seq .nil (.loop laws_markIntSS_e0v_l1_J0 laws_markIntSS_e0v_l1_O0 laws_markIntSS_e0v_l1_B0 .nil)) .nil)
theorem laws_markIntSS_e0v_l1_r0 (p : laws_markIntSS_e0v_l1_J0.P) : run laws_markIntSS_e0v_l1_x (subc [1, 0, 1, 0, 0] c21) .nil (laws_markIntSS_e0v_l1_J0.S p) (leaf laws_markIntSS_e0v_l1_J0 laws_markIntSS_e0v_l1_O0) = laws_markIntSS_e0v_l1_B0 p := by kernel_rfl
noncomputable def laws_markIntSS_e0v_l1_D : Ve.Fn := ⟨21, laws_markIntSS_e0v_l1_a, laws_markIntSS_e0v_l1_o, laws_markIntSS_e0v_l1_E, laws_markIntSS_e0v_l1⟩
theorem laws_markIntSS_e0v_l1_w : Walk Tryz.prog laws_markIntSS_e0v_l1_x laws_markIntSS_e0v_l1_D Tryz.f21 c21 19 laws_markIntSS_e0v_l1_A :=
  ⟨⟨Tryz.func21, by kernel_rfl, by kernel_rfl, by kernel_rfl, by decide, by kernel_rfl, Nat.le_of_ble_eq_true (by kernel_rfl)⟩, by kernel_rfl, by kernel_rfl, by kernel_rfl, kcast (by kernel_rfl) (⟨laws_markIntSS_e0v_l1_r0, trivial⟩ : (∀ p, run laws_markIntSS_e0v_l1_x (subc [1, 0, 1, 0, 0] c21) .nil (laws_markIntSS_e0v_l1_J0.S p) (leaf laws_markIntSS_e0v_l1_J0 laws_markIntSS_e0v_l1_O0) = laws_markIntSS_e0v_l1_B0 p) ∧ True), by kernel_rfl, fun x y => by kernel_rfl⟩
theorem laws_markIntSS_e0v_l1_s : laws_markIntSS_e0v_l1_D.Says Tryz.prog := laws_markIntSS_e0v_l1_w.says follows tabOk laws_markIntS_e0v_ls_e_ok
noncomputable def laws_markIntSS_e0v_l1_e : Env := more laws_markIntS_e0v_ls_e laws_markIntSS_e0v_l1_D
theorem laws_markIntSS_e0v_l1_e_ok : EnvOk Tryz.prog laws_markIntSS_e0v_l1_e := more_ok laws_markIntS_e0v_ls_e_ok laws_markIntSS_e0v_l1_s
/-! loop.example/g01128/laws.heldIntS -/
abbrev laws_heldIntS_J0 : Tpl := ⟨[(0, .val (.list I)), (1, .val I), (5, .val I)], [], []⟩
abbrev laws_heldIntS_J1 : Tpl := ⟨[(4, .val I)], [], []⟩
abbrev laws_heldIntS_J2 : Tpl := ⟨[(1, .val I)], [], []⟩
abbrev laws_heldIntS_E : Ve.End := ⟨[⟨4, .shr, I, none⟩], []⟩
abbrev laws_heldIntS_a : List ASh := [.val (.list I), .val I]
abbrev laws_heldIntS_o : List OSh := []
abbrev laws_heldIntS_O0 : Out := .or .ret laws_heldIntS_J1 (.one (.ex 0) laws_heldIntS_J2)
noncomputable def laws_heldIntS_B0 : laws_heldIntS_J0.P → Option (laws_heldIntS_J0.P ⊕ laws_heldIntS_O0.P)
  | ((a, k, i, ()), ()) => bif (decide (i < (List.length a : Int))) then (guardB (inb i (List.length a)) (bif ((List.getD a (Int.toNat i) (0 : Int)) != k) then (some (.inr (.inl (((-1 : Int), ()), ())))) else (some (.inl ((a, (w64 (k + (1 : Int))), (w64 (i + (1 : Int))), ()), ()))))) else (some (.inr (.inr ((k, ()), ()))))
noncomputable def laws_heldIntS : argP laws_heldIntS_a → obP (extObs 0 laws_heldIntS_o) → Option laws_heldIntS_E.P
  | (a, k, ()), () => match loopO laws_heldIntS_B0 ((a, k, (0 : Int), ()), ()) with | some (.inl ((t4, ()), ())) => some ((t4, ()), ()) | some (.inr ((k2, ()), ())) => some ((k2, ()), ()) | none => none
noncomputable def laws_heldIntS_x : Cx := ⟨tab, laws_markIntSS_e0v_l1_e, fun _ _ => 0, fun _ => false, [], []⟩
noncomputable def c136 : Code := bodyOf Tryz.f136
noncomputable def laws_heldIntS_A : Ann := .seq .nil (.seq (.seq .nil (.loop laws_heldIntS_J0 laws_heldIntS_O0 laws_heldIntS_B0 .nil)) .nil)
theorem laws_heldIntS_r0 (p : laws_heldIntS_J0.P) : run laws_heldIntS_x (subc [1, 0, 1, 0, 0] c136) .nil (laws_heldIntS_J0.S p) (leaf laws_heldIntS_J0 laws_heldIntS_O0) = laws_heldIntS_B0 p := by kernel_rfl
noncomputable def laws_heldIntS_D : Ve.Fn := ⟨136, laws_heldIntS_a, laws_heldIntS_o, laws_heldIntS_E, laws_heldIntS⟩
theorem laws_heldIntS_w : Walk Tryz.prog laws_heldIntS_x laws_heldIntS_D Tryz.f136 c136 21 laws_heldIntS_A :=
  ⟨⟨Tryz.func136, by kernel_rfl, by kernel_rfl, by kernel_rfl, by decide, by kernel_rfl, Nat.le_of_ble_eq_true (by kernel_rfl)⟩, by kernel_rfl, by kernel_rfl, by kernel_rfl, kcast (by kernel_rfl) (⟨laws_heldIntS_r0, trivial⟩ : (∀ p, run laws_heldIntS_x (subc [1, 0, 1, 0, 0] c136) .nil (laws_heldIntS_J0.S p) (leaf laws_heldIntS_J0 laws_heldIntS_O0) = laws_heldIntS_B0 p) ∧ True), by kernel_rfl, fun x y => by kernel_rfl⟩
theorem laws_heldIntS_s : laws_heldIntS_D.Says Tryz.prog := laws_heldIntS_w.says follows tabOk laws_markIntSS_e0v_l1_e_ok
noncomputable def laws_heldIntS_e : Env := more laws_markIntSS_e0v_l1_e laws_heldIntS_D
theorem laws_heldIntS_e_ok : EnvOk Tryz.prog laws_heldIntS_e := more_ok laws_markIntSS_e0v_l1_e_ok laws_heldIntS_s
/-! loop.example/g01128/laws.heldIntSS -/
abbrev laws_heldIntSS_J0 : Tpl := ⟨[(0, .val (.list (.list I))), (1, .val I), (5, .val I)], [], []⟩
abbrev laws_heldIntSS_J1 : Tpl := ⟨[(4, .val I)], [], []⟩
abbrev laws_heldIntSS_J2 : Tpl := ⟨[(1, .val I)], [], []⟩
abbrev laws_heldIntSS_E : Ve.End := ⟨[⟨4, .shr, I, none⟩], []⟩
abbrev laws_heldIntSS_a : List ASh := [.val (.list (.list I)), .val I]
abbrev laws_heldIntSS_o : List OSh := []
abbrev laws_heldIntSS_O0 : Out := .or .ret laws_heldIntSS_J1 (.one (.ex 0) laws_heldIntSS_J2)
noncomputable def laws_heldIntSS_B0 : laws_heldIntSS_J0.P → Option (laws_heldIntSS_J0.P ⊕ laws_heldIntSS_O0.P)
  | ((a, k, i, ()), ()) => bif (decide (i < (List.length a : Int))) then (guardB (inb i (List.length a)) (match laws_heldIntS ((List.getD a (Int.toNat i) ([] : (List Int))), k, ()) () with | some ((r, ()), ()) => (bif (decide (r < (0 : Int))) then (some (.inr (.inl (((-1 : Int), ()), ())))) else (some (.inl ((a, r, (w64 (i + (1 : Int))), ()), ())))) | none => none)) else (some (.inr (.inr ((k, ()), ()))))
noncomputable def laws_heldIntSS : argP laws_heldIntSS_a → obP (extObs 0 laws_heldIntSS_o) → Option laws_heldIntSS_E.P
  | (a, k, ()), () => match loopO laws_heldIntSS_B0 ((a, k, (0 : Int), ()), ()) with | some (.inl ((t4, ()), ())) => some ((t4, ()), ()) | some (.inr ((k2, ()), ())) => some ((k2, ()), ()) | none => none
noncomputable def laws_heldIntSS_x : Cx := ⟨tab, laws_heldIntS_e, fun _ _ => 0, fun _ => false, [(17, 0), (17, 1), (17, 2), (17, 3)], []⟩
noncomputable def c22 : Code := bodyOf Tryz.f22
noncomputable def laws_heldIntSS_A : Ann := .seq .nil (.seq (.seq .nil (.loop laws_heldIntSS_J0 laws_heldIntSS_O0 laws_heldIntSS_B0 .nil)) .nil)
theorem laws_heldIntSS_r0 (p : laws_heldIntSS_J0.P) : run laws_heldIntSS_x (subc [1, 0, 1, 0, 0] c22) .nil (laws_heldIntSS_J0.S p) (leaf laws_heldIntSS_J0 laws_heldIntSS_O0) = laws_heldIntSS_B0 p := by kernel_rfl
noncomputable def laws_heldIntSS_D : Ve.Fn := ⟨22, laws_heldIntSS_a, laws_heldIntSS_o, laws_heldIntSS_E, laws_heldIntSS⟩
theorem laws_heldIntSS_w : Walk Tryz.prog laws_heldIntSS_x laws_heldIntSS_D Tryz.f22 c22 21 laws_heldIntSS_A :=
  ⟨⟨Tryz.func22, by kernel_rfl, by kernel_rfl, by kernel_rfl, by decide, by kernel_rfl, Nat.le_of_ble_eq_true (by kernel_rfl)⟩, by kernel_rfl, by kernel_rfl, by kernel_rfl, kcast (by kernel_rfl) (⟨laws_heldIntSS_r0, trivial⟩ : (∀ p, run laws_heldIntSS_x (subc [1, 0, 1, 0, 0] c22) .nil (laws_heldIntSS_J0.S p) (leaf laws_heldIntSS_J0 laws_heldIntSS_O0) = laws_heldIntSS_B0 p) ∧ True), by kernel_rfl, fun x y => by kernel_rfl⟩
theorem laws_heldIntSS_s : laws_heldIntSS_D.Says Tryz.prog := laws_heldIntSS_w.says follows tabOk laws_heldIntS_e_ok
noncomputable def laws_heldIntSS_e : Env := more laws_heldIntS_e laws_heldIntSS_D
theorem laws_heldIntSS_e_ok : EnvOk Tryz.prog laws_heldIntSS_e := more_ok laws_heldIntS_e_ok laws_heldIntSS_s
/-! loop.example/g01128/laws.FnExactMapWay -/
abbrev laws_FnExactMapWay_J0 : Tpl := ⟨[(2, .val (.list I)), (3, .val (.list I)), (4, .val .bool), (5, .cst (.prod I (.list (.prod I I)))), (6, .cst (.prod I (.list (.prod I I)))), (12, .val (.list (.list I))), (13, .val .bool), (14, .ptr (14, 0)), (15, .ptr (15, 0)), (16, .own .shr I), (17, .own .shr I), (18, .own (.own .shr) (.list I)), (19, .val .bool), (84, .val .bool)], [((14, 0), .box (.prod .shr (.own .shr)) (.prod I (.list (.prod I I)))), ((15, 0), .box (.prod .shr (.own .shr)) (.prod I (.list (.prod I I))))], []⟩
abbrev laws_FnExactMapWay_J1 : Tpl := ⟨[(2, .val (.list I)), (3, .val (.list I)), (4, .val .bool), (5, .cst (.prod I (.list (.prod I I)))), (6, .cst (.prod I (.list (.prod I I)))), (12, .val (.list (.list I))), (13, .val .bool), (14, .ptr (14, 0)), (15, .ptr (15, 0)), (16, .own .shr I), (17, .own .shr I), (18, .own (.own .shr) (.list I)), (19, .val .bool), (89, .val .bool)], [((14, 0), .box (.prod .shr (.own .shr)) (.prod I (.list (.prod I I)))), ((15, 0), .box (.prod .shr (.own .shr)) (.prod I (.list (.prod I I))))], []⟩
abbrev laws_FnExactMapWay_J2 : Tpl := ⟨[(2, .val (.list I)), (3, .val (.list I)), (4, .val .bool), (5, .cst (.prod I (.list (.prod I I)))), (6, .cst (.prod I (.list (.prod I I)))), (12, .val (.list (.list I))), (13, .val .bool), (14, .ptr (14, 0)), (15, .ptr (15, 0)), (16, .own .shr I), (17, .own .shr I), (18, .own (.own .shr) (.list I)), (19, .val .bool), (81, .val (.prod I (.list (.prod I I))))], [((14, 0), .box (.prod .shr (.own .shr)) (.prod I (.list (.prod I I)))), ((15, 0), .box (.prod .shr (.own .shr)) (.prod I (.list (.prod I I))))], []⟩
abbrev laws_FnExactMapWay_J3 : Tpl := ⟨[(2, .val (.list I)), (3, .val (.list I)), (4, .val .bool), (5, .cst (.prod I (.list (.prod I I)))), (6, .cst (.prod I (.list (.prod I I)))), (12, .val (.list (.list I))), (13, .val .bool), (14, .ptr (14, 0)), (15, .ptr (15, 0)), (16, .own .shr I), (17, .own .shr I), (18, .own (.own .shr) (.list I)), (19, .val .bool), (86, .val (.prod I (.list (.prod I I))))], [((14, 0), .box (.prod .shr (.own .shr)) (.prod I (.list (.prod I I)))), ((15, 0), .box (.prod .shr (.own .shr)) (.prod I (.list (.prod I I))))], []⟩
abbrev laws_FnExactMapWay_E : Ve.End := ⟨[⟨10, .shr, .bool, none⟩], []⟩
abbrev laws_FnExactMapWay_a : List ASh := [.val (.prod I (.list (.prod I I))), .val (.prod I (.list (.prod I I))), .val (.list I), .val (.list I), .val .bool]
abbrev laws_FnExactMapWay_o : List OSh := []
noncomputable def laws_FnExactMapWay_D0 : laws_FnExactMapWay_J2.P → Option laws_FnExactMapWay_J0.P
  | ((t2, t3, t4, t5, t6, t12, t13, t16, t17, t18, t19, t81, ()), (t14, t15, ())) => match laws_toGraph (t81, ()) () with | some ((r, ()), ()) => (match laws_eqGraph ((t14.1, t14.2), (r.1, r.2), ()) () with | some ((r2, ()), ()) => some ((t2, t3, t4, t5, t6, t12, t13, t16, t17, t18, t19, (!r2), ()), (t14, t15, ())) | none => none) | none => none
noncomputable def laws_FnExactMapWay_T0 : DT laws_FnExactMapWay_J0 := .node laws_FnExactMapWay_J2 laws_FnExactMapWay_D0 (.br [(0, .sole), (2, .sole), (3, .sole), (4, .flo)] .fin (.br [(2, .sole), (0, .qui), (3, .sole), (4, .flo)] .fin .nobr))
noncomputable def laws_FnExactMapWay_D1 : laws_FnExactMapWay_J3.P → Option laws_FnExactMapWay_J1.P
  | ((t2, t3, t4, t5, t6, t12, t13, t16, t17, t18, t19, t86, ()), (t14, t15, ())) => match laws_toGraph (t86, ()) () with | some ((r, ()), ()) => (match laws_eqGraph ((t15.1, t15.2), (r.1, r.2), ()) () with | some ((r2, ()), ()) => some ((t2, t3, t4, t5, t6, t12, t13, t16, t17, t18, t19, (!r2), ()), (t14, t15, ())) | none => none) | none => none
noncomputable def laws_FnExactMapWay_T1 : DT laws_FnExactMapWay_J1 := .node laws_FnExactMapWay_J3 laws_FnExactMapWay_D1 (.br [(0, .sole), (2, .sole), (3, .sole), (4, .flo)] .fin (.br [(2, .sole), (0, .qui), (3, .sole), (4, .flo)] .fin .nobr))
noncomputable def laws_FnExactMapWay : argP laws_FnExactMapWay_a → obP (extObs 0 laws_FnExactMapWay_o) → Option laws_FnExactMapWay_E.P
  | (t0, t1, t2, t3, t4, ()), () => bif (decide ((1048576 : Int) < (List.length t2 : Int))) then (some ((true, ()), ())) else (bif (decide ((1048576 : Int) < (List.length t3 : Int))) then (some ((true, ()), ())) else (match laws_szGraph (t0, (1048576 : Int), ()) () with | some ((r, ()), ()) => (bif (decide (r < (0 : Int))) then (some ((true, ()), ())) else (match laws_szGraph (t1, r, ()) () with | some ((r2, ()), ()) => (bif (decide (r2 < (0 : Int))) then (some ((true, ()), ())) else (match laws_toGraph (t0, ()) () with | some ((r3, ()), ()) => (match laws_toGraph (t1, ()) () with | some ((r4, ()), ()) => (match laws_toIntS (t2, ()) () with | some ((r5, ()), ()) => (match laws_toIntS (t3, ()) () with | some ((r6, ()), ()) => (match spec_MapWay ((r3.1, r3.2), (r4.1, r4.2), r5, r6, t4, ()) () with | some ((r7, r8, ()), ()) => (match laws_toGraph (t0, ()) () with | some ((r9, ()), ()) => (match laws_toGraph (t1, ()) () with | some ((r10, ()), ()) => (match laws_toIntS (t2, ()) () with | some ((r11, ()), ()) => (match laws_toIntS (t3, ()) () with | some ((r12, ()), ()) => (match impl_MapWay ((r9.1, r9.2), (r10.1, r10.2), r11, r12, t4, ()) () with | some ((r13, r14, ()), ()) => (match laws_eqIntSS (r13, r7, ()) () with | some ((r15, ()), ()) => (bif (!r15) then (some ((false, ()), ())) else (bif (!(r14 == r8)) then (some ((false, ()), ())) else (match laws_FnExactMapWay_D0 ((t2, t3, t4, t0, t1, r7, r8, r11, r12, r13, r14, t0, ()), ((r9.1, r9.2), (r10.1, r10.2), ())) with | some ((t2_2, t3_2, t4_2, t5, t6, t12, t13, t16, t17, t18, t19, t84, ()), (t14, t15, ())) => (bif t84 then (some ((false, ()), ())) else (match laws_FnExactMapWay_D1 ((t2_2, t3_2, t4_2, t5, t6, t12, t13, t16, t17, t18, t19, t6, ()), (t14, t15, ())) with | some ((t2_3, t3_3, t4_3, t5_2, t6_2, t12_2, t13_2, t16_2, t17_2, t18_2, t19_2, t89, ()), (t14_2, t15_2, ())) => (bif t89 then (some ((false, ()), ())) else (match laws_toIntS (t2_3, ()) () with | some ((r16, ()), ()) => (match laws_eqIntS (t16_2, r16, ()) () with | some ((r17, ()), ()) => (bif (!r17) then (some ((false, ()), ())) else (match laws_toIntS (t3_3, ()) () with | some ((r18, ()), ()) => (match laws_eqIntS (t17_2, r18, ()) () with | some ((r19, ()), ()) => (bif (!r19) then (some ((false, ()), ())) else (match laws_markGraph_ops1v ((t14_2.1, t14_2.2), (1 : Int), ()) () with | some ((r20, ()), ()) => (match laws_markGraph_ops1v ((t15_2.1, t15_2.2), r20, ()) () with | some ((r21, ()), ()) => (match laws_markIntS_e0v_ls (r21, ()) (t16_2, ()) with | some ((r22, ()), (o, ())) => (match laws_markIntS_e0v_ls (r22, ()) (t17_2, ()) with | some ((r23, ()), (o2, ())) => (bif (decide (r23 < (0 : Int))) then (some ((false, ()), ())) else (match laws_eqIntSS (t18_2, t12_2, ()) () with | some ((r24, ()), ()) => (bif (!r24) then (some ((false, ()), ())) else (bif (!(t19_2 == t13_2)) then (some ((false, ()), ())) else (match laws_markIntSS_e0v_l1 ((1 : Int), ()) (t18_2, ()) with | some ((r25, ()), (o3, ())) => (match laws_heldIntSS (o3, (1 : Int), ()) () with | some ((r26, ()), ()) => (bif (decide (r26 < (0 : Int))) then (some ((false, ()), ())) else (bif (r26 != r25) then (some ((false, ()), ())) else (match laws_toGraph (t5_2, ()) () with | some ((r27, ()), ()) => (match laws_toGraph (t6_2, ()) () with | some ((r28, ()), ()) => (match laws_toIntS (t2_3, ()) () with | some ((r29, ()), ()) => (match laws_toIntS (t3_3, ()) () with | some ((r30, ()), ()) => (match impl_MapWay ((r27.1, r27.2), (r28.1, r28.2), r29, r30, t4_3, ()) () with | some ((r31, r32, ()), ()) => (match laws_eqIntSS (r31, t12_2, ()) () with | some ((r33, ()), ()) => (bif (!r33) then (some ((false, ()), ())) else (bif (!(r32 == t13_2)) then (some ((false, ()), ())) else (match laws_heldIntSS (o3, (1 : Int), ()) () with | some ((r34, ()), ()) => (bif (decide (r34 < (0 : Int))) then (some ((false, ()), ())) else (bif (r34 != r25) then (some ((false, ()), ())) else (some ((true, ()), ())))) | none => none))) | none => none) | none => none) | none => none) | none => none) | none => none) | none => none))) | none => none) | none => none))) | none => none)) | none => none) | none => none) | none => none) | none => none)) | none => none) | none => none)) | none => none) | none => none)) | none => none)) | none => none))) | none => none) | none => none) | none => none) | none => none) | none => none) | none => none) | none => none) | none => none) | none => none) | none => none) | none => none)) | none => none)) | none => none))
noncomputable def laws_FnExactMapWay_x : Cx := ⟨tab, laws_heldIntSS_e, fun f n => bif Nat.beq f 19 && Nat.beq n 0 then 2 else bif Nat.beq f 20 && Nat.beq n 0 then 1 else bif Nat.beq f 21 && Nat.beq n 0 then 1 else 0, fun _ => false, [(33, 0), (33, 1), (33, 2), (33, 3), (38, 0), (38, 1), (38, 2), (38, 3), (43, 0), (43, 1), (43, 2), (43, 3), (45, 0), (45, 1), (45, 2), (45, 3), (47, 0), (47, 1), (47, 2), (47, 3), (49, 0), (49, 1), (49, 2), (49, 3), (51, 0), (51, 1), (51, 2), (51, 3), (12, 0), (73, 0), (73, 1), (73, 2), (73, 3), (82, 0), (82, 1), (82, 2), (82, 3), (83, 0), (83, 1), (83, 2), (83, 3), (87, 0), (87, 1), (87, 2), (87, 3), (88, 0), (88, 1), (88, 2), (88, 3), (92, 0), (92, 1), (92, 2), (92, 3), (93, 0), (93, 1), (93, 2), (93, 3), (97, 0), (97, 1), (97, 2), (97, 3), (98, 0), (98, 1), (98, 2), (98, 3), (102, 0), (102, 1), (102, 2), (102, 3), (105, 0), (105, 1), (105, 2), (105, 3), (108, 0), (108, 1), (108, 2), (108, 3), (111, 0), (111, 1), (111, 2), (111, 3), (117, 0), (117, 1), (117, 2), (117, 3), (127, 0), (127, 1), (127, 2), (127, 3), (130, 0), (130, 1), (130, 2), (130, 3), (138, 0), (138, 1), (138, 2), (138, 3), (140, 0), (140, 1), (140, 2), (140, 3), (142, 0), (142, 1), (142, 2), (142, 3), (144, 0), (144, 1), (144, 2), (144, 3), (146, 0), (146, 1), (146, 2), (146, 3), (23, 0), (151, 0), (151, 1), (151, 2), (151, 3), (160, 0), (160, 1), (160, 2), (160, 3)], [(5, 0), (6, 0)]⟩
noncomputable def c3 : Code := bodyOf Tryz.f3
noncomputable def laws_FnExactMapWay_A : Ann := .seq .nil (.seq .nil (.seq .nil (.seq .nil (.seq .nil (.seq .nil (.seq .nil (.seq .nil (.seq (.draw [(0, .flo), (2, .flo), (4, .flo), (6, .flo), (8, .flo), (1, .sole), (3, .sole), (5, .sole), (7, .sole), (9, .sole), (10, .flo), (11, .flo), (12, .flo), (13, .flo), (14, .flo)]) (.seq .nil (.seq .nil (.seq .nil (.seq .nil (.seq .nil (.seq .nil (.seq (.seq (.draws [(1, .flo)] laws_FnExactMapWay_J0 laws_FnExactMapWay_T0) .nil) (.seq (.seq (.draws [(1, .flo)] laws_FnExactMapWay_J1 laws_FnExactMapWay_T1) .nil) (.seq .nil (.seq .nil (.seq .nil (.seq .nil (.seq .nil (.seq .nil (.seq .nil (.seq .nil (.seq .nil (.seq .nil (.seq .nil (.seq .nil (.seq .nil (.seq .nil (.seq (.draw [(0, .flo), (2, .flo), (4, .flo), (6, .flo), (8, .flo), (1, .sole), (3, .sole), (5, .sole), (7, .sole), (9, .sole), (10, .flo), (11, .flo), (12, .flo), (13, .flo), (14, .flo)]) .nil)))))))))))))))))))))))))))))))
theorem laws_FnExactMapWay_D0b0 (p : laws_FnExactMapWay_J2.P) : runDrawn laws_FnExactMapWay_x (opsOf (subc [1, 1, 1, 1, 1, 1, 1, 1, 1, 1, 1, 1, 1, 1, 1, 0, 0] c3)) [(0, .sole), (2, .sole), (3, .sole), (4, .flo)] (laws_FnExactMapWay_J2.S p) (endT laws_FnExactMapWay_x (.fin : DT laws_FnExactMapWay_J0)) = laws_FnExactMapWay_D0 p := by kernel_rfl
theorem laws_FnExactMapWay_D0b1 (p : laws_FnExactMapWay_J2.P) : runDrawn laws_FnExactMapWay_x (opsOf (subc [1, 1, 1, 1, 1, 1, 1, 1, 1, 1, 1, 1, 1, 1, 1, 0, 0] c3)) [(2, .sole), (0, .qui), (3, .sole), (4, .flo)] (laws_FnExactMapWay_J2.S p) (endT laws_FnExactMapWay_x (.fin : DT laws_FnExactMapWay_J0)) = laws_FnExactMapWay_D0 p := by kernel_rfl
theorem laws_FnExactMapWay_D1b0 (p : laws_FnExactMapWay_J3.P) : runDrawn laws_FnExactMapWay_x (opsOf (subc [1, 1, 1, 1, 1, 1, 1, 1, 1, 1, 1, 1, 1, 1, 1, 1, 0, 0] c3)) [(0, .sole), (2, .sole), (3, .sole), (4, .flo)] (laws_FnExactMapWay_J3.S p) (endT laws_FnExactMapWay_x (.fin : DT laws_FnExactMapWay_J1)) = laws_FnExactMapWay_D1 p := by kernel_rfl
theorem laws_FnExactMapWay_D1b1 (p : laws_FnExactMapWay_J3.P) : runDrawn laws_FnExactMapWay_x (opsOf (subc [1, 1, 1, 1, 1, 1, 1, 1, 1, 1, 1, 1, 1, 1, 1, 1, 0, 0] c3)) [(2, .sole), (0, .qui), (3, .sole), (4, .flo)] (laws_FnExactMapWay_J3.S p) (endT laws_FnExactMapWay_x (.fin : DT laws_FnExactMapWay_J1)) = laws_FnExactMapWay_D1 p := by kernel_rfl
noncomputable def laws_FnExactMapWay_D : Ve.Fn := ⟨3, laws_FnExactMapWay_a, laws_FnExactMapWay_o, laws_FnExactMapWay_E, laws_FnExactMapWay⟩
theorem laws_FnExactMapWay_w : Walk Tryz.prog laws_FnExactMapWay_x laws_FnExactMapWay_D Tryz.f3 c3 166 laws_FnExactMapWay_A :=
  ⟨⟨Tryz.func3, by kernel_rfl, by kernel_rfl, by kernel_rfl, by decide, by kernel_rfl, Nat.le_of_ble_eq_true (by kernel_rfl)⟩, by kernel_rfl, by kernel_rfl, by kernel_rfl, kcast (by kernel_rfl) (⟨laws_FnExactMapWay_D0b0, laws_FnExactMapWay_D0b1, laws_FnExactMapWay_D1b0, laws_FnExactMapWay_D1b1, trivial⟩ : (∀ p, runDrawn laws_FnExactMapWay_x (opsOf (subc [1, 1, 1, 1, 1, 1, 1, 1, 1, 1, 1, 1, 1, 1, 1, 0, 0] c3)) [(0, .sole), (2, .sole), (3, .sole), (4, .flo)] (laws_FnExactMapWay_J2.S p) (endT laws_FnExactMapWay_x (.fin : DT laws_FnExactMapWay_J0)) = laws_FnExactMapWay_D0 p) ∧ (∀ p, runDrawn laws_FnExactMapWay_x (opsOf (subc [1, 1, 1, 1, 1, 1, 1, 1, 1, 1, 1, 1, 1, 1, 1, 0, 0] c3)) [(2, .sole), (0, .qui), (3, .sole), (4, .flo)] (laws_FnExactMapWay_J2.S p) (endT laws_FnExactMapWay_x (.fin : DT laws_FnExactMapWay_J0)) = laws_FnExactMapWay_D0 p) ∧ (∀ p, runDrawn laws_FnExactMapWay_x (opsOf (subc [1, 1, 1, 1, 1, 1, 1, 1, 1, 1, 1, 1, 1, 1, 1, 1, 0, 0] c3)) [(0, .sole), (2, .sole), (3, .sole), (4, .flo)] (laws_FnExactMapWay_J3.S p) (endT laws_FnExactMapWay_x (.fin : DT laws_FnExactMapWay_J1)) = laws_FnExactMapWay_D1 p) ∧ (∀ p, runDrawn laws_FnExactMapWay_x (opsOf (subc [1, 1, 1, 1, 1, 1, 1, 1, 1, 1, 1, 1, 1, 1, 1, 1, 0, 0] c3)) [(2, .sole), (0, .qui), (3, .sole), (4, .flo)] (laws_FnExactMapWay_J3.S p) (endT laws_FnExactMapWay_x (.fin : DT laws_FnExactMapWay_J1)) = laws_FnExactMapWay_D1 p) ∧ True), by kernel_rfl, fun x y => by kernel_rfl⟩
theorem laws_FnExactMapWay_s : laws_FnExactMapWay_D.Says Tryz.prog := laws_FnExactMapWay_w.says follows tabOk laws_heldIntSS_e_ok
noncomputable def laws_FnExactMapWay_e : Env := more laws_heldIntSS_e laws_FnExactMapWay_D
theorem laws_FnExactMapWay_e_ok : EnvOk Tryz.prog laws_FnExactMapWay_e := more_ok laws_heldIntSS_e_ok laws_FnExactMapWay_s
end Go.Proofs.YtcabghamgilafaaGreat.V
