/-
  What the functions that the law reaches compute: typed pure functions, checked against the code.
-/
import Derived.Test.YtcabghamgilafaaGreatProg
import Derived.Test.YtcabghamgilafaaGreatE4
import Derived.Test.YtcabghamgilafaaGreatS
namespace Go.Proofs.YtcabghamgilafaaGreat.V
open Go.Ve Go.Proofs
set_option linter.unusedVariables false
set_option linter.unusedSimpArgs false
set_option maxRecDepth 100000
def tab : Tab := [(3, .data ⟨I, 0, 8, false⟩), (4, .data ⟨.bool, 0, 1, false⟩), (5, .data ⟨(.int .u8), 0, 1, false⟩), (22, .data ⟨(.list (.prod I I)), 0, 16, false⟩), (25, .data ⟨(.list I), 0, 8, false⟩), (27, .data ⟨(.list (.list I)), 0, 24, false⟩), (30, .data ⟨(.prod I (.list (.prod I I))), 2, 32, false⟩), (35, .fn), (40, .data ⟨(.list (.int .u8)), 0, 1, false⟩), (49, .data ⟨(.prod (.list (.list I)) (.list (.prod I I))), 2, 48, false⟩), (72, .data ⟨(.prod I I), 2, 16, true⟩), (126, .data ⟨(.int .u64), 0, 8, false⟩), (128, .data ⟨(.prod (.list (.int .u8)) (.prod I (.int .u64))), 3, 40, false⟩), (131, .fn), (135, .fn), (170, .fn), (200, .fn), (212, .data ⟨(.int .u64), 0, 8, false⟩), (256, .data ⟨(.int .u32), 0, 4, false⟩)]
theorem follows : Tryz.prog.follows .mixedOrders = true := by kernel_rfl
theorem ti3 : TiOk Tryz.prog tab 3 ⟨I, 0, 8, false⟩ := ti_int (by kernel_rfl) Tryz.underlying3
theorem ti4 : TiOk Tryz.prog tab 4 ⟨.bool, 0, 1, false⟩ := ti_bool (by kernel_rfl) Tryz.underlying4
theorem ti5 : TiOk Tryz.prog tab 5 ⟨(.int .u8), 0, 1, false⟩ := ti_int (by kernel_rfl) Tryz.underlying5
theorem ti22 : TiOk Tryz.prog tab 22 ⟨(.list (.prod I I)), 0, 16, false⟩ := ti_list (ie := ⟨(.prod I I), 2, 16, true⟩) (by kernel_rfl) Tryz.underlying22 (by kernel_rfl) rfl (by kernel_rfl) (by kernel_rfl)
theorem ti25 : TiOk Tryz.prog tab 25 ⟨(.list I), 0, 8, false⟩ := ti_list (ie := ⟨I, 0, 8, false⟩) (by kernel_rfl) Tryz.underlying25 (by kernel_rfl) rfl (by kernel_rfl) (by kernel_rfl)
theorem ti27 : TiOk Tryz.prog tab 27 ⟨(.list (.list I)), 0, 24, false⟩ := ti_list (ie := ⟨(.list I), 0, 8, false⟩) (by kernel_rfl) Tryz.underlying27 (by kernel_rfl) rfl (by kernel_rfl) (by kernel_rfl)
theorem ti30 : TiOk Tryz.prog tab 30 ⟨(.prod I (.list (.prod I I))), 2, 32, false⟩ := ti_struct (by kernel_rfl) Tryz.underlying30 (by kernel_rfl) (by kernel_rfl) (by kernel_rfl) (by kernel_rfl)
theorem ti35 : FnOk Tryz.prog 35 := ti_fn (by kernel_rfl) (Tryz.underlying35)
theorem ti40 : TiOk Tryz.prog tab 40 ⟨(.list (.int .u8)), 0, 1, false⟩ := ti_list (ie := ⟨(.int .u8), 0, 1, false⟩) (by kernel_rfl) Tryz.underlying40 (by kernel_rfl) rfl (by kernel_rfl) (by kernel_rfl)
theorem ti49 : TiOk Tryz.prog tab 49 ⟨(.prod (.list (.list I)) (.list (.prod I I))), 2, 48, false⟩ := ti_struct (by kernel_rfl) Tryz.underlying49 (by kernel_rfl) (by kernel_rfl) (by kernel_rfl) (by kernel_rfl)
theorem ti72 : TiOk Tryz.prog tab 72 ⟨(.prod I I), 2, 16, true⟩ := ti_arr (ie := ⟨I, 0, 8, false⟩) (by kernel_rfl) Tryz.underlying72 (by kernel_rfl) rfl (by kernel_rfl) (by kernel_rfl)
theorem ti126 : TiOk Tryz.prog tab 126 ⟨(.int .u64), 0, 8, false⟩ := ti_int (by kernel_rfl) Tryz.underlying126
theorem ti128 : TiOk Tryz.prog tab 128 ⟨(.prod (.list (.int .u8)) (.prod I (.int .u64))), 3, 40, false⟩ := ti_struct (by kernel_rfl) Tryz.underlying128 (by kernel_rfl) (by kernel_rfl) (by kernel_rfl) (by kernel_rfl)
theorem ti131 : FnOk Tryz.prog 131 := ti_fn (by kernel_rfl) (Tryz.underlying131)
theorem ti135 : FnOk Tryz.prog 135 := ti_fn (by kernel_rfl) (Tryz.underlying135)
theorem ti170 : FnOk Tryz.prog 170 := ti_fn (by kernel_rfl) (Tryz.underlying170)
theorem ti200 : FnOk Tryz.prog 200 := ti_fn (by kernel_rfl) (Tryz.underlying200)
theorem ti212 : TiOk Tryz.prog tab 212 ⟨(.int .u64), 0, 8, false⟩ := ti_int (by kernel_rfl) Tryz.underlying212
theorem ti256 : TiOk Tryz.prog tab 256 ⟨(.int .u32), 0, 4, false⟩ := ti_int (by kernel_rfl) Tryz.underlying256
theorem tabOk : TabOk' Tryz.prog tab := tabOk_of ⟨ti3, ti4, ti5, ti22, ti25, ti27, ti30, ti35, ti40, ti49, ti72, ti126, ti128, ti131, ti135, ti170, ti200, ti212, ti256, trivial⟩
abbrev fn99_E : Ve.End := ⟨[⟨2, .shr, .bool, none⟩], []⟩
abbrev fn99_a : List ASh := [.val (.list (.int .u8))]
abbrev fn99_o : List OSh := []
noncomputable def fn99 : argP fn99_a → obP (extObs 0 fn99_o) → Option fn99_E.P
  | (code, ()), () => some (((decide ((65536 : Int) < (List.length code : Int))), ()), ())
noncomputable def fn99_x : Cx := ⟨tab, noEnv, fun _ _ => 0, fun _ => false, [], []⟩
noncomputable def c23 : Code := bodyOf Tryz.f23
noncomputable def fn99_A : Ann := .nil
noncomputable def fn99_D : Ve.Fn := ⟨23, fn99_a, fn99_o, fn99_E, fn99⟩
theorem fn99_w : Walk Tryz.prog fn99_x fn99_D Tryz.f23 c23 6 fn99_A :=
  .of Tryz.func23 (kcast (by kernel_rfl) trivial) fun x y => by kernel_rfl
theorem fn99_s : fn99_D.Says Tryz.prog := fn99_w.says follows tabOk noEnv_ok
noncomputable def fn99_e : Env := more noEnv fn99_D
theorem fn99_e_ok : EnvOk Tryz.prog fn99_e := more_ok noEnv_ok fn99_s
abbrev fn27_J0 : Tpl := ⟨[(0, .ptr (1000000, 0)), (3, .val I)], [((1000000, 0), .box .shr (.prod (.list (.int .u8)) (.prod I (.int .u64))))], []⟩
abbrev fn27_E : Ve.End := ⟨[⟨2, .shr, I, none⟩], [.box .shr (.prod (.list (.int .u8)) (.prod I (.int .u64)))]⟩
abbrev fn27_a : List ASh := [.adr 0]
abbrev fn27_o : List OSh := [.box .shr (.prod (.list (.int .u8)) (.prod I (.int .u64)))]
noncomputable def fn27 : argP fn27_a → obP (extObs 0 fn27_o) → Option fn27_E.P
  | (), (o0, ()) => match (bif (decide (o0.2.1 < (List.length o0.1 : Int))) then (guardB (inb o0.2.1 (List.length o0.1)) (some (.inl (((w64 (List.getD o0.1 (Int.toNat o0.2.1) (0 : Int))), ()), (o0, ()))))) else (some (.inl (((0 : Int), ()), (o0, ())))) : Option (fn27_J0.P ⊕ fn27_E.P)) with | some (.inl ((b, ()), (o0_2, ()))) => (bif (decide ((w64 (o0_2.2.1 + (1 : Int))) ≤ (List.length o0_2.1 : Int))) then (some ((b, ()), ((o0_2.1, ((w64 (o0_2.2.1 + (1 : Int))), (IntKind.wrap .u64 ((IntKind.wrap .u64 ((IntKind.wrap .u64 (o0_2.2.2 * (6364136223846793005 : Int))) + (IntKind.wrap .u64 b))) + (462197 : Int))))), ()))) else (some (((w64 (IntKind.wrap .u64 (BitVec.ofInt 64 (Int.fdiv (IntKind.wrap .u64 ((IntKind.wrap .u64 ((IntKind.wrap .u64 (o0_2.2.2 * (6364136223846793005 : Int))) + (IntKind.wrap .u64 b))) + (462197 : Int))) (2 ^ (min 40 64))) &&& BitVec.ofInt 64 (255 : Int)).toNat)), ()), ((o0_2.1, ((w64 (o0_2.2.1 + (1 : Int))), (IntKind.wrap .u64 ((IntKind.wrap .u64 ((IntKind.wrap .u64 (o0_2.2.2 * (6364136223846793005 : Int))) + (IntKind.wrap .u64 b))) + (462197 : Int))))), ())))) | some (.inr r) => some r | none => none
noncomputable def fn27_x : Cx := ⟨tab, fn99_e, fun _ _ => 0, fun _ => false, [], []⟩
noncomputable def c269 : Code := bodyOf Tryz.f269
noncomputable def fn27_A : Ann := .seq .nil (.seq .nil (.cut fn27_J0 (.seq (.draw [(0, .flo), (1, .flo), (2, .flo), (4, .flo), (5, .flo), (6, .flo), (3, .qui), (7, .qui), (8, .flo), (9, .flo)]) (.seq (.draw [(0, .flo), (1, .flo), (2, .flo), (4, .flo), (5, .flo), (6, .flo), (3, .qui), (7, .qui), (8, .flo), (9, .flo), (10, .flo), (11, .flo)]) .nil)) (.seq .nil (.seq .nil (.seq (.seq (.draw [(0, .flo), (1, .flo), (2, .flo), (4, .flo), (5, .flo), (6, .flo), (3, .qui), (7, .qui), (8, .flo), (9, .flo)]) .nil) .nil)))))
noncomputable def fn27_D : Ve.Fn := ⟨269, fn27_a, fn27_o, fn27_E, fn27⟩
theorem fn27_w : Walk Tryz.prog fn27_x fn27_D Tryz.f269 c269 62 fn27_A :=
  .of Tryz.func269 (kcast (by kernel_rfl) trivial) fun x y => by kernel_rfl
theorem fn27_s : fn27_D.Says Tryz.prog := fn27_w.says follows tabOk fn99_e_ok
noncomputable def fn27_e : Env := more fn99_e fn27_D
theorem fn27_e_ok : EnvOk Tryz.prog fn27_e := more_ok fn99_e_ok fn27_s
abbrev fn24_E : Ve.End := ⟨[⟨4, .shr, I, none⟩], [.box .shr (.prod (.list (.int .u8)) (.prod I (.int .u64)))]⟩
abbrev fn24_a : List ASh := [.adr 0, .val I]
abbrev fn24_o : List OSh := [.box .shr (.prod (.list (.int .u8)) (.prod I (.int .u64)))]
noncomputable def fn24 : argP fn24_a → obP (extObs 0 fn24_o) → Option fn24_E.P
  | (n, ()), (o0, ()) => bif (decide (n ≤ (1 : Int))) then (some (((0 : Int), ()), (o0, ()))) else (match fn27 () (o0, ()) with | some ((r, ()), (o, ())) => (bif (decide ((200 : Int) < n)) then (match fn27 () (o, ()) with | some ((r2, ()), (o2, ())) => guardB (!(n == 0)) (some (((Int.tmod (w64 ((w64 (r * (256 : Int))) + r2)) n), ()), (o2, ()))) | none => none) else (guardB (!(n == 0)) (some (((Int.tmod r n), ()), (o, ()))))) | none => none)
noncomputable def fn24_x : Cx := ⟨tab, fn27_e, fun f n => bif Nat.beq f 269 && Nat.beq n 0 then 1 else 0, fun _ => false, [(9, 0), (9, 1), (9, 2), (9, 3), (15, 0), (15, 1), (15, 2), (15, 3)], []⟩
noncomputable def c163 : Code := bodyOf Tryz.f163
noncomputable def fn24_A : Ann := .nil
noncomputable def fn24_D : Ve.Fn := ⟨163, fn24_a, fn24_o, fn24_E, fn24⟩
theorem fn24_w : Walk Tryz.prog fn24_x fn24_D Tryz.f163 c163 20 fn24_A :=
  .of Tryz.func163 (kcast (by kernel_rfl) trivial) fun x y => by kernel_rfl
theorem fn24_s : fn24_D.Says Tryz.prog := fn24_w.says follows tabOk fn27_e_ok
noncomputable def fn24_e : Env := more fn27_e fn24_D
theorem fn24_e_ok : EnvOk Tryz.prog fn24_e := more_ok fn27_e_ok fn24_s
abbrev fn21_E : Ve.End := ⟨[⟨4, .shr, I, none⟩], [.box .shr (.prod (.list (.int .u8)) (.prod I (.int .u64)))]⟩
abbrev fn21_a : List ASh := [.adr 0, .val (.list I)]
abbrev fn21_o : List OSh := [.box .shr (.prod (.list (.int .u8)) (.prod I (.int .u64)))]
noncomputable def fn21 : argP fn21_a → obP (extObs 0 fn21_o) → Option fn21_E.P
  | (list, ()), (o0, ()) => match fn24 ((List.length list : Int), ()) (o0, ()) with | some ((r, ()), (o, ())) => guardB (inb r (List.length list)) (some (((List.getD list (Int.toNat r) (0 : Int)), ()), (o, ()))) | none => none
noncomputable def fn21_x : Cx := ⟨tab, fn24_e, fun f n => bif Nat.beq f 163 && Nat.beq n 0 then 1 else 0, fun _ => false, [(9, 0), (9, 1), (9, 2), (9, 3)], []⟩
noncomputable def c137 : Code := bodyOf Tryz.f137
noncomputable def fn21_A : Ann := .nil
noncomputable def fn21_D : Ve.Fn := ⟨137, fn21_a, fn21_o, fn21_E, fn21⟩
theorem fn21_w : Walk Tryz.prog fn21_x fn21_D Tryz.f137 c137 12 fn21_A :=
  .of Tryz.func137 (kcast (by kernel_rfl) trivial) fun x y => by kernel_rfl
theorem fn21_s : fn21_D.Says Tryz.prog := fn21_w.says follows tabOk fn24_e_ok
noncomputable def fn21_e : Env := more fn24_e fn21_D
theorem fn21_e_ok : EnvOk Tryz.prog fn21_e := more_ok fn24_e_ok fn21_s
abbrev fn28_E : Ve.End := ⟨[⟨4, .shr, .bool, none⟩], [.box .shr (.prod (.list (.int .u8)) (.prod I (.int .u64)))]⟩
abbrev fn28_a : List ASh := [.adr 0, .val I]
abbrev fn28_o : List OSh := [.box .shr (.prod (.list (.int .u8)) (.prod I (.int .u64)))]
noncomputable def fn28 : argP fn28_a → obP (extObs 0 fn28_o) → Option fn28_E.P
  | (n, ()), (o0, ()) => match fn24 (n, ()) (o0, ()) with | some ((r, ()), (o, ())) => some (((r == (0 : Int)), ()), (o, ())) | none => none
noncomputable def fn28_x : Cx := ⟨tab, fn21_e, fun f n => bif Nat.beq f 163 && Nat.beq n 0 then 1 else 0, fun _ => false, [(7, 0), (7, 1), (7, 2), (7, 3)], []⟩
noncomputable def c156 : Code := bodyOf Tryz.f156
noncomputable def fn28_A : Ann := .nil
noncomputable def fn28_D : Ve.Fn := ⟨156, fn28_a, fn28_o, fn28_E, fn28⟩
theorem fn28_w : Walk Tryz.prog fn28_x fn28_D Tryz.f156 c156 9 fn28_A :=
  .of Tryz.func156 (kcast (by kernel_rfl) trivial) fun x y => by kernel_rfl
theorem fn28_s : fn28_D.Says Tryz.prog := fn28_w.says follows tabOk fn21_e_ok
noncomputable def fn28_e : Env := more fn21_e fn28_D
theorem fn28_e_ok : EnvOk Tryz.prog fn28_e := more_ok fn21_e_ok fn28_s
abbrev fn68_E : Ve.End := ⟨[⟨4, .shr, I, none⟩], []⟩
abbrev fn68_a : List ASh := [.val I, .val I]
abbrev fn68_o : List OSh := []
noncomputable def fn68 : argP fn68_a → obP (extObs 0 fn68_o) → Option fn68_E.P
  | (a, b, ()), () => bif (decide (a < b)) then (some ((a, ()), ())) else (some ((b, ()), ()))
noncomputable def fn68_x : Cx := ⟨tab, fn28_e, fun _ _ => 0, fun _ => false, [], []⟩
noncomputable def c282 : Code := bodyOf Tryz.f282
noncomputable def fn68_A : Ann := .nil
noncomputable def fn68_D : Ve.Fn := ⟨282, fn68_a, fn68_o, fn68_E, fn68⟩
theorem fn68_w : Walk Tryz.prog fn68_x fn68_D Tryz.f282 c282 10 fn68_A :=
  .of Tryz.func282 (kcast (by kernel_rfl) trivial) fun x y => by kernel_rfl
theorem fn68_s : fn68_D.Says Tryz.prog := fn68_w.says follows tabOk fn28_e_ok
noncomputable def fn68_e : Env := more fn28_e fn68_D
theorem fn68_e_ok : EnvOk Tryz.prog fn68_e := more_ok fn28_e_ok fn68_s
abbrev fn87_E : Ve.End := ⟨[⟨4, .shr, .bool, none⟩], []⟩
abbrev fn87_a : List ASh := [.val (.prod I I), .val (.prod I I)]
abbrev fn87_o : List OSh := []
noncomputable def fn87 : argP fn87_a → obP (extObs 0 fn87_o) → Option fn87_E.P
  | (a, b, ()), () => bif (decide (a.1 < b.1)) then (some ((true, ()), ())) else (bif (a.1 == b.1) then (some (((decide (a.2 < b.2)), ()), ())) else (some ((false, ()), ())))
noncomputable def fn87_x : Cx := ⟨tab, fn68_e, fun _ _ => 0, fun _ => false, [], [(2, 0), (3, 0)]⟩
noncomputable def c289 : Code := bodyOf Tryz.f289
noncomputable def fn87_A : Ann := .nil
noncomputable def fn87_D : Ve.Fn := ⟨289, fn87_a, fn87_o, fn87_E, fn87⟩
theorem fn87_w : Walk Tryz.prog fn87_x fn87_D Tryz.f289 c289 24 fn87_A :=
  .of Tryz.func289 (kcast (by kernel_rfl) trivial) fun x y => by kernel_rfl
theorem fn87_s : fn87_D.Says Tryz.prog := fn87_w.says follows tabOk fn68_e_ok
noncomputable def fn87_e : Env := more fn68_e fn87_D
theorem fn87_e_ok : EnvOk Tryz.prog fn87_e := more_ok fn68_e_ok fn87_s
abbrev fn36_J0 : Tpl := ⟨[(0, .own .shr (.prod I I)), (3, .cst (.prod I I)), (5, .val I)], [], []⟩
abbrev fn36_J1 : Tpl := ⟨[(4, .own .shr (.prod I I))], [], []⟩
abbrev fn36_J2 : Tpl := ⟨[(0, .own .shr (.prod I I)), (36, .str (.sub (0, 0) [])), (38, .val (.prod I I)), (43, .str (.sub (0, 0) []))], [], []⟩
abbrev fn36_J3 : Tpl := ⟨[(0, .own .shr (.prod I I)), (33, .own .shr (.prod I I)), (36, .str (.sub (0, 0) [])), (38, .val (.prod I I)), (43, .str (.sub (0, 0) []))], [], []⟩
abbrev fn36_E : Ve.End := ⟨[⟨4, (.own .shr), (.list (.prod I I)), none⟩], []⟩
abbrev fn36_a : List ASh := [.own (.own .shr) (.list (.prod I I)), .val (.prod I I)]
abbrev fn36_o : List OSh := []
noncomputable def fn36_D1 : fn36_J3.P → Option fn36_J1.P
  | ((list, t33, (lo, hi), t38, (lo2, hi2), ()), ()) => guardB (decide ((List.length t33 + List.length (List.drop lo (List.take hi list))) * 16 ≤ 70368744177664)) (guardB (decide ((List.length (t33 ++ (List.drop lo (List.take hi list))) + List.length [t38]) * 16 ≤ 70368744177664)) (guardB (decide ((List.length ((t33 ++ (List.drop lo (List.take hi list))) ++ [t38]) + List.length (List.drop lo2 (List.take hi2 list))) * 16 ≤ 70368744177664)) (some (((((t33 ++ (List.drop lo (List.take hi list))) ++ [t38]) ++ (List.drop lo2 (List.take hi2 list))), ()), ()))))
noncomputable def fn36_T1 : DT fn36_J1 := .node fn36_J3 fn36_D1 (.br [(4, .sole), (6, .sole), (7, .sole), (11, .sole), (12, .flo)] .fin (.br [(6, .sole), (4, .sole), (7, .sole), (11, .sole), (12, .flo)] .fin .nobr))
noncomputable def fn36_D0 : fn36_J2.P → Option fn36_J1.P
  | ((list, (lo, hi), t38, (lo2, hi2), ()), ()) => fn36_D1 ((list, ([] : (List (Int × Int))), (lo, hi), t38, (lo2, hi2), ()), ())
noncomputable def fn36_T0 : DT fn36_J1 := .node fn36_J2 fn36_D0 (.br [(0, .sole)] fn36_T1 (.br [(6, .sole), (0, .sole), (4, .sole), (7, .sole), (11, .sole), (12, .flo)] .fin .nobr))
abbrev fn36_O0 : Out := .one (.ex 0) fn36_J0
noncomputable def fn36_B0 : fn36_J0.P → Option (fn36_J0.P ⊕ fn36_O0.P)
  | ((list, e, k, ()), ()) => bif (decide ((0 : Int) < k)) then (guardB (inb (w64 (k - (1 : Int))) (List.length list)) (match fn87 (e, (List.getD list (Int.toNat (w64 (k - (1 : Int)))) ((0 : Int), (0 : Int))), ()) () with | some ((r, ()), ()) => (bif r then (some (.inl ((list, e, (w64 (k - (1 : Int))), ()), ()))) else (some (.inr ((list, e, k, ()), ())))) | none => none)) else (some (.inr ((list, e, k, ()), ())))
noncomputable def fn36 : argP fn36_a → obP (extObs 0 fn36_o) → Option fn36_E.P
  | (list, e, ()), () => match loopO fn36_B0 ((list, e, (List.length list : Int), ()), ()) with | some ((list2, e2, k, ()), ()) => (match (bif (decide ((0 : Int) < k)) then (guardB (inb (w64 (k - (1 : Int))) (List.length list2)) (bif ((((List.getD list2 (Int.toNat (w64 (k - (1 : Int)))) ((0 : Int), (0 : Int))).1) == e2.1) && (((List.getD list2 (Int.toNat (w64 (k - (1 : Int)))) ((0 : Int), (0 : Int))).2) == e2.2)) then (some (.inr ((list2, ()), ()))) else (some (.inl ((list2, e2, k, ()), ()))))) else (some (.inl ((list2, e2, k, ()), ()))) : Option (fn36_J0.P ⊕ fn36_E.P)) with | some (.inl ((list3, e3, k2, ()), ())) => guardB (decide (0 ≤ (0 : Int)) && decide ((0 : Int) ≤ k2) && decide (k2 ≤ (List.length list3 : Int))) (guardB (decide (0 ≤ k2) && decide (k2 ≤ (List.length list3 : Int)) && decide ((List.length list3 : Int) ≤ (List.length list3 : Int))) (match fn36_D0 ((list3, (0, (Int.toNat k2)), e3, ((Int.toNat k2), (Int.toNat (List.length list3 : Int))), ()), ()) with | some ((t4, ()), ()) => some ((t4, ()), ()) | none => none)) | some (.inr r) => some r | none => none) | none => none
noncomputable def fn36_x : Cx := ⟨tab, fn87_e, fun _ _ => 0, fun _ => false, [(17, 0), (17, 1), (17, 2), (17, 3), (39, 0)], [(3, 0)]⟩
noncomputable def c283 : Code := bodyOf Tryz.f283
noncomputable def fn36_A : Ann := .seq .nil (.seq .nil (.seq (.loop fn36_J0 fn36_O0 fn36_B0 (.seq (.seq (.draw [(0, .flo), (1, .flo), (2, .flo), (3, .flo), (4, .flo), (5, .flo), (6, .flo), (7, .flo), (8, .qui), (9, .sole), (10, .flo)]) .nil) .nil)) (.cut fn36_J0 (.seq (.draw [(0, .flo), (1, .flo), (2, .flo), (3, .flo), (4, .flo), (5, .flo), (6, .flo), (8, .flo), (7, .qui), (9, .flo), (10, .flo)]) .nil) (.seq (.draws [(1, .flo), (2, .flo), (3, .flo), (5, .flo), (8, .flo), (9, .flo), (10, .flo)] fn36_J1 fn36_T0) .nil))))
theorem fn36_r0 (p : fn36_J0.P) : run fn36_x (subc [1, 1, 0, 0, 0] c283) (.seq (.seq (.draw [(0, .flo), (1, .flo), (2, .flo), (3, .flo), (4, .flo), (5, .flo), (6, .flo), (7, .flo), (8, .qui), (9, .sole), (10, .flo)]) .nil) .nil) (fn36_J0.S p) (leaf fn36_J0 fn36_O0) = fn36_B0 p := by kernel_rfl
theorem fn36_D0b0 (p : fn36_J2.P) : runDrawn fn36_x (opsOf (subc [1, 1, 1, 1, 0] c283)) [(0, .sole)] (fn36_J2.S p) (endT fn36_x fn36_T1) = fn36_D0 p := by kernel_rfl
theorem fn36_D1b0 (p : fn36_J3.P) : runDrawn fn36_x (opsOf (subc [1, 1, 1, 1, 0] c283)) [(4, .sole), (6, .sole), (7, .sole), (11, .sole), (12, .flo)] (fn36_J3.S p) (endT fn36_x (.fin : DT fn36_J1)) = fn36_D1 p := by kernel_rfl
theorem fn36_D1b1 (p : fn36_J3.P) : runDrawn fn36_x (opsOf (subc [1, 1, 1, 1, 0] c283)) [(6, .sole), (4, .sole), (7, .sole), (11, .sole), (12, .flo)] (fn36_J3.S p) (endT fn36_x (.fin : DT fn36_J1)) = fn36_D1 p := by kernel_rfl
theorem fn36_D0b1 (p : fn36_J2.P) : runDrawn fn36_x (opsOf (subc [1, 1, 1, 1, 0] c283)) [(6, .sole), (0, .sole), (4, .sole), (7, .sole), (11, .sole), (12, .flo)] (fn36_J2.S p) (endT fn36_x (.fin : DT fn36_J1)) = fn36_D0 p := by kernel_rfl
noncomputable def fn36_D : Ve.Fn := ⟨283, fn36_a, fn36_o, fn36_E, fn36⟩
theorem fn36_w : Walk Tryz.prog fn36_x fn36_D Tryz.f283 c283 45 fn36_A :=
  .of Tryz.func283 (kcast (by kernel_rfl) (⟨fn36_r0, fn36_D0b0, fn36_D1b0, fn36_D1b1, fn36_D0b1, trivial⟩ : (∀ p, run fn36_x (subc [1, 1, 0, 0, 0] c283) (.seq (.seq (.draw [(0, .flo), (1, .flo), (2, .flo), (3, .flo), (4, .flo), (5, .flo), (6, .flo), (7, .flo), (8, .qui), (9, .sole), (10, .flo)]) .nil) .nil) (fn36_J0.S p) (leaf fn36_J0 fn36_O0) = fn36_B0 p) ∧ (∀ p, runDrawn fn36_x (opsOf (subc [1, 1, 1, 1, 0] c283)) [(0, .sole)] (fn36_J2.S p) (endT fn36_x fn36_T1) = fn36_D0 p) ∧ (∀ p, runDrawn fn36_x (opsOf (subc [1, 1, 1, 1, 0] c283)) [(4, .sole), (6, .sole), (7, .sole), (11, .sole), (12, .flo)] (fn36_J3.S p) (endT fn36_x (.fin : DT fn36_J1)) = fn36_D1 p) ∧ (∀ p, runDrawn fn36_x (opsOf (subc [1, 1, 1, 1, 0] c283)) [(6, .sole), (4, .sole), (7, .sole), (11, .sole), (12, .flo)] (fn36_J3.S p) (endT fn36_x (.fin : DT fn36_J1)) = fn36_D1 p) ∧ (∀ p, runDrawn fn36_x (opsOf (subc [1, 1, 1, 1, 0] c283)) [(6, .sole), (0, .sole), (4, .sole), (7, .sole), (11, .sole), (12, .flo)] (fn36_J2.S p) (endT fn36_x (.fin : DT fn36_J1)) = fn36_D0 p) ∧ True)) fun x y => by kernel_rfl
theorem fn36_s : fn36_D.Says Tryz.prog := fn36_w.says follows tabOk fn87_e_ok
noncomputable def fn36_e : Env := more fn87_e fn36_D
theorem fn36_e_ok : EnvOk Tryz.prog fn36_e := more_ok fn87_e_ok fn36_s
abbrev fn15_J0 : Tpl := ⟨[(0, .ptr (1000000, 0)), (1, .val I), (4, .ptr (4, 0)), (5, .val I)], [((1000000, 0), .box .shr (.prod (.list (.int .u8)) (.prod I (.int .u64)))), ((4, 0), .box (.prod .shr (.own .shr)) (.prod I (.list (.prod I I))))], []⟩
abbrev fn15_J1 : Tpl := ⟨[(0, .ptr (1000000, 0)), (4, .ptr (4, 0)), (5, .val I), (6, .ptr (6, 0)), (7, .val I), (8, .val .bool), (9, .val I), (10, .val I)], [((1000000, 0), .box .shr (.prod (.list (.int .u8)) (.prod I (.int .u64)))), ((4, 0), .box (.prod .shr (.own .shr)) (.prod I (.list (.prod I I)))), ((6, 0), .box (.prod .shr (.own .shr)) (.prod I (.list (.prod I I))))], []⟩
abbrev fn15_J2 : Tpl := ⟨[(0, .ptr (1000000, 0)), (4, .ptr (4, 0)), (5, .val I), (6, .ptr (6, 0)), (7, .val I), (8, .val .bool), (9, .val I)], [((1000000, 0), .box .shr (.prod (.list (.int .u8)) (.prod I (.int .u64)))), ((4, 0), .box (.prod .shr (.own .shr)) (.prod I (.list (.prod I I)))), ((6, 0), .box (.prod .shr (.own .shr)) (.prod I (.list (.prod I I))))], []⟩
abbrev fn15_J3 : Tpl := ⟨[(0, .ptr (1000000, 0)), (4, .ptr (4, 0)), (6, .ptr (6, 0))], [((1000000, 0), .box .shr (.prod (.list (.int .u8)) (.prod I (.int .u64)))), ((4, 0), .box (.prod .shr (.own .shr)) (.prod I (.list (.prod I I)))), ((6, 0), .box (.prod .shr (.own .shr)) (.prod I (.list (.prod I I))))], []⟩
abbrev fn15_J4 : Tpl := ⟨[(4, .ptr (4, 0)), (6, .ptr (6, 0))], [((4, 0), .box (.prod .shr (.own .shr)) (.prod I (.list (.prod I I)))), ((6, 0), .box (.prod .shr (.own .shr)) (.prod I (.list (.prod I I)))), ((1000000, 0), .box .shr (.prod (.list (.int .u8)) (.prod I (.int .u64))))], []⟩
abbrev fn15_J5 : Tpl := ⟨[(0, .ptr (1000000, 0)), (4, .ptr (4, 0)), (5, .val I), (6, .ptr (6, 0)), (7, .val I), (8, .val .bool), (9, .val I), (63, .adp (6, 0) [.snd]), (65, .ptr (1000000, 0)), (66, .val I), (68, .val I)], [((1000000, 0), .box .shr (.prod (.list (.int .u8)) (.prod I (.int .u64)))), ((4, 0), .box (.prod .shr (.own .shr)) (.prod I (.list (.prod I I)))), ((6, 0), .box (.prod .shr (.own .shr)) (.prod I (.list (.prod I I))))], []⟩
abbrev fn15_J6 : Tpl := ⟨[(4, .ptr (4, 0)), (6, .ptr (6, 0)), (82, .adp (6, 0) [.snd]), (84, .ptr (1000000, 0)), (86, .ptr (1000000, 0))], [((4, 0), .box (.prod .shr (.own .shr)) (.prod I (.list (.prod I I)))), ((6, 0), .box (.prod .shr (.own .shr)) (.prod I (.list (.prod I I)))), ((1000000, 0), .box .shr (.prod (.list (.int .u8)) (.prod I (.int .u64))))], []⟩
abbrev fn15_J7 : Tpl := ⟨[(4, .ptr (4, 0)), (6, .ptr (6, 0)), (82, .adp (6, 0) [.snd]), (85, .val I), (86, .ptr (1000000, 0))], [((4, 0), .box (.prod .shr (.own .shr)) (.prod I (.list (.prod I I)))), ((6, 0), .box (.prod .shr (.own .shr)) (.prod I (.list (.prod I I)))), ((1000000, 0), .box .shr (.prod (.list (.int .u8)) (.prod I (.int .u64))))], []⟩
abbrev fn15_J8 : Tpl := ⟨[(4, .ptr (4, 0)), (6, .ptr (6, 0)), (99, .adp (6, 0) [.snd]), (101, .adp (6, 0) [.snd]), (103, .ptr (1000000, 0)), (106, .val I)], [((4, 0), .box (.prod .shr (.own .shr)) (.prod I (.list (.prod I I)))), ((6, 0), .box (.prod .shr (.own .shr)) (.prod I (.list (.prod I I)))), ((1000000, 0), .box .shr (.prod (.list (.int .u8)) (.prod I (.int .u64))))], []⟩
abbrev fn15_J9 : Tpl := ⟨[(4, .ptr (4, 0)), (6, .ptr (6, 0)), (100, .same (6, 0) [.snd]), (101, .adp (6, 0) [.snd]), (103, .ptr (1000000, 0)), (106, .val I)], [((4, 0), .box (.prod .shr (.own .shr)) (.prod I (.list (.prod I I)))), ((6, 0), .box (.prod .shr (.own .shr)) (.prod I (.list (.prod I I)))), ((1000000, 0), .box .shr (.prod (.list (.int .u8)) (.prod I (.int .u64))))], []⟩
abbrev fn15_J10 : Tpl := ⟨[(4, .ptr (4, 0)), (6, .ptr (6, 0)), (99, .adp (6, 0) [.snd]), (102, .same (6, 0) [.snd]), (103, .ptr (1000000, 0)), (106, .val I)], [((4, 0), .box (.prod .shr (.own .shr)) (.prod I (.list (.prod I I)))), ((6, 0), .box (.prod .shr (.own .shr)) (.prod I (.list (.prod I I)))), ((1000000, 0), .box .shr (.prod (.list (.int .u8)) (.prod I (.int .u64))))], []⟩
abbrev fn15_E : Ve.End := ⟨[⟨4, (.prod .shr (.own .shr)), (.prod I (.list (.prod I I))), some 30⟩], [.box .shr (.prod (.list (.int .u8)) (.prod I (.int .u64)))]⟩
abbrev fn15_a : List ASh := [.adr 0, .val I]
abbrev fn15_o : List OSh := [.box .shr (.prod (.list (.int .u8)) (.prod I (.int .u64)))]
noncomputable def fn15_D0 : fn15_J5.P → Option fn15_J2.P
  | ((t5, t7, t8, t9, t66, t68, ()), (o0, t4, t6, ())) => match fn24 (t66, ()) (o0, ()) with | some ((r, ()), (o, ())) => (match fn36 (t6.2, (r, t68), ()) () with | some ((r2, ()), ()) => some ((t5, t7, t8, t9, ()), (o, t4, (t6.1, r2), ())) | none => none) | none => none
noncomputable def fn15_T0 : DT fn15_J2 := .node fn15_J5 fn15_D0 (.br [(1, .sole), (4, .sole), (6, .flo), (7, .sole), (8, .flo), (9, .sole)] .fin (.br [(4, .sole), (6, .flo), (1, .qui), (7, .sole), (8, .flo), (9, .sole)] .fin .nobr))
noncomputable def fn15_D2 : fn15_J7.P → Option fn15_J4.P
  | ((t85, ()), (t4, t6, o0, ())) => match fn24 ((9 : Int), ()) (o0, ()) with | some ((r, ()), (o, ())) => guardB (decide ((List.length t6.2 + List.length [(t85, (w64 (r - (1 : Int))))]) * 16 ≤ 70368744177664)) (some ((), (t4, (t6.1, (t6.2 ++ [(t85, (w64 (r - (1 : Int))))])), o, ()))) | none => none
noncomputable def fn15_T2 : DT fn15_J4 := .node fn15_J7 fn15_D2 (.br [(1, .sole), (5, .sole), (6, .flo), (7, .flo), (8, .sole), (9, .sole), (10, .flo), (11, .sole)] .fin (.br [(5, .sole), (6, .flo), (7, .flo), (1, .qui), (8, .sole), (9, .sole), (10, .flo), (11, .sole)] .fin .nobr))
noncomputable def fn15_D1 : fn15_J6.P → Option fn15_J4.P
  | ((), (t4, t6, o0, ())) => match fn24 ((4 : Int), ()) (o0, ()) with | some ((r, ()), (o, ())) => (match fn24 ((9 : Int), ()) (o, ()) with | some ((r2, ()), (o2, ())) => guardB (decide ((List.length t6.2 + List.length [(r, (w64 (r2 - (1 : Int))))]) * 16 ≤ 70368744177664)) (some ((), (t4, (t6.1, (t6.2 ++ [(r, (w64 (r2 - (1 : Int))))])), o2, ()))) | none => none) | none => none
noncomputable def fn15_T1 : DT fn15_J4 := .node fn15_J6 fn15_D1 (.br [(1, .sole), (3, .sole), (5, .sole), (6, .flo), (7, .flo), (8, .sole), (9, .sole), (10, .flo), (11, .sole)] .fin (.br [(3, .sole)] fn15_T2 .nobr))
noncomputable def fn15_D4 : fn15_J9.P → Option fn15_J4.P
  | ((t106, ()), (t4, t6, o0, ())) => match fn24 (t106, ()) (o0, ()) with | some ((r, ()), (o, ())) => guardB (inb r (List.length t6.2)) (guardB (decide ((List.length t6.2 + List.length [(List.getD t6.2 (Int.toNat r) ((0 : Int), (0 : Int)))]) * 16 ≤ 70368744177664)) (some ((), (t4, (t6.1, (t6.2 ++ [(List.getD t6.2 (Int.toNat r) ((0 : Int), (0 : Int)))])), o, ())))) | none => none
noncomputable def fn15_T4 : DT fn15_J4 := .node fn15_J9 fn15_D4 (.br [(3, .sole), (8, .sole), (9, .flo), (10, .qui), (11, .sole), (12, .sole), (13, .flo), (14, .sole)] .fin (.br [(8, .sole), (3, .qui), (9, .flo), (10, .qui), (11, .sole), (12, .sole), (13, .flo), (14, .sole)] .fin .nobr))
noncomputable def fn15_D5 : fn15_J10.P → Option fn15_J4.P
  | ((t106, ()), (t4, t6, o0, ())) => match fn24 (t106, ()) (o0, ()) with | some ((r, ()), (o, ())) => guardB (inb r (List.length t6.2)) (guardB (decide ((List.length t6.2 + List.length [(List.getD t6.2 (Int.toNat r) ((0 : Int), (0 : Int)))]) * 16 ≤ 70368744177664)) (some ((), (t4, (t6.1, (t6.2 ++ [(List.getD t6.2 (Int.toNat r) ((0 : Int), (0 : Int)))])), o, ())))) | none => none
noncomputable def fn15_T5 : DT fn15_J4 := .node fn15_J10 fn15_D5 (.br [(1, .sole), (8, .sole), (9, .flo), (10, .qui), (11, .sole), (12, .sole), (13, .flo), (14, .sole)] .fin (.br [(8, .sole), (9, .flo), (1, .qui), (10, .qui), (11, .sole), (12, .sole), (13, .flo), (14, .sole)] .fin .nobr))
noncomputable def fn15_D3 : fn15_J8.P → Option fn15_J4.P
  | ((t106, ()), (t4, t6, o0, ())) => fn15_D4 ((t106, ()), (t4, t6, o0, ()))
noncomputable def fn15_T3 : DT fn15_J4 := .node fn15_J8 fn15_D3 (.br [(1, .sole)] fn15_T4 (.br [(3, .sole)] fn15_T5 (.br [(8, .sole), (1, .qui), (3, .qui), (9, .flo), (10, .qui), (11, .sole), (12, .sole), (13, .flo), (14, .sole)] .fin .nobr)))
abbrev fn15_O0 : Out := .one (.ex 2) fn15_J2
noncomputable def fn15_B0 : fn15_J1.P → Option (fn15_J1.P ⊕ fn15_O0.P)
  | ((t5, t7, t8, t9, t10, ()), (o0, t4, t6, ())) => bif (decide (t10 < t5)) then (match fn24 (t7, ()) (o0, ()) with | some ((r, ()), (o, ())) => (bif (r == (0 : Int)) then (match fn36 (t6.2, (t9, t10), ()) () with | some ((r2, ()), ()) => some (.inl ((t5, t7, t8, t9, (w64 (t10 + (1 : Int))), ()), (o, t4, (t6.1, r2), ()))) | none => none) else (some (.inl ((t5, t7, t8, t9, (w64 (t10 + (1 : Int))), ()), (o, t4, t6, ()))))) | none => none) else (some (.inr ((t5, t7, t8, t9, ()), (o0, t4, t6, ()))))
abbrev fn15_O1 : Out := .one (.ex 0) fn15_J3
noncomputable def fn15_B1 : fn15_J2.P → Option (fn15_J2.P ⊕ fn15_O1.P)
  | ((t5, t7, t8, t9, ()), (o0, t4, t6, ())) => bif (decide (t9 < t5)) then (match loopO fn15_B0 ((t5, t7, t8, t9, (w64 (t9 + (1 : Int))), ()), (o0, t4, t6, ())) with | some ((t5_2, t7_2, t8_2, t9_2, ()), (o0_2, t4_2, t6_2, ())) => (bif (decide ((0 : Int) < t9_2)) then (bif (!t8_2) then (match fn15_D0 ((t5_2, t7_2, t8_2, t9_2, t9_2, t9_2, ()), (o0_2, t4_2, t6_2, ())) with | some ((t5_3, t7_3, t8_3, t9_3, ()), (o0_3, t4_3, t6_3, ())) => some (.inl ((t5_3, t7_3, t8_3, (w64 (t9_3 + (1 : Int))), ()), (o0_3, t4_3, t6_3, ()))) | none => none) else (some (.inl ((t5_2, t7_2, t8_2, (w64 (t9_2 + (1 : Int))), ()), (o0_2, t4_2, t6_2, ()))))) else (some (.inl ((t5_2, t7_2, t8_2, (w64 (t9_2 + (1 : Int))), ()), (o0_2, t4_2, t6_2, ()))))) | none => none) else (some (.inr ((), (o0, t4, t6, ()))))
noncomputable def fn15 : argP fn15_a → obP (extObs 0 fn15_o) → Option fn15_E.P
  | (t1, ()), (o0, ()) => match fn21 ([(4 : Int), (5 : Int), (3 : Int), (6 : Int), (2 : Int), (1 : Int), (0 : Int)], ()) (o0, ()) with | some ((r, ()), (o, ())) => (match (bif (decide ((6 : Int) < t1)) then (match fn28 ((4 : Int), ()) (o, ()) with | some ((r2, ()), (o2, ())) => (bif r2 then (match fn24 ((2 : Int), ()) (o2, ()) with | some ((r3, ()), (o3, ())) => some (.inl ((t1, (w64 ((7 : Int) + r3)), ()), (o3, ((0 : Int), ([] : (List (Int × Int)))), ()))) | none => none) else (some (.inl ((t1, r, ()), (o2, ((0 : Int), ([] : (List (Int × Int)))), ()))))) | none => none) else (some (.inl ((t1, r, ()), (o, ((0 : Int), ([] : (List (Int × Int)))), ())))) : Option (fn15_J0.P ⊕ fn15_E.P)) with | some (.inl ((t1_2, t5, ()), (o0_2, t4, ()))) => (match fn68 (t5, t1_2, ()) () with | some ((r4, ()), ()) => (match fn21 ([(1 : Int), (3 : Int), (4 : Int), (6 : Int)], ()) (o0_2, ()) with | some ((r5, ()), (o4, ())) => (match fn28 ((5 : Int), ()) (o4, ()) with | some ((r6, ()), (o5, ())) => (match loopO fn15_B1 ((r4, r5, r6, (0 : Int), ()), (o5, t4, (r4, ([] : (List (Int × Int)))), ())) with | some ((), (o0_3, t4_2, t6, ())) => (match fn24 ((50 : Int), ()) (o0_3, ()) with | some ((r7, ()), (o6, ())) => (bif (r7 == (0 : Int)) then (match fn21 ([(-1 : Int), (8 : Int), (9 : Int), (0 : Int), (4611686018427387904 : Int)], ()) (o6, ()) with | some ((r8, ()), (o7, ())) => some (((r8, t6.2), ()), (o7, ())) | none => none) else (bif (r7 == (1 : Int)) then (match fn15_D1 ((), (t4_2, t6, o6, ())) with | some ((), (t4_3, t6_2, o0_4, ())) => some (((t6_2.1, t6_2.2), ()), (o0_4, ())) | none => none) else (bif (r7 == (2 : Int)) then (bif (decide ((0 : Int) < (List.length t6.2 : Int))) then (match fn15_D3 (((List.length t6.2 : Int), ()), (t4_2, t6, o6, ())) with | some ((), (t4_4, t6_3, o0_5, ())) => some (((t6_3.1, t6_3.2), ()), (o0_5, ())) | none => none) else (some (((t6.1, t6.2), ()), (o6, ())))) else (some (((t6.1, t6.2), ()), (o6, ())))))) | none => none) | none => none) | none => none) | none => none) | none => none) | some (.inr r) => some r | none => none) | none => none
noncomputable def fn15_x : Cx := ⟨tab, fn36_e, fun f n => bif Nat.beq f 137 && Nat.beq n 0 then 1 else bif Nat.beq f 156 && Nat.beq n 0 then 1 else bif Nat.beq f 163 && Nat.beq n 0 then 1 else bif Nat.beq f 283 && Nat.beq n 0 then 2 else 0, fun _ => false, [(12, 0), (13, 0), (13, 1), (13, 2), (13, 3), (18, 0), (18, 1), (18, 2), (18, 3), (21, 0), (21, 1), (21, 2), (21, 3), (25, 0), (25, 1), (25, 2), (25, 3), (30, 0), (31, 0), (31, 1), (31, 2), (31, 3), (33, 0), (33, 1), (33, 2), (33, 3), (48, 0), (48, 1), (48, 2), (48, 3), (67, 0), (67, 1), (67, 2), (67, 3), (73, 0), (73, 1), (73, 2), (73, 3), (77, 0), (78, 0), (78, 1), (78, 2), (78, 3), (85, 0), (85, 1), (85, 2), (85, 3), (87, 0), (87, 1), (87, 2), (87, 3), (90, 0), (107, 0), (107, 1), (107, 2), (107, 3), (110, 0)], []⟩
noncomputable def c184 : Code := bodyOf Tryz.f184
noncomputable def fn15_A : Ann := .seq .nil (.seq .nil (.cut fn15_J0 .nil (.seq .nil (.seq .nil (.seq (.seq .nil (.loop fn15_J2 fn15_O1 fn15_B1 (.seq .nil (.seq (.seq (.seq .nil (.loop fn15_J1 fn15_O0 fn15_B0 .nil)) (.seq .nil (.seq (.draws [(0, .flo), (2, .flo), (3, .flo), (5, .flo)] fn15_J2 fn15_T0) .nil))) .nil)))) (.seq (.seq .nil (.seq .nil (.seq .nil (.seq .nil (.seq (.draws [(0, .flo), (2, .flo), (4, .flo)] fn15_J4 fn15_T1) (.seq .nil (.seq (.seq .nil (.seq (.draws [(0, .flo), (2, .flo), (4, .flo), (5, .flo), (6, .qui), (7, .flo)] fn15_J4 fn15_T3) .nil)) .nil))))))) .nil))))))
theorem fn15_r0 (p : fn15_J2.P) : run fn15_x (subc [1, 1, 1, 1, 1, 0, 1, 0, 0] c184) (.seq .nil (.seq (.seq (.seq .nil (.loop fn15_J1 fn15_O0 fn15_B0 .nil)) (.seq .nil (.seq (.draws [(0, .flo), (2, .flo), (3, .flo), (5, .flo)] fn15_J2 fn15_T0) .nil))) .nil)) (fn15_J2.S p) (leaf fn15_J2 fn15_O1) = fn15_B1 p := by kernel_rfl
theorem fn15_r1 (p : fn15_J1.P) : run fn15_x (subc [1, 1, 1, 1, 1, 0, 1, 0, 0, 1, 0, 0, 0, 1, 0, 0] c184) .nil (fn15_J1.S p) (leaf fn15_J1 fn15_O0) = fn15_B0 p := by kernel_rfl
theorem fn15_D0b0 (p : fn15_J5.P) : runDrawn fn15_x (opsOf (subc [1, 1, 1, 1, 1, 0, 1, 0, 0, 1, 0, 0, 1, 1, 0] c184)) [(1, .sole), (4, .sole), (6, .flo), (7, .sole), (8, .flo), (9, .sole)] (fn15_J5.S p) (endT fn15_x (.fin : DT fn15_J2)) = fn15_D0 p := by kernel_rfl
theorem fn15_D0b1 (p : fn15_J5.P) : runDrawn fn15_x (opsOf (subc [1, 1, 1, 1, 1, 0, 1, 0, 0, 1, 0, 0, 1, 1, 0] c184)) [(4, .sole), (6, .flo), (1, .qui), (7, .sole), (8, .flo), (9, .sole)] (fn15_J5.S p) (endT fn15_x (.fin : DT fn15_J2)) = fn15_D0 p := by kernel_rfl
theorem fn15_D1b0 (p : fn15_J6.P) : runDrawn fn15_x (opsOf (subc [1, 1, 1, 1, 1, 1, 0, 1, 0, 1, 1, 1, 0] c184)) [(1, .sole), (3, .sole), (5, .sole), (6, .flo), (7, .flo), (8, .sole), (9, .sole), (10, .flo), (11, .sole)] (fn15_J6.S p) (endT fn15_x (.fin : DT fn15_J4)) = fn15_D1 p := by kernel_rfl
theorem fn15_D1b1 (p : fn15_J6.P) : runDrawn fn15_x (opsOf (subc [1, 1, 1, 1, 1, 1, 0, 1, 0, 1, 1, 1, 0] c184)) [(3, .sole)] (fn15_J6.S p) (endT fn15_x fn15_T2) = fn15_D1 p := by kernel_rfl
theorem fn15_D2b0 (p : fn15_J7.P) : runDrawn fn15_x (opsOf (subc [1, 1, 1, 1, 1, 1, 0, 1, 0, 1, 1, 1, 0] c184)) [(1, .sole), (5, .sole), (6, .flo), (7, .flo), (8, .sole), (9, .sole), (10, .flo), (11, .sole)] (fn15_J7.S p) (endT fn15_x (.fin : DT fn15_J4)) = fn15_D2 p := by kernel_rfl
theorem fn15_D2b1 (p : fn15_J7.P) : runDrawn fn15_x (opsOf (subc [1, 1, 1, 1, 1, 1, 0, 1, 0, 1, 1, 1, 0] c184)) [(5, .sole), (6, .flo), (7, .flo), (1, .qui), (8, .sole), (9, .sole), (10, .flo), (11, .sole)] (fn15_J7.S p) (endT fn15_x (.fin : DT fn15_J4)) = fn15_D2 p := by kernel_rfl
theorem fn15_D3b0 (p : fn15_J8.P) : runDrawn fn15_x (opsOf (subc [1, 1, 1, 1, 1, 1, 0, 1, 0, 1, 1, 1, 1, 1, 0, 1, 0] c184)) [(1, .sole)] (fn15_J8.S p) (endT fn15_x fn15_T4) = fn15_D3 p := by kernel_rfl
theorem fn15_D4b0 (p : fn15_J9.P) : runDrawn fn15_x (opsOf (subc [1, 1, 1, 1, 1, 1, 0, 1, 0, 1, 1, 1, 1, 1, 0, 1, 0] c184)) [(3, .sole), (8, .sole), (9, .flo), (10, .qui), (11, .sole), (12, .sole), (13, .flo), (14, .sole)] (fn15_J9.S p) (endT fn15_x (.fin : DT fn15_J4)) = fn15_D4 p := by kernel_rfl
theorem fn15_D4b1 (p : fn15_J9.P) : runDrawn fn15_x (opsOf (subc [1, 1, 1, 1, 1, 1, 0, 1, 0, 1, 1, 1, 1, 1, 0, 1, 0] c184)) [(8, .sole), (3, .qui), (9, .flo), (10, .qui), (11, .sole), (12, .sole), (13, .flo), (14, .sole)] (fn15_J9.S p) (endT fn15_x (.fin : DT fn15_J4)) = fn15_D4 p := by kernel_rfl
theorem fn15_D3b1 (p : fn15_J8.P) : runDrawn fn15_x (opsOf (subc [1, 1, 1, 1, 1, 1, 0, 1, 0, 1, 1, 1, 1, 1, 0, 1, 0] c184)) [(3, .sole)] (fn15_J8.S p) (endT fn15_x fn15_T5) = fn15_D3 p := by kernel_rfl
theorem fn15_D5b0 (p : fn15_J10.P) : runDrawn fn15_x (opsOf (subc [1, 1, 1, 1, 1, 1, 0, 1, 0, 1, 1, 1, 1, 1, 0, 1, 0] c184)) [(1, .sole), (8, .sole), (9, .flo), (10, .qui), (11, .sole), (12, .sole), (13, .flo), (14, .sole)] (fn15_J10.S p) (endT fn15_x (.fin : DT fn15_J4)) = fn15_D5 p := by kernel_rfl
theorem fn15_D5b1 (p : fn15_J10.P) : runDrawn fn15_x (opsOf (subc [1, 1, 1, 1, 1, 1, 0, 1, 0, 1, 1, 1, 1, 1, 0, 1, 0] c184)) [(8, .sole), (9, .flo), (1, .qui), (10, .qui), (11, .sole), (12, .sole), (13, .flo), (14, .sole)] (fn15_J10.S p) (endT fn15_x (.fin : DT fn15_J4)) = fn15_D5 p := by kernel_rfl
theorem fn15_D3b2 (p : fn15_J8.P) : runDrawn fn15_x (opsOf (subc [1, 1, 1, 1, 1, 1, 0, 1, 0, 1, 1, 1, 1, 1, 0, 1, 0] c184)) [(8, .sole), (1, .qui), (3, .qui), (9, .flo), (10, .qui), (11, .sole), (12, .sole), (13, .flo), (14, .sole)] (fn15_J8.S p) (endT fn15_x (.fin : DT fn15_J4)) = fn15_D3 p := by kernel_rfl
noncomputable def fn15_D : Ve.Fn := ⟨184, fn15_a, fn15_o, fn15_E, fn15⟩
theorem fn15_w : Walk Tryz.prog fn15_x fn15_D Tryz.f184 c184 114 fn15_A :=
  .of Tryz.func184 (kcast (by kernel_rfl) (⟨fn15_r0, fn15_r1, fn15_D0b0, fn15_D0b1, fn15_D1b0, fn15_D1b1, fn15_D2b0, fn15_D2b1, fn15_D3b0, fn15_D4b0, fn15_D4b1, fn15_D3b1, fn15_D5b0, fn15_D5b1, fn15_D3b2, trivial⟩ : (∀ p, run fn15_x (subc [1, 1, 1, 1, 1, 0, 1, 0, 0] c184) (.seq .nil (.seq (.seq (.seq .nil (.loop fn15_J1 fn15_O0 fn15_B0 .nil)) (.seq .nil (.seq (.draws [(0, .flo), (2, .flo), (3, .flo), (5, .flo)] fn15_J2 fn15_T0) .nil))) .nil)) (fn15_J2.S p) (leaf fn15_J2 fn15_O1) = fn15_B1 p) ∧ (∀ p, run fn15_x (subc [1, 1, 1, 1, 1, 0, 1, 0, 0, 1, 0, 0, 0, 1, 0, 0] c184) .nil (fn15_J1.S p) (leaf fn15_J1 fn15_O0) = fn15_B0 p) ∧ (∀ p, runDrawn fn15_x (opsOf (subc [1, 1, 1, 1, 1, 0, 1, 0, 0, 1, 0, 0, 1, 1, 0] c184)) [(1, .sole), (4, .sole), (6, .flo), (7, .sole), (8, .flo), (9, .sole)] (fn15_J5.S p) (endT fn15_x (.fin : DT fn15_J2)) = fn15_D0 p) ∧ (∀ p, runDrawn fn15_x (opsOf (subc [1, 1, 1, 1, 1, 0, 1, 0, 0, 1, 0, 0, 1, 1, 0] c184)) [(4, .sole), (6, .flo), (1, .qui), (7, .sole), (8, .flo), (9, .sole)] (fn15_J5.S p) (endT fn15_x (.fin : DT fn15_J2)) = fn15_D0 p) ∧ (∀ p, runDrawn fn15_x (opsOf (subc [1, 1, 1, 1, 1, 1, 0, 1, 0, 1, 1, 1, 0] c184)) [(1, .sole), (3, .sole), (5, .sole), (6, .flo), (7, .flo), (8, .sole), (9, .sole), (10, .flo), (11, .sole)] (fn15_J6.S p) (endT fn15_x (.fin : DT fn15_J4)) = fn15_D1 p) ∧ (∀ p, runDrawn fn15_x (opsOf (subc [1, 1, 1, 1, 1, 1, 0, 1, 0, 1, 1, 1, 0] c184)) [(3, .sole)] (fn15_J6.S p) (endT fn15_x fn15_T2) = fn15_D1 p) ∧ (∀ p, runDrawn fn15_x (opsOf (subc [1, 1, 1, 1, 1, 1, 0, 1, 0, 1, 1, 1, 0] c184)) [(1, .sole), (5, .sole), (6, .flo), (7, .flo), (8, .sole), (9, .sole), (10, .flo), (11, .sole)] (fn15_J7.S p) (endT fn15_x (.fin : DT fn15_J4)) = fn15_D2 p) ∧ (∀ p, runDrawn fn15_x (opsOf (subc [1, 1, 1, 1, 1, 1, 0, 1, 0, 1, 1, 1, 0] c184)) [(5, .sole), (6, .flo), (7, .flo), (1, .qui), (8, .sole), (9, .sole), (10, .flo), (11, .sole)] (fn15_J7.S p) (endT fn15_x (.fin : DT fn15_J4)) = fn15_D2 p) ∧ (∀ p, runDrawn fn15_x (opsOf (subc [1, 1, 1, 1, 1, 1, 0, 1, 0, 1, 1, 1, 1, 1, 0, 1, 0] c184)) [(1, .sole)] (fn15_J8.S p) (endT fn15_x fn15_T4) = fn15_D3 p) ∧ (∀ p, runDrawn fn15_x (opsOf (subc [1, 1, 1, 1, 1, 1, 0, 1, 0, 1, 1, 1, 1, 1, 0, 1, 0] c184)) [(3, .sole), (8, .sole), (9, .flo), (10, .qui), (11, .sole), (12, .sole), (13, .flo), (14, .sole)] (fn15_J9.S p) (endT fn15_x (.fin : DT fn15_J4)) = fn15_D4 p) ∧ (∀ p, runDrawn fn15_x (opsOf (subc [1, 1, 1, 1, 1, 1, 0, 1, 0, 1, 1, 1, 1, 1, 0, 1, 0] c184)) [(8, .sole), (3, .qui), (9, .flo), (10, .qui), (11, .sole), (12, .sole), (13, .flo), (14, .sole)] (fn15_J9.S p) (endT fn15_x (.fin : DT fn15_J4)) = fn15_D4 p) ∧ (∀ p, runDrawn fn15_x (opsOf (subc [1, 1, 1, 1, 1, 1, 0, 1, 0, 1, 1, 1, 1, 1, 0, 1, 0] c184)) [(3, .sole)] (fn15_J8.S p) (endT fn15_x fn15_T5) = fn15_D3 p) ∧ (∀ p, runDrawn fn15_x (opsOf (subc [1, 1, 1, 1, 1, 1, 0, 1, 0, 1, 1, 1, 1, 1, 0, 1, 0] c184)) [(1, .sole), (8, .sole), (9, .flo), (10, .qui), (11, .sole), (12, .sole), (13, .flo), (14, .sole)] (fn15_J10.S p) (endT fn15_x (.fin : DT fn15_J4)) = fn15_D5 p) ∧ (∀ p, runDrawn fn15_x (opsOf (subc [1, 1, 1, 1, 1, 1, 0, 1, 0, 1, 1, 1, 1, 1, 0, 1, 0] c184)) [(8, .sole), (9, .flo), (1, .qui), (10, .qui), (11, .sole), (12, .sole), (13, .flo), (14, .sole)] (fn15_J10.S p) (endT fn15_x (.fin : DT fn15_J4)) = fn15_D5 p) ∧ (∀ p, runDrawn fn15_x (opsOf (subc [1, 1, 1, 1, 1, 1, 0, 1, 0, 1, 1, 1, 1, 1, 0, 1, 0] c184)) [(8, .sole), (1, .qui), (3, .qui), (9, .flo), (10, .qui), (11, .sole), (12, .sole), (13, .flo), (14, .sole)] (fn15_J8.S p) (endT fn15_x (.fin : DT fn15_J4)) = fn15_D3 p) ∧ True)) fun x y => by kernel_rfl
theorem fn15_s : fn15_D.Says Tryz.prog := fn15_w.says follows tabOk fn36_e_ok
noncomputable def fn15_e : Env := more fn36_e fn15_D
theorem fn15_e_ok : EnvOk Tryz.prog fn15_e := more_ok fn36_e_ok fn15_s
abbrev fn60_J0 : Tpl := ⟨[(0, .val I), (2, .ptr (2, 0)), (3, .ptr (3, 0)), (4, .val I)], [((2, 0), .box (.prod .shr (.own .shr)) (.prod I (.list (.prod I I)))), ((3, 0), .box (.prod .shr (.own .shr)) (.prod I (.list (.prod I I))))], []⟩
abbrev fn60_J1 : Tpl := ⟨[(2, .ptr (2, 0)), (3, .ptr (3, 0))], [((2, 0), .box (.prod .shr (.own .shr)) (.prod I (.list (.prod I I)))), ((3, 0), .box (.prod .shr (.own .shr)) (.prod I (.list (.prod I I))))], []⟩
abbrev fn60_E : Ve.End := ⟨[⟨2, (.prod .shr (.own .shr)), (.prod I (.list (.prod I I))), some 30⟩], []⟩
abbrev fn60_a : List ASh := [.val I]
abbrev fn60_o : List OSh := []
abbrev fn60_O0 : Out := .one (.ex 0) fn60_J1
noncomputable def fn60_B0 : fn60_J0.P → Option (fn60_J0.P ⊕ fn60_O0.P)
  | ((n, x, ()), (t2, out, ())) => bif (decide ((w64 (x + (1 : Int))) < n)) then (guardB (decide ((List.length out.2 + List.length [(x, (w64 (x + (1 : Int))))]) * 16 ≤ 70368744177664)) (some (.inl ((n, (w64 (x + (1 : Int))), ()), (t2, (out.1, (out.2 ++ [(x, (w64 (x + (1 : Int))))])), ()))))) else (some (.inr ((), (t2, out, ()))))
noncomputable def fn60 : argP fn60_a → obP (extObs 0 fn60_o) → Option fn60_E.P
  | (n, ()), () => match loopO fn60_B0 ((n, (1 : Int), ()), (((0 : Int), ([] : (List (Int × Int)))), (n, [((0 : Int), (1 : Int)), ((0 : Int), (w64 (n - (1 : Int))))]), ())) with | some ((), (t2, out, ())) => some (((out.1, out.2), ()), ()) | none => none
noncomputable def fn60_x : Cx := ⟨tab, fn15_e, fun _ _ => 0, fun _ => false, [(24, 0)], []⟩
noncomputable def c143 : Code := bodyOf Tryz.f143
noncomputable def fn60_A : Ann := .seq .nil (.seq .nil (.seq (.seq .nil (.loop fn60_J0 fn60_O0 fn60_B0 .nil)) .nil))
theorem fn60_r0 (p : fn60_J0.P) : run fn60_x (subc [1, 1, 0, 1, 0, 0] c143) .nil (fn60_J0.S p) (leaf fn60_J0 fn60_O0) = fn60_B0 p := by kernel_rfl
noncomputable def fn60_D : Ve.Fn := ⟨143, fn60_a, fn60_o, fn60_E, fn60⟩
theorem fn60_w : Walk Tryz.prog fn60_x fn60_D Tryz.f143 c143 28 fn60_A :=
  .of Tryz.func143 (kcast (by kernel_rfl) (⟨fn60_r0, trivial⟩ : (∀ p, run fn60_x (subc [1, 1, 0, 1, 0, 0] c143) .nil (fn60_J0.S p) (leaf fn60_J0 fn60_O0) = fn60_B0 p) ∧ True)) fun x y => by kernel_rfl
theorem fn60_s : fn60_D.Says Tryz.prog := fn60_w.says follows tabOk fn15_e_ok
noncomputable def fn60_e : Env := more fn15_e fn60_D
theorem fn60_e_ok : EnvOk Tryz.prog fn60_e := more_ok fn15_e_ok fn60_s
abbrev fn17_E : Ve.End := ⟨[⟨2, (.prod .shr (.own .shr)), (.prod I (.list (.prod I I))), some 30⟩], [.box .shr (.prod (.list (.int .u8)) (.prod I (.int .u64)))]⟩
abbrev fn17_a : List ASh := [.adr 0]
abbrev fn17_o : List OSh := [.box .shr (.prod (.list (.int .u8)) (.prod I (.int .u64)))]
noncomputable def fn17 : argP fn17_a → obP (extObs 0 fn17_o) → Option fn17_E.P
  | (), (o0, ()) => match fn15 ((8 : Int), ()) (o0, ()) with | some ((r, ()), (o, ())) => some (((r.1, r.2), ()), (o, ())) | none => none
noncomputable def fn17_x : Cx := ⟨tab, fn60_e, fun f n => bif Nat.beq f 184 && Nat.beq n 0 then 1 else 0, fun _ => false, [], []⟩
noncomputable def c270 : Code := bodyOf Tryz.f270
noncomputable def fn17_A : Ann := .nil
noncomputable def fn17_D : Ve.Fn := ⟨270, fn17_a, fn17_o, fn17_E, fn17⟩
theorem fn17_w : Walk Tryz.prog fn17_x fn17_D Tryz.f270 c270 5 fn17_A :=
  .of Tryz.func270 (kcast (by kernel_rfl) trivial) fun x y => by kernel_rfl
theorem fn17_s : fn17_D.Says Tryz.prog := fn17_w.says follows tabOk fn60_e_ok
noncomputable def fn17_e : Env := more fn60_e fn17_D
theorem fn17_e_ok : EnvOk Tryz.prog fn17_e := more_ok fn60_e_ok fn17_s
abbrev fn29_J0 : Tpl := ⟨[(2, .ptr (2, 0)), (3, .ptr (3, 0))], [((2, 0), .box (.prod .shr (.own .shr)) (.prod I (.list (.prod I I)))), ((3, 0), .box (.prod .shr (.own .shr)) (.prod I (.list (.prod I I)))), ((1000000, 0), .box .shr (.prod (.list (.int .u8)) (.prod I (.int .u64))))], []⟩
abbrev fn29_J1 : Tpl := ⟨[(2, .ptr (2, 0)), (3, .ptr (3, 0)), (5, .ptr (5, 0)), (30, .str (.pr (.val I) (.ref (4, 0) [.snd])))], [((2, 0), .box (.prod .shr (.own .shr)) (.prod I (.list (.prod I I)))), ((3, 0), .box (.prod .shr (.own .shr)) (.prod I (.list (.prod I I)))), ((5, 0), .box (.prod .shr (.own .shr)) (.prod I (.list (.prod I I)))), ((4, 0), .box (.prod .shr (.own .shr)) (.prod I (.list (.prod I I)))), ((1000000, 0), .box .shr (.prod (.list (.int .u8)) (.prod I (.int .u64))))], []⟩
abbrev fn29_E : Ve.End := ⟨[⟨2, (.prod .shr (.own .shr)), (.prod I (.list (.prod I I))), some 30⟩, ⟨3, (.prod .shr (.own .shr)), (.prod I (.list (.prod I I))), some 30⟩], [.box .shr (.prod (.list (.int .u8)) (.prod I (.int .u64)))]⟩
abbrev fn29_a : List ASh := [.adr 0]
abbrev fn29_o : List OSh := [.box .shr (.prod (.list (.int .u8)) (.prod I (.int .u64)))]
noncomputable def fn29_D0 : fn29_J1.P → Option fn29_J0.P
  | (((t30, ()), ()), (t2, t3, h, g, o0, ())) => some ((), ((t30, g.2), (h.1, h.2), o0, ()))
noncomputable def fn29_T0 : DT fn29_J0 := .node fn29_J1 fn29_D0 (.br [(1, .sole), (2, .sole), (3, .sole)] .fin (.br [(2, .sole), (1, .qui), (3, .sole)] .fin .nobr))
noncomputable def fn29 : argP fn29_a → obP (extObs 0 fn29_o) → Option fn29_E.P
  | (), (o0, ()) => match fn15 ((4 : Int), ()) (o0, ()) with | some ((r, ()), (o, ())) => (match fn15 ((4 : Int), ()) (o, ()) with | some ((r2, ()), (o2, ())) => (match fn24 ((5 : Int), ()) (o2, ()) with | some ((r3, ()), (o3, ())) => (bif (r3 == (0 : Int)) then (match fn24 ((3 : Int), ()) (o3, ()) with | some ((r4, ()), (o4, ())) => (match fn60 ((w64 ((3 : Int) + r4)), ()) () with | some ((r5, ()), ()) => (match fn29_D0 (((r5.1, ()), ()), (((0 : Int), ([] : (List (Int × Int)))), ((0 : Int), ([] : (List (Int × Int)))), (r2.1, r2.2), (r5.1, r5.2), o4, ())) with | some ((), (t2, t3, o0_2, ())) => some ((t2, t3, ()), (o0_2, ())) | none => none) | none => none) | none => none) else (bif (r3 == (1 : Int)) then (match fn24 ((3 : Int), ()) (o3, ()) with | some ((r6, ()), (o5, ())) => (match fn60 ((w64 ((3 : Int) + r6)), ()) () with | some ((r7, ()), ()) => (match fn29_D0 (((r.1, ()), ()), (((0 : Int), ([] : (List (Int × Int)))), ((0 : Int), ([] : (List (Int × Int)))), (r7.1, r7.2), (r.1, r.2), o5, ())) with | some ((), (t2_2, t3_2, o0_3, ())) => some ((t2_2, t3_2, ()), (o0_3, ())) | none => none) | none => none) | none => none) else (bif (r3 == (2 : Int)) then (match fn28 ((3 : Int), ()) (o3, ()) with | some ((r8, ()), (o6, ())) => (bif r8 then (match fn17 () (o6, ()) with | some ((r9, ()), (o7, ())) => (match fn29_D0 (((r9.1, ()), ()), (((0 : Int), ([] : (List (Int × Int)))), ((0 : Int), ([] : (List (Int × Int)))), (r2.1, r2.2), (r9.1, r9.2), o7, ())) with | some ((), (t2_3, t3_3, o0_4, ())) => some ((t2_3, t3_3, ()), (o0_4, ())) | none => none) | none => none) else (match fn29_D0 (((r.1, ()), ()), (((0 : Int), ([] : (List (Int × Int)))), ((0 : Int), ([] : (List (Int × Int)))), (r2.1, r2.2), (r.1, r.2), o6, ())) with | some ((), (t2_4, t3_4, o0_5, ())) => some ((t2_4, t3_4, ()), (o0_5, ())) | none => none)) | none => none) else (match fn29_D0 (((r.1, ()), ()), (((0 : Int), ([] : (List (Int × Int)))), ((0 : Int), ([] : (List (Int × Int)))), (r2.1, r2.2), (r.1, r.2), o3, ())) with | some ((), (t2_5, t3_5, o0_6, ())) => some ((t2_5, t3_5, ()), (o0_6, ())) | none => none)))) | none => none) | none => none) | none => none
noncomputable def fn29_x : Cx := ⟨tab, fn17_e, fun f n => bif Nat.beq f 156 && Nat.beq n 0 then 1 else bif Nat.beq f 163 && Nat.beq n 0 then 1 else bif Nat.beq f 184 && Nat.beq n 0 then 1 else bif Nat.beq f 270 && Nat.beq n 0 then 1 else 0, fun _ => false, [(11, 0), (11, 1), (11, 2), (11, 3), (15, 0), (15, 1), (15, 2), (15, 3), (21, 0), (21, 1), (21, 2), (21, 3), (27, 0), (27, 1), (27, 2), (27, 3)], []⟩
noncomputable def c182 : Code := bodyOf Tryz.f182
noncomputable def fn29_A : Ann := .seq .nil (.seq .nil (.seq .nil (.seq (.draws [(0, .qui)] fn29_J0 fn29_T0) .nil)))
theorem fn29_D0b0 (p : fn29_J1.P) : runDrawn fn29_x (opsOf (subc [1, 1, 1, 0] c182)) [(1, .sole), (2, .sole), (3, .sole)] (fn29_J1.S p) (endT fn29_x (.fin : DT fn29_J0)) = fn29_D0 p := by kernel_rfl
theorem fn29_D0b1 (p : fn29_J1.P) : runDrawn fn29_x (opsOf (subc [1, 1, 1, 0] c182)) [(2, .sole), (1, .qui), (3, .sole)] (fn29_J1.S p) (endT fn29_x (.fin : DT fn29_J0)) = fn29_D0 p := by kernel_rfl
noncomputable def fn29_D : Ve.Fn := ⟨182, fn29_a, fn29_o, fn29_E, fn29⟩
theorem fn29_w : Walk Tryz.prog fn29_x fn29_D Tryz.f182 c182 32 fn29_A :=
  .of Tryz.func182 (kcast (by kernel_rfl) (⟨fn29_D0b0, fn29_D0b1, trivial⟩ : (∀ p, runDrawn fn29_x (opsOf (subc [1, 1, 1, 0] c182)) [(1, .sole), (2, .sole), (3, .sole)] (fn29_J1.S p) (endT fn29_x (.fin : DT fn29_J0)) = fn29_D0 p) ∧ (∀ p, runDrawn fn29_x (opsOf (subc [1, 1, 1, 0] c182)) [(2, .sole), (1, .qui), (3, .sole)] (fn29_J1.S p) (endT fn29_x (.fin : DT fn29_J0)) = fn29_D0 p) ∧ True)) fun x y => by kernel_rfl
theorem fn29_s : fn29_D.Says Tryz.prog := fn29_w.says follows tabOk fn17_e_ok
noncomputable def fn29_e : Env := more fn17_e fn29_D
theorem fn29_e_ok : EnvOk Tryz.prog fn29_e := more_ok fn17_e_ok fn29_s
abbrev fn26_E : Ve.End := ⟨[⟨2, .shr, (.prod I (.list (.prod I I))), some 30⟩, ⟨3, .shr, (.prod I (.list (.prod I I))), some 30⟩, ⟨4, .shr, .bool, none⟩], []⟩
abbrev fn26_a : List ASh := [.own .shr (.list (.int .u8))]
abbrev fn26_o : List OSh := []
noncomputable def fn26 : argP fn26_a → obP (extObs 0 fn26_o) → Option fn26_E.P
  | (code, ()), () => match fn29 () ((code, ((0 : Int), (0 : Int))), ()) with | some ((r, r2, ()), (o, ())) => (match fn28 ((2 : Int), ()) (o, ()) with | some ((r3, ()), (o2, ())) => some (((r.1, r.2), (r2.1, r2.2), r3, ()), ()) | none => none) | none => none
noncomputable def fn26_x : Cx := ⟨tab, fn29_e, fun f n => bif Nat.beq f 156 && Nat.beq n 0 then 1 else bif Nat.beq f 182 && Nat.beq n 0 then 1 else 0, fun _ => false, [(6, 0), (7, 0), (19, 0), (19, 1), (19, 2), (19, 3)], [(6, 0), (7, 0)]⟩
noncomputable def c173 : Code := bodyOf Tryz.f173
noncomputable def fn26_A : Ann := .seq .nil (.seq .nil (.seq .nil (.seq (.draw [(0, .flo), (1, .flo), (2, .flo), (3, .sole), (4, .sole), (5, .sole), (6, .flo)]) .nil)))
noncomputable def fn26_D : Ve.Fn := ⟨173, fn26_a, fn26_o, fn26_E, fn26⟩
theorem fn26_w : Walk Tryz.prog fn26_x fn26_D Tryz.f173 c173 20 fn26_A :=
  .of Tryz.func173 (kcast (by kernel_rfl) trivial) fun x y => by kernel_rfl
theorem fn26_s : fn26_D.Says Tryz.prog := fn26_w.says follows tabOk fn29_e_ok
noncomputable def fn26_e : Env := more fn29_e fn26_D
theorem fn26_e_ok : EnvOk Tryz.prog fn26_e := more_ok fn29_e_ok fn26_s
abbrev fn33_E : Ve.End := ⟨[⟨2, .shr, (.prod I (.list (.prod I I))), some 30⟩, ⟨3, .shr, (.prod I (.list (.prod I I))), some 30⟩, ⟨4, .shr, .bool, none⟩], []⟩
abbrev fn33_a : List ASh := [.own .shr (.list (.int .u8))]
abbrev fn33_o : List OSh := []
noncomputable def fn33 : argP fn33_a → obP (extObs 0 fn33_o) → Option fn33_E.P
  | (code, ()), () => match fn26 (code, ()) () with | some ((r, r2, r3, ()), ()) => some ((r, r2, r3, ()), ()) | none => none
noncomputable def fn33_x : Cx := ⟨tab, fn26_e, fun f n => bif Nat.beq f 173 && Nat.beq n 0 then 2 else 0, fun _ => false, [(6, 0), (6, 1), (6, 2), (6, 3)], []⟩
noncomputable def c56 : Code := bodyOf Tryz.f56
noncomputable def fn33_A : Ann := .nil
noncomputable def fn33_D : Ve.Fn := ⟨56, fn33_a, fn33_o, fn33_E, fn33⟩
theorem fn33_w : Walk Tryz.prog fn33_x fn33_D Tryz.f56 c56 10 fn33_A :=
  .of Tryz.func56 (kcast (by kernel_rfl) trivial) fun x y => by kernel_rfl
theorem fn33_s : fn33_D.Says Tryz.prog := fn33_w.says follows tabOk fn26_e_ok
noncomputable def fn33_e : Env := more fn26_e fn33_D
theorem fn33_e_ok : EnvOk Tryz.prog fn33_e := more_ok fn26_e_ok fn33_s
abbrev fn64_E : Ve.End := ⟨[⟨6, .shr, .bool, none⟩], []⟩
abbrev fn64_a : List ASh := [.val I, .val I, .val I]
abbrev fn64_o : List OSh := []
noncomputable def fn64 : argP fn64_a → obP (extObs 0 fn64_o) → Option fn64_E.P
  | (n, low, high, ()), () => bif (decide (low ≤ n)) then (some (((decide (n ≤ high)), ()), ())) else (some ((false, ()), ()))
noncomputable def fn64_x : Cx := ⟨tab, fn33_e, fun _ _ => 0, fun _ => false, [], []⟩
noncomputable def c164 : Code := bodyOf Tryz.f164
noncomputable def fn64_A : Ann := .nil
noncomputable def fn64_D : Ve.Fn := ⟨164, fn64_a, fn64_o, fn64_E, fn64⟩
theorem fn64_w : Walk Tryz.prog fn64_x fn64_D Tryz.f164 c164 15 fn64_A :=
  .of Tryz.func164 (kcast (by kernel_rfl) trivial) fun x y => by kernel_rfl
theorem fn64_s : fn64_D.Says Tryz.prog := fn64_w.says follows tabOk fn33_e_ok
noncomputable def fn64_e : Env := more fn33_e fn64_D
theorem fn64_e_ok : EnvOk Tryz.prog fn64_e := more_ok fn33_e_ok fn64_s
abbrev fn51_E : Ve.End := ⟨[⟨2, .shr, .bool, none⟩], []⟩
abbrev fn51_a : List ASh := [.val I]
abbrev fn51_o : List OSh := []
noncomputable def fn51 : argP fn51_a → obP (extObs 0 fn51_o) → Option fn51_E.P
  | (x, ()), () => some (((x != x), ()), ())
noncomputable def fn51_x : Cx := ⟨tab, fn64_e, fun _ _ => 0, fun _ => false, [], []⟩
noncomputable def c341 : Code := bodyOf Tryz.f341
noncomputable def fn51_A : Ann := .nil
noncomputable def fn51_D : Ve.Fn := ⟨341, fn51_a, fn51_o, fn51_E, fn51⟩
theorem fn51_w : Walk Tryz.prog fn51_x fn51_D Tryz.f341 c341 6 fn51_A :=
  .of Tryz.func341 (kcast (by kernel_rfl) trivial) fun x y => by kernel_rfl
theorem fn51_s : fn51_D.Says Tryz.prog := fn51_w.says follows tabOk fn64_e_ok
noncomputable def fn51_e : Env := more fn64_e fn51_D
theorem fn51_e_ok : EnvOk Tryz.prog fn51_e := more_ok fn64_e_ok fn51_s
abbrev fn44_E : Ve.End := ⟨[⟨4, .shr, I, none⟩], []⟩
abbrev fn44_a : List ASh := [.val I, .val I]
abbrev fn44_o : List OSh := []
noncomputable def fn44 : argP fn44_a → obP (extObs 0 fn44_o) → Option fn44_E.P
  | (x, y, ()), () => match fn51 (x, ()) () with | some ((r, ()), ()) => (match fn51 (y, ()) () with | some ((r2, ()), ()) => (bif r then (bif r2 then (some (((0 : Int), ()), ())) else (some (((-1 : Int), ()), ()))) else (bif r2 then (some (((1 : Int), ()), ())) else (bif (decide (x < y)) then (some (((-1 : Int), ()), ())) else (bif (decide (y < x)) then (some (((1 : Int), ()), ())) else (some (((0 : Int), ()), ())))))) | none => none) | none => none
noncomputable def fn44_x : Cx := ⟨tab, fn51_e, fun _ _ => 0, fun _ => false, [(8, 0), (8, 1), (8, 2), (8, 3), (10, 0), (10, 1), (10, 2), (10, 3)], []⟩
noncomputable def c315 : Code := bodyOf Tryz.f315
noncomputable def fn44_A : Ann := .nil
noncomputable def fn44_D : Ve.Fn := ⟨315, fn44_a, fn44_o, fn44_E, fn44⟩
theorem fn44_w : Walk Tryz.prog fn44_x fn44_D Tryz.f315 c315 20 fn44_A :=
  .of Tryz.func315 (kcast (by kernel_rfl) trivial) fun x y => by kernel_rfl
theorem fn44_s : fn44_D.Says Tryz.prog := fn44_w.says follows tabOk fn51_e_ok
noncomputable def fn44_e : Env := more fn51_e fn44_D
theorem fn44_e_ok : EnvOk Tryz.prog fn44_e := more_ok fn51_e_ok fn44_s
abbrev fn92_J0 : Tpl := ⟨[(3, .val I), (6, .val (.list I)), (7, .val I), (8, .val I)], [], []⟩
abbrev fn92_J1 : Tpl := ⟨[(2, .val I)], [], []⟩
abbrev fn92_J2 : Tpl := ⟨[(3, .val I)], [], []⟩
abbrev fn92_E : Ve.End := ⟨[⟨2, .shr, I, none⟩], []⟩
abbrev fn92_a : List ASh := [.val (.list I)]
abbrev fn92_o : List OSh := []
abbrev fn92_O0 : Out := .or .ret fn92_J1 (.one (.ex 0) fn92_J2)
noncomputable def fn92_B0 : fn92_J0.P → Option (fn92_J0.P ⊕ fn92_O0.P)
  | ((zero_, t6, t7, t8, ()), ()) => bif (decide (t8 < t7)) then (guardB (inb t8 (List.length t6)) (bif ((List.getD t6 (Int.toNat t8) (0 : Int)) != zero_) then (some (.inr (.inl (((List.getD t6 (Int.toNat t8) (0 : Int)), ()), ())))) else (some (.inl ((zero_, t6, t7, (w64 (t8 + (1 : Int))), ()), ()))))) else (some (.inr (.inr ((zero_, ()), ()))))
noncomputable def fn92 : argP fn92_a → obP (extObs 0 fn92_o) → Option fn92_E.P
  | (vals, ()), () => match loopO fn92_B0 (((0 : Int), vals, (List.length vals : Int), (0 : Int), ()), ()) with | some (.inl ((t2, ()), ())) => some ((t2, ()), ()) | some (.inr ((zero_, ()), ())) => some ((zero_, ()), ()) | none => none
noncomputable def fn92_x : Cx := ⟨tab, fn44_e, fun _ _ => 0, fun _ => false, [], []⟩
noncomputable def c314 : Code := bodyOf Tryz.f314
noncomputable def fn92_A : Ann := .seq .nil (.seq .nil (.seq (.seq .nil (.loop fn92_J0 fn92_O0 fn92_B0 .nil)) .nil))
theorem fn92_r0 (p : fn92_J0.P) : run fn92_x (subc [1, 1, 0, 1, 0, 0] c314) .nil (fn92_J0.S p) (leaf fn92_J0 fn92_O0) = fn92_B0 p := by kernel_rfl
noncomputable def fn92_D : Ve.Fn := ⟨314, fn92_a, fn92_o, fn92_E, fn92⟩
theorem fn92_w : Walk Tryz.prog fn92_x fn92_D Tryz.f314 c314 18 fn92_A :=
  .of Tryz.func314 (kcast (by kernel_rfl) (⟨fn92_r0, trivial⟩ : (∀ p, run fn92_x (subc [1, 1, 0, 1, 0, 0] c314) .nil (fn92_J0.S p) (leaf fn92_J0 fn92_O0) = fn92_B0 p) ∧ True)) fun x y => by kernel_rfl
theorem fn92_s : fn92_D.Says Tryz.prog := fn92_w.says follows tabOk fn44_e_ok
noncomputable def fn92_e : Env := more fn44_e fn92_D
theorem fn92_e_ok : EnvOk Tryz.prog fn92_e := more_ok fn44_e_ok fn92_s
abbrev fn37_E : Ve.End := ⟨[⟨4, .shr, I, none⟩], []⟩
abbrev fn37_a : List ASh := [.val (.prod I I), .val (.prod I I)]
abbrev fn37_o : List OSh := []
noncomputable def fn37 : argP fn37_a → obP (extObs 0 fn37_o) → Option fn37_E.P
  | (a, b, ()), () => match fn44 (a.1, b.1, ()) () with | some ((r, ()), ()) => (match fn44 (a.2, b.2, ()) () with | some ((r2, ()), ()) => (match fn92 ([r, r2], ()) () with | some ((r3, ()), ()) => some ((r3, ()), ()) | none => none) | none => none) | none => none
noncomputable def fn37_x : Cx := ⟨tab, fn92_e, fun _ _ => 0, fun _ => false, [(9, 0), (9, 1), (9, 2), (9, 3), (14, 0), (14, 1), (14, 2), (14, 3), (15, 0), (16, 0), (16, 1), (16, 2), (16, 3)], [(2, 0), (3, 0)]⟩
noncomputable def c257 : Code := bodyOf Tryz.f257
noncomputable def fn37_A : Ann := .seq .nil (.seq (.draw [(0, .flo), (1, .flo), (2, .flo), (3, .flo), (5, .flo), (6, .flo), (7, .flo), (8, .flo), (4, .sole), (9, .sole), (10, .sole), (11, .sole), (12, .flo)]) .nil)
noncomputable def fn37_D : Ve.Fn := ⟨257, fn37_a, fn37_o, fn37_E, fn37⟩
theorem fn37_w : Walk Tryz.prog fn37_x fn37_D Tryz.f257 c257 17 fn37_A :=
  .of Tryz.func257 (kcast (by kernel_rfl) trivial) fun x y => by kernel_rfl
theorem fn37_s : fn37_D.Says Tryz.prog := fn37_w.says follows tabOk fn92_e_ok
noncomputable def fn37_e : Env := more fn92_e fn37_D
theorem fn37_e_ok : EnvOk Tryz.prog fn37_e := more_ok fn92_e_ok fn37_s
abbrev fn65_J0 : Tpl := ⟨[(0, .val (.list (.prod I I))), (1, .val I), (7, .val (.list (.prod I I))), (8, .val I), (9, .val I)], [], []⟩
abbrev fn65_J1 : Tpl := ⟨[(4, .val .bool)], [], []⟩
abbrev fn65_J2 : Tpl := ⟨[], [], []⟩
abbrev fn65_E : Ve.End := ⟨[⟨4, .shr, .bool, none⟩], []⟩
abbrev fn65_a : List ASh := [.val (.list (.prod I I)), .val I]
abbrev fn65_o : List OSh := []
abbrev fn65_O0 : Out := .or .ret fn65_J1 (.one (.ex 0) fn65_J2)
noncomputable def fn65_B0 : fn65_J0.P → Option (fn65_J0.P ⊕ fn65_O0.P)
  | ((list, below, t7, t8, t9, ()), ()) => bif (decide (t9 < t8)) then (guardB (inb t9 (List.length t7)) (bif (decide (((List.getD t7 (Int.toNat t9) ((0 : Int), (0 : Int))).1) < (0 : Int))) then (some (.inr (.inl ((false, ()), ())))) else (bif (decide (((List.getD t7 (Int.toNat t9) ((0 : Int), (0 : Int))).2) ≤ ((List.getD t7 (Int.toNat t9) ((0 : Int), (0 : Int))).1))) then (some (.inr (.inl ((false, ()), ())))) else (bif (decide (below ≤ ((List.getD t7 (Int.toNat t9) ((0 : Int), (0 : Int))).2))) then (some (.inr (.inl ((false, ()), ())))) else (bif (decide ((0 : Int) < t9)) then (guardB (inb (w64 (t9 - (1 : Int))) (List.length list)) (match fn37 ((List.getD list (Int.toNat (w64 (t9 - (1 : Int)))) ((0 : Int), (0 : Int))), (List.getD t7 (Int.toNat t9) ((0 : Int), (0 : Int))), ()) () with | some ((r, ()), ()) => (bif (decide ((0 : Int) ≤ r)) then (some (.inr (.inl ((false, ()), ())))) else (some (.inl ((list, below, t7, t8, (w64 (t9 + (1 : Int))), ()), ())))) | none => none)) else (some (.inl ((list, below, t7, t8, (w64 (t9 + (1 : Int))), ()), ())))))))) else (some (.inr (.inr ((), ()))))
noncomputable def fn65 : argP fn65_a → obP (extObs 0 fn65_o) → Option fn65_E.P
  | (list, below, ()), () => match loopO fn65_B0 ((list, below, list, (List.length list : Int), (0 : Int), ()), ()) with | some (.inl ((t4, ()), ())) => some ((t4, ()), ()) | some (.inr ((), ())) => some ((true, ()), ()) | none => none
noncomputable def fn65_x : Cx := ⟨tab, fn37_e, fun _ _ => 0, fun _ => false, [(40, 0), (40, 1), (40, 2), (40, 3)], [(6, 0)]⟩
noncomputable def c264 : Code := bodyOf Tryz.f264
noncomputable def fn65_A : Ann := .seq .nil (.seq (.seq .nil (.loop fn65_J0 fn65_O0 fn65_B0 (.seq .nil (.seq .nil (.seq (.seq .nil (.seq (.draw [(0, .flo), (1, .flo), (2, .flo), (3, .flo), (4, .flo), (6, .flo), (5, .qui), (7, .qui), (8, .flo), (9, .flo), (10, .flo), (11, .flo), (13, .flo), (12, .qui), (14, .flo), (15, .flo), (16, .flo), (17, .flo), (18, .flo), (19, .flo), (20, .flo), (21, .flo), (22, .flo), (23, .flo), (24, .qui), (25, .qui), (26, .sole), (27, .flo), (28, .flo), (29, .flo)]) .nil)) .nil))))) .nil)
theorem fn65_r0 (p : fn65_J0.P) : run fn65_x (subc [1, 0, 1, 0, 0] c264) (.seq .nil (.seq .nil (.seq (.seq .nil (.seq (.draw [(0, .flo), (1, .flo), (2, .flo), (3, .flo), (4, .flo), (6, .flo), (5, .qui), (7, .qui), (8, .flo), (9, .flo), (10, .flo), (11, .flo), (13, .flo), (12, .qui), (14, .flo), (15, .flo), (16, .flo), (17, .flo), (18, .flo), (19, .flo), (20, .flo), (21, .flo), (22, .flo), (23, .flo), (24, .qui), (25, .qui), (26, .sole), (27, .flo), (28, .flo), (29, .flo)]) .nil)) .nil))) (fn65_J0.S p) (leaf fn65_J0 fn65_O0) = fn65_B0 p := by kernel_rfl
noncomputable def fn65_D : Ve.Fn := ⟨264, fn65_a, fn65_o, fn65_E, fn65⟩
theorem fn65_w : Walk Tryz.prog fn65_x fn65_D Tryz.f264 c264 45 fn65_A :=
  .of Tryz.func264 (kcast (by kernel_rfl) (⟨fn65_r0, trivial⟩ : (∀ p, run fn65_x (subc [1, 0, 1, 0, 0] c264) (.seq .nil (.seq .nil (.seq (.seq .nil (.seq (.draw [(0, .flo), (1, .flo), (2, .flo), (3, .flo), (4, .flo), (6, .flo), (5, .qui), (7, .qui), (8, .flo), (9, .flo), (10, .flo), (11, .flo), (13, .flo), (12, .qui), (14, .flo), (15, .flo), (16, .flo), (17, .flo), (18, .flo), (19, .flo), (20, .flo), (21, .flo), (22, .flo), (23, .flo), (24, .qui), (25, .qui), (26, .sole), (27, .flo), (28, .flo), (29, .flo)]) .nil)) .nil))) (fn65_J0.S p) (leaf fn65_J0 fn65_O0) = fn65_B0 p) ∧ True)) fun x y => by kernel_rfl
theorem fn65_s : fn65_D.Says Tryz.prog := fn65_w.says follows tabOk fn37_e_ok
noncomputable def fn65_e : Env := more fn37_e fn65_D
theorem fn65_e_ok : EnvOk Tryz.prog fn65_e := more_ok fn37_e_ok fn65_s
abbrev fn63_E : Ve.End := ⟨[⟨2, .shr, .bool, none⟩], []⟩
abbrev fn63_a : List ASh := [.val (.prod I (.list (.prod I I)))]
abbrev fn63_o : List OSh := []
noncomputable def fn63 : argP fn63_a → obP (extObs 0 fn63_o) → Option fn63_E.P
  | (g, ()), () => match fn64 (g.1, (0 : Int), (8 : Int), ()) () with | some ((r, ()), ()) => (bif r then (match fn65 (g.2, g.1, ()) () with | some ((r2, ()), ()) => some ((r2, ()), ()) | none => none) else (some ((false, ()), ()))) | none => none
noncomputable def fn63_x : Cx := ⟨tab, fn65_e, fun _ _ => 0, fun _ => false, [(5, 0), (5, 1), (5, 2), (5, 3), (11, 0), (11, 1), (11, 2), (11, 3)], [(1, 0)]⟩
noncomputable def c170 : Code := bodyOf Tryz.f170
noncomputable def fn63_A : Ann := .nil
noncomputable def fn63_D : Ve.Fn := ⟨170, fn63_a, fn63_o, fn63_E, fn63⟩
theorem fn63_w : Walk Tryz.prog fn63_x fn63_D Tryz.f170 c170 13 fn63_A :=
  .of Tryz.func170 (kcast (by kernel_rfl) trivial) fun x y => by kernel_rfl
theorem fn63_s : fn63_D.Says Tryz.prog := fn63_w.says follows tabOk fn65_e_ok
noncomputable def fn63_e : Env := more fn65_e fn63_D
theorem fn63_e_ok : EnvOk Tryz.prog fn63_e := more_ok fn65_e_ok fn63_s
abbrev fn49_E : Ve.End := ⟨[⟨4, .shr, .bool, none⟩], []⟩
abbrev fn49_a : List ASh := [.val (.prod I (.list (.prod I I))), .val (.prod I (.list (.prod I I)))]
abbrev fn49_o : List OSh := []
noncomputable def fn49 : argP fn49_a → obP (extObs 0 fn49_o) → Option fn49_E.P
  | (g, h, ()), () => match fn63 (g, ()) () with | some ((r, ()), ()) => (bif r then (match fn63 (h, ()) () with | some ((r2, ()), ()) => (bif r2 then (some (((decide (g.1 ≤ (6 : Int))), ()), ())) else (some ((false, ()), ()))) | none => none) else (some ((false, ()), ()))) | none => none
noncomputable def fn49_x : Cx := ⟨tab, fn63_e, fun _ _ => 0, fun _ => false, [(6, 0), (6, 1), (6, 2), (6, 3), (9, 0), (9, 1), (9, 2), (9, 3)], [(2, 0), (3, 0)]⟩
noncomputable def c145 : Code := bodyOf Tryz.f145
noncomputable def fn49_A : Ann := .nil
noncomputable def fn49_D : Ve.Fn := ⟨145, fn49_a, fn49_o, fn49_E, fn49⟩
theorem fn49_w : Walk Tryz.prog fn49_x fn49_D Tryz.f145 c145 16 fn49_A :=
  .of Tryz.func145 (kcast (by kernel_rfl) trivial) fun x y => by kernel_rfl
theorem fn49_s : fn49_D.Says Tryz.prog := fn49_w.says follows tabOk fn63_e_ok
noncomputable def fn49_e : Env := more fn63_e fn49_D
theorem fn49_e_ok : EnvOk Tryz.prog fn49_e := more_ok fn63_e_ok fn49_s
noncomputable def slices_Clone_int_int_e : Env := more fn49_e (cloneFn 148)
theorem slices_Clone_int_int_e_ok : EnvOk Tryz.prog slices_Clone_int_int_e := more_ok fn49_e_ok clone_s
noncomputable abbrev slices_Clone_int_int := (cloneFn 148).F
abbrev fn22_J0 : Tpl := ⟨[(1, .ptr (1000000, 0))], [((1000000, 0), .box (.own (.own .shr)) (.list (.list I)))], []⟩
abbrev fn22_J1 : Tpl := ⟨[(1, .ptr (1000000, 0)), (5, .val (.list I))], [((1000000, 0), .box (.own (.own .shr)) (.list (.list I)))], []⟩
abbrev fn22_E : Ve.End := ⟨[⟨3, .shr, .bool, none⟩], [.box (.own (.own .shr)) (.list (.list I))]⟩
abbrev fn22_a : List ASh := [.val (.list I), .adr 0]
abbrev fn22_o : List OSh := [.box (.own (.own .shr)) (.list (.list I))]
noncomputable def fn22_D0 : fn22_J1.P → Option fn22_J0.P
  | ((t5, ()), (o0, ())) => match slices_Clone_int_int (t5, ()) () with | some ((r, ()), ()) => guardB (decide ((List.length o0 + List.length [r]) * 24 ≤ 70368744177664)) (some ((), ((o0 ++ [r]), ()))) | none => none
noncomputable def fn22_T0 : DT fn22_J0 := .node fn22_J1 fn22_D0 (.br [(0, .sole), (2, .sole), (3, .sole), (4, .sole), (5, .sole)] .fin (.br [(2, .sole), (0, .qui), (3, .sole), (4, .sole), (5, .sole)] .fin .nobr))
noncomputable def fn22 : argP fn22_a → obP (extObs 0 fn22_o) → Option fn22_E.P
  | (m, ()), (o0, ()) => match fn22_D0 ((m, ()), (o0, ())) with | some ((), (o0_2, ())) => some (((decide ((List.length o0_2 : Int) ≤ (300 : Int))), ()), (o0_2, ())) | none => none
noncomputable def fn22_x : Cx := ⟨tab, slices_Clone_int_int_e, fun _ _ => 0, fun _ => false, [], []⟩
noncomputable def c147 : Code := bodyOf Tryz.f147
noncomputable def fn22_A : Ann := .seq .nil (.seq (.draws [(1, .flo)] fn22_J0 fn22_T0) .nil)
theorem fn22_D0b0 (p : fn22_J1.P) : runDrawn fn22_x (opsOf (subc [1, 0] c147)) [(0, .sole), (2, .sole), (3, .sole), (4, .sole), (5, .sole)] (fn22_J1.S p) (endT fn22_x (.fin : DT fn22_J0)) = fn22_D0 p := by kernel_rfl
theorem fn22_D0b1 (p : fn22_J1.P) : runDrawn fn22_x (opsOf (subc [1, 0] c147)) [(2, .sole), (0, .qui), (3, .sole), (4, .sole), (5, .sole)] (fn22_J1.S p) (endT fn22_x (.fin : DT fn22_J0)) = fn22_D0 p := by kernel_rfl
noncomputable def fn22_D : Ve.Fn := ⟨147, fn22_a, fn22_o, fn22_E, fn22⟩
theorem fn22_w : Walk Tryz.prog fn22_x fn22_D Tryz.f147 c147 12 fn22_A :=
  .of Tryz.func147 (kcast (by kernel_rfl) (⟨fn22_D0b0, fn22_D0b1, trivial⟩ : (∀ p, runDrawn fn22_x (opsOf (subc [1, 0] c147)) [(0, .sole), (2, .sole), (3, .sole), (4, .sole), (5, .sole)] (fn22_J1.S p) (endT fn22_x (.fin : DT fn22_J0)) = fn22_D0 p) ∧ (∀ p, runDrawn fn22_x (opsOf (subc [1, 0] c147)) [(2, .sole), (0, .qui), (3, .sole), (4, .sole), (5, .sole)] (fn22_J1.S p) (endT fn22_x (.fin : DT fn22_J0)) = fn22_D0 p) ∧ True)) fun x y => by kernel_rfl
theorem fn22_s : fn22_D.Says Tryz.prog := fn22_w.says follows tabOk slices_Clone_int_int_e_ok
noncomputable def fn22_e : Env := more slices_Clone_int_int_e fn22_D
theorem fn22_e_ok : EnvOk Tryz.prog fn22_e := more_ok slices_Clone_int_int_e_ok fn22_s
abbrev fn98_E : Ve.End := ⟨[⟨4, .shr, (.prod I I), some 72⟩], []⟩
abbrev fn98_a : List ASh := [.val I, .val I]
abbrev fn98_o : List OSh := []
noncomputable def fn98 : argP fn98_a → obP (extObs 0 fn98_o) → Option fn98_E.P
  | (a, b, ()), () => some ((((bif decide (b < a) then b else a), (bif decide (a < b) then b else a)), ()), ())
noncomputable def fn98_x : Cx := ⟨tab, fn22_e, fun _ _ => 0, fun _ => false, [], []⟩
noncomputable def c255 : Code := bodyOf Tryz.f255
noncomputable def fn98_A : Ann := .nil
noncomputable def fn98_D : Ve.Fn := ⟨255, fn98_a, fn98_o, fn98_E, fn98⟩
theorem fn98_w : Walk Tryz.prog fn98_x fn98_D Tryz.f255 c255 12 fn98_A :=
  .of Tryz.func255 (kcast (by kernel_rfl) trivial) fun x y => by kernel_rfl
theorem fn98_s : fn98_D.Says Tryz.prog := fn98_w.says follows tabOk fn22_e_ok
noncomputable def fn98_e : Env := more fn22_e fn98_D
theorem fn98_e_ok : EnvOk Tryz.prog fn98_e := more_ok fn22_e_ok fn98_s
abbrev fn19_J0 : Tpl := ⟨[(0, .val (.list (.prod I I))), (3, .cst (.prod I I)), (7, .val I), (8, .val I)], [], []⟩
abbrev fn19_J1 : Tpl := ⟨[(4, .val I)], [], []⟩
abbrev fn19_J2 : Tpl := ⟨[], [], []⟩
abbrev fn19_E : Ve.End := ⟨[⟨4, .shr, I, none⟩], []⟩
abbrev fn19_a : List ASh := [.val (.list (.prod I I)), .val (.prod I I)]
abbrev fn19_o : List OSh := []
abbrev fn19_O0 : Out := .or .ret fn19_J1 (.one (.ex 0) fn19_J2)
noncomputable def fn19_B0 : fn19_J0.P → Option (fn19_J0.P ⊕ fn19_O0.P)
  | ((s, v, t7, t8, ()), ()) => bif (decide (t8 < t7)) then (guardB (inb t8 (List.length s)) (bif ((v.1 == ((List.getD s (Int.toNat t8) ((0 : Int), (0 : Int))).1)) && (v.2 == ((List.getD s (Int.toNat t8) ((0 : Int), (0 : Int))).2))) then (some (.inr (.inl ((t8, ()), ())))) else (some (.inl ((s, v, t7, (w64 (t8 + (1 : Int))), ()), ()))))) else (some (.inr (.inr ((), ()))))
noncomputable def fn19 : argP fn19_a → obP (extObs 0 fn19_o) → Option fn19_E.P
  | (s, v, ()), () => match loopO fn19_B0 ((s, v, (List.length s : Int), (0 : Int), ()), ()) with | some (.inl ((t4, ()), ())) => some ((t4, ()), ()) | some (.inr ((), ())) => some (((-1 : Int), ()), ()) | none => none
noncomputable def fn19_x : Cx := ⟨tab, fn98_e, fun _ _ => 0, fun _ => false, [], [(3, 0)]⟩
noncomputable def c350 : Code := bodyOf Tryz.f350
noncomputable def fn19_A : Ann := .seq .nil (.seq (.seq .nil (.loop fn19_J0 fn19_O0 fn19_B0 (.seq .nil (.seq .nil (.seq (.seq .nil (.seq (.draw [(0, .flo), (1, .flo), (2, .flo), (3, .flo), (4, .flo), (5, .flo)]) .nil)) .nil))))) .nil)
theorem fn19_r0 (p : fn19_J0.P) : run fn19_x (subc [1, 0, 1, 0, 0] c350) (.seq .nil (.seq .nil (.seq (.seq .nil (.seq (.draw [(0, .flo), (1, .flo), (2, .flo), (3, .flo), (4, .flo), (5, .flo)]) .nil)) .nil))) (fn19_J0.S p) (leaf fn19_J0 fn19_O0) = fn19_B0 p := by kernel_rfl
noncomputable def fn19_D : Ve.Fn := ⟨350, fn19_a, fn19_o, fn19_E, fn19⟩
theorem fn19_w : Walk Tryz.prog fn19_x fn19_D Tryz.f350 c350 19 fn19_A :=
  .of Tryz.func350 (kcast (by kernel_rfl) (⟨fn19_r0, trivial⟩ : (∀ p, run fn19_x (subc [1, 0, 1, 0, 0] c350) (.seq .nil (.seq .nil (.seq (.seq .nil (.seq (.draw [(0, .flo), (1, .flo), (2, .flo), (3, .flo), (4, .flo), (5, .flo)]) .nil)) .nil))) (fn19_J0.S p) (leaf fn19_J0 fn19_O0) = fn19_B0 p) ∧ True)) fun x y => by kernel_rfl
theorem fn19_s : fn19_D.Says Tryz.prog := fn19_w.says follows tabOk fn98_e_ok
noncomputable def fn19_e : Env := more fn98_e fn19_D
theorem fn19_e_ok : EnvOk Tryz.prog fn19_e := more_ok fn98_e_ok fn19_s
abbrev fn14_E : Ve.End := ⟨[⟨4, .shr, .bool, none⟩], []⟩
abbrev fn14_a : List ASh := [.val (.list (.prod I I)), .val (.prod I I)]
abbrev fn14_o : List OSh := []
noncomputable def fn14 : argP fn14_a → obP (extObs 0 fn14_o) → Option fn14_E.P
  | (s, v, ()), () => match fn19 (s, v, ()) () with | some ((r, ()), ()) => some (((decide ((0 : Int) ≤ r)), ()), ()) | none => none
noncomputable def fn14_x : Cx := ⟨tab, fn19_e, fun _ _ => 0, fun _ => false, [(7, 0), (7, 1), (7, 2), (7, 3)], [(3, 0)]⟩
noncomputable def c321 : Code := bodyOf Tryz.f321
noncomputable def fn14_A : Ann := .nil
noncomputable def fn14_D : Ve.Fn := ⟨321, fn14_a, fn14_o, fn14_E, fn14⟩
theorem fn14_w : Walk Tryz.prog fn14_x fn14_D Tryz.f321 c321 9 fn14_A :=
  .of Tryz.func321 (kcast (by kernel_rfl) trivial) fun x y => by kernel_rfl
theorem fn14_s : fn14_D.Says Tryz.prog := fn14_w.says follows tabOk fn19_e_ok
noncomputable def fn14_e : Env := more fn19_e fn14_D
theorem fn14_e_ok : EnvOk Tryz.prog fn14_e := more_ok fn19_e_ok fn14_s
abbrev fn48_E : Ve.End := ⟨[⟨6, .shr, .bool, none⟩], []⟩
abbrev fn48_a : List ASh := [.val (.prod I (.list (.prod I I))), .val I, .val I]
abbrev fn48_o : List OSh := []
noncomputable def fn48 : argP fn48_a → obP (extObs 0 fn48_o) → Option fn48_E.P
  | (g, a, b, ()), () => match fn98 (a, b, ()) () with | some ((r, ()), ()) => (match fn14 (g.2, r, ()) () with | some ((r2, ()), ()) => some ((r2, ()), ()) | none => none) | none => none
noncomputable def fn48_x : Cx := ⟨tab, fn14_e, fun _ _ => 0, fun _ => false, [(11, 0), (11, 1), (11, 2), (11, 3), (12, 0), (12, 1), (12, 2), (12, 3)], [(3, 0)]⟩
noncomputable def c279 : Code := bodyOf Tryz.f279
noncomputable def fn48_A : Ann := .seq .nil (.seq (.draw [(0, .flo), (1, .flo), (2, .flo), (3, .flo), (4, .sole), (5, .sole), (6, .flo)]) .nil)
noncomputable def fn48_D : Ve.Fn := ⟨279, fn48_a, fn48_o, fn48_E, fn48⟩
theorem fn48_w : Walk Tryz.prog fn48_x fn48_D Tryz.f279 c279 13 fn48_A :=
  .of Tryz.func279 (kcast (by kernel_rfl) trivial) fun x y => by kernel_rfl
theorem fn48_s : fn48_D.Says Tryz.prog := fn48_w.says follows tabOk fn14_e_ok
noncomputable def fn48_e : Env := more fn14_e fn48_D
theorem fn48_e_ok : EnvOk Tryz.prog fn48_e := more_ok fn14_e_ok fn48_s
abbrev fn30_J0 : Tpl := ⟨[(1, .val I), (2, .cst (.prod I (.list (.prod I I)))), (5, .own .shr I), (9, .val I), (10, .val I)], [], []⟩
abbrev fn30_J1 : Tpl := ⟨[(5, .own .shr I)], [], []⟩
abbrev fn30_E : Ve.End := ⟨[⟨4, (.own .shr), (.list I), none⟩], []⟩
abbrev fn30_a : List ASh := [.val (.prod I (.list (.prod I I))), .val I]
abbrev fn30_o : List OSh := []
abbrev fn30_O0 : Out := .one (.ex 0) fn30_J1
noncomputable def fn30_B0 : fn30_J0.P → Option (fn30_J0.P ⊕ fn30_O0.P)
  | ((x, g, out, t9, t10, ()), ()) => bif (decide (t10 < t9)) then (bif (t10 != x) then (match fn48 (g, x, t10, ()) () with | some ((r, ()), ()) => (bif r then (guardB (decide ((List.length out + List.length [t10]) * 8 ≤ 70368744177664)) (some (.inl ((x, g, (out ++ [t10]), t9, (w64 (t10 + (1 : Int))), ()), ())))) else (some (.inl ((x, g, out, t9, (w64 (t10 + (1 : Int))), ()), ())))) | none => none) else (some (.inl ((x, g, out, t9, (w64 (t10 + (1 : Int))), ()), ())))) else (some (.inr ((out, ()), ())))
noncomputable def fn30 : argP fn30_a → obP (extObs 0 fn30_o) → Option fn30_E.P
  | (g, x, ()), () => match loopO fn30_B0 ((x, g, ([] : (List Int)), g.1, (0 : Int), ()), ()) with | some ((out, ()), ()) => some ((out, ()), ()) | none => none
noncomputable def fn30_x : Cx := ⟨tab, fn48_e, fun _ _ => 0, fun _ => false, [(20, 0), (20, 1), (20, 2), (20, 3), (24, 0)], [(2, 0)]⟩
noncomputable def c172 : Code := bodyOf Tryz.f172
noncomputable def fn30_A : Ann := .seq .nil (.seq .nil (.seq (.seq .nil (.loop fn30_J0 fn30_O0 fn30_B0 .nil)) .nil))
theorem fn30_r0 (p : fn30_J0.P) : run fn30_x (subc [1, 1, 0, 1, 0, 0] c172) .nil (fn30_J0.S p) (leaf fn30_J0 fn30_O0) = fn30_B0 p := by kernel_rfl
noncomputable def fn30_D : Ve.Fn := ⟨172, fn30_a, fn30_o, fn30_E, fn30⟩
theorem fn30_w : Walk Tryz.prog fn30_x fn30_D Tryz.f172 c172 28 fn30_A :=
  .of Tryz.func172 (kcast (by kernel_rfl) (⟨fn30_r0, trivial⟩ : (∀ p, run fn30_x (subc [1, 1, 0, 1, 0, 0] c172) .nil (fn30_J0.S p) (leaf fn30_J0 fn30_O0) = fn30_B0 p) ∧ True)) fun x y => by kernel_rfl
theorem fn30_s : fn30_D.Says Tryz.prog := fn30_w.says follows tabOk fn48_e_ok
noncomputable def fn30_e : Env := more fn48_e fn30_D
theorem fn30_e_ok : EnvOk Tryz.prog fn30_e := more_ok fn48_e_ok fn30_s
abbrev fn40_E : Ve.End := ⟨[⟨8, .shr, .bool, none⟩], []⟩
abbrev fn40_a : List ASh := [.val (.prod I (.list (.prod I I))), .val I, .val I, .val .bool]
abbrev fn40_o : List OSh := []
noncomputable def fn40 : argP fn40_a → obP (extObs 0 fn40_o) → Option fn40_E.P
  | (h, x, y, lazy, ()), () => match fn48 (h, x, y, ()) () with | some ((r, ()), ()) => (bif r then (some ((true, ()), ())) else (bif lazy then (some (((x == y), ()), ())) else (some ((false, ()), ())))) | none => none
noncomputable def fn40_x : Cx := ⟨tab, fn30_e, fun _ _ => 0, fun _ => false, [(12, 0), (12, 1), (12, 2), (12, 3)], [(4, 0)]⟩
noncomputable def c253 : Code := bodyOf Tryz.f253
noncomputable def fn40_A : Ann := .nil
noncomputable def fn40_D : Ve.Fn := ⟨253, fn40_a, fn40_o, fn40_E, fn40⟩
theorem fn40_w : Walk Tryz.prog fn40_x fn40_D Tryz.f253 c253 21 fn40_A :=
  .of Tryz.func253 (kcast (by kernel_rfl) trivial) fun x y => by kernel_rfl
theorem fn40_s : fn40_D.Says Tryz.prog := fn40_w.says follows tabOk fn30_e_ok
noncomputable def fn40_e : Env := more fn30_e fn40_D
theorem fn40_e_ok : EnvOk Tryz.prog fn40_e := more_ok fn30_e_ok fn40_s
abbrev fn31_E : Ve.End := ⟨[⟨7, .shr, .bool, none⟩], []⟩
abbrev fn31_a : List ASh := [.val I, .cst I, .cst (.prod I (.list (.prod I I))), .cst I, .cst (.list I), .cst .bool]
abbrev fn31_o : List OSh := []
noncomputable def fn31 : argP fn31_a → obP (extObs 0 fn31_o) → Option fn31_E.P
  | (z, t1, t2, t3, t4, t5, ()), () => bif (decide (z < t1)) then (guardB (inb z (List.length t4)) (match fn40 (t2, t3, (List.getD t4 (Int.toNat z) (0 : Int)), t5, ()) () with | some ((r, ()), ()) => some (((!r), ()), ()) | none => none)) else (some ((false, ()), ()))
noncomputable def fn31_x : Cx := ⟨tab, fn40_e, fun _ _ => 0, fun _ => false, [(19, 0), (19, 1), (19, 2), (19, 3)], []⟩
noncomputable def c259 : Code := bodyOf Tryz.f259
noncomputable def fn31_A : Ann := .seq .nil (.seq (.draw [(0, .flo), (1, .flo), (2, .flo), (3, .flo), (4, .flo), (5, .flo), (6, .flo), (7, .flo), (8, .flo), (9, .flo), (10, .flo), (11, .sole), (12, .flo), (13, .flo), (14, .flo)]) .nil)
noncomputable def fn31_D : Ve.Fn := ⟨259, fn31_a, fn31_o, fn31_E, fn31⟩
theorem fn31_w : Walk Tryz.prog fn31_x fn31_D Tryz.f259 c259 22 fn31_A :=
  .of Tryz.func259 (kcast (by kernel_rfl) trivial) fun x y => by kernel_rfl
theorem fn31_s : fn31_D.Says Tryz.prog := fn31_w.says follows tabOk fn40_e_ok
noncomputable def fn31_e : Env := more fn40_e fn31_D
theorem fn31_e_ok : EnvOk Tryz.prog fn31_e := more_ok fn40_e_ok fn31_s
abbrev fn5_J0 : Tpl := ⟨[(0, .val (.list I)), (1, .fn ⟨259, [(1000000, 0), (1000001, 0), (1000002, 0), (1000003, 0), (1000004, 0)]⟩), (7, .val I), (8, .val I)], [((1000000, 0), .box .shr I), ((1000001, 0), .box .shr (.prod I (.list (.prod I I)))), ((1000002, 0), .box .shr I), ((1000003, 0), .box (.own .shr) (.list I)), ((1000004, 0), .box .shr .bool)], []⟩
abbrev fn5_J1 : Tpl := ⟨[(4, .val I)], [((1000000, 0), .box .shr I), ((1000001, 0), .box .shr (.prod I (.list (.prod I I)))), ((1000002, 0), .box .shr I), ((1000003, 0), .box (.own .shr) (.list I)), ((1000004, 0), .box .shr .bool)], []⟩
abbrev fn5_J2 : Tpl := ⟨[], [((1000000, 0), .box .shr I), ((1000001, 0), .box .shr (.prod I (.list (.prod I I)))), ((1000002, 0), .box .shr I), ((1000003, 0), .box (.own .shr) (.list I)), ((1000004, 0), .box .shr .bool)], []⟩
abbrev fn5_E : Ve.End := ⟨[⟨4, .shr, I, none⟩], [.box .shr I, .box .shr (.prod I (.list (.prod I I))), .box .shr I, .box (.own .shr) (.list I), .box .shr .bool]⟩
abbrev fn5_a : List ASh := [.val (.list I), .fn 259 [0, 1, 2, 3, 4]]
abbrev fn5_o : List OSh := [.box .shr I, .box .shr (.prod I (.list (.prod I I))), .box .shr I, .box (.own .shr) (.list I), .box .shr .bool]
abbrev fn5_O0 : Out := .or .ret fn5_J1 (.one (.ex 0) fn5_J2)
noncomputable def fn5_B0 : fn5_J0.P → Option (fn5_J0.P ⊕ fn5_O0.P)
  | ((s, t7, t8, ()), (o0, o1, o2, o3, o4, ())) => bif (decide (t8 < t7)) then (guardB (inb t8 (List.length s)) (match fn31 ((List.getD s (Int.toNat t8) (0 : Int)), o0, o1, o2, o3, o4, ()) () with | some ((r, ()), ()) => (bif r then (some (.inr (.inl ((t8, ()), (o0, o1, o2, o3, o4, ()))))) else (some (.inl ((s, t7, (w64 (t8 + (1 : Int))), ()), (o0, o1, o2, o3, o4, ()))))) | none => none)) else (some (.inr (.inr ((), (o0, o1, o2, o3, o4, ())))))
noncomputable def fn5 : argP fn5_a → obP (extObs 0 fn5_o) → Option fn5_E.P
  | (s, ()), (o0, o1, o2, o3, o4, ()) => match loopO fn5_B0 ((s, (List.length s : Int), (0 : Int), ()), (o0, o1, o2, o3, o4, ())) with | some (.inl ((t4, ()), (o0_2, o1_2, o2_2, o3_2, o4_2, ()))) => some ((t4, ()), (o0_2, o1_2, o2_2, o3_2, o4_2, ())) | some (.inr ((), (o0_3, o1_3, o2_3, o3_3, o4_3, ()))) => some (((-1 : Int), ()), (o0_3, o1_3, o2_3, o3_3, o4_3, ())) | none => none
noncomputable def fn5_x : Cx := ⟨tab, fn31_e, fun _ _ => 0, fun _ => false, [(16, 0), (16, 1), (16, 2), (16, 3)], []⟩
noncomputable def c310 : Code := bodyOf Tryz.f310
noncomputable def fn5_A : Ann := .seq .nil (.seq (.seq .nil (.loop fn5_J0 fn5_O0 fn5_B0 .nil)) .nil)
theorem fn5_r0 (p : fn5_J0.P) : run fn5_x (subc [1, 0, 1, 0, 0] c310) .nil (fn5_J0.S p) (leaf fn5_J0 fn5_O0) = fn5_B0 p := by kernel_rfl
noncomputable def fn5_D : Ve.Fn := ⟨310, fn5_a, fn5_o, fn5_E, fn5⟩
theorem fn5_w : Walk Tryz.prog fn5_x fn5_D Tryz.f310 c310 19 fn5_A :=
  .of Tryz.func310 (kcast (by kernel_rfl) (⟨fn5_r0, trivial⟩ : (∀ p, run fn5_x (subc [1, 0, 1, 0, 0] c310) .nil (fn5_J0.S p) (leaf fn5_J0 fn5_O0) = fn5_B0 p) ∧ True)) fun x y => by kernel_rfl
theorem fn5_s : fn5_D.Says Tryz.prog := fn5_w.says follows tabOk fn31_e_ok
noncomputable def fn5_e : Env := more fn31_e fn5_D
theorem fn5_e_ok : EnvOk Tryz.prog fn5_e := more_ok fn31_e_ok fn5_s
abbrev fn3_E : Ve.End := ⟨[⟨4, .shr, .bool, none⟩], [.box .shr I, .box .shr (.prod I (.list (.prod I I))), .box .shr I, .box (.own .shr) (.list I), .box .shr .bool]⟩
abbrev fn3_a : List ASh := [.val (.list I), .fn 259 [0, 1, 2, 3, 4]]
abbrev fn3_o : List OSh := [.box .shr I, .box .shr (.prod I (.list (.prod I I))), .box .shr I, .box (.own .shr) (.list I), .box .shr .bool]
noncomputable def fn3 : argP fn3_a → obP (extObs 0 fn3_o) → Option fn3_E.P
  | (s, ()), (o0, o1, o2, o3, o4, ()) => match fn5 (s, ()) (o0, o1, o2, o3, o4, ()) with | some ((r, ()), (o, o5, o6, o7, o8, ())) => some (((decide ((0 : Int) ≤ r)), ()), (o, o5, o6, o7, o8, ())) | none => none
noncomputable def fn3_x : Cx := ⟨tab, fn5_e, fun _ _ => 0, fun _ => false, [(7, 0), (7, 1), (7, 2), (7, 3)], []⟩
noncomputable def c249 : Code := bodyOf Tryz.f249
noncomputable def fn3_A : Ann := .nil
noncomputable def fn3_D : Ve.Fn := ⟨249, fn3_a, fn3_o, fn3_E, fn3⟩
theorem fn3_w : Walk Tryz.prog fn3_x fn3_D Tryz.f249 c249 9 fn3_A :=
  .of Tryz.func249 (kcast (by kernel_rfl) trivial) fun x y => by kernel_rfl
theorem fn3_s : fn3_D.Says Tryz.prog := fn3_w.says follows tabOk fn5_e_ok
noncomputable def fn3_e : Env := more fn5_e fn3_D
theorem fn3_e_ok : EnvOk Tryz.prog fn3_e := more_ok fn5_e_ok fn3_s
abbrev fn2_J0 : Tpl := ⟨[(1, .ptr (1000000, 0)), (3, .ptr (1000002, 0)), (4, .ptr (1000003, 0)), (5, .ptr (1000004, 0)), (6, .ptr (1000005, 0)), (7, .ptr (7, 0)), (19, .val I), (20, .val I)], [((1000000, 0), .box .shr (.prod I (.list (.prod I I)))), ((1000002, 0), .box (.own .shr) (.list I)), ((1000003, 0), .box .shr (.prod I (.list (.prod I I)))), ((1000004, 0), .box .shr .bool), ((1000005, 0), .fbox (some ⟨258, [(1000000, 0), (1000001, 0), (1000002, 0), (1000003, 0), (1000004, 0), (1000005, 0)]⟩)), ((7, 0), .box .shr I), ((1000001, 0), .fbox (some ⟨147, [(1000006, 0)]⟩)), ((1000006, 0), .box (.own (.own .shr)) (.list (.list I)))], []⟩
abbrev fn2_J1 : Tpl := ⟨[(8, .val .bool)], [((1000000, 0), .box .shr (.prod I (.list (.prod I I)))), ((1000001, 0), .fbox (some ⟨147, [(1000006, 0)]⟩)), ((1000002, 0), .box (.own .shr) (.list I)), ((1000003, 0), .box .shr (.prod I (.list (.prod I I)))), ((1000004, 0), .box .shr .bool), ((1000005, 0), .fbox (some ⟨258, [(1000000, 0), (1000001, 0), (1000002, 0), (1000003, 0), (1000004, 0), (1000005, 0)]⟩)), ((1000006, 0), .box (.own (.own .shr)) (.list (.list I)))], []⟩
abbrev fn2_J2 : Tpl := ⟨[], [((1000000, 0), .box .shr (.prod I (.list (.prod I I)))), ((1000001, 0), .fbox (some ⟨147, [(1000006, 0)]⟩)), ((1000002, 0), .box (.own .shr) (.list I)), ((1000003, 0), .box .shr (.prod I (.list (.prod I I)))), ((1000004, 0), .box .shr .bool), ((1000005, 0), .fbox (some ⟨258, [(1000000, 0), (1000001, 0), (1000002, 0), (1000003, 0), (1000004, 0), (1000005, 0)]⟩)), ((1000006, 0), .box (.own (.own .shr)) (.list (.list I)))], []⟩
abbrev fn2_E : Ve.End := ⟨[⟨8, .shr, .bool, none⟩], [.box .shr (.prod I (.list (.prod I I))), .fbox (some ⟨147, [(1000006, 0)]⟩), .box (.own .shr) (.list I), .box .shr (.prod I (.list (.prod I I))), .box .shr .bool, .fbox (some ⟨258, [(1000000, 0), (1000001, 0), (1000002, 0), (1000003, 0), (1000004, 0), (1000005, 0)]⟩), .box (.own (.own .shr)) (.list (.list I))]⟩
abbrev fn2_a : List ASh := [.val I, .adr 0, .adr 1, .adr 2, .adr 3, .adr 4, .adr 5]
abbrev fn2_o : List OSh := [.box .shr (.prod I (.list (.prod I I))), .fbox (some ⟨147, [(1000006, 0)]⟩), .box (.own .shr) (.list I), .box .shr (.prod I (.list (.prod I I))), .box .shr .bool, .fbox (some ⟨258, [(1000000, 0), (1000001, 0), (1000002, 0), (1000003, 0), (1000004, 0), (1000005, 0)]⟩), .box (.own (.own .shr)) (.list (.list I))]
abbrev fn2_O0 : Out := .or .ret fn2_J1 (.one (.ex 0) fn2_J2)
noncomputable def fn2_B0 (rc : argP fn2_a → obP (extObs 0 fn2_o) → Option fn2_E.P) : fn2_J0.P → Option (fn2_J0.P ⊕ fn2_O0.P)
  | ((t19, t20, ()), (o0, o2, o3, o4, x, o6, ())) => bif (decide (t20 < t19)) then (guardB (inb x (List.length o2)) (match fn30 (o0, x, ()) () with | some ((r, ()), ()) => (match fn3 (r, ()) (x, o3, t20, (List.set o2 (Int.toNat x) t20), o4, ()) with | some ((r2, ()), (o, o5, o7, o8, o9, ())) => (bif (!r2) then (match rc ((w64 (o + (1 : Int))), ()) (o0, o8, o5, o9, o6, ()) with | some ((r3, ()), (o10, o11, o12, o13, o14, ())) => (bif (!r3) then (some (.inr (.inl ((false, ()), (o10, o11, o12, o13, o14, ()))))) else (some (.inl ((t19, (w64 (t20 + (1 : Int))), ()), (o10, o11, o12, o13, o, o14, ()))))) | none => none) else (some (.inl ((t19, (w64 (t20 + (1 : Int))), ()), (o0, o8, o5, o9, o, o6, ()))))) | none => none) | none => none)) else (some (.inr (.inr ((), (o0, o2, o3, o4, o6, ())))))
noncomputable def fn2_F (rc : argP fn2_a → obP (extObs 0 fn2_o) → Option fn2_E.P) : argP fn2_a → obP (extObs 0 fn2_o) → Option fn2_E.P
  | (x, ()), (o0, o2, o3, o4, o6, ()) => bif (x == o0.1) then (match fn22 (o2, ()) (o6, ()) with | some ((r, ()), (o, ())) => some ((r, ()), (o0, o2, o3, o4, o, ())) | none => none) else (match loopO (fn2_B0 rc) ((o3.1, (0 : Int), ()), (o0, o2, o3, o4, x, o6, ())) with | some (.inl ((t8, ()), (o0_2, o2_2, o3_2, o4_2, o6_2, ()))) => some ((t8, ()), (o0_2, o2_2, o3_2, o4_2, o6_2, ())) | some (.inr ((), (o0_3, o2_3, o3_3, o4_3, o6_3, ()))) => some ((true, ()), (o0_3, o2_3, o3_3, o4_3, o6_3, ())) | none => none)
noncomputable def fn2 : argP fn2_a → obP (extObs 0 fn2_o) → Option fn2_E.P := fuelF fn2_F 1000
noncomputable def fn2_x (rc : argP fn2_a → obP (extObs 0 fn2_o) → Option fn2_E.P) : Cx := ⟨tab, more fn3_e ⟨258, fn2_a, fn2_o, fn2_E, rc⟩, fun f n => bif Nat.beq f 147 && Nat.beq n 1 then 1 else bif Nat.beq f 258 && Nat.beq n 1 then 1 else bif Nat.beq f 258 && Nat.beq n 2 then 1 else bif Nat.beq f 258 && Nat.beq n 3 then 1 else bif Nat.beq f 258 && Nat.beq n 4 then 1 else bif Nat.beq f 258 && Nat.beq n 5 then 1 else bif Nat.beq f 258 && Nat.beq n 6 then 1 else 0, fun _ => false, [(17, 0), (17, 1), (17, 2), (17, 3), (29, 0), (29, 1), (29, 2), (29, 3), (31, 0), (31, 1), (31, 2), (31, 3), (38, 0), (38, 1), (38, 2), (38, 3)], []⟩
noncomputable def c258 : Code := bodyOf Tryz.f258
noncomputable def fn2_A (rc : argP fn2_a → obP (extObs 0 fn2_o) → Option fn2_E.P) : Ann := .seq .nil (.seq .nil (.seq (.seq .nil (.loop fn2_J0 fn2_O0 (fn2_B0 rc) .nil)) .nil))
theorem fn2_r0 (rc : argP fn2_a → obP (extObs 0 fn2_o) → Option fn2_E.P) (p : fn2_J0.P) : run (fn2_x rc) (subc [1, 1, 0, 1, 0, 0] c258) .nil (fn2_J0.S p) (leaf fn2_J0 fn2_O0) = (fn2_B0 rc) p := by kernel_rfl
noncomputable def fn2_D : Ve.Fn := ⟨258, fn2_a, fn2_o, fn2_E, fn2⟩
theorem fn2_w (rc : argP fn2_a → obP (extObs 0 fn2_o) → Option fn2_E.P) : Walk Tryz.prog (fn2_x rc) ⟨258, fn2_a, fn2_o, fn2_E, fn2_F rc⟩ Tryz.f258 c258 42 (fn2_A rc) :=
  .of Tryz.func258 (kcast (by kernel_rfl) (⟨(fn2_r0 rc), trivial⟩ : (∀ p, run (fn2_x rc) (subc [1, 1, 0, 1, 0, 0] c258) .nil (fn2_J0.S p) (leaf fn2_J0 fn2_O0) = (fn2_B0 rc) p) ∧ True)) fun x y => by kernel_rfl
theorem fn2_s : fn2_D.Says Tryz.prog := fuel_says (fun rc h => (fn2_w rc).says follows tabOk (more_ok fn3_e_ok h)) 1000
noncomputable def fn2_e : Env := more fn3_e fn2_D
theorem fn2_e_ok : EnvOk Tryz.prog fn2_e := more_ok fn3_e_ok fn2_s
abbrev fn12_E : Ve.End := ⟨[], [.box (.own (.own .shr)) (.list (.list I))]⟩
abbrev fn12_a : List ASh := [.val (.prod I (.list (.prod I I))), .val (.prod I (.list (.prod I I))), .val .bool, .fn 147 [0]]
abbrev fn12_o : List OSh := [.box (.own (.own .shr)) (.list (.list I))]
noncomputable def fn12 : argP fn12_a → obP (extObs 0 fn12_o) → Option fn12_E.P
  | (g, h, lazy, ()), (o0, ()) => guardB (decide (0 ≤ g.1) && decide (g.1 ≤ g.1) && decide (g.1 * 8 ≤ 140737488355328)) (match fn2 ((0 : Int), ()) (g, (List.replicate (Int.toNat g.1) (0 : Int)), h, lazy, o0, ()) with | some ((r, ()), (o, o2, o3, o4, o5, ())) => some ((), (o5, ())) | none => none)
noncomputable def fn12_x : Cx := ⟨tab, fn2_e, fun f n => bif Nat.beq f 258 && Nat.beq n 1 then 1 else bif Nat.beq f 258 && Nat.beq n 2 then 1 else bif Nat.beq f 258 && Nat.beq n 3 then 1 else bif Nat.beq f 258 && Nat.beq n 4 then 1 else bif Nat.beq f 258 && Nat.beq n 5 then 1 else bif Nat.beq f 258 && Nat.beq n 6 then 1 else 0, fun _ => false, [(15, 0), (15, 1), (15, 2), (15, 3)], []⟩
noncomputable def c146 : Code := bodyOf Tryz.f146
noncomputable def fn12_A : Ann := .nil
noncomputable def fn12_D : Ve.Fn := ⟨146, fn12_a, fn12_o, fn12_E, fn12⟩
theorem fn12_w : Walk Tryz.prog fn12_x fn12_D Tryz.f146 c146 16 fn12_A :=
  .of Tryz.func146 (kcast (by kernel_rfl) trivial) fun x y => by kernel_rfl
theorem fn12_s : fn12_D.Says Tryz.prog := fn12_w.says follows tabOk fn2_e_ok
noncomputable def fn12_e : Env := more fn2_e fn12_D
theorem fn12_e_ok : EnvOk Tryz.prog fn12_e := more_ok fn2_e_ok fn12_s
noncomputable def slices_SortFunc_int_int_own_e : Env := more fn12_e (sortRowsFn 260 261 (.own .shr))
theorem slices_SortFunc_int_int_own_e_ok : EnvOk Tryz.prog slices_SortFunc_int_int_own_e := more_ok fn12_e_ok (sortRows_s (.own .shr))
noncomputable abbrev slices_SortFunc_int_int_own := (sortRowsFn 260 261 (.own .shr)).F
abbrev fn76_J0 : Tpl := ⟨[(1, .val (.list I)), (5, .own .shr I), (9, .val (.list I)), (10, .val I), (11, .val I)], [], []⟩
abbrev fn76_J1 : Tpl := ⟨[(5, .own .shr I)], [], []⟩
abbrev fn76_E : Ve.End := ⟨[⟨4, (.own .shr), (.list I), none⟩], []⟩
abbrev fn76_a : List ASh := [.val (.list I), .val (.list I)]
abbrev fn76_o : List OSh := []
abbrev fn76_O0 : Out := .one (.ex 0) fn76_J1
noncomputable def fn76_B0 : fn76_J0.P → Option (fn76_J0.P ⊕ fn76_O0.P)
  | ((b, out, t9, t10, t11, ()), ()) => bif (decide (t11 < t10)) then (guardB (inb t11 (List.length t9)) (guardB (inb t11 (List.length b)) (bif ((List.getD b (Int.toNat t11) (0 : Int)) != (List.getD t9 (Int.toNat t11) (0 : Int))) then (guardB (decide ((List.length out + List.length [t11]) * 8 ≤ 70368744177664)) (some (.inl ((b, (out ++ [t11]), t9, t10, (w64 (t11 + (1 : Int))), ()), ())))) else (some (.inl ((b, out, t9, t10, (w64 (t11 + (1 : Int))), ()), ())))))) else (some (.inr ((out, ()), ())))
noncomputable def fn76 : argP fn76_a → obP (extObs 0 fn76_o) → Option fn76_E.P
  | (a, b, ()), () => match loopO fn76_B0 ((b, ([] : (List Int)), a, (List.length a : Int), (0 : Int), ()), ()) with | some ((out, ()), ()) => some ((out, ()), ()) | none => none
noncomputable def fn76_x : Cx := ⟨tab, slices_SortFunc_int_int_own_e, fun _ _ => 0, fun _ => false, [(24, 0)], []⟩
noncomputable def c262 : Code := bodyOf Tryz.f262
noncomputable def fn76_A : Ann := .seq .nil (.seq .nil (.seq (.seq .nil (.loop fn76_J0 fn76_O0 fn76_B0 .nil)) .nil))
theorem fn76_r0 (p : fn76_J0.P) : run fn76_x (subc [1, 1, 0, 1, 0, 0] c262) .nil (fn76_J0.S p) (leaf fn76_J0 fn76_O0) = fn76_B0 p := by kernel_rfl
noncomputable def fn76_D : Ve.Fn := ⟨262, fn76_a, fn76_o, fn76_E, fn76⟩
theorem fn76_w : Walk Tryz.prog fn76_x fn76_D Tryz.f262 c262 28 fn76_A :=
  .of Tryz.func262 (kcast (by kernel_rfl) (⟨fn76_r0, trivial⟩ : (∀ p, run fn76_x (subc [1, 1, 0, 1, 0, 0] c262) .nil (fn76_J0.S p) (leaf fn76_J0 fn76_O0) = fn76_B0 p) ∧ True)) fun x y => by kernel_rfl
theorem fn76_s : fn76_D.Says Tryz.prog := fn76_w.says follows tabOk slices_SortFunc_int_int_own_e_ok
noncomputable def fn76_e : Env := more slices_SortFunc_int_int_own_e fn76_D
theorem fn76_e_ok : EnvOk Tryz.prog fn76_e := more_ok slices_SortFunc_int_int_own_e_ok fn76_s
abbrev fn55_E : Ve.End := ⟨[⟨4, .shr, .bool, none⟩], []⟩
abbrev fn55_a : List ASh := [.val (.list I), .val (.list I)]
abbrev fn55_o : List OSh := []
noncomputable def fn55 : argP fn55_a → obP (extObs 0 fn55_o) → Option fn55_E.P
  | (a, b, ()), () => match fn76 (a, b, ()) () with | some ((r, ()), ()) => some ((((List.length r : Int) == (1 : Int)), ()), ()) | none => none
noncomputable def fn55_x : Cx := ⟨tab, fn76_e, fun _ _ => 0, fun _ => false, [(7, 0), (7, 1), (7, 2), (7, 3)], []⟩
noncomputable def c151 : Code := bodyOf Tryz.f151
noncomputable def fn55_A : Ann := .nil
noncomputable def fn55_D : Ve.Fn := ⟨151, fn55_a, fn55_o, fn55_E, fn55⟩
theorem fn55_w : Walk Tryz.prog fn55_x fn55_D Tryz.f151 c151 10 fn55_A :=
  .of Tryz.func151 (kcast (by kernel_rfl) trivial) fun x y => by kernel_rfl
theorem fn55_s : fn55_D.Says Tryz.prog := fn55_w.says follows tabOk fn76_e_ok
noncomputable def fn55_e : Env := more fn76_e fn55_D
theorem fn55_e_ok : EnvOk Tryz.prog fn55_e := more_ok fn76_e_ok fn55_s
abbrev fn13_J0 : Tpl := ⟨[(1, .fn ⟨151, []⟩), (4, .ptr (4, 0)), (5, .ptr (5, 0)), (6, .val I), (7, .str (.rix (5, 0) [.fst] [])), (16, .same (5, 0) [.fst]), (17, .val I), (18, .val I), (27, .str (.sub (5, 0) [.fst])), (28, .val I), (29, .val I)], [((4, 0), .box (.prod (.own (.own .shr)) (.own .shr)) (.prod (.list (.list I)) (.list (.prod I I)))), ((5, 0), .box (.prod (.own (.own .shr)) (.own .shr)) (.prod (.list (.list I)) (.list (.prod I I))))], []⟩
abbrev fn13_J1 : Tpl := ⟨[(1, .fn ⟨151, []⟩), (4, .ptr (4, 0)), (5, .ptr (5, 0)), (16, .same (5, 0) [.fst]), (17, .val I), (18, .val I)], [((4, 0), .box (.prod (.own (.own .shr)) (.own .shr)) (.prod (.list (.list I)) (.list (.prod I I)))), ((5, 0), .box (.prod (.own (.own .shr)) (.own .shr)) (.prod (.list (.list I)) (.list (.prod I I))))], []⟩
abbrev fn13_J2 : Tpl := ⟨[(4, .ptr (4, 0)), (5, .ptr (5, 0))], [((4, 0), .box (.prod (.own (.own .shr)) (.own .shr)) (.prod (.list (.list I)) (.list (.prod I I)))), ((5, 0), .box (.prod (.own (.own .shr)) (.own .shr)) (.prod (.list (.list I)) (.list (.prod I I))))], []⟩
abbrev fn13_E : Ve.End := ⟨[⟨4, (.prod (.own (.own .shr)) (.own .shr)), (.prod (.list (.list I)) (.list (.prod I I))), some 49⟩], []⟩
abbrev fn13_a : List ASh := [.own (.own (.own .shr)) (.list (.list I)), .fn 151 []]
abbrev fn13_o : List OSh := []
abbrev fn13_O0 : Out := .one (.ex 2) fn13_J1
noncomputable def fn13_B0 : fn13_J0.P → Option (fn13_J0.P ⊕ fn13_O0.P)
  | ((i, i2, t17, t18, (lo, hi), t28, t29, ()), (t4, out, ())) => bif (decide (t29 < t28)) then (guardB (decide (0 ≤ t29) && decide (t29 < (((hi : Nat) : Int) - ((lo : Nat) : Int)))) (match fn55 ((List.getD out.1 i2 ([] : (List Int))), (List.getD out.1 (lo + (Int.toNat t29)) ([] : (List Int))), ()) () with | some ((r, ()), ()) => (bif r then (guardB (decide ((List.length out.2 + List.length [(i, (w64 ((w64 (i + (1 : Int))) + t29)))]) * 16 ≤ 70368744177664)) (some (.inl ((i, i2, t17, t18, (lo, hi), t28, (w64 (t29 + (1 : Int))), ()), (t4, (out.1, (out.2 ++ [(i, (w64 ((w64 (i + (1 : Int))) + t29)))])), ()))))) else (some (.inl ((i, i2, t17, t18, (lo, hi), t28, (w64 (t29 + (1 : Int))), ()), (t4, out, ()))))) | none => none)) else (some (.inr ((t17, t18, ()), (t4, out, ()))))
abbrev fn13_O1 : Out := .one (.ex 0) fn13_J2
noncomputable def fn13_B1 : fn13_J1.P → Option (fn13_J1.P ⊕ fn13_O1.P)
  | ((t17, t18, ()), (t4, out, ())) => bif (decide (t18 < t17)) then (guardB (inb t18 (List.length out.1)) (guardB (decide (0 ≤ (w64 (t18 + (1 : Int)))) && decide ((w64 (t18 + (1 : Int))) ≤ (List.length out.1 : Int)) && decide ((List.length out.1 : Int) ≤ (List.length out.1 : Int))) (match loopO fn13_B0 ((t18, (Int.toNat t18), t17, t18, ((Int.toNat (w64 (t18 + (1 : Int)))), (Int.toNat (List.length out.1 : Int))), ((((Int.toNat (List.length out.1 : Int)) - (Int.toNat (w64 (t18 + (1 : Int))))) : Nat) : Int), (0 : Int), ()), (t4, out, ())) with | some ((t17_2, t18_2, ()), (t4_2, out2, ())) => some (.inl ((t17_2, (w64 (t18_2 + (1 : Int))), ()), (t4_2, out2, ()))) | none => none))) else (some (.inr ((), (t4, out, ()))))
noncomputable def fn13 : argP fn13_a → obP (extObs 0 fn13_o) → Option fn13_E.P
  | (states, ()), () => match slices_SortFunc_int_int_own () (states, ()) with | some ((), (o, ())) => (match loopO fn13_B1 (((List.length o : Int), (0 : Int), ()), ((([] : (List (List Int))), ([] : (List (Int × Int)))), (o, ([] : (List (Int × Int)))), ())) with | some ((), (t4, out, ())) => some (((out.1, out.2), ()), ()) | none => none) | none => none
noncomputable def fn13_x : Cx := ⟨tab, fn55_e, fun f n => bif Nat.beq f 260 && Nat.beq n 0 then 1 else 0, fun _ => false, [(14, 0), (14, 1), (14, 2), (14, 3), (7, 0), (9, 0), (37, 0), (37, 1), (37, 2), (37, 3), (46, 0)], []⟩
noncomputable def c150 : Code := bodyOf Tryz.f150
noncomputable def fn13_A : Ann := .seq .nil (.seq .nil (.seq .nil (.seq (.seq .nil (.loop fn13_J1 fn13_O1 fn13_B1 (.seq .nil (.seq .nil (.seq (.seq .nil (.seq .nil (.loop fn13_J0 fn13_O0 fn13_B0 .nil))) .nil))))) .nil)))
theorem fn13_r0 (p : fn13_J1.P) : run fn13_x (subc [1, 1, 1, 0, 1, 0, 0] c150) (.seq .nil (.seq .nil (.seq (.seq .nil (.seq .nil (.loop fn13_J0 fn13_O0 fn13_B0 .nil))) .nil))) (fn13_J1.S p) (leaf fn13_J1 fn13_O1) = fn13_B1 p := by kernel_rfl
theorem fn13_r1 (p : fn13_J0.P) : run fn13_x (subc [1, 1, 1, 0, 1, 0, 0, 1, 1, 0, 0, 1, 1, 0, 0] c150) .nil (fn13_J0.S p) (leaf fn13_J0 fn13_O0) = fn13_B0 p := by kernel_rfl
noncomputable def fn13_D : Ve.Fn := ⟨150, fn13_a, fn13_o, fn13_E, fn13⟩
theorem fn13_w : Walk Tryz.prog fn13_x fn13_D Tryz.f150 c150 52 fn13_A :=
  .of Tryz.func150 (kcast (by kernel_rfl) (⟨fn13_r0, fn13_r1, trivial⟩ : (∀ p, run fn13_x (subc [1, 1, 1, 0, 1, 0, 0] c150) (.seq .nil (.seq .nil (.seq (.seq .nil (.seq .nil (.loop fn13_J0 fn13_O0 fn13_B0 .nil))) .nil))) (fn13_J1.S p) (leaf fn13_J1 fn13_O1) = fn13_B1 p) ∧ (∀ p, run fn13_x (subc [1, 1, 1, 0, 1, 0, 0, 1, 1, 0, 0, 1, 1, 0, 0] c150) .nil (fn13_J0.S p) (leaf fn13_J0 fn13_O0) = fn13_B0 p) ∧ True)) fun x y => by kernel_rfl
theorem fn13_s : fn13_D.Says Tryz.prog := fn13_w.says follows tabOk fn55_e_ok
noncomputable def fn13_e : Env := more fn55_e fn13_D
theorem fn13_e_ok : EnvOk Tryz.prog fn13_e := more_ok fn55_e_ok fn13_s
abbrev fn43_E : Ve.End := ⟨[⟨2, (.prod (.own (.own .shr)) (.own .shr)), (.prod (.list (.list I)) (.list (.prod I I))), some 49⟩, ⟨3, .shr, .bool, none⟩], []⟩
abbrev fn43_a : List ASh := [.own (.prod (.own (.own .shr)) (.own .shr)) (.prod (.list (.list I)) (.list (.prod I I)))]
abbrev fn43_o : List OSh := []
noncomputable def fn43 : argP fn43_a → obP (extObs 0 fn43_o) → Option fn43_E.P
  | (x, ()), () => bif (decide ((300 : Int) < (List.length x.1 : Int))) then (some (((([] : (List (List Int))), ([] : (List (Int × Int)))), false, ()), ())) else (bif (decide ((6000 : Int) < (List.length x.2 : Int))) then (some (((([] : (List (List Int))), ([] : (List (Int × Int)))), false, ()), ())) else (some (((x.1, x.2), true, ()), ())))
noncomputable def fn43_x : Cx := ⟨tab, fn13_e, fun _ _ => 0, fun _ => false, [], []⟩
noncomputable def c149 : Code := bodyOf Tryz.f149
noncomputable def fn43_A : Ann := .nil
noncomputable def fn43_D : Ve.Fn := ⟨149, fn43_a, fn43_o, fn43_E, fn43⟩
theorem fn43_w : Walk Tryz.prog fn43_x fn43_D Tryz.f149 c149 16 fn43_A :=
  .of Tryz.func149 (kcast (by kernel_rfl) trivial) fun x y => by kernel_rfl
theorem fn43_s : fn43_D.Says Tryz.prog := fn43_w.says follows tabOk fn13_e_ok
noncomputable def fn43_e : Env := more fn13_e fn43_D
theorem fn43_e_ok : EnvOk Tryz.prog fn43_e := more_ok fn13_e_ok fn43_s
abbrev fn54_E : Ve.End := ⟨[⟨6, (.prod (.own (.own .shr)) (.own .shr)), (.prod (.list (.list I)) (.list (.prod I I))), some 49⟩, ⟨7, .shr, .bool, none⟩], []⟩
abbrev fn54_a : List ASh := [.val (.prod I (.list (.prod I I))), .val (.prod I (.list (.prod I I))), .val .bool]
abbrev fn54_o : List OSh := []
noncomputable def fn54 : argP fn54_a → obP (extObs 0 fn54_o) → Option fn54_E.P
  | (g, h, lazy, ()), () => match fn49 (g, h, ()) () with | some ((r, ()), ()) => (bif (!r) then (some (((([] : (List (List Int))), ([] : (List (Int × Int)))), false, ()), ())) else (match fn12 (g, h, lazy, ()) (([] : (List (List Int))), ()) with | some ((), (o, ())) => (bif (decide ((300 : Int) < (List.length o : Int))) then (some (((([] : (List (List Int))), ([] : (List (Int × Int)))), false, ()), ())) else (match fn13 (o, ()) () with | some ((r2, ()), ()) => (match fn43 ((r2.1, r2.2), ()) () with | some ((r3, r4, ()), ()) => some (((r3.1, r3.2), r4, ()), ()) | none => none) | none => none)) | none => none)) | none => none
noncomputable def fn54_x : Cx := ⟨tab, fn43_e, fun f n => bif Nat.beq f 149 && Nat.beq n 0 then 2 else bif Nat.beq f 150 && Nat.beq n 0 then 2 else 0, fun _ => false, [(11, 0), (11, 1), (11, 2), (11, 3), (19, 0), (19, 1), (19, 2), (19, 3)], [(3, 0), (4, 0)]⟩
noncomputable def c29 : Code := bodyOf Tryz.f29
noncomputable def fn54_A : Ann := .nil
noncomputable def fn54_D : Ve.Fn := ⟨29, fn54_a, fn54_o, fn54_E, fn54⟩
theorem fn54_w : Walk Tryz.prog fn54_x fn54_D Tryz.f29 c29 29 fn54_A :=
  .of Tryz.func29 (kcast (by kernel_rfl) trivial) fun x y => by kernel_rfl
theorem fn54_s : fn54_D.Says Tryz.prog := fn54_w.says follows tabOk fn43_e_ok
noncomputable def fn54_e : Env := more fn43_e fn54_D
theorem fn54_e_ok : EnvOk Tryz.prog fn54_e := more_ok fn43_e_ok fn54_s
abbrev fn100_E : Ve.End := ⟨[⟨6, .shr, .bool, none⟩], []⟩
abbrev fn100_a : List ASh := [.val I, .val I, .val I]
abbrev fn100_o : List OSh := []
noncomputable def fn100 : argP fn100_a → obP (extObs 0 fn100_o) → Option fn100_E.P
  | (x, a, b, ()), () => bif (decide (a ≤ x)) then (some (((decide (x ≤ b)), ()), ())) else (some ((false, ()), ()))
noncomputable def fn100_x : Cx := ⟨tab, fn54_e, fun _ _ => 0, fun _ => false, [], []⟩
noncomputable def c165 : Code := bodyOf Tryz.f165
noncomputable def fn100_A : Ann := .nil
noncomputable def fn100_D : Ve.Fn := ⟨165, fn100_a, fn100_o, fn100_E, fn100⟩
theorem fn100_w : Walk Tryz.prog fn100_x fn100_D Tryz.f165 c165 15 fn100_A :=
  .of Tryz.func165 (kcast (by kernel_rfl) trivial) fun x y => by kernel_rfl
theorem fn100_s : fn100_D.Says Tryz.prog := fn100_w.says follows tabOk fn54_e_ok
noncomputable def fn100_e : Env := more fn54_e fn100_D
theorem fn100_e_ok : EnvOk Tryz.prog fn100_e := more_ok fn54_e_ok fn100_s
abbrev fn71_J0 : Tpl := ⟨[(0, .val (.list (.prod I I))), (1, .val I), (5, .val I)], [], []⟩
abbrev fn71_J1 : Tpl := ⟨[(4, .val .bool)], [], []⟩
abbrev fn71_J2 : Tpl := ⟨[], [], []⟩
abbrev fn71_E : Ve.End := ⟨[⟨4, .shr, .bool, none⟩], []⟩
abbrev fn71_a : List ASh := [.val (.list (.prod I I)), .val I]
abbrev fn71_o : List OSh := []
abbrev fn71_O0 : Out := .or .ret fn71_J1 (.one (.ex 0) fn71_J2)
noncomputable def fn71_B0 : fn71_J0.P → Option (fn71_J0.P ⊕ fn71_O0.P)
  | ((pairs, n, i, ()), ()) => bif (decide (i < (List.length pairs : Int))) then (guardB (inb i (List.length pairs)) (match fn100 ((List.getD pairs (Int.toNat i) ((0 : Int), (0 : Int))).1, (0 : Int), (w64 (n - (1 : Int))), ()) () with | some ((r, ()), ()) => (bif (!r) then (some (.inr (.inl ((false, ()), ())))) else (match fn100 ((List.getD pairs (Int.toNat i) ((0 : Int), (0 : Int))).2, (0 : Int), (w64 (n - (1 : Int))), ()) () with | some ((r2, ()), ()) => (bif (!r2) then (some (.inr (.inl ((false, ()), ())))) else (bif (decide (((List.getD pairs (Int.toNat i) ((0 : Int), (0 : Int))).2) ≤ ((List.getD pairs (Int.toNat i) ((0 : Int), (0 : Int))).1))) then (some (.inr (.inl ((false, ()), ())))) else (bif (decide ((0 : Int) < i)) then (guardB (inb (w64 (i - (1 : Int))) (List.length pairs)) (match fn87 ((List.getD pairs (Int.toNat (w64 (i - (1 : Int)))) ((0 : Int), (0 : Int))), (List.getD pairs (Int.toNat i) ((0 : Int), (0 : Int))), ()) () with | some ((r3, ()), ()) => (bif (!r3) then (some (.inr (.inl ((false, ()), ())))) else (some (.inl ((pairs, n, (w64 (i + (1 : Int))), ()), ())))) | none => none)) else (some (.inl ((pairs, n, (w64 (i + (1 : Int))), ()), ())))))) | none => none)) | none => none)) else (some (.inr (.inr ((), ()))))
noncomputable def fn71 : argP fn71_a → obP (extObs 0 fn71_o) → Option fn71_E.P
  | (pairs, n, ()), () => match loopO fn71_B0 ((pairs, n, (0 : Int), ()), ()) with | some (.inl ((t4, ()), ())) => some ((t4, ()), ()) | some (.inr ((), ())) => some ((true, ()), ()) | none => none
noncomputable def fn71_x : Cx := ⟨tab, fn100_e, fun _ _ => 0, fun _ => false, [(21, 0), (21, 1), (21, 2), (21, 3), (28, 0), (28, 1), (28, 2), (28, 3), (48, 0), (48, 1), (48, 2), (48, 3)], [(6, 0)]⟩
noncomputable def c271 : Code := bodyOf Tryz.f271
noncomputable def fn71_A : Ann := .seq .nil (.seq (.seq .nil (.loop fn71_J0 fn71_O0 fn71_B0 (.seq .nil (.seq (.seq .nil (.seq (.draw [(0, .flo), (1, .flo), (2, .flo), (3, .flo), (4, .sole), (5, .flo), (6, .flo), (7, .flo), (9, .flo), (10, .flo), (8, .qui), (11, .sole), (12, .flo), (13, .flo), (14, .flo), (15, .flo), (17, .flo), (16, .qui), (18, .qui), (19, .flo), (20, .flo), (21, .flo), (22, .flo), (23, .flo), (24, .flo), (25, .flo), (26, .flo), (27, .flo), (28, .flo), (29, .qui), (30, .qui), (31, .sole), (32, .flo), (33, .flo), (34, .flo)]) .nil)) .nil)))) .nil)
theorem fn71_r0 (p : fn71_J0.P) : run fn71_x (subc [1, 0, 1, 0, 0] c271) (.seq .nil (.seq (.seq .nil (.seq (.draw [(0, .flo), (1, .flo), (2, .flo), (3, .flo), (4, .sole), (5, .flo), (6, .flo), (7, .flo), (9, .flo), (10, .flo), (8, .qui), (11, .sole), (12, .flo), (13, .flo), (14, .flo), (15, .flo), (17, .flo), (16, .qui), (18, .qui), (19, .flo), (20, .flo), (21, .flo), (22, .flo), (23, .flo), (24, .flo), (25, .flo), (26, .flo), (27, .flo), (28, .flo), (29, .qui), (30, .qui), (31, .sole), (32, .flo), (33, .flo), (34, .flo)]) .nil)) .nil)) (fn71_J0.S p) (leaf fn71_J0 fn71_O0) = fn71_B0 p := by kernel_rfl
noncomputable def fn71_D : Ve.Fn := ⟨271, fn71_a, fn71_o, fn71_E, fn71⟩
theorem fn71_w : Walk Tryz.prog fn71_x fn71_D Tryz.f271 c271 52 fn71_A :=
  .of Tryz.func271 (kcast (by kernel_rfl) (⟨fn71_r0, trivial⟩ : (∀ p, run fn71_x (subc [1, 0, 1, 0, 0] c271) (.seq .nil (.seq (.seq .nil (.seq (.draw [(0, .flo), (1, .flo), (2, .flo), (3, .flo), (4, .sole), (5, .flo), (6, .flo), (7, .flo), (9, .flo), (10, .flo), (8, .qui), (11, .sole), (12, .flo), (13, .flo), (14, .flo), (15, .flo), (17, .flo), (16, .qui), (18, .qui), (19, .flo), (20, .flo), (21, .flo), (22, .flo), (23, .flo), (24, .flo), (25, .flo), (26, .flo), (27, .flo), (28, .flo), (29, .qui), (30, .qui), (31, .sole), (32, .flo), (33, .flo), (34, .flo)]) .nil)) .nil)) (fn71_J0.S p) (leaf fn71_J0 fn71_O0) = fn71_B0 p) ∧ True)) fun x y => by kernel_rfl
theorem fn71_s : fn71_D.Says Tryz.prog := fn71_w.says follows tabOk fn100_e_ok
noncomputable def fn71_e : Env := more fn100_e fn71_D
theorem fn71_e_ok : EnvOk Tryz.prog fn71_e := more_ok fn100_e_ok fn71_s
abbrev fn88_E : Ve.End := ⟨[⟨2, .shr, .bool, none⟩], []⟩
abbrev fn88_a : List ASh := [.val (.prod I (.list (.prod I I)))]
abbrev fn88_o : List OSh := []
noncomputable def fn88 : argP fn88_a → obP (extObs 0 fn88_o) → Option fn88_E.P
  | (g, ()), () => match fn100 (g.1, (0 : Int), (8 : Int), ()) () with | some ((r, ()), ()) => (bif r then (match fn71 (g.2, g.1, ()) () with | some ((r2, ()), ()) => some ((r2, ()), ()) | none => none) else (some ((false, ()), ()))) | none => none
noncomputable def fn88_x : Cx := ⟨tab, fn71_e, fun _ _ => 0, fun _ => false, [(5, 0), (5, 1), (5, 2), (5, 3), (11, 0), (11, 1), (11, 2), (11, 3)], [(1, 0)]⟩
noncomputable def c168 : Code := bodyOf Tryz.f168
noncomputable def fn88_A : Ann := .nil
noncomputable def fn88_D : Ve.Fn := ⟨168, fn88_a, fn88_o, fn88_E, fn88⟩
theorem fn88_w : Walk Tryz.prog fn88_x fn88_D Tryz.f168 c168 13 fn88_A :=
  .of Tryz.func168 (kcast (by kernel_rfl) trivial) fun x y => by kernel_rfl
theorem fn88_s : fn88_D.Says Tryz.prog := fn88_w.says follows tabOk fn71_e_ok
noncomputable def fn88_e : Env := more fn71_e fn88_D
theorem fn88_e_ok : EnvOk Tryz.prog fn88_e := more_ok fn71_e_ok fn88_s
abbrev fn67_E : Ve.End := ⟨[⟨4, .shr, .bool, none⟩], []⟩
abbrev fn67_a : List ASh := [.val (.prod I (.list (.prod I I))), .val (.prod I (.list (.prod I I)))]
abbrev fn67_o : List OSh := []
noncomputable def fn67 : argP fn67_a → obP (extObs 0 fn67_o) → Option fn67_E.P
  | (g, h, ()), () => match fn88 (g, ()) () with | some ((r, ()), ()) => (bif r then (match fn88 (h, ()) () with | some ((r2, ()), ()) => (bif r2 then (some (((decide (g.1 ≤ (6 : Int))), ()), ())) else (some ((false, ()), ()))) | none => none) else (some ((false, ()), ()))) | none => none
noncomputable def fn67_x : Cx := ⟨tab, fn88_e, fun _ _ => 0, fun _ => false, [(6, 0), (6, 1), (6, 2), (6, 3), (9, 0), (9, 1), (9, 2), (9, 3)], [(2, 0), (3, 0)]⟩
noncomputable def c125 : Code := bodyOf Tryz.f125
noncomputable def fn67_A : Ann := .nil
noncomputable def fn67_D : Ve.Fn := ⟨125, fn67_a, fn67_o, fn67_E, fn67⟩
theorem fn67_w : Walk Tryz.prog fn67_x fn67_D Tryz.f125 c125 16 fn67_A :=
  .of Tryz.func125 (kcast (by kernel_rfl) trivial) fun x y => by kernel_rfl
theorem fn67_s : fn67_D.Says Tryz.prog := fn67_w.says follows tabOk fn88_e_ok
noncomputable def fn67_e : Env := more fn88_e fn67_D
theorem fn67_e_ok : EnvOk Tryz.prog fn67_e := more_ok fn88_e_ok fn67_s
abbrev fn89_J0 : Tpl := ⟨[(1, .val I), (2, .val I), (3, .cst (.prod I (.list (.prod I I)))), (7, .val I)], [], []⟩
abbrev fn89_J1 : Tpl := ⟨[(6, .val .bool)], [], []⟩
abbrev fn89_J2 : Tpl := ⟨[], [], []⟩
abbrev fn89_E : Ve.End := ⟨[⟨6, .shr, .bool, none⟩], []⟩
abbrev fn89_a : List ASh := [.val (.prod I (.list (.prod I I))), .val I, .val I]
abbrev fn89_o : List OSh := []
abbrev fn89_O0 : Out := .or .ret fn89_J1 (.one (.ex 0) fn89_J2)
noncomputable def fn89_B0 : fn89_J0.P → Option (fn89_J0.P ⊕ fn89_O0.P)
  | ((a, b, g, i, ()), ()) => bif (decide (i < (List.length g.2 : Int))) then (guardB (inb i (List.length g.2)) (bif (((List.getD g.2 (Int.toNat i) ((0 : Int), (0 : Int))).1) == a) then (bif (((List.getD g.2 (Int.toNat i) ((0 : Int), (0 : Int))).2) == b) then (some (.inr (.inl ((true, ()), ())))) else (bif (((List.getD g.2 (Int.toNat i) ((0 : Int), (0 : Int))).1) == b) then (bif (((List.getD g.2 (Int.toNat i) ((0 : Int), (0 : Int))).2) == a) then (some (.inr (.inl ((true, ()), ())))) else (some (.inl ((a, b, g, (w64 (i + (1 : Int))), ()), ())))) else (some (.inl ((a, b, g, (w64 (i + (1 : Int))), ()), ()))))) else (bif (((List.getD g.2 (Int.toNat i) ((0 : Int), (0 : Int))).1) == b) then (bif (((List.getD g.2 (Int.toNat i) ((0 : Int), (0 : Int))).2) == a) then (some (.inr (.inl ((true, ()), ())))) else (some (.inl ((a, b, g, (w64 (i + (1 : Int))), ()), ())))) else (some (.inl ((a, b, g, (w64 (i + (1 : Int))), ()), ())))))) else (some (.inr (.inr ((), ()))))
noncomputable def fn89 : argP fn89_a → obP (extObs 0 fn89_o) → Option fn89_E.P
  | (g, a, b, ()), () => match loopO fn89_B0 ((a, b, g, (0 : Int), ()), ()) with | some (.inl ((t6, ()), ())) => some ((t6, ()), ()) | some (.inr ((), ())) => some ((false, ()), ()) | none => none
noncomputable def fn89_x : Cx := ⟨tab, fn67_e, fun _ _ => 0, fun _ => false, [], [(3, 0), (8, 0)]⟩
noncomputable def c281 : Code := bodyOf Tryz.f281
noncomputable def fn89_A : Ann := .seq .nil (.seq (.seq .nil (.loop fn89_J0 fn89_O0 fn89_B0 .nil)) .nil)
theorem fn89_r0 (p : fn89_J0.P) : run fn89_x (subc [1, 0, 1, 0, 0] c281) .nil (fn89_J0.S p) (leaf fn89_J0 fn89_O0) = fn89_B0 p := by kernel_rfl
noncomputable def fn89_D : Ve.Fn := ⟨281, fn89_a, fn89_o, fn89_E, fn89⟩
theorem fn89_w : Walk Tryz.prog fn89_x fn89_D Tryz.f281 c281 43 fn89_A :=
  .of Tryz.func281 (kcast (by kernel_rfl) (⟨fn89_r0, trivial⟩ : (∀ p, run fn89_x (subc [1, 0, 1, 0, 0] c281) .nil (fn89_J0.S p) (leaf fn89_J0 fn89_O0) = fn89_B0 p) ∧ True)) fun x y => by kernel_rfl
theorem fn89_s : fn89_D.Says Tryz.prog := fn89_w.says follows tabOk fn67_e_ok
noncomputable def fn89_e : Env := more fn67_e fn89_D
theorem fn89_e_ok : EnvOk Tryz.prog fn89_e := more_ok fn67_e_ok fn89_s
abbrev fn66_E : Ve.End := ⟨[⟨8, .shr, .bool, none⟩], []⟩
abbrev fn66_a : List ASh := [.val (.prod I (.list (.prod I I))), .val I, .val I, .val .bool]
abbrev fn66_o : List OSh := []
noncomputable def fn66 : argP fn66_a → obP (extObs 0 fn66_o) → Option fn66_E.P
  | (h, a, b, lazy, ()), () => match fn89 (h, a, b, ()) () with | some ((r, ()), ()) => (bif r then (some ((true, ()), ())) else (bif lazy then (some (((a == b), ()), ())) else (some ((false, ()), ())))) | none => none
noncomputable def fn66_x : Cx := ⟨tab, fn89_e, fun _ _ => 0, fun _ => false, [(12, 0), (12, 1), (12, 2), (12, 3)], [(4, 0)]⟩
noncomputable def c246 : Code := bodyOf Tryz.f246
noncomputable def fn66_A : Ann := .nil
noncomputable def fn66_D : Ve.Fn := ⟨246, fn66_a, fn66_o, fn66_E, fn66⟩
theorem fn66_w : Walk Tryz.prog fn66_x fn66_D Tryz.f246 c246 21 fn66_A :=
  .of Tryz.func246 (kcast (by kernel_rfl) trivial) fun x y => by kernel_rfl
theorem fn66_s : fn66_D.Says Tryz.prog := fn66_w.says follows tabOk fn89_e_ok
noncomputable def fn66_e : Env := more fn89_e fn66_D
theorem fn66_e_ok : EnvOk Tryz.prog fn66_e := more_ok fn89_e_ok fn66_s
abbrev fn97_E : Ve.End := ⟨[⟨2, (.own .shr), (.list I), none⟩], []⟩
abbrev fn97_a : List ASh := [.val (.list I)]
abbrev fn97_o : List OSh := []
noncomputable def fn97 : argP fn97_a → obP (extObs 0 fn97_o) → Option fn97_E.P
  | (l, ()), () => guardB (decide ((List.length ([] : (List Int)) + List.length l) * 8 ≤ 70368744177664)) (some (((([] : (List Int)) ++ l), ()), ()))
noncomputable def fn97_x : Cx := ⟨tab, fn66_e, fun _ _ => 0, fun _ => false, [], []⟩
noncomputable def c228 : Code := bodyOf Tryz.f228
noncomputable def fn97_A : Ann := .nil
noncomputable def fn97_D : Ve.Fn := ⟨228, fn97_a, fn97_o, fn97_E, fn97⟩
theorem fn97_w : Walk Tryz.prog fn97_x fn97_D Tryz.f228 c228 6 fn97_A :=
  .of Tryz.func228 (kcast (by kernel_rfl) trivial) fun x y => by kernel_rfl
theorem fn97_s : fn97_D.Says Tryz.prog := fn97_w.says follows tabOk fn66_e_ok
noncomputable def fn97_e : Env := more fn66_e fn97_D
theorem fn97_e_ok : EnvOk Tryz.prog fn97_e := more_ok fn66_e_ok fn97_s
abbrev fn83_J0 : Tpl := ⟨[(2, .val .bool), (3, .val (.list I)), (4, .val I), (5, .cst (.prod I (.list (.prod I I)))), (6, .cst (.prod I (.list (.prod I I)))), (11, .val I), (12, .own (.own .shr) (.list I)), (13, .val I), (14, .val .bool), (15, .val I)], [], []⟩
abbrev fn83_J1 : Tpl := ⟨[(2, .val .bool), (3, .val (.list I)), (4, .val I), (5, .cst (.prod I (.list (.prod I I)))), (6, .cst (.prod I (.list (.prod I I)))), (11, .val I), (12, .own (.own .shr) (.list I)), (13, .val I), (14, .val .bool)], [], []⟩
abbrev fn83_J2 : Tpl := ⟨[(2, .val .bool), (3, .val (.list I)), (4, .val I), (5, .cst (.prod I (.list (.prod I I)))), (6, .cst (.prod I (.list (.prod I I)))), (11, .val I), (12, .own .shr (.list I)), (13, .val I), (14, .val .bool), (15, .val I)], [], []⟩
abbrev fn83_J3 : Tpl := ⟨[(2, .val .bool), (3, .val (.list I)), (4, .val I), (5, .cst (.prod I (.list (.prod I I)))), (6, .cst (.prod I (.list (.prod I I)))), (11, .val I), (12, .own .shr (.list I)), (13, .val I), (14, .val .bool)], [], []⟩
abbrev fn83_J4 : Tpl := ⟨[(2, .val .bool), (3, .val (.list I)), (4, .val I), (5, .cst (.prod I (.list (.prod I I)))), (6, .cst (.prod I (.list (.prod I I)))), (11, .val I), (12, .own .shr (.list I)), (13, .val I)], [], []⟩
abbrev fn83_J5 : Tpl := ⟨[(12, .own .shr (.list I))], [], []⟩
abbrev fn83_J6 : Tpl := ⟨[(2, .val .bool), (3, .val (.list I)), (4, .val I), (5, .cst (.prod I (.list (.prod I I)))), (6, .cst (.prod I (.list (.prod I I)))), (11, .val I), (12, .own .shr (.list I)), (13, .val I), (61, .same (12, 0) []), (62, .val (.prod I (.list (.prod I I)))), (63, .val (.prod I (.list (.prod I I)))), (64, .val .bool), (65, .val (.list I)), (67, .val I), (73, .val I)], [], []⟩
abbrev fn83_E : Ve.End := ⟨[⟨10, (.own .shr), (.list (.list I)), none⟩], []⟩
abbrev fn83_a : List ASh := [.val (.prod I (.list (.prod I I))), .val (.prod I (.list (.prod I I))), .val .bool, .val (.list I), .val I]
abbrev fn83_o : List OSh := []
noncomputable def fn83_D0 (rc : argP fn83_a → obP (extObs 0 fn83_o) → Option fn83_E.P) : fn83_J6.P → Option fn83_J4.P
  | ((t2, t3, t4, t5, t6, t11, t12, t13, t62, t63, t64, t65, t67, t73, ()), ()) => match fn97 (t65, ()) () with | some ((r, ()), ()) => guardB (decide ((List.length r + List.length [t67]) * 8 ≤ 70368744177664)) (match rc (t62, t63, t64, (r ++ [t67]), t73, ()) () with | some ((r2, ()), ()) => guardB (decide ((List.length t12 + List.length r2) * 24 ≤ 70368744177664)) (some ((t2, t3, t4, t5, t6, t11, (t12 ++ r2), t13, ()), ())) | none => none) | none => none
noncomputable def fn83_T0 (rc : argP fn83_a → obP (extObs 0 fn83_o) → Option fn83_E.P) : DT fn83_J4 := .node fn83_J6 (fn83_D0 rc) (.br [(5, .sole), (7, .sole), (8, .sole), (13, .sole), (14, .sole), (15, .flo)] .fin (.br [(7, .sole), (5, .sole), (8, .sole), (13, .sole), (14, .sole), (15, .flo)] .fin .nobr))
abbrev fn83_O0 : Out := .one (.ex 2) fn83_J3
noncomputable def fn83_B0 (rc : argP fn83_a → obP (extObs 0 fn83_o) → Option fn83_E.P) : fn83_J2.P → Option (fn83_J2.P ⊕ fn83_O0.P)
  | ((t2, t3, t4, t5, t6, t11, t12, t13, t14, t15, ()), ()) => bif (decide (t15 < t11)) then (bif t14 then (match fn89 (t5, t15, t11, ()) () with | some ((r, ()), ()) => (bif (!r) then (some (.inl ((t2, t3, t4, t5, t6, t11, t12, t13, true, (w64 (t15 + (1 : Int))), ()), ()))) else (guardB (inb t15 (List.length t3)) (match fn66 (t6, (List.getD t3 (Int.toNat t15) (0 : Int)), t13, t2, ()) () with | some ((r2, ()), ()) => some (.inl ((t2, t3, t4, t5, t6, t11, t12, t13, r2, (w64 (t15 + (1 : Int))), ()), ())) | none => none))) | none => none) else (some (.inr ((t2, t3, t4, t5, t6, t11, t12, t13, t14, ()), ())))) else (some (.inr ((t2, t3, t4, t5, t6, t11, t12, t13, t14, ()), ())))
abbrev fn83_O1 : Out := .one (.ex 0) fn83_J5
noncomputable def fn83_B1 (rc : argP fn83_a → obP (extObs 0 fn83_o) → Option fn83_E.P) : fn83_J4.P → Option (fn83_J4.P ⊕ fn83_O1.P)
  | ((t2, t3, t4, t5, t6, t11, t12, t13, ()), ()) => bif (decide (t13 < t6.1)) then (bif (decide ((List.length t12 : Int) ≤ t4)) then (match loopO (fn83_B0 rc) ((t2, t3, t4, t5, t6, t11, t12, t13, true, (0 : Int), ()), ()) with | some ((t2_2, t3_2, t4_2, t5_2, t6_2, t11_2, t12_2, t13_2, t14, ()), ()) => (bif t14 then (match (fn83_D0 rc) ((t2_2, t3_2, t4_2, t5_2, t6_2, t11_2, t12_2, t13_2, t5_2, t6_2, t2_2, t3_2, t13_2, (w64 (t4_2 - (List.length t12_2 : Int))), ()), ()) with | some ((t2_3, t3_3, t4_3, t5_3, t6_3, t11_3, t12_3, t13_3, ()), ()) => some (.inl ((t2_3, t3_3, t4_3, t5_3, t6_3, t11_3, t12_3, (w64 (t13_3 + (1 : Int))), ()), ())) | none => none) else (some (.inl ((t2_2, t3_2, t4_2, t5_2, t6_2, t11_2, t12_2, (w64 (t13_2 + (1 : Int))), ()), ())))) | none => none) else (some (.inr ((t12, ()), ())))) else (some (.inr ((t12, ()), ())))
noncomputable def fn83_F (rc : argP fn83_a → obP (extObs 0 fn83_o) → Option fn83_E.P) : argP fn83_a → obP (extObs 0 fn83_o) → Option fn83_E.P
  | (t0, t1, t2, t3, t4, ()), () => bif ((List.length t3 : Int) == t0.1) then (some (([t3], ()), ())) else (match loopO (fn83_B1 rc) ((t2, t3, t4, t0, t1, (List.length t3 : Int), ([] : (List (List Int))), (0 : Int), ()), ()) with | some ((t12, ()), ()) => some ((t12, ()), ()) | none => none)
noncomputable def fn83 : argP fn83_a → obP (extObs 0 fn83_o) → Option fn83_E.P := fuelF fn83_F 1000
noncomputable def fn83_x (rc : argP fn83_a → obP (extObs 0 fn83_o) → Option fn83_E.P) : Cx := ⟨tab, more fn97_e ⟨181, fn83_a, fn83_o, fn83_E, rc⟩, fun _ _ => 0, fun _ => false, [(24, 0), (48, 0), (48, 1), (48, 2), (48, 3), (58, 0), (58, 1), (58, 2), (58, 3), (68, 0)], [(5, 0), (6, 0)]⟩
noncomputable def c181 : Code := bodyOf Tryz.f181
noncomputable def fn83_A (rc : argP fn83_a → obP (extObs 0 fn83_o) → Option fn83_E.P) : Ann := .seq .nil (.seq .nil (.seq .nil (.seq (.seq .nil (.loop fn83_J4 fn83_O1 (fn83_B1 rc) (.seq .nil (.seq (.seq .nil (.seq (.seq .nil (.loop fn83_J2 fn83_O0 (fn83_B0 rc) (.seq .nil (.seq (.draw [(0, .flo), (1, .flo), (2, .flo), (3, .sole), (4, .flo), (5, .flo), (6, .flo), (7, .flo), (8, .flo), (9, .flo), (11, .flo), (12, .flo), (10, .qui), (13, .sole), (14, .flo), (15, .flo)]) .nil)))) (.seq .nil (.seq (.draws [(0, .flo), (1, .flo), (2, .flo), (3, .flo), (4, .flo), (6, .flo), (9, .flo), (10, .flo), (11, .flo), (12, .flo)] fn83_J4 (fn83_T0 rc)) .nil)))) .nil)))) .nil)))
theorem fn83_r0 (rc : argP fn83_a → obP (extObs 0 fn83_o) → Option fn83_E.P) (p : fn83_J4.P) : run (fn83_x rc) (subc [1, 1, 1, 0, 1, 0, 0] c181) (.seq .nil (.seq (.seq .nil (.seq (.seq .nil (.loop fn83_J2 fn83_O0 (fn83_B0 rc) (.seq .nil (.seq (.draw [(0, .flo), (1, .flo), (2, .flo), (3, .sole), (4, .flo), (5, .flo), (6, .flo), (7, .flo), (8, .flo), (9, .flo), (11, .flo), (12, .flo), (10, .qui), (13, .sole), (14, .flo), (15, .flo)]) .nil)))) (.seq .nil (.seq (.draws [(0, .flo), (1, .flo), (2, .flo), (3, .flo), (4, .flo), (6, .flo), (9, .flo), (10, .flo), (11, .flo), (12, .flo)] fn83_J4 (fn83_T0 rc)) .nil)))) .nil)) (fn83_J4.S p) (leaf fn83_J4 fn83_O1) = (fn83_B1 rc) p := by kernel_rfl
theorem fn83_r1 (rc : argP fn83_a → obP (extObs 0 fn83_o) → Option fn83_E.P) (p : fn83_J2.P) : run (fn83_x rc) (subc [1, 1, 1, 0, 1, 0, 0, 1, 0, 0, 1, 0, 1, 0, 0] c181) (.seq .nil (.seq (.draw [(0, .flo), (1, .flo), (2, .flo), (3, .sole), (4, .flo), (5, .flo), (6, .flo), (7, .flo), (8, .flo), (9, .flo), (11, .flo), (12, .flo), (10, .qui), (13, .sole), (14, .flo), (15, .flo)]) .nil)) (fn83_J2.S p) (leaf fn83_J2 fn83_O0) = (fn83_B0 rc) p := by kernel_rfl
theorem fn83_D0b0 (rc : argP fn83_a → obP (extObs 0 fn83_o) → Option fn83_E.P) (p : fn83_J6.P) : runDrawn (fn83_x rc) (opsOf (subc [1, 1, 1, 0, 1, 0, 0, 1, 0, 0, 1, 1, 1, 0] c181)) [(5, .sole), (7, .sole), (8, .sole), (13, .sole), (14, .sole), (15, .flo)] (fn83_J6.S p) (endT (fn83_x rc) (.fin : DT fn83_J4)) = (fn83_D0 rc) p := by kernel_rfl
theorem fn83_D0b1 (rc : argP fn83_a → obP (extObs 0 fn83_o) → Option fn83_E.P) (p : fn83_J6.P) : runDrawn (fn83_x rc) (opsOf (subc [1, 1, 1, 0, 1, 0, 0, 1, 0, 0, 1, 1, 1, 0] c181)) [(7, .sole), (5, .sole), (8, .sole), (13, .sole), (14, .sole), (15, .flo)] (fn83_J6.S p) (endT (fn83_x rc) (.fin : DT fn83_J4)) = (fn83_D0 rc) p := by kernel_rfl
noncomputable def fn83_D : Ve.Fn := ⟨181, fn83_a, fn83_o, fn83_E, fn83⟩
theorem fn83_w (rc : argP fn83_a → obP (extObs 0 fn83_o) → Option fn83_E.P) : Walk Tryz.prog (fn83_x rc) ⟨181, fn83_a, fn83_o, fn83_E, fn83_F rc⟩ Tryz.f181 c181 77 (fn83_A rc) :=
  .of Tryz.func181 (kcast (by kernel_rfl) (⟨(fn83_r0 rc), (fn83_r1 rc), (fn83_D0b0 rc), (fn83_D0b1 rc), trivial⟩ : (∀ p, run (fn83_x rc) (subc [1, 1, 1, 0, 1, 0, 0] c181) (.seq .nil (.seq (.seq .nil (.seq (.seq .nil (.loop fn83_J2 fn83_O0 (fn83_B0 rc) (.seq .nil (.seq (.draw [(0, .flo), (1, .flo), (2, .flo), (3, .sole), (4, .flo), (5, .flo), (6, .flo), (7, .flo), (8, .flo), (9, .flo), (11, .flo), (12, .flo), (10, .qui), (13, .sole), (14, .flo), (15, .flo)]) .nil)))) (.seq .nil (.seq (.draws [(0, .flo), (1, .flo), (2, .flo), (3, .flo), (4, .flo), (6, .flo), (9, .flo), (10, .flo), (11, .flo), (12, .flo)] fn83_J4 (fn83_T0 rc)) .nil)))) .nil)) (fn83_J4.S p) (leaf fn83_J4 fn83_O1) = (fn83_B1 rc) p) ∧ (∀ p, run (fn83_x rc) (subc [1, 1, 1, 0, 1, 0, 0, 1, 0, 0, 1, 0, 1, 0, 0] c181) (.seq .nil (.seq (.draw [(0, .flo), (1, .flo), (2, .flo), (3, .sole), (4, .flo), (5, .flo), (6, .flo), (7, .flo), (8, .flo), (9, .flo), (11, .flo), (12, .flo), (10, .qui), (13, .sole), (14, .flo), (15, .flo)]) .nil)) (fn83_J2.S p) (leaf fn83_J2 fn83_O0) = (fn83_B0 rc) p) ∧ (∀ p, runDrawn (fn83_x rc) (opsOf (subc [1, 1, 1, 0, 1, 0, 0, 1, 0, 0, 1, 1, 1, 0] c181)) [(5, .sole), (7, .sole), (8, .sole), (13, .sole), (14, .sole), (15, .flo)] (fn83_J6.S p) (endT (fn83_x rc) (.fin : DT fn83_J4)) = (fn83_D0 rc) p) ∧ (∀ p, runDrawn (fn83_x rc) (opsOf (subc [1, 1, 1, 0, 1, 0, 0, 1, 0, 0, 1, 1, 1, 0] c181)) [(7, .sole), (5, .sole), (8, .sole), (13, .sole), (14, .sole), (15, .flo)] (fn83_J6.S p) (endT (fn83_x rc) (.fin : DT fn83_J4)) = (fn83_D0 rc) p) ∧ True)) fun x y => by kernel_rfl
theorem fn83_s : fn83_D.Says Tryz.prog := fuel_says (fun rc h => (fn83_w rc).says follows tabOk (more_ok fn97_e_ok h)) 1000
noncomputable def fn83_e : Env := more fn97_e fn83_D
theorem fn83_e_ok : EnvOk Tryz.prog fn83_e := more_ok fn97_e_ok fn83_s
abbrev fn73_J0 : Tpl := ⟨[(0, .val (.list I)), (1, .val (.list I)), (5, .val I), (6, .val I)], [], []⟩
abbrev fn73_J1 : Tpl := ⟨[(5, .val I)], [], []⟩
abbrev fn73_E : Ve.End := ⟨[⟨4, .shr, I, none⟩], []⟩
abbrev fn73_a : List ASh := [.val (.list I), .val (.list I)]
abbrev fn73_o : List OSh := []
abbrev fn73_O0 : Out := .one (.ex 0) fn73_J1
noncomputable def fn73_B0 : fn73_J0.P → Option (fn73_J0.P ⊕ fn73_O0.P)
  | ((a, b, count, i, ()), ()) => bif (decide (i < (List.length a : Int))) then (guardB (inb i (List.length a)) (guardB (inb i (List.length b)) (bif ((List.getD a (Int.toNat i) (0 : Int)) != (List.getD b (Int.toNat i) (0 : Int))) then (some (.inl ((a, b, (w64 (count + (1 : Int))), (w64 (i + (1 : Int))), ()), ()))) else (some (.inl ((a, b, count, (w64 (i + (1 : Int))), ()), ())))))) else (some (.inr ((count, ()), ())))
noncomputable def fn73 : argP fn73_a → obP (extObs 0 fn73_o) → Option fn73_E.P
  | (a, b, ()), () => match loopO fn73_B0 ((a, b, (0 : Int), (0 : Int), ()), ()) with | some ((count, ()), ()) => some ((count, ()), ()) | none => none
noncomputable def fn73_x : Cx := ⟨tab, fn83_e, fun _ _ => 0, fun _ => false, [], []⟩
noncomputable def c309 : Code := bodyOf Tryz.f309
noncomputable def fn73_A : Ann := .seq .nil (.seq .nil (.seq (.seq .nil (.loop fn73_J0 fn73_O0 fn73_B0 (.seq .nil (.seq (.seq (.draw [(0, .flo), (1, .flo), (2, .flo), (3, .flo), (4, .flo), (5, .flo), (6, .flo), (7, .flo), (8, .flo)]) .nil) .nil)))) .nil))
theorem fn73_r0 (p : fn73_J0.P) : run fn73_x (subc [1, 1, 0, 1, 0, 0] c309) (.seq .nil (.seq (.seq (.draw [(0, .flo), (1, .flo), (2, .flo), (3, .flo), (4, .flo), (5, .flo), (6, .flo), (7, .flo), (8, .flo)]) .nil) .nil)) (fn73_J0.S p) (leaf fn73_J0 fn73_O0) = fn73_B0 p := by kernel_rfl
noncomputable def fn73_D : Ve.Fn := ⟨309, fn73_a, fn73_o, fn73_E, fn73⟩
theorem fn73_w : Walk Tryz.prog fn73_x fn73_D Tryz.f309 c309 25 fn73_A :=
  .of Tryz.func309 (kcast (by kernel_rfl) (⟨fn73_r0, trivial⟩ : (∀ p, run fn73_x (subc [1, 1, 0, 1, 0, 0] c309) (.seq .nil (.seq (.seq (.draw [(0, .flo), (1, .flo), (2, .flo), (3, .flo), (4, .flo), (5, .flo), (6, .flo), (7, .flo), (8, .flo)]) .nil) .nil)) (fn73_J0.S p) (leaf fn73_J0 fn73_O0) = fn73_B0 p) ∧ True)) fun x y => by kernel_rfl
theorem fn73_s : fn73_D.Says Tryz.prog := fn73_w.says follows tabOk fn83_e_ok
noncomputable def fn73_e : Env := more fn83_e fn73_D
theorem fn73_e_ok : EnvOk Tryz.prog fn73_e := more_ok fn83_e_ok fn73_s
abbrev fn74_J0 : Tpl := ⟨[(0, .val (.list (.list I))), (2, .ptr (2, 0)), (3, .ptr (3, 0)), (4, .val I), (5, .val I)], [((2, 0), .box (.prod (.own (.own .shr)) (.own .shr)) (.prod (.list (.list I)) (.list (.prod I I)))), ((3, 0), .box (.prod .shr (.own .shr)) (.prod (.list (.list I)) (.list (.prod I I))))], []⟩
abbrev fn74_J1 : Tpl := ⟨[(0, .val (.list (.list I))), (2, .ptr (2, 0)), (3, .ptr (3, 0)), (4, .val I)], [((2, 0), .box (.prod (.own (.own .shr)) (.own .shr)) (.prod (.list (.list I)) (.list (.prod I I)))), ((3, 0), .box (.prod .shr (.own .shr)) (.prod (.list (.list I)) (.list (.prod I I))))], []⟩
abbrev fn74_J2 : Tpl := ⟨[(2, .ptr (2, 0)), (3, .ptr (3, 0))], [((2, 0), .box (.prod (.own (.own .shr)) (.own .shr)) (.prod (.list (.list I)) (.list (.prod I I)))), ((3, 0), .box (.prod .shr (.own .shr)) (.prod (.list (.list I)) (.list (.prod I I))))], []⟩
abbrev fn74_E : Ve.End := ⟨[⟨2, (.prod .shr (.own .shr)), (.prod (.list (.list I)) (.list (.prod I I))), some 49⟩], []⟩
abbrev fn74_a : List ASh := [.val (.list (.list I))]
abbrev fn74_o : List OSh := []
abbrev fn74_O0 : Out := .one (.ex 2) fn74_J1
noncomputable def fn74_B0 : fn74_J0.P → Option (fn74_J0.P ⊕ fn74_O0.P)
  | ((states, i, j, ()), (t2, out, ())) => bif (decide (j < (List.length states : Int))) then (guardB (inb i (List.length states)) (guardB (inb j (List.length states)) (match fn73 ((List.getD states (Int.toNat i) ([] : (List Int))), (List.getD states (Int.toNat j) ([] : (List Int))), ()) () with | some ((r, ()), ()) => (bif (r == (1 : Int)) then (guardB (decide ((List.length out.2 + List.length [(i, j)]) * 16 ≤ 70368744177664)) (some (.inl ((states, i, (w64 (j + (1 : Int))), ()), (t2, (out.1, (out.2 ++ [(i, j)])), ()))))) else (some (.inl ((states, i, (w64 (j + (1 : Int))), ()), (t2, out, ()))))) | none => none))) else (some (.inr ((states, i, ()), (t2, out, ()))))
abbrev fn74_O1 : Out := .one (.ex 0) fn74_J2
noncomputable def fn74_B1 : fn74_J1.P → Option (fn74_J1.P ⊕ fn74_O1.P)
  | ((states, i, ()), (t2, out, ())) => bif (decide (i < (List.length states : Int))) then (match loopO fn74_B0 ((states, i, (w64 (i + (1 : Int))), ()), (t2, out, ())) with | some ((states2, i2, ()), (t2_2, out2, ())) => some (.inl ((states2, (w64 (i2 + (1 : Int))), ()), (t2_2, out2, ()))) | none => none) else (some (.inr ((), (t2, out, ()))))
noncomputable def fn74 : argP fn74_a → obP (extObs 0 fn74_o) → Option fn74_E.P
  | (states, ()), () => match loopO fn74_B1 ((states, (0 : Int), ()), ((([] : (List (List Int))), ([] : (List (Int × Int)))), (states, ([] : (List (Int × Int)))), ())) with | some ((), (t2, out, ())) => some (((out.1, out.2), ()), ()) | none => none
noncomputable def fn74_x : Cx := ⟨tab, fn73_e, fun _ _ => 0, fun _ => false, [(7, 0), (31, 0), (31, 1), (31, 2), (31, 3), (38, 0)], []⟩
noncomputable def c247 : Code := bodyOf Tryz.f247
noncomputable def fn74_A : Ann := .seq .nil (.seq .nil (.seq (.seq .nil (.loop fn74_J1 fn74_O1 fn74_B1 (.seq .nil (.seq (.seq .nil (.loop fn74_J0 fn74_O0 fn74_B0 (.seq .nil (.seq (.seq (.draw [(0, .flo), (1, .flo), (2, .flo), (3, .flo), (4, .flo), (5, .flo), (6, .flo), (7, .flo), (8, .sole), (9, .flo)]) .nil) .nil)))) .nil)))) .nil))
theorem fn74_r0 (p : fn74_J1.P) : run fn74_x (subc [1, 1, 0, 1, 0, 0] c247) (.seq .nil (.seq (.seq .nil (.loop fn74_J0 fn74_O0 fn74_B0 (.seq .nil (.seq (.seq (.draw [(0, .flo), (1, .flo), (2, .flo), (3, .flo), (4, .flo), (5, .flo), (6, .flo), (7, .flo), (8, .sole), (9, .flo)]) .nil) .nil)))) .nil)) (fn74_J1.S p) (leaf fn74_J1 fn74_O1) = fn74_B1 p := by kernel_rfl
theorem fn74_r1 (p : fn74_J0.P) : run fn74_x (subc [1, 1, 0, 1, 0, 0, 1, 0, 0, 1, 0, 0] c247) (.seq .nil (.seq (.seq (.draw [(0, .flo), (1, .flo), (2, .flo), (3, .flo), (4, .flo), (5, .flo), (6, .flo), (7, .flo), (8, .sole), (9, .flo)]) .nil) .nil)) (fn74_J0.S p) (leaf fn74_J0 fn74_O0) = fn74_B0 p := by kernel_rfl
noncomputable def fn74_D : Ve.Fn := ⟨247, fn74_a, fn74_o, fn74_E, fn74⟩
theorem fn74_w : Walk Tryz.prog fn74_x fn74_D Tryz.f247 c247 42 fn74_A :=
  .of Tryz.func247 (kcast (by kernel_rfl) (⟨fn74_r0, fn74_r1, trivial⟩ : (∀ p, run fn74_x (subc [1, 1, 0, 1, 0, 0] c247) (.seq .nil (.seq (.seq .nil (.loop fn74_J0 fn74_O0 fn74_B0 (.seq .nil (.seq (.seq (.draw [(0, .flo), (1, .flo), (2, .flo), (3, .flo), (4, .flo), (5, .flo), (6, .flo), (7, .flo), (8, .sole), (9, .flo)]) .nil) .nil)))) .nil)) (fn74_J1.S p) (leaf fn74_J1 fn74_O1) = fn74_B1 p) ∧ (∀ p, run fn74_x (subc [1, 1, 0, 1, 0, 0, 1, 0, 0, 1, 0, 0] c247) (.seq .nil (.seq (.seq (.draw [(0, .flo), (1, .flo), (2, .flo), (3, .flo), (4, .flo), (5, .flo), (6, .flo), (7, .flo), (8, .sole), (9, .flo)]) .nil) .nil)) (fn74_J0.S p) (leaf fn74_J0 fn74_O0) = fn74_B0 p) ∧ True)) fun x y => by kernel_rfl
theorem fn74_s : fn74_D.Says Tryz.prog := fn74_w.says follows tabOk fn73_e_ok
noncomputable def fn74_e : Env := more fn73_e fn74_D
theorem fn74_e_ok : EnvOk Tryz.prog fn74_e := more_ok fn73_e_ok fn74_s
abbrev fn61_E : Ve.End := ⟨[⟨6, (.prod .shr (.own .shr)), (.prod (.list (.list I)) (.list (.prod I I))), some 49⟩, ⟨7, .shr, .bool, none⟩], []⟩
abbrev fn61_a : List ASh := [.val (.prod I (.list (.prod I I))), .val (.prod I (.list (.prod I I))), .val .bool]
abbrev fn61_o : List OSh := []
noncomputable def fn61 : argP fn61_a → obP (extObs 0 fn61_o) → Option fn61_E.P
  | (g, h, lazy, ()), () => match fn83 (g, h, lazy, ([] : (List Int)), (300 : Int), ()) () with | some ((r, ()), ()) => (bif (decide ((300 : Int) < (List.length r : Int))) then (some (((([] : (List (List Int))), ([] : (List (Int × Int)))), false, ()), ())) else (match fn74 (r, ()) () with | some ((r2, ()), ()) => some (((r2.1, r2.2), true, ()), ()) | none => none)) | none => none
noncomputable def fn61_x : Cx := ⟨tab, fn74_e, fun _ _ => 0, fun _ => false, [(12, 0), (13, 0), (13, 1), (13, 2), (13, 3), (8, 0)], [(3, 0), (4, 0)]⟩
noncomputable def c127 : Code := bodyOf Tryz.f127
noncomputable def fn61_A : Ann := .nil
noncomputable def fn61_D : Ve.Fn := ⟨127, fn61_a, fn61_o, fn61_E, fn61⟩
theorem fn61_w : Walk Tryz.prog fn61_x fn61_D Tryz.f127 c127 20 fn61_A :=
  .of Tryz.func127 (kcast (by kernel_rfl) trivial) fun x y => by kernel_rfl
theorem fn61_s : fn61_D.Says Tryz.prog := fn61_w.says follows tabOk fn74_e_ok
noncomputable def fn61_e : Env := more fn74_e fn61_D
theorem fn61_e_ok : EnvOk Tryz.prog fn61_e := more_ok fn74_e_ok fn61_s
abbrev fn58_E : Ve.End := ⟨[⟨6, (.prod .shr (.own .shr)), (.prod (.list (.list I)) (.list (.prod I I))), some 49⟩, ⟨7, .shr, .bool, none⟩], []⟩
abbrev fn58_a : List ASh := [.val (.prod I (.list (.prod I I))), .val (.prod I (.list (.prod I I))), .val .bool]
abbrev fn58_o : List OSh := []
noncomputable def fn58 : argP fn58_a → obP (extObs 0 fn58_o) → Option fn58_E.P
  | (g, h, lazy, ()), () => match fn67 (g, h, ()) () with | some ((r, ()), ()) => (bif (!r) then (some (((([] : (List (List Int))), ([] : (List (Int × Int)))), false, ()), ())) else (match fn61 (g, h, lazy, ()) () with | some ((r2, r3, ()), ()) => some (((r2.1, r2.2), r3, ()), ()) | none => none)) | none => none
noncomputable def fn58_x : Cx := ⟨tab, fn61_e, fun _ _ => 0, fun _ => false, [(10, 0), (10, 1), (10, 2), (10, 3)], [(3, 0), (4, 0)]⟩
noncomputable def c30 : Code := bodyOf Tryz.f30
noncomputable def fn58_A : Ann := .nil
noncomputable def fn58_D : Ve.Fn := ⟨30, fn58_a, fn58_o, fn58_E, fn58⟩
theorem fn58_w : Walk Tryz.prog fn58_x fn58_D Tryz.f30 c30 19 fn58_A :=
  .of Tryz.func30 (kcast (by kernel_rfl) trivial) fun x y => by kernel_rfl
theorem fn58_s : fn58_D.Says Tryz.prog := fn58_w.says follows tabOk fn61_e_ok
noncomputable def fn58_e : Env := more fn61_e fn58_D
theorem fn58_e_ok : EnvOk Tryz.prog fn58_e := more_ok fn61_e_ok fn58_s
abbrev fn95_J0 : Tpl := ⟨[(0, .val (.list I)), (1, .val (.list I)), (5, .val I)], [], []⟩
abbrev fn95_J1 : Tpl := ⟨[(4, .val .bool)], [], []⟩
abbrev fn95_J2 : Tpl := ⟨[], [], []⟩
abbrev fn95_E : Ve.End := ⟨[⟨4, .shr, .bool, none⟩], []⟩
abbrev fn95_a : List ASh := [.val (.list I), .val (.list I)]
abbrev fn95_o : List OSh := []
abbrev fn95_O0 : Out := .or .ret fn95_J1 (.one (.ex 0) fn95_J2)
noncomputable def fn95_B0 : fn95_J0.P → Option (fn95_J0.P ⊕ fn95_O0.P)
  | ((a, b, i, ()), ()) => bif (decide (i < (List.length a : Int))) then (guardB (inb i (List.length a)) (guardB (inb i (List.length b)) (bif ((List.getD a (Int.toNat i) (0 : Int)) != (List.getD b (Int.toNat i) (0 : Int))) then (some (.inr (.inl ((false, ()), ())))) else (some (.inl ((a, b, (w64 (i + (1 : Int))), ()), ())))))) else (some (.inr (.inr ((), ()))))
noncomputable def fn95 : argP fn95_a → obP (extObs 0 fn95_o) → Option fn95_E.P
  | (a, b, ()), () => bif ((List.length a : Int) != (List.length b : Int)) then (some ((false, ()), ())) else (match loopO fn95_B0 ((a, b, (0 : Int), ()), ()) with | some (.inl ((t4, ()), ())) => some ((t4, ()), ()) | some (.inr ((), ())) => some ((true, ()), ()) | none => none)
noncomputable def fn95_x : Cx := ⟨tab, fn58_e, fun _ _ => 0, fun _ => false, [], []⟩
noncomputable def c27 : Code := bodyOf Tryz.f27
noncomputable def fn95_A : Ann := .seq .nil (.seq .nil (.seq (.seq .nil (.loop fn95_J0 fn95_O0 fn95_B0 (.seq .nil (.seq (.seq (.draw [(0, .flo), (1, .flo), (2, .flo), (3, .flo), (4, .flo), (5, .flo), (6, .flo), (7, .flo), (8, .flo)]) .nil) .nil)))) .nil))
theorem fn95_r0 (p : fn95_J0.P) : run fn95_x (subc [1, 1, 0, 1, 0, 0] c27) (.seq .nil (.seq (.seq (.draw [(0, .flo), (1, .flo), (2, .flo), (3, .flo), (4, .flo), (5, .flo), (6, .flo), (7, .flo), (8, .flo)]) .nil) .nil)) (fn95_J0.S p) (leaf fn95_J0 fn95_O0) = fn95_B0 p := by kernel_rfl
noncomputable def fn95_D : Ve.Fn := ⟨27, fn95_a, fn95_o, fn95_E, fn95⟩
theorem fn95_w : Walk Tryz.prog fn95_x fn95_D Tryz.f27 c27 26 fn95_A :=
  .of Tryz.func27 (kcast (by kernel_rfl) (⟨fn95_r0, trivial⟩ : (∀ p, run fn95_x (subc [1, 1, 0, 1, 0, 0] c27) (.seq .nil (.seq (.seq (.draw [(0, .flo), (1, .flo), (2, .flo), (3, .flo), (4, .flo), (5, .flo), (6, .flo), (7, .flo), (8, .flo)]) .nil) .nil)) (fn95_J0.S p) (leaf fn95_J0 fn95_O0) = fn95_B0 p) ∧ True)) fun x y => by kernel_rfl
theorem fn95_s : fn95_D.Says Tryz.prog := fn95_w.says follows tabOk fn58_e_ok
noncomputable def fn95_e : Env := more fn58_e fn95_D
theorem fn95_e_ok : EnvOk Tryz.prog fn95_e := more_ok fn58_e_ok fn95_s
abbrev fn81_J0 : Tpl := ⟨[(0, .val (.list (.list I))), (1, .val (.list (.list I))), (5, .val I)], [], []⟩
abbrev fn81_J1 : Tpl := ⟨[(4, .val .bool)], [], []⟩
abbrev fn81_J2 : Tpl := ⟨[], [], []⟩
abbrev fn81_E : Ve.End := ⟨[⟨4, .shr, .bool, none⟩], []⟩
abbrev fn81_a : List ASh := [.val (.list (.list I)), .val (.list (.list I))]
abbrev fn81_o : List OSh := []
abbrev fn81_O0 : Out := .or .ret fn81_J1 (.one (.ex 0) fn81_J2)
noncomputable def fn81_B0 : fn81_J0.P → Option (fn81_J0.P ⊕ fn81_O0.P)
  | ((a, b, i, ()), ()) => bif (decide (i < (List.length a : Int))) then (guardB (inb i (List.length a)) (guardB (inb i (List.length b)) (match fn95 ((List.getD a (Int.toNat i) ([] : (List Int))), (List.getD b (Int.toNat i) ([] : (List Int))), ()) () with | some ((r, ()), ()) => (bif (!r) then (some (.inr (.inl ((false, ()), ())))) else (some (.inl ((a, b, (w64 (i + (1 : Int))), ()), ())))) | none => none))) else (some (.inr (.inr ((), ()))))
noncomputable def fn81 : argP fn81_a → obP (extObs 0 fn81_o) → Option fn81_E.P
  | (a, b, ()), () => bif ((List.length a : Int) != (List.length b : Int)) then (some ((false, ()), ())) else (match loopO fn81_B0 ((a, b, (0 : Int), ()), ()) with | some (.inl ((t4, ()), ())) => some ((t4, ()), ()) | some (.inr ((), ())) => some ((true, ()), ()) | none => none)
noncomputable def fn81_x : Cx := ⟨tab, fn95_e, fun _ _ => 0, fun _ => false, [(25, 0), (25, 1), (25, 2), (25, 3)], []⟩
noncomputable def c69 : Code := bodyOf Tryz.f69
noncomputable def fn81_A : Ann := .seq .nil (.seq .nil (.seq (.seq .nil (.loop fn81_J0 fn81_O0 fn81_B0 (.seq .nil (.seq (.seq (.draw [(0, .flo), (1, .flo), (2, .flo), (3, .flo), (4, .flo), (5, .flo), (6, .flo), (7, .flo), (8, .sole), (9, .flo)]) .nil) .nil)))) .nil))
theorem fn81_r0 (p : fn81_J0.P) : run fn81_x (subc [1, 1, 0, 1, 0, 0] c69) (.seq .nil (.seq (.seq (.draw [(0, .flo), (1, .flo), (2, .flo), (3, .flo), (4, .flo), (5, .flo), (6, .flo), (7, .flo), (8, .sole), (9, .flo)]) .nil) .nil)) (fn81_J0.S p) (leaf fn81_J0 fn81_O0) = fn81_B0 p := by kernel_rfl
noncomputable def fn81_D : Ve.Fn := ⟨69, fn81_a, fn81_o, fn81_E, fn81⟩
theorem fn81_w : Walk Tryz.prog fn81_x fn81_D Tryz.f69 c69 27 fn81_A :=
  .of Tryz.func69 (kcast (by kernel_rfl) (⟨fn81_r0, trivial⟩ : (∀ p, run fn81_x (subc [1, 1, 0, 1, 0, 0] c69) (.seq .nil (.seq (.seq (.draw [(0, .flo), (1, .flo), (2, .flo), (3, .flo), (4, .flo), (5, .flo), (6, .flo), (7, .flo), (8, .sole), (9, .flo)]) .nil) .nil)) (fn81_J0.S p) (leaf fn81_J0 fn81_O0) = fn81_B0 p) ∧ True)) fun x y => by kernel_rfl
theorem fn81_s : fn81_D.Says Tryz.prog := fn81_w.says follows tabOk fn95_e_ok
noncomputable def fn81_e : Env := more fn95_e fn81_D
theorem fn81_e_ok : EnvOk Tryz.prog fn81_e := more_ok fn95_e_ok fn81_s
abbrev fn79_J0 : Tpl := ⟨[(0, .val (.list (.prod I I))), (1, .val (.list (.prod I I))), (5, .val I)], [], []⟩
abbrev fn79_J1 : Tpl := ⟨[(4, .val .bool)], [], []⟩
abbrev fn79_J2 : Tpl := ⟨[], [], []⟩
abbrev fn79_E : Ve.End := ⟨[⟨4, .shr, .bool, none⟩], []⟩
abbrev fn79_a : List ASh := [.val (.list (.prod I I)), .val (.list (.prod I I))]
abbrev fn79_o : List OSh := []
abbrev fn79_O0 : Out := .or .ret fn79_J1 (.one (.ex 0) fn79_J2)
noncomputable def fn79_B0 : fn79_J0.P → Option (fn79_J0.P ⊕ fn79_O0.P)
  | ((a, b, i, ()), ()) => bif (decide (i < (List.length a : Int))) then (guardB (inb i (List.length a)) (guardB (inb i (List.length b)) (bif (!((((List.getD a (Int.toNat i) ((0 : Int), (0 : Int))).1) == ((List.getD b (Int.toNat i) ((0 : Int), (0 : Int))).1)) && (((List.getD a (Int.toNat i) ((0 : Int), (0 : Int))).2) == ((List.getD b (Int.toNat i) ((0 : Int), (0 : Int))).2)))) then (some (.inr (.inl ((false, ()), ())))) else (some (.inl ((a, b, (w64 (i + (1 : Int))), ()), ())))))) else (some (.inr (.inr ((), ()))))
noncomputable def fn79 : argP fn79_a → obP (extObs 0 fn79_o) → Option fn79_E.P
  | (a, b, ()), () => bif ((List.length a : Int) != (List.length b : Int)) then (some ((false, ()), ())) else (match loopO fn79_B0 ((a, b, (0 : Int), ()), ()) with | some (.inl ((t4, ()), ())) => some ((t4, ()), ()) | some (.inr ((), ())) => some ((true, ()), ()) | none => none)
noncomputable def fn79_x : Cx := ⟨tab, fn81_e, fun _ _ => 0, fun _ => false, [], []⟩
noncomputable def c53 : Code := bodyOf Tryz.f53
noncomputable def fn79_A : Ann := .seq .nil (.seq .nil (.seq (.seq .nil (.loop fn79_J0 fn79_O0 fn79_B0 (.seq .nil (.seq (.seq (.draw [(0, .flo), (1, .flo), (2, .flo), (3, .flo), (4, .flo), (5, .flo), (6, .flo), (7, .flo), (8, .flo)]) .nil) .nil)))) .nil))
theorem fn79_r0 (p : fn79_J0.P) : run fn79_x (subc [1, 1, 0, 1, 0, 0] c53) (.seq .nil (.seq (.seq (.draw [(0, .flo), (1, .flo), (2, .flo), (3, .flo), (4, .flo), (5, .flo), (6, .flo), (7, .flo), (8, .flo)]) .nil) .nil)) (fn79_J0.S p) (leaf fn79_J0 fn79_O0) = fn79_B0 p := by kernel_rfl
noncomputable def fn79_D : Ve.Fn := ⟨53, fn79_a, fn79_o, fn79_E, fn79⟩
theorem fn79_w : Walk Tryz.prog fn79_x fn79_D Tryz.f53 c53 26 fn79_A :=
  .of Tryz.func53 (kcast (by kernel_rfl) (⟨fn79_r0, trivial⟩ : (∀ p, run fn79_x (subc [1, 1, 0, 1, 0, 0] c53) (.seq .nil (.seq (.seq (.draw [(0, .flo), (1, .flo), (2, .flo), (3, .flo), (4, .flo), (5, .flo), (6, .flo), (7, .flo), (8, .flo)]) .nil) .nil)) (fn79_J0.S p) (leaf fn79_J0 fn79_O0) = fn79_B0 p) ∧ True)) fun x y => by kernel_rfl
theorem fn79_s : fn79_D.Says Tryz.prog := fn79_w.says follows tabOk fn81_e_ok
noncomputable def fn79_e : Env := more fn81_e fn79_D
theorem fn79_e_ok : EnvOk Tryz.prog fn79_e := more_ok fn81_e_ok fn79_s
abbrev fn80_E : Ve.End := ⟨[⟨4, .shr, .bool, none⟩], []⟩
abbrev fn80_a : List ASh := [.val (.prod (.list (.list I)) (.list (.prod I I))), .val (.prod (.list (.list I)) (.list (.prod I I)))]
abbrev fn80_o : List OSh := []
noncomputable def fn80 : argP fn80_a → obP (extObs 0 fn80_o) → Option fn80_E.P
  | (a, b, ()), () => match fn81 (a.1, b.1, ()) () with | some ((r, ()), ()) => (bif r then (match fn79 (a.2, b.2, ()) () with | some ((r2, ()), ()) => some ((r2, ()), ()) | none => none) else (some ((false, ()), ()))) | none => none
noncomputable def fn80_x : Cx := ⟨tab, fn79_e, fun _ _ => 0, fun _ => false, [(9, 0), (9, 1), (9, 2), (9, 3), (15, 0), (15, 1), (15, 2), (15, 3)], [(2, 0), (3, 0)]⟩
noncomputable def c31 : Code := bodyOf Tryz.f31
noncomputable def fn80_A : Ann := .nil
noncomputable def fn80_D : Ve.Fn := ⟨31, fn80_a, fn80_o, fn80_E, fn80⟩
theorem fn80_w : Walk Tryz.prog fn80_x fn80_D Tryz.f31 c31 17 fn80_A :=
  .of Tryz.func31 (kcast (by kernel_rfl) trivial) fun x y => by kernel_rfl
theorem fn80_s : fn80_D.Says Tryz.prog := fn80_w.says follows tabOk fn79_e_ok
noncomputable def fn80_e : Env := more fn79_e fn80_D
theorem fn80_e_ok : EnvOk Tryz.prog fn80_e := more_ok fn79_e_ok fn80_s
abbrev fn20_E : Ve.End := ⟨[⟨3, .shr, .bool, none⟩], [.box .shr I]⟩
abbrev fn20_a : List ASh := [.val (.list I), .adr 0]
abbrev fn20_o : List OSh := [.box .shr I]
noncomputable def fn20 : argP fn20_a → obP (extObs 0 fn20_o) → Option fn20_E.P
  | (t0, ()), (o0, ()) => some ((true, ()), ((w64 (o0 + (1 : Int))), ()))
noncomputable def fn20_x : Cx := ⟨tab, fn80_e, fun _ _ => 0, fun _ => false, [], []⟩
noncomputable def c178 : Code := bodyOf Tryz.f178
noncomputable def fn20_A : Ann := .nil
noncomputable def fn20_D : Ve.Fn := ⟨178, fn20_a, fn20_o, fn20_E, fn20⟩
theorem fn20_w : Walk Tryz.prog fn20_x fn20_D Tryz.f178 c178 6 fn20_A :=
  .of Tryz.func178 (kcast (by kernel_rfl) trivial) fun x y => by kernel_rfl
theorem fn20_s : fn20_D.Says Tryz.prog := fn20_w.says follows tabOk fn80_e_ok
noncomputable def fn20_e : Env := more fn80_e fn20_D
theorem fn20_e_ok : EnvOk Tryz.prog fn20_e := more_ok fn80_e_ok fn20_s
abbrev fn1_J0 : Tpl := ⟨[(1, .ptr (1000000, 0)), (3, .ptr (1000002, 0)), (4, .ptr (1000003, 0)), (5, .ptr (1000004, 0)), (6, .ptr (1000005, 0)), (7, .ptr (7, 0)), (19, .val I), (20, .val I)], [((1000000, 0), .box .shr (.prod I (.list (.prod I I)))), ((1000002, 0), .box (.own .shr) (.list I)), ((1000003, 0), .box .shr (.prod I (.list (.prod I I)))), ((1000004, 0), .box .shr .bool), ((1000005, 0), .fbox (some ⟨258, [(1000000, 0), (1000001, 0), (1000002, 0), (1000003, 0), (1000004, 0), (1000005, 0)]⟩)), ((7, 0), .box .shr I), ((1000001, 0), .fbox (some ⟨178, [(1000006, 0)]⟩)), ((1000006, 0), .box .shr I)], []⟩
abbrev fn1_J1 : Tpl := ⟨[(8, .val .bool)], [((1000000, 0), .box .shr (.prod I (.list (.prod I I)))), ((1000001, 0), .fbox (some ⟨178, [(1000006, 0)]⟩)), ((1000002, 0), .box (.own .shr) (.list I)), ((1000003, 0), .box .shr (.prod I (.list (.prod I I)))), ((1000004, 0), .box .shr .bool), ((1000005, 0), .fbox (some ⟨258, [(1000000, 0), (1000001, 0), (1000002, 0), (1000003, 0), (1000004, 0), (1000005, 0)]⟩)), ((1000006, 0), .box .shr I)], []⟩
abbrev fn1_J2 : Tpl := ⟨[], [((1000000, 0), .box .shr (.prod I (.list (.prod I I)))), ((1000001, 0), .fbox (some ⟨178, [(1000006, 0)]⟩)), ((1000002, 0), .box (.own .shr) (.list I)), ((1000003, 0), .box .shr (.prod I (.list (.prod I I)))), ((1000004, 0), .box .shr .bool), ((1000005, 0), .fbox (some ⟨258, [(1000000, 0), (1000001, 0), (1000002, 0), (1000003, 0), (1000004, 0), (1000005, 0)]⟩)), ((1000006, 0), .box .shr I)], []⟩
abbrev fn1_E : Ve.End := ⟨[⟨8, .shr, .bool, none⟩], [.box .shr (.prod I (.list (.prod I I))), .fbox (some ⟨178, [(1000006, 0)]⟩), .box (.own .shr) (.list I), .box .shr (.prod I (.list (.prod I I))), .box .shr .bool, .fbox (some ⟨258, [(1000000, 0), (1000001, 0), (1000002, 0), (1000003, 0), (1000004, 0), (1000005, 0)]⟩), .box .shr I]⟩
abbrev fn1_a : List ASh := [.val I, .adr 0, .adr 1, .adr 2, .adr 3, .adr 4, .adr 5]
abbrev fn1_o : List OSh := [.box .shr (.prod I (.list (.prod I I))), .fbox (some ⟨178, [(1000006, 0)]⟩), .box (.own .shr) (.list I), .box .shr (.prod I (.list (.prod I I))), .box .shr .bool, .fbox (some ⟨258, [(1000000, 0), (1000001, 0), (1000002, 0), (1000003, 0), (1000004, 0), (1000005, 0)]⟩), .box .shr I]
abbrev fn1_O0 : Out := .or .ret fn1_J1 (.one (.ex 0) fn1_J2)
noncomputable def fn1_B0 (rc : argP fn1_a → obP (extObs 0 fn1_o) → Option fn1_E.P) : fn1_J0.P → Option (fn1_J0.P ⊕ fn1_O0.P)
  | ((t19, t20, ()), (o0, o2, o3, o4, x, o6, ())) => bif (decide (t20 < t19)) then (guardB (inb x (List.length o2)) (match fn30 (o0, x, ()) () with | some ((r, ()), ()) => (match fn3 (r, ()) (x, o3, t20, (List.set o2 (Int.toNat x) t20), o4, ()) with | some ((r2, ()), (o, o5, o7, o8, o9, ())) => (bif (!r2) then (match rc ((w64 (o + (1 : Int))), ()) (o0, o8, o5, o9, o6, ()) with | some ((r3, ()), (o10, o11, o12, o13, o14, ())) => (bif (!r3) then (some (.inr (.inl ((false, ()), (o10, o11, o12, o13, o14, ()))))) else (some (.inl ((t19, (w64 (t20 + (1 : Int))), ()), (o10, o11, o12, o13, o, o14, ()))))) | none => none) else (some (.inl ((t19, (w64 (t20 + (1 : Int))), ()), (o0, o8, o5, o9, o, o6, ()))))) | none => none) | none => none)) else (some (.inr (.inr ((), (o0, o2, o3, o4, o6, ())))))
noncomputable def fn1_F (rc : argP fn1_a → obP (extObs 0 fn1_o) → Option fn1_E.P) : argP fn1_a → obP (extObs 0 fn1_o) → Option fn1_E.P
  | (x, ()), (o0, o2, o3, o4, o6, ()) => bif (x == o0.1) then (match fn20 (o2, ()) (o6, ()) with | some ((r, ()), (o, ())) => some ((r, ()), (o0, o2, o3, o4, o, ())) | none => none) else (match loopO (fn1_B0 rc) ((o3.1, (0 : Int), ()), (o0, o2, o3, o4, x, o6, ())) with | some (.inl ((t8, ()), (o0_2, o2_2, o3_2, o4_2, o6_2, ()))) => some ((t8, ()), (o0_2, o2_2, o3_2, o4_2, o6_2, ())) | some (.inr ((), (o0_3, o2_3, o3_3, o4_3, o6_3, ()))) => some ((true, ()), (o0_3, o2_3, o3_3, o4_3, o6_3, ())) | none => none)
noncomputable def fn1 : argP fn1_a → obP (extObs 0 fn1_o) → Option fn1_E.P := fuelF fn1_F 1000
noncomputable def fn1_x (rc : argP fn1_a → obP (extObs 0 fn1_o) → Option fn1_E.P) : Cx := ⟨tab, more fn20_e ⟨258, fn1_a, fn1_o, fn1_E, rc⟩, fun f n => bif Nat.beq f 178 && Nat.beq n 1 then 1 else bif Nat.beq f 258 && Nat.beq n 1 then 1 else bif Nat.beq f 258 && Nat.beq n 2 then 1 else bif Nat.beq f 258 && Nat.beq n 3 then 1 else bif Nat.beq f 258 && Nat.beq n 4 then 1 else bif Nat.beq f 258 && Nat.beq n 5 then 1 else bif Nat.beq f 258 && Nat.beq n 6 then 1 else 0, fun _ => false, [(17, 0), (17, 1), (17, 2), (17, 3), (29, 0), (29, 1), (29, 2), (29, 3), (31, 0), (31, 1), (31, 2), (31, 3), (38, 0), (38, 1), (38, 2), (38, 3)], []⟩
noncomputable def fn1_A (rc : argP fn1_a → obP (extObs 0 fn1_o) → Option fn1_E.P) : Ann := .seq .nil (.seq .nil (.seq (.seq .nil (.loop fn1_J0 fn1_O0 (fn1_B0 rc) .nil)) .nil))
theorem fn1_r0 (rc : argP fn1_a → obP (extObs 0 fn1_o) → Option fn1_E.P) (p : fn1_J0.P) : run (fn1_x rc) (subc [1, 1, 0, 1, 0, 0] c258) .nil (fn1_J0.S p) (leaf fn1_J0 fn1_O0) = (fn1_B0 rc) p := by kernel_rfl
noncomputable def fn1_D : Ve.Fn := ⟨258, fn1_a, fn1_o, fn1_E, fn1⟩
theorem fn1_w (rc : argP fn1_a → obP (extObs 0 fn1_o) → Option fn1_E.P) : Walk Tryz.prog (fn1_x rc) ⟨258, fn1_a, fn1_o, fn1_E, fn1_F rc⟩ Tryz.f258 c258 42 (fn1_A rc) :=
  .of Tryz.func258 (kcast (by kernel_rfl) (⟨(fn1_r0 rc), trivial⟩ : (∀ p, run (fn1_x rc) (subc [1, 1, 0, 1, 0, 0] c258) .nil (fn1_J0.S p) (leaf fn1_J0 fn1_O0) = (fn1_B0 rc) p) ∧ True)) fun x y => by kernel_rfl
theorem fn1_s : fn1_D.Says Tryz.prog := fuel_says (fun rc h => (fn1_w rc).says follows tabOk (more_ok fn20_e_ok h)) 1000
noncomputable def fn1_e : Env := more fn20_e fn1_D
theorem fn1_e_ok : EnvOk Tryz.prog fn1_e := more_ok fn20_e_ok fn1_s
abbrev fn11_E : Ve.End := ⟨[], [.box .shr I]⟩
abbrev fn11_a : List ASh := [.val (.prod I (.list (.prod I I))), .val (.prod I (.list (.prod I I))), .val .bool, .fn 178 [0]]
abbrev fn11_o : List OSh := [.box .shr I]
noncomputable def fn11 : argP fn11_a → obP (extObs 0 fn11_o) → Option fn11_E.P
  | (g, h, lazy, ()), (o0, ()) => guardB (decide (0 ≤ g.1) && decide (g.1 ≤ g.1) && decide (g.1 * 8 ≤ 140737488355328)) (match fn1 ((0 : Int), ()) (g, (List.replicate (Int.toNat g.1) (0 : Int)), h, lazy, o0, ()) with | some ((r, ()), (o, o2, o3, o4, o5, ())) => some ((), (o5, ())) | none => none)
noncomputable def fn11_x : Cx := ⟨tab, fn1_e, fun f n => bif Nat.beq f 258 && Nat.beq n 1 then 1 else bif Nat.beq f 258 && Nat.beq n 2 then 1 else bif Nat.beq f 258 && Nat.beq n 3 then 1 else bif Nat.beq f 258 && Nat.beq n 4 then 1 else bif Nat.beq f 258 && Nat.beq n 5 then 1 else bif Nat.beq f 258 && Nat.beq n 6 then 1 else 0, fun _ => false, [(15, 0), (15, 1), (15, 2), (15, 3)], []⟩
noncomputable def fn11_A : Ann := .nil
noncomputable def fn11_D : Ve.Fn := ⟨146, fn11_a, fn11_o, fn11_E, fn11⟩
theorem fn11_w : Walk Tryz.prog fn11_x fn11_D Tryz.f146 c146 16 fn11_A :=
  .of Tryz.func146 (kcast (by kernel_rfl) trivial) fun x y => by kernel_rfl
theorem fn11_s : fn11_D.Says Tryz.prog := fn11_w.says follows tabOk fn1_e_ok
noncomputable def fn11_e : Env := more fn1_e fn11_D
theorem fn11_e_ok : EnvOk Tryz.prog fn11_e := more_ok fn1_e_ok fn11_s
abbrev fn47_E : Ve.End := ⟨[⟨6, .shr, I, none⟩, ⟨7, .shr, .bool, none⟩], []⟩
abbrev fn47_a : List ASh := [.val (.prod I (.list (.prod I I))), .val (.prod I (.list (.prod I I))), .val .bool]
abbrev fn47_o : List OSh := []
noncomputable def fn47 : argP fn47_a → obP (extObs 0 fn47_o) → Option fn47_E.P
  | (g, h, lazy, ()), () => match fn49 (g, h, ()) () with | some ((r, ()), ()) => (bif (!r) then (some (((0 : Int), false, ()), ())) else (match fn11 (g, h, lazy, ()) ((0 : Int), ()) with | some ((), (o, ())) => some ((o, true, ()), ()) | none => none)) | none => none
noncomputable def fn47_x : Cx := ⟨tab, fn11_e, fun _ _ => 0, fun _ => false, [(11, 0), (11, 1), (11, 2), (11, 3), (17, 0), (17, 1), (17, 2), (17, 3)], [(3, 0), (4, 0)]⟩
noncomputable def c64 : Code := bodyOf Tryz.f64
noncomputable def fn47_A : Ann := .nil
noncomputable def fn47_D : Ve.Fn := ⟨64, fn47_a, fn47_o, fn47_E, fn47⟩
theorem fn47_w : Walk Tryz.prog fn47_x fn47_D Tryz.f64 c64 19 fn47_A :=
  .of Tryz.func64 (kcast (by kernel_rfl) trivial) fun x y => by kernel_rfl
theorem fn47_s : fn47_D.Says Tryz.prog := fn47_w.says follows tabOk fn11_e_ok
noncomputable def fn47_e : Env := more fn11_e fn47_D
theorem fn47_e_ok : EnvOk Tryz.prog fn47_e := more_ok fn11_e_ok fn47_s
abbrev fn59_J0 : Tpl := ⟨[(2, .val .bool), (3, .val (.list I)), (4, .cst (.prod I (.list (.prod I I)))), (5, .cst (.prod I (.list (.prod I I)))), (9, .val I), (10, .val I), (11, .val I), (12, .val .bool), (13, .val I)], [], []⟩
abbrev fn59_J1 : Tpl := ⟨[(2, .val .bool), (3, .val (.list I)), (4, .cst (.prod I (.list (.prod I I)))), (5, .cst (.prod I (.list (.prod I I)))), (9, .val I), (10, .val I), (11, .val I), (12, .val .bool)], [], []⟩
abbrev fn59_J2 : Tpl := ⟨[(2, .val .bool), (3, .val (.list I)), (4, .cst (.prod I (.list (.prod I I)))), (5, .cst (.prod I (.list (.prod I I)))), (9, .val I), (10, .val I), (11, .val I)], [], []⟩
abbrev fn59_J3 : Tpl := ⟨[(10, .val I)], [], []⟩
abbrev fn59_J4 : Tpl := ⟨[(2, .val .bool), (3, .val (.list I)), (4, .cst (.prod I (.list (.prod I I)))), (5, .cst (.prod I (.list (.prod I I)))), (9, .val I), (10, .val I), (11, .val I), (50, .val I), (51, .val (.prod I (.list (.prod I I)))), (52, .val (.prod I (.list (.prod I I)))), (53, .val .bool), (54, .val (.list I)), (56, .val I)], [], []⟩
abbrev fn59_E : Ve.End := ⟨[⟨8, .shr, I, none⟩], []⟩
abbrev fn59_a : List ASh := [.val (.prod I (.list (.prod I I))), .val (.prod I (.list (.prod I I))), .val .bool, .val (.list I)]
abbrev fn59_o : List OSh := []
noncomputable def fn59_D0 (rc : argP fn59_a → obP (extObs 0 fn59_o) → Option fn59_E.P) : fn59_J4.P → Option fn59_J2.P
  | ((lazy, begun, g, h, x, sum, v, t50, t51, t52, t53, t54, t56, ()), ()) => match fn97 (t54, ()) () with | some ((r, ()), ()) => guardB (decide ((List.length r + List.length [t56]) * 8 ≤ 70368744177664)) (match rc (t51, t52, t53, (r ++ [t56]), ()) () with | some ((r2, ()), ()) => some ((lazy, begun, g, h, x, (w64 (t50 + r2)), v, ()), ()) | none => none) | none => none
noncomputable def fn59_T0 (rc : argP fn59_a → obP (extObs 0 fn59_o) → Option fn59_E.P) : DT fn59_J2 := .node fn59_J4 (fn59_D0 rc) (.br [(5, .sole), (7, .sole), (8, .sole), (9, .sole), (10, .flo), (11, .flo)] .fin (.br [(7, .sole), (5, .sole), (8, .sole), (9, .sole), (10, .flo), (11, .flo)] .fin .nobr))
abbrev fn59_O0 : Out := .one (.ex 2) fn59_J1
noncomputable def fn59_B0 (rc : argP fn59_a → obP (extObs 0 fn59_o) → Option fn59_E.P) : fn59_J0.P → Option (fn59_J0.P ⊕ fn59_O0.P)
  | ((lazy, begun, g, h, x, sum, v, fits, k, ()), ()) => bif (decide (k < x)) then (bif fits then (match fn89 (g, k, x, ()) () with | some ((r, ()), ()) => (bif (!r) then (some (.inl ((lazy, begun, g, h, x, sum, v, true, (w64 (k + (1 : Int))), ()), ()))) else (guardB (inb k (List.length begun)) (match fn66 (h, (List.getD begun (Int.toNat k) (0 : Int)), v, lazy, ()) () with | some ((r2, ()), ()) => some (.inl ((lazy, begun, g, h, x, sum, v, r2, (w64 (k + (1 : Int))), ()), ())) | none => none))) | none => none) else (some (.inr ((lazy, begun, g, h, x, sum, v, fits, ()), ())))) else (some (.inr ((lazy, begun, g, h, x, sum, v, fits, ()), ())))
abbrev fn59_O1 : Out := .one (.ex 0) fn59_J3
noncomputable def fn59_B1 (rc : argP fn59_a → obP (extObs 0 fn59_o) → Option fn59_E.P) : fn59_J2.P → Option (fn59_J2.P ⊕ fn59_O1.P)
  | ((lazy, begun, g, h, x, sum, v, ()), ()) => bif (decide (v < h.1)) then (match loopO (fn59_B0 rc) ((lazy, begun, g, h, x, sum, v, true, (0 : Int), ()), ()) with | some ((lazy2, begun2, g2, h2, x2, sum2, v2, fits, ()), ()) => (bif fits then (match (fn59_D0 rc) ((lazy2, begun2, g2, h2, x2, sum2, v2, sum2, g2, h2, lazy2, begun2, v2, ()), ()) with | some ((lazy3, begun3, g3, h3, x3, sum3, v3, ()), ()) => some (.inl ((lazy3, begun3, g3, h3, x3, sum3, (w64 (v3 + (1 : Int))), ()), ())) | none => none) else (some (.inl ((lazy2, begun2, g2, h2, x2, sum2, (w64 (v2 + (1 : Int))), ()), ())))) | none => none) else (some (.inr ((sum, ()), ())))
noncomputable def fn59_F (rc : argP fn59_a → obP (extObs 0 fn59_o) → Option fn59_E.P) : argP fn59_a → obP (extObs 0 fn59_o) → Option fn59_E.P
  | (g, h, lazy, begun, ()), () => bif ((List.length begun : Int) == g.1) then (some (((1 : Int), ()), ())) else (match loopO (fn59_B1 rc) ((lazy, begun, g, h, (List.length begun : Int), (0 : Int), (0 : Int), ()), ()) with | some ((sum, ()), ()) => some ((sum, ()), ()) | none => none)
noncomputable def fn59 : argP fn59_a → obP (extObs 0 fn59_o) → Option fn59_E.P := fuelF fn59_F 1000
noncomputable def fn59_x (rc : argP fn59_a → obP (extObs 0 fn59_o) → Option fn59_E.P) : Cx := ⟨tab, more fn47_e ⟨179, fn59_a, fn59_o, fn59_E, rc⟩, fun _ _ => 0, fun _ => false, [(37, 0), (37, 1), (37, 2), (37, 3), (47, 0), (47, 1), (47, 2), (47, 3), (57, 0), (59, 0), (59, 1), (59, 2), (59, 3)], [(4, 0), (5, 0)]⟩
noncomputable def c179 : Code := bodyOf Tryz.f179
noncomputable def fn59_A (rc : argP fn59_a → obP (extObs 0 fn59_o) → Option fn59_E.P) : Ann := .seq .nil (.seq .nil (.seq .nil (.seq (.seq .nil (.loop fn59_J2 fn59_O1 (fn59_B1 rc) (.seq .nil (.seq (.seq .nil (.seq (.seq .nil (.loop fn59_J0 fn59_O0 (fn59_B0 rc) (.seq .nil (.seq (.draw [(0, .flo), (1, .flo), (2, .flo), (3, .sole), (4, .flo), (5, .flo), (6, .flo), (7, .flo), (8, .flo), (9, .flo), (11, .flo), (12, .flo), (10, .qui), (13, .sole), (14, .flo), (15, .flo)]) .nil)))) (.seq .nil (.seq (.draws [(0, .flo), (1, .flo), (2, .flo), (3, .flo), (4, .flo), (6, .flo)] fn59_J2 (fn59_T0 rc)) .nil)))) .nil)))) .nil)))
theorem fn59_r0 (rc : argP fn59_a → obP (extObs 0 fn59_o) → Option fn59_E.P) (p : fn59_J2.P) : run (fn59_x rc) (subc [1, 1, 1, 0, 1, 0, 0] c179) (.seq .nil (.seq (.seq .nil (.seq (.seq .nil (.loop fn59_J0 fn59_O0 (fn59_B0 rc) (.seq .nil (.seq (.draw [(0, .flo), (1, .flo), (2, .flo), (3, .sole), (4, .flo), (5, .flo), (6, .flo), (7, .flo), (8, .flo), (9, .flo), (11, .flo), (12, .flo), (10, .qui), (13, .sole), (14, .flo), (15, .flo)]) .nil)))) (.seq .nil (.seq (.draws [(0, .flo), (1, .flo), (2, .flo), (3, .flo), (4, .flo), (6, .flo)] fn59_J2 (fn59_T0 rc)) .nil)))) .nil)) (fn59_J2.S p) (leaf fn59_J2 fn59_O1) = (fn59_B1 rc) p := by kernel_rfl
theorem fn59_r1 (rc : argP fn59_a → obP (extObs 0 fn59_o) → Option fn59_E.P) (p : fn59_J0.P) : run (fn59_x rc) (subc [1, 1, 1, 0, 1, 0, 0, 1, 0, 0, 1, 0, 1, 0, 0] c179) (.seq .nil (.seq (.draw [(0, .flo), (1, .flo), (2, .flo), (3, .sole), (4, .flo), (5, .flo), (6, .flo), (7, .flo), (8, .flo), (9, .flo), (11, .flo), (12, .flo), (10, .qui), (13, .sole), (14, .flo), (15, .flo)]) .nil)) (fn59_J0.S p) (leaf fn59_J0 fn59_O0) = (fn59_B0 rc) p := by kernel_rfl
theorem fn59_D0b0 (rc : argP fn59_a → obP (extObs 0 fn59_o) → Option fn59_E.P) (p : fn59_J4.P) : runDrawn (fn59_x rc) (opsOf (subc [1, 1, 1, 0, 1, 0, 0, 1, 0, 0, 1, 1, 1, 0] c179)) [(5, .sole), (7, .sole), (8, .sole), (9, .sole), (10, .flo), (11, .flo)] (fn59_J4.S p) (endT (fn59_x rc) (.fin : DT fn59_J2)) = (fn59_D0 rc) p := by kernel_rfl
theorem fn59_D0b1 (rc : argP fn59_a → obP (extObs 0 fn59_o) → Option fn59_E.P) (p : fn59_J4.P) : runDrawn (fn59_x rc) (opsOf (subc [1, 1, 1, 0, 1, 0, 0, 1, 0, 0, 1, 1, 1, 0] c179)) [(7, .sole), (5, .sole), (8, .sole), (9, .sole), (10, .flo), (11, .flo)] (fn59_J4.S p) (endT (fn59_x rc) (.fin : DT fn59_J2)) = (fn59_D0 rc) p := by kernel_rfl
noncomputable def fn59_D : Ve.Fn := ⟨179, fn59_a, fn59_o, fn59_E, fn59⟩
theorem fn59_w (rc : argP fn59_a → obP (extObs 0 fn59_o) → Option fn59_E.P) : Walk Tryz.prog (fn59_x rc) ⟨179, fn59_a, fn59_o, fn59_E, fn59_F rc⟩ Tryz.f179 c179 62 (fn59_A rc) :=
  .of Tryz.func179 (kcast (by kernel_rfl) (⟨(fn59_r0 rc), (fn59_r1 rc), (fn59_D0b0 rc), (fn59_D0b1 rc), trivial⟩ : (∀ p, run (fn59_x rc) (subc [1, 1, 1, 0, 1, 0, 0] c179) (.seq .nil (.seq (.seq .nil (.seq (.seq .nil (.loop fn59_J0 fn59_O0 (fn59_B0 rc) (.seq .nil (.seq (.draw [(0, .flo), (1, .flo), (2, .flo), (3, .sole), (4, .flo), (5, .flo), (6, .flo), (7, .flo), (8, .flo), (9, .flo), (11, .flo), (12, .flo), (10, .qui), (13, .sole), (14, .flo), (15, .flo)]) .nil)))) (.seq .nil (.seq (.draws [(0, .flo), (1, .flo), (2, .flo), (3, .flo), (4, .flo), (6, .flo)] fn59_J2 (fn59_T0 rc)) .nil)))) .nil)) (fn59_J2.S p) (leaf fn59_J2 fn59_O1) = (fn59_B1 rc) p) ∧ (∀ p, run (fn59_x rc) (subc [1, 1, 1, 0, 1, 0, 0, 1, 0, 0, 1, 0, 1, 0, 0] c179) (.seq .nil (.seq (.draw [(0, .flo), (1, .flo), (2, .flo), (3, .sole), (4, .flo), (5, .flo), (6, .flo), (7, .flo), (8, .flo), (9, .flo), (11, .flo), (12, .flo), (10, .qui), (13, .sole), (14, .flo), (15, .flo)]) .nil)) (fn59_J0.S p) (leaf fn59_J0 fn59_O0) = (fn59_B0 rc) p) ∧ (∀ p, runDrawn (fn59_x rc) (opsOf (subc [1, 1, 1, 0, 1, 0, 0, 1, 0, 0, 1, 1, 1, 0] c179)) [(5, .sole), (7, .sole), (8, .sole), (9, .sole), (10, .flo), (11, .flo)] (fn59_J4.S p) (endT (fn59_x rc) (.fin : DT fn59_J2)) = (fn59_D0 rc) p) ∧ (∀ p, runDrawn (fn59_x rc) (opsOf (subc [1, 1, 1, 0, 1, 0, 0, 1, 0, 0, 1, 1, 1, 0] c179)) [(7, .sole), (5, .sole), (8, .sole), (9, .sole), (10, .flo), (11, .flo)] (fn59_J4.S p) (endT (fn59_x rc) (.fin : DT fn59_J2)) = (fn59_D0 rc) p) ∧ True)) fun x y => by kernel_rfl
theorem fn59_s : fn59_D.Says Tryz.prog := fuel_says (fun rc h => (fn59_w rc).says follows tabOk (more_ok fn47_e_ok h)) 1000
noncomputable def fn59_e : Env := more fn47_e fn59_D
theorem fn59_e_ok : EnvOk Tryz.prog fn59_e := more_ok fn47_e_ok fn59_s
abbrev fn50_E : Ve.End := ⟨[⟨6, .shr, I, none⟩, ⟨7, .shr, .bool, none⟩], []⟩
abbrev fn50_a : List ASh := [.val (.prod I (.list (.prod I I))), .val (.prod I (.list (.prod I I))), .val .bool]
abbrev fn50_o : List OSh := []
noncomputable def fn50 : argP fn50_a → obP (extObs 0 fn50_o) → Option fn50_E.P
  | (g, h, lazy, ()), () => match fn67 (g, h, ()) () with | some ((r, ()), ()) => (bif (!r) then (some (((0 : Int), false, ()), ())) else (match fn59 (g, h, lazy, ([] : (List Int)), ()) () with | some ((r2, ()), ()) => some ((r2, true, ()), ()) | none => none)) | none => none
noncomputable def fn50_x : Cx := ⟨tab, fn59_e, fun _ _ => 0, fun _ => false, [(10, 0), (10, 1), (10, 2), (10, 3), (15, 0), (16, 0), (16, 1), (16, 2), (16, 3)], [(3, 0), (4, 0)]⟩
noncomputable def c65 : Code := bodyOf Tryz.f65
noncomputable def fn50_A : Ann := .nil
noncomputable def fn50_D : Ve.Fn := ⟨65, fn50_a, fn50_o, fn50_E, fn50⟩
theorem fn50_w : Walk Tryz.prog fn50_x fn50_D Tryz.f65 c65 17 fn50_A :=
  .of Tryz.func65 (kcast (by kernel_rfl) trivial) fun x y => by kernel_rfl
theorem fn50_s : fn50_D.Says Tryz.prog := fn50_w.says follows tabOk fn59_e_ok
noncomputable def fn50_e : Env := more fn59_e fn50_D
theorem fn50_e_ok : EnvOk Tryz.prog fn50_e := more_ok fn59_e_ok fn50_s
abbrev fn16_E : Ve.End := ⟨[⟨4, .shr, .bool, none⟩], [.box (.own .shr) (.list I), .box .shr .bool]⟩
abbrev fn16_a : List ASh := [.val (.list I), .adr 0, .adr 1]
abbrev fn16_o : List OSh := [.box (.own .shr) (.list I), .box .shr .bool]
noncomputable def fn16 : argP fn16_a → obP (extObs 0 fn16_o) → Option fn16_E.P
  | (list, ()), (o0, o1, ()) => match slices_Clone_int_int (list, ()) () with | some ((r, ()), ()) => some ((false, ()), (r, true, ())) | none => none
noncomputable def fn16_x : Cx := ⟨tab, fn50_e, fun _ _ => 0, fun _ => false, [], []⟩
noncomputable def c180 : Code := bodyOf Tryz.f180
noncomputable def fn16_A : Ann := .nil
noncomputable def fn16_D : Ve.Fn := ⟨180, fn16_a, fn16_o, fn16_E, fn16⟩
theorem fn16_w : Walk Tryz.prog fn16_x fn16_D Tryz.f180 c180 7 fn16_A :=
  .of Tryz.func180 (kcast (by kernel_rfl) trivial) fun x y => by kernel_rfl
theorem fn16_s : fn16_D.Says Tryz.prog := fn16_w.says follows tabOk fn50_e_ok
noncomputable def fn16_e : Env := more fn50_e fn16_D
theorem fn16_e_ok : EnvOk Tryz.prog fn16_e := more_ok fn50_e_ok fn16_s
abbrev fn0_J0 : Tpl := ⟨[(1, .ptr (1000000, 0)), (3, .ptr (1000002, 0)), (4, .ptr (1000003, 0)), (5, .ptr (1000004, 0)), (6, .ptr (1000005, 0)), (7, .ptr (7, 0)), (19, .val I), (20, .val I)], [((1000000, 0), .box .shr (.prod I (.list (.prod I I)))), ((1000002, 0), .box (.own .shr) (.list I)), ((1000003, 0), .box .shr (.prod I (.list (.prod I I)))), ((1000004, 0), .box .shr .bool), ((1000005, 0), .fbox (some ⟨258, [(1000000, 0), (1000001, 0), (1000002, 0), (1000003, 0), (1000004, 0), (1000005, 0)]⟩)), ((7, 0), .box .shr I), ((1000001, 0), .fbox (some ⟨180, [(1000006, 0), (1000007, 0)]⟩)), ((1000006, 0), .box (.own .shr) (.list I)), ((1000007, 0), .box .shr .bool)], []⟩
abbrev fn0_J1 : Tpl := ⟨[(8, .val .bool)], [((1000000, 0), .box .shr (.prod I (.list (.prod I I)))), ((1000001, 0), .fbox (some ⟨180, [(1000006, 0), (1000007, 0)]⟩)), ((1000002, 0), .box (.own .shr) (.list I)), ((1000003, 0), .box .shr (.prod I (.list (.prod I I)))), ((1000004, 0), .box .shr .bool), ((1000005, 0), .fbox (some ⟨258, [(1000000, 0), (1000001, 0), (1000002, 0), (1000003, 0), (1000004, 0), (1000005, 0)]⟩)), ((1000006, 0), .box (.own .shr) (.list I)), ((1000007, 0), .box .shr .bool)], []⟩
abbrev fn0_J2 : Tpl := ⟨[], [((1000000, 0), .box .shr (.prod I (.list (.prod I I)))), ((1000001, 0), .fbox (some ⟨180, [(1000006, 0), (1000007, 0)]⟩)), ((1000002, 0), .box (.own .shr) (.list I)), ((1000003, 0), .box .shr (.prod I (.list (.prod I I)))), ((1000004, 0), .box .shr .bool), ((1000005, 0), .fbox (some ⟨258, [(1000000, 0), (1000001, 0), (1000002, 0), (1000003, 0), (1000004, 0), (1000005, 0)]⟩)), ((1000006, 0), .box (.own .shr) (.list I)), ((1000007, 0), .box .shr .bool)], []⟩
abbrev fn0_E : Ve.End := ⟨[⟨8, .shr, .bool, none⟩], [.box .shr (.prod I (.list (.prod I I))), .fbox (some ⟨180, [(1000006, 0), (1000007, 0)]⟩), .box (.own .shr) (.list I), .box .shr (.prod I (.list (.prod I I))), .box .shr .bool, .fbox (some ⟨258, [(1000000, 0), (1000001, 0), (1000002, 0), (1000003, 0), (1000004, 0), (1000005, 0)]⟩), .box (.own .shr) (.list I), .box .shr .bool]⟩
abbrev fn0_a : List ASh := [.val I, .adr 0, .adr 1, .adr 2, .adr 3, .adr 4, .adr 5]
abbrev fn0_o : List OSh := [.box .shr (.prod I (.list (.prod I I))), .fbox (some ⟨180, [(1000006, 0), (1000007, 0)]⟩), .box (.own .shr) (.list I), .box .shr (.prod I (.list (.prod I I))), .box .shr .bool, .fbox (some ⟨258, [(1000000, 0), (1000001, 0), (1000002, 0), (1000003, 0), (1000004, 0), (1000005, 0)]⟩), .box (.own .shr) (.list I), .box .shr .bool]
abbrev fn0_O0 : Out := .or .ret fn0_J1 (.one (.ex 0) fn0_J2)
noncomputable def fn0_B0 (rc : argP fn0_a → obP (extObs 0 fn0_o) → Option fn0_E.P) : fn0_J0.P → Option (fn0_J0.P ⊕ fn0_O0.P)
  | ((t19, t20, ()), (o0, o2, o3, o4, x, o6, o7, ())) => bif (decide (t20 < t19)) then (guardB (inb x (List.length o2)) (match fn30 (o0, x, ()) () with | some ((r, ()), ()) => (match fn3 (r, ()) (x, o3, t20, (List.set o2 (Int.toNat x) t20), o4, ()) with | some ((r2, ()), (o, o5, o8, o9, o10, ())) => (bif (!r2) then (match rc ((w64 (o + (1 : Int))), ()) (o0, o9, o5, o10, o6, o7, ()) with | some ((r3, ()), (o11, o12, o13, o14, o15, o16, ())) => (bif (!r3) then (some (.inr (.inl ((false, ()), (o11, o12, o13, o14, o15, o16, ()))))) else (some (.inl ((t19, (w64 (t20 + (1 : Int))), ()), (o11, o12, o13, o14, o, o15, o16, ()))))) | none => none) else (some (.inl ((t19, (w64 (t20 + (1 : Int))), ()), (o0, o9, o5, o10, o, o6, o7, ()))))) | none => none) | none => none)) else (some (.inr (.inr ((), (o0, o2, o3, o4, o6, o7, ())))))
noncomputable def fn0_F (rc : argP fn0_a → obP (extObs 0 fn0_o) → Option fn0_E.P) : argP fn0_a → obP (extObs 0 fn0_o) → Option fn0_E.P
  | (x, ()), (o0, o2, o3, o4, o6, o7, ()) => bif (x == o0.1) then (match fn16 (o2, ()) (o6, o7, ()) with | some ((r, ()), (o, o5, ())) => some ((r, ()), (o0, o2, o3, o4, o, o5, ())) | none => none) else (match loopO (fn0_B0 rc) ((o3.1, (0 : Int), ()), (o0, o2, o3, o4, x, o6, o7, ())) with | some (.inl ((t8, ()), (o0_2, o2_2, o3_2, o4_2, o6_2, o7_2, ()))) => some ((t8, ()), (o0_2, o2_2, o3_2, o4_2, o6_2, o7_2, ())) | some (.inr ((), (o0_3, o2_3, o3_3, o4_3, o6_3, o7_3, ()))) => some ((true, ()), (o0_3, o2_3, o3_3, o4_3, o6_3, o7_3, ())) | none => none)
noncomputable def fn0 : argP fn0_a → obP (extObs 0 fn0_o) → Option fn0_E.P := fuelF fn0_F 1000
noncomputable def fn0_x (rc : argP fn0_a → obP (extObs 0 fn0_o) → Option fn0_E.P) : Cx := ⟨tab, more fn16_e ⟨258, fn0_a, fn0_o, fn0_E, rc⟩, fun f n => bif Nat.beq f 180 && Nat.beq n 1 then 1 else bif Nat.beq f 180 && Nat.beq n 2 then 1 else bif Nat.beq f 258 && Nat.beq n 1 then 1 else bif Nat.beq f 258 && Nat.beq n 2 then 1 else bif Nat.beq f 258 && Nat.beq n 3 then 1 else bif Nat.beq f 258 && Nat.beq n 4 then 1 else bif Nat.beq f 258 && Nat.beq n 5 then 1 else bif Nat.beq f 258 && Nat.beq n 6 then 1 else 0, fun _ => false, [(17, 0), (17, 1), (17, 2), (17, 3), (29, 0), (29, 1), (29, 2), (29, 3), (31, 0), (31, 1), (31, 2), (31, 3), (38, 0), (38, 1), (38, 2), (38, 3)], []⟩
noncomputable def fn0_A (rc : argP fn0_a → obP (extObs 0 fn0_o) → Option fn0_E.P) : Ann := .seq .nil (.seq .nil (.seq (.seq .nil (.loop fn0_J0 fn0_O0 (fn0_B0 rc) .nil)) .nil))
theorem fn0_r0 (rc : argP fn0_a → obP (extObs 0 fn0_o) → Option fn0_E.P) (p : fn0_J0.P) : run (fn0_x rc) (subc [1, 1, 0, 1, 0, 0] c258) .nil (fn0_J0.S p) (leaf fn0_J0 fn0_O0) = (fn0_B0 rc) p := by kernel_rfl
noncomputable def fn0_D : Ve.Fn := ⟨258, fn0_a, fn0_o, fn0_E, fn0⟩
theorem fn0_w (rc : argP fn0_a → obP (extObs 0 fn0_o) → Option fn0_E.P) : Walk Tryz.prog (fn0_x rc) ⟨258, fn0_a, fn0_o, fn0_E, fn0_F rc⟩ Tryz.f258 c258 42 (fn0_A rc) :=
  .of Tryz.func258 (kcast (by kernel_rfl) (⟨(fn0_r0 rc), trivial⟩ : (∀ p, run (fn0_x rc) (subc [1, 1, 0, 1, 0, 0] c258) .nil (fn0_J0.S p) (leaf fn0_J0 fn0_O0) = (fn0_B0 rc) p) ∧ True)) fun x y => by kernel_rfl
theorem fn0_s : fn0_D.Says Tryz.prog := fuel_says (fun rc h => (fn0_w rc).says follows tabOk (more_ok fn16_e_ok h)) 1000
noncomputable def fn0_e : Env := more fn16_e fn0_D
theorem fn0_e_ok : EnvOk Tryz.prog fn0_e := more_ok fn16_e_ok fn0_s
abbrev fn10_E : Ve.End := ⟨[], [.box (.own .shr) (.list I), .box .shr .bool]⟩
abbrev fn10_a : List ASh := [.val (.prod I (.list (.prod I I))), .val (.prod I (.list (.prod I I))), .val .bool, .fn 180 [0, 1]]
abbrev fn10_o : List OSh := [.box (.own .shr) (.list I), .box .shr .bool]
noncomputable def fn10 : argP fn10_a → obP (extObs 0 fn10_o) → Option fn10_E.P
  | (g, h, lazy, ()), (o0, o1, ()) => guardB (decide (0 ≤ g.1) && decide (g.1 ≤ g.1) && decide (g.1 * 8 ≤ 140737488355328)) (match fn0 ((0 : Int), ()) (g, (List.replicate (Int.toNat g.1) (0 : Int)), h, lazy, o0, o1, ()) with | some ((r, ()), (o, o2, o3, o4, o5, o6, ())) => some ((), (o5, o6, ())) | none => none)
noncomputable def fn10_x : Cx := ⟨tab, fn0_e, fun f n => bif Nat.beq f 258 && Nat.beq n 1 then 1 else bif Nat.beq f 258 && Nat.beq n 2 then 1 else bif Nat.beq f 258 && Nat.beq n 3 then 1 else bif Nat.beq f 258 && Nat.beq n 4 then 1 else bif Nat.beq f 258 && Nat.beq n 5 then 1 else bif Nat.beq f 258 && Nat.beq n 6 then 1 else 0, fun _ => false, [(15, 0), (15, 1), (15, 2), (15, 3)], []⟩
noncomputable def fn10_A : Ann := .nil
noncomputable def fn10_D : Ve.Fn := ⟨146, fn10_a, fn10_o, fn10_E, fn10⟩
theorem fn10_w : Walk Tryz.prog fn10_x fn10_D Tryz.f146 c146 16 fn10_A :=
  .of Tryz.func146 (kcast (by kernel_rfl) trivial) fun x y => by kernel_rfl
theorem fn10_s : fn10_D.Says Tryz.prog := fn10_w.says follows tabOk fn0_e_ok
noncomputable def fn10_e : Env := more fn0_e fn10_D
theorem fn10_e_ok : EnvOk Tryz.prog fn10_e := more_ok fn0_e_ok fn10_s
abbrev fn53_E : Ve.End := ⟨[⟨6, (.own .shr), (.list I), none⟩, ⟨7, .shr, .bool, none⟩], []⟩
abbrev fn53_a : List ASh := [.val (.prod I (.list (.prod I I))), .val (.prod I (.list (.prod I I))), .val .bool]
abbrev fn53_o : List OSh := []
noncomputable def fn53 : argP fn53_a → obP (extObs 0 fn53_o) → Option fn53_E.P
  | (g, h, lazy, ()), () => match fn49 (g, h, ()) () with | some ((r, ()), ()) => (bif (!r) then (some ((([] : (List Int)), false, ()), ())) else (match fn10 (g, h, lazy, ()) (([] : (List Int)), false, ()) with | some ((), (o, o2, ())) => some ((o, o2, ()), ()) | none => none)) | none => none
noncomputable def fn53_x : Cx := ⟨tab, fn10_e, fun _ _ => 0, fun _ => false, [(12, 0), (12, 1), (12, 2), (12, 3), (18, 0), (18, 1), (18, 2), (18, 3)], [(3, 0), (4, 0)]⟩
noncomputable def c66 : Code := bodyOf Tryz.f66
noncomputable def fn53_A : Ann := .seq .nil (.seq .nil (.seq .nil (.seq .nil (.seq (.draw [(0, .qui), (2, .flo), (1, .qui), (3, .flo)]) .nil))))
noncomputable def fn53_D : Ve.Fn := ⟨66, fn53_a, fn53_o, fn53_E, fn53⟩
theorem fn53_w : Walk Tryz.prog fn53_x fn53_D Tryz.f66 c66 21 fn53_A :=
  .of Tryz.func66 (kcast (by kernel_rfl) trivial) fun x y => by kernel_rfl
theorem fn53_s : fn53_D.Says Tryz.prog := fn53_w.says follows tabOk fn10_e_ok
noncomputable def fn53_e : Env := more fn10_e fn53_D
theorem fn53_e_ok : EnvOk Tryz.prog fn53_e := more_ok fn10_e_ok fn53_s
abbrev fn57_E : Ve.End := ⟨[⟨6, .shr, (.list I), none⟩, ⟨7, .shr, .bool, none⟩], []⟩
abbrev fn57_a : List ASh := [.val (.prod I (.list (.prod I I))), .val (.prod I (.list (.prod I I))), .val .bool]
abbrev fn57_o : List OSh := []
noncomputable def fn57 : argP fn57_a → obP (extObs 0 fn57_o) → Option fn57_E.P
  | (g, h, lazy, ()), () => match fn67 (g, h, ()) () with | some ((r, ()), ()) => (bif (!r) then (some ((([] : (List Int)), false, ()), ())) else (match fn83 (g, h, lazy, ([] : (List Int)), (0 : Int), ()) () with | some ((r2, ()), ()) => (bif ((List.length r2 : Int) == (0 : Int)) then (some ((([] : (List Int)), false, ()), ())) else (guardB (inb (0 : Int) (List.length r2)) (some (((List.getD r2 0 ([] : (List Int))), true, ()), ())))) | none => none)) | none => none
noncomputable def fn57_x : Cx := ⟨tab, fn53_e, fun _ _ => 0, fun _ => false, [(11, 0), (11, 1), (11, 2), (11, 3), (13, 0), (17, 0), (18, 0), (18, 1), (18, 2), (18, 3), (8, 0), (22, 0)], [(3, 0), (4, 0)]⟩
noncomputable def c67 : Code := bodyOf Tryz.f67
noncomputable def fn57_A : Ann := .nil
noncomputable def fn57_D : Ve.Fn := ⟨67, fn57_a, fn57_o, fn57_E, fn57⟩
theorem fn57_w : Walk Tryz.prog fn57_x fn57_D Tryz.f67 c67 26 fn57_A :=
  .of Tryz.func67 (kcast (by kernel_rfl) trivial) fun x y => by kernel_rfl
theorem fn57_s : fn57_D.Says Tryz.prog := fn57_w.says follows tabOk fn53_e_ok
noncomputable def fn57_e : Env := more fn53_e fn57_D
theorem fn57_e_ok : EnvOk Tryz.prog fn57_e := more_ok fn53_e_ok fn57_s
abbrev fn85_E : Ve.End := ⟨[⟨4, .shr, I, none⟩], []⟩
abbrev fn85_a : List ASh := [.val I, .val I]
abbrev fn85_o : List OSh := []
noncomputable def fn85 : argP fn85_a → obP (extObs 0 fn85_o) → Option fn85_E.P
  | (a, b, ()), () => bif (decide (b < a)) then (some ((a, ()), ())) else (some ((b, ()), ()))
noncomputable def fn85_x : Cx := ⟨tab, fn57_e, fun _ _ => 0, fun _ => false, [], []⟩
noncomputable def c218 : Code := bodyOf Tryz.f218
noncomputable def fn85_A : Ann := .nil
noncomputable def fn85_D : Ve.Fn := ⟨218, fn85_a, fn85_o, fn85_E, fn85⟩
theorem fn85_w : Walk Tryz.prog fn85_x fn85_D Tryz.f218 c218 10 fn85_A :=
  .of Tryz.func218 (kcast (by kernel_rfl) trivial) fun x y => by kernel_rfl
theorem fn85_s : fn85_D.Says Tryz.prog := fn85_w.says follows tabOk fn57_e_ok
noncomputable def fn85_e : Env := more fn57_e fn85_D
theorem fn85_e_ok : EnvOk Tryz.prog fn85_e := more_ok fn57_e_ok fn85_s
abbrev fn18_J0 : Tpl := ⟨[(0, .ptr (1000000, 0)), (5, .cst (.prod I (.list (.prod I I)))), (6, .cst (.prod I (.list (.prod I I)))), (9, .own .shr I)], [((1000000, 0), .box .shr (.prod (.list (.int .u8)) (.prod I (.int .u64))))], []⟩
abbrev fn18_J1 : Tpl := ⟨[(0, .ptr (1000000, 0)), (5, .cst (.prod I (.list (.prod I I)))), (6, .cst (.prod I (.list (.prod I I)))), (9, .own .shr I), (11, .val I)], [((1000000, 0), .box .shr (.prod (.list (.int .u8)) (.prod I (.int .u64))))], []⟩
abbrev fn18_J2 : Tpl := ⟨[(9, .own .shr I)], [((1000000, 0), .box .shr (.prod (.list (.int .u8)) (.prod I (.int .u64))))], []⟩
abbrev fn18_E : Ve.End := ⟨[⟨8, (.own .shr), (.list I), none⟩], [.box .shr (.prod (.list (.int .u8)) (.prod I (.int .u64)))]⟩
abbrev fn18_a : List ASh := [.adr 0, .val (.prod I (.list (.prod I I))), .val (.prod I (.list (.prod I I))), .val .bool]
abbrev fn18_o : List OSh := [.box .shr (.prod (.list (.int .u8)) (.prod I (.int .u64)))]
abbrev fn18_O0 : Out := .one (.ex 0) fn18_J2
noncomputable def fn18_B0 : fn18_J1.P → Option (fn18_J1.P ⊕ fn18_O0.P)
  | ((g, h, out, x, ()), (o0, ())) => bif (decide (x < g.1)) then (bif (decide (x < (8 : Int))) then (match fn68 (h.1, (8 : Int), ()) () with | some ((r, ()), ()) => (match fn85 (r, (0 : Int), ()) () with | some ((r2, ()), ()) => (match fn24 ((w64 (r2 + (2 : Int))), ()) (o0, ()) with | some ((r3, ()), (o, ())) => (match fn24 ((2 : Int), ()) (o, ()) with | some ((r4, ()), (o2, ())) => guardB (decide ((List.length out + List.length [(w64 (r3 - r4))]) * 8 ≤ 70368744177664)) (some (.inl ((g, h, (out ++ [(w64 (r3 - r4))]), (w64 (x + (1 : Int))), ()), (o2, ())))) | none => none) | none => none) | none => none) | none => none) else (some (.inr ((out, ()), (o0, ()))))) else (some (.inr ((out, ()), (o0, ()))))
noncomputable def fn18 : argP fn18_a → obP (extObs 0 fn18_o) → Option fn18_E.P
  | (g, h, lazy, ()), (o0, ()) => match (match fn67 (g, h, ()) () with | some ((r, ()), ()) => (bif r then (match fn28 ((8 : Int), ()) (o0, ()) with | some ((r2, ()), (o, ())) => (bif (!r2) then (match fn83 (g, h, lazy, ([] : (List Int)), (60 : Int), ()) () with | some ((r3, ()), ()) => (bif (decide ((0 : Int) < (List.length r3 : Int))) then (match fn24 ((List.length r3 : Int), ()) (o, ()) with | some ((r4, ()), (o2, ())) => guardB (inb r4 (List.length r3)) (match fn97 ((List.getD r3 (Int.toNat r4) ([] : (List Int))), ()) () with | some ((r5, ()), ()) => some (.inr ((r5, ()), (o2, ()))) | none => none) | none => none) else (some (.inl ((g, h, ([] : (List Int)), ()), (o, ()))))) | none => none) else (some (.inl ((g, h, ([] : (List Int)), ()), (o, ()))))) | none => none) else (some (.inl ((g, h, ([] : (List Int)), ()), (o0, ()))))) | none => none : Option (fn18_J0.P ⊕ fn18_E.P)) with | some (.inl ((g2, h2, out, ()), (o0_2, ()))) => (match loopO fn18_B0 ((g2, h2, out, (0 : Int), ()), (o0_2, ())) with | some ((out2, ()), (o0_3, ())) => some ((out2, ()), (o0_3, ())) | none => none) | some (.inr r) => some r | none => none
noncomputable def fn18_x : Cx := ⟨tab, fn85_e, fun f n => bif Nat.beq f 156 && Nat.beq n 0 then 1 else bif Nat.beq f 163 && Nat.beq n 0 then 1 else 0, fun _ => false, [(15, 0), (15, 1), (15, 2), (15, 3), (18, 0), (18, 1), (18, 2), (18, 3), (24, 0), (25, 0), (25, 1), (25, 2), (25, 3), (10, 0), (33, 0), (33, 1), (33, 2), (33, 3), (36, 0), (36, 1), (36, 2), (36, 3), (51, 0), (51, 1), (51, 2), (51, 3), (52, 0), (52, 1), (52, 2), (52, 3), (54, 0), (54, 1), (54, 2), (54, 3), (56, 0), (56, 1), (56, 2), (56, 3), (58, 0)], [(5, 0), (6, 0)]⟩
noncomputable def c183 : Code := bodyOf Tryz.f183
noncomputable def fn18_A : Ann := .seq .nil (.seq .nil (.cut fn18_J0 .nil (.seq (.seq .nil (.loop fn18_J1 fn18_O0 fn18_B0 .nil)) .nil)))
theorem fn18_r0 (p : fn18_J1.P) : run fn18_x (subc [1, 1, 1, 0, 1, 0, 0] c183) .nil (fn18_J1.S p) (leaf fn18_J1 fn18_O0) = fn18_B0 p := by kernel_rfl
noncomputable def fn18_D : Ve.Fn := ⟨183, fn18_a, fn18_o, fn18_E, fn18⟩
theorem fn18_w : Walk Tryz.prog fn18_x fn18_D Tryz.f183 c183 61 fn18_A :=
  .of Tryz.func183 (kcast (by kernel_rfl) (⟨fn18_r0, trivial⟩ : (∀ p, run fn18_x (subc [1, 1, 1, 0, 1, 0, 0] c183) .nil (fn18_J1.S p) (leaf fn18_J1 fn18_O0) = fn18_B0 p) ∧ True)) fun x y => by kernel_rfl
theorem fn18_s : fn18_D.Says Tryz.prog := fn18_w.says follows tabOk fn85_e_ok
noncomputable def fn18_e : Env := more fn85_e fn18_D
theorem fn18_e_ok : EnvOk Tryz.prog fn18_e := more_ok fn85_e_ok fn18_s
abbrev fn35_E : Ve.End := ⟨[⟨2, .shr, (.prod I (.list (.prod I I))), some 30⟩, ⟨3, .shr, (.prod I (.list (.prod I I))), some 30⟩, ⟨4, (.own .shr), (.list I), none⟩, ⟨5, (.own .shr), (.list I), none⟩, ⟨6, .shr, .bool, none⟩], []⟩
abbrev fn35_a : List ASh := [.own .shr (.list (.int .u8))]
abbrev fn35_o : List OSh := []
noncomputable def fn35 : argP fn35_a → obP (extObs 0 fn35_o) → Option fn35_E.P
  | (code, ()), () => match fn29 () ((code, ((0 : Int), (0 : Int))), ()) with | some ((r, r2, ()), (o, ())) => (match fn28 ((2 : Int), ()) (o, ()) with | some ((r3, ()), (o2, ())) => (match fn18 ((r.1, r.2), (r2.1, r2.2), r3, ()) (o2, ()) with | some ((r4, ()), (o3, ())) => (match fn18 ((r.1, r.2), (r2.1, r2.2), r3, ()) (o3, ()) with | some ((r5, ()), (o4, ())) => some (((r.1, r.2), (r2.1, r2.2), r4, r5, r3, ()), ()) | none => none) | none => none) | none => none) | none => none
noncomputable def fn35_x : Cx := ⟨tab, fn18_e, fun f n => bif Nat.beq f 156 && Nat.beq n 0 then 1 else bif Nat.beq f 182 && Nat.beq n 0 then 1 else bif Nat.beq f 183 && Nat.beq n 0 then 1 else 0, fun _ => false, [(8, 0), (9, 0), (20, 0), (20, 1), (20, 2), (20, 3), (27, 0), (27, 1), (27, 2), (27, 3), (32, 0), (32, 1), (32, 2), (32, 3)], [(8, 0), (9, 0)]⟩
noncomputable def c68 : Code := bodyOf Tryz.f68
noncomputable def fn35_A : Ann := .seq .nil (.seq .nil (.seq .nil (.seq .nil (.seq (.draw [(0, .flo), (1, .flo), (2, .flo), (3, .flo), (4, .flo), (5, .flo), (7, .flo), (8, .flo), (9, .flo), (10, .flo), (12, .flo), (6, .sole), (11, .sole), (13, .sole), (14, .sole), (15, .flo), (16, .flo), (17, .flo)]) .nil))))
noncomputable def fn35_D : Ve.Fn := ⟨68, fn35_a, fn35_o, fn35_E, fn35⟩
theorem fn35_w : Walk Tryz.prog fn35_x fn35_D Tryz.f68 c68 34 fn35_A :=
  .of Tryz.func68 (kcast (by kernel_rfl) trivial) fun x y => by kernel_rfl
theorem fn35_s : fn35_D.Says Tryz.prog := fn35_w.says follows tabOk fn18_e_ok
noncomputable def fn35_e : Env := more fn18_e fn35_D
theorem fn35_e_ok : EnvOk Tryz.prog fn35_e := more_ok fn18_e_ok fn35_s
abbrev fn46_E : Ve.End := ⟨[⟨3, .shr, .bool, none⟩], []⟩
abbrev fn46_a : List ASh := [.val I, .cst (.prod I (.list (.prod I I)))]
abbrev fn46_o : List OSh := []
noncomputable def fn46 : argP fn46_a → obP (extObs 0 fn46_o) → Option fn46_E.P
  | (x, t1, ()), () => match fn64 (x, (0 : Int), (w64 (t1.1 - (1 : Int))), ()) () with | some ((r, ()), ()) => some (((!r), ()), ()) | none => none
noncomputable def fn46_x : Cx := ⟨tab, fn35_e, fun _ _ => 0, fun _ => false, [(8, 0), (8, 1), (8, 2), (8, 3)], []⟩
noncomputable def c250 : Code := bodyOf Tryz.f250
noncomputable def fn46_A : Ann := .nil
noncomputable def fn46_D : Ve.Fn := ⟨250, fn46_a, fn46_o, fn46_E, fn46⟩
theorem fn46_w : Walk Tryz.prog fn46_x fn46_D Tryz.f250 c250 10 fn46_A :=
  .of Tryz.func250 (kcast (by kernel_rfl) trivial) fun x y => by kernel_rfl
theorem fn46_s : fn46_D.Says Tryz.prog := fn46_w.says follows tabOk fn35_e_ok
noncomputable def fn46_e : Env := more fn35_e fn46_D
theorem fn46_e_ok : EnvOk Tryz.prog fn46_e := more_ok fn35_e_ok fn46_s
abbrev fn9_J0 : Tpl := ⟨[(0, .val (.list I)), (1, .fn ⟨250, [(1000000, 0)]⟩), (7, .val I), (8, .val I)], [((1000000, 0), .box .shr (.prod I (.list (.prod I I))))], []⟩
abbrev fn9_J1 : Tpl := ⟨[(4, .val I)], [((1000000, 0), .box .shr (.prod I (.list (.prod I I))))], []⟩
abbrev fn9_J2 : Tpl := ⟨[], [((1000000, 0), .box .shr (.prod I (.list (.prod I I))))], []⟩
abbrev fn9_E : Ve.End := ⟨[⟨4, .shr, I, none⟩], [.box .shr (.prod I (.list (.prod I I)))]⟩
abbrev fn9_a : List ASh := [.val (.list I), .fn 250 [0]]
abbrev fn9_o : List OSh := [.box .shr (.prod I (.list (.prod I I)))]
abbrev fn9_O0 : Out := .or .ret fn9_J1 (.one (.ex 0) fn9_J2)
noncomputable def fn9_B0 : fn9_J0.P → Option (fn9_J0.P ⊕ fn9_O0.P)
  | ((s, t7, t8, ()), (o0, ())) => bif (decide (t8 < t7)) then (guardB (inb t8 (List.length s)) (match fn46 ((List.getD s (Int.toNat t8) (0 : Int)), o0, ()) () with | some ((r, ()), ()) => (bif r then (some (.inr (.inl ((t8, ()), (o0, ()))))) else (some (.inl ((s, t7, (w64 (t8 + (1 : Int))), ()), (o0, ()))))) | none => none)) else (some (.inr (.inr ((), (o0, ())))))
noncomputable def fn9 : argP fn9_a → obP (extObs 0 fn9_o) → Option fn9_E.P
  | (s, ()), (o0, ()) => match loopO fn9_B0 ((s, (List.length s : Int), (0 : Int), ()), (o0, ())) with | some (.inl ((t4, ()), (o0_2, ()))) => some ((t4, ()), (o0_2, ())) | some (.inr ((), (o0_3, ()))) => some (((-1 : Int), ()), (o0_3, ())) | none => none
noncomputable def fn9_x : Cx := ⟨tab, fn46_e, fun _ _ => 0, fun _ => false, [(16, 0), (16, 1), (16, 2), (16, 3)], []⟩
noncomputable def fn9_A : Ann := .seq .nil (.seq (.seq .nil (.loop fn9_J0 fn9_O0 fn9_B0 .nil)) .nil)
theorem fn9_r0 (p : fn9_J0.P) : run fn9_x (subc [1, 0, 1, 0, 0] c310) .nil (fn9_J0.S p) (leaf fn9_J0 fn9_O0) = fn9_B0 p := by kernel_rfl
noncomputable def fn9_D : Ve.Fn := ⟨310, fn9_a, fn9_o, fn9_E, fn9⟩
theorem fn9_w : Walk Tryz.prog fn9_x fn9_D Tryz.f310 c310 19 fn9_A :=
  .of Tryz.func310 (kcast (by kernel_rfl) (⟨fn9_r0, trivial⟩ : (∀ p, run fn9_x (subc [1, 0, 1, 0, 0] c310) .nil (fn9_J0.S p) (leaf fn9_J0 fn9_O0) = fn9_B0 p) ∧ True)) fun x y => by kernel_rfl
theorem fn9_s : fn9_D.Says Tryz.prog := fn9_w.says follows tabOk fn46_e_ok
noncomputable def fn9_e : Env := more fn46_e fn9_D
theorem fn9_e_ok : EnvOk Tryz.prog fn9_e := more_ok fn46_e_ok fn9_s
abbrev fn8_E : Ve.End := ⟨[⟨4, .shr, .bool, none⟩], [.box .shr (.prod I (.list (.prod I I)))]⟩
abbrev fn8_a : List ASh := [.val (.list I), .fn 250 [0]]
abbrev fn8_o : List OSh := [.box .shr (.prod I (.list (.prod I I)))]
noncomputable def fn8 : argP fn8_a → obP (extObs 0 fn8_o) → Option fn8_E.P
  | (s, ()), (o0, ()) => match fn9 (s, ()) (o0, ()) with | some ((r, ()), (o, ())) => some (((decide ((0 : Int) ≤ r)), ()), (o, ())) | none => none
noncomputable def fn8_x : Cx := ⟨tab, fn9_e, fun _ _ => 0, fun _ => false, [(7, 0), (7, 1), (7, 2), (7, 3)], []⟩
noncomputable def fn8_A : Ann := .nil
noncomputable def fn8_D : Ve.Fn := ⟨249, fn8_a, fn8_o, fn8_E, fn8⟩
theorem fn8_w : Walk Tryz.prog fn8_x fn8_D Tryz.f249 c249 9 fn8_A :=
  .of Tryz.func249 (kcast (by kernel_rfl) trivial) fun x y => by kernel_rfl
theorem fn8_s : fn8_D.Says Tryz.prog := fn8_w.says follows tabOk fn9_e_ok
noncomputable def fn8_e : Env := more fn9_e fn8_D
theorem fn8_e_ok : EnvOk Tryz.prog fn8_e := more_ok fn9_e_ok fn8_s
abbrev fn38_E : Ve.End := ⟨[⟨5, .shr, .bool, none⟩], []⟩
abbrev fn38_a : List ASh := [.val (.prod I I), .cst (.prod I (.list (.prod I I))), .cst (.list I), .cst .bool]
abbrev fn38_o : List OSh := []
noncomputable def fn38 : argP fn38_a → obP (extObs 0 fn38_o) → Option fn38_E.P
  | (e, t1, t2, t3, ()), () => guardB (inb e.1 (List.length t2)) (guardB (inb e.2 (List.length t2)) (match fn40 (t1, (List.getD t2 (Int.toNat e.1) (0 : Int)), (List.getD t2 (Int.toNat e.2) (0 : Int)), t3, ()) () with | some ((r, ()), ()) => some (((!r), ()), ()) | none => none))
noncomputable def fn38_x : Cx := ⟨tab, fn8_e, fun _ _ => 0, fun _ => false, [(18, 0), (18, 1), (18, 2), (18, 3)], [(4, 0)]⟩
noncomputable def c252 : Code := bodyOf Tryz.f252
noncomputable def fn38_A : Ann := .seq .nil (.seq (.draw [(0, .flo), (1, .flo), (2, .flo), (3, .flo), (4, .flo), (5, .flo), (6, .flo), (7, .flo), (8, .flo), (9, .flo), (10, .flo), (11, .flo), (12, .sole), (13, .flo), (14, .flo)]) .nil)
noncomputable def fn38_D : Ve.Fn := ⟨252, fn38_a, fn38_o, fn38_E, fn38⟩
theorem fn38_w : Walk Tryz.prog fn38_x fn38_D Tryz.f252 c252 20 fn38_A :=
  .of Tryz.func252 (kcast (by kernel_rfl) trivial) fun x y => by kernel_rfl
theorem fn38_s : fn38_D.Says Tryz.prog := fn38_w.says follows tabOk fn8_e_ok
noncomputable def fn38_e : Env := more fn8_e fn38_D
theorem fn38_e_ok : EnvOk Tryz.prog fn38_e := more_ok fn8_e_ok fn38_s
abbrev fn7_J0 : Tpl := ⟨[(0, .val (.list (.prod I I))), (1, .fn ⟨252, [(1000000, 0), (1000001, 0), (1000002, 0)]⟩), (7, .val I), (8, .val I)], [((1000000, 0), .box .shr (.prod I (.list (.prod I I)))), ((1000001, 0), .box .shr (.list I)), ((1000002, 0), .box .shr .bool)], []⟩
abbrev fn7_J1 : Tpl := ⟨[(4, .val I)], [((1000000, 0), .box .shr (.prod I (.list (.prod I I)))), ((1000001, 0), .box .shr (.list I)), ((1000002, 0), .box .shr .bool)], []⟩
abbrev fn7_J2 : Tpl := ⟨[], [((1000000, 0), .box .shr (.prod I (.list (.prod I I)))), ((1000001, 0), .box .shr (.list I)), ((1000002, 0), .box .shr .bool)], []⟩
abbrev fn7_E : Ve.End := ⟨[⟨4, .shr, I, none⟩], [.box .shr (.prod I (.list (.prod I I))), .box .shr (.list I), .box .shr .bool]⟩
abbrev fn7_a : List ASh := [.val (.list (.prod I I)), .fn 252 [0, 1, 2]]
abbrev fn7_o : List OSh := [.box .shr (.prod I (.list (.prod I I))), .box .shr (.list I), .box .shr .bool]
abbrev fn7_O0 : Out := .or .ret fn7_J1 (.one (.ex 0) fn7_J2)
noncomputable def fn7_B0 : fn7_J0.P → Option (fn7_J0.P ⊕ fn7_O0.P)
  | ((s, t7, t8, ()), (o0, o1, o2, ())) => bif (decide (t8 < t7)) then (guardB (inb t8 (List.length s)) (match fn38 ((List.getD s (Int.toNat t8) ((0 : Int), (0 : Int))), o0, o1, o2, ()) () with | some ((r, ()), ()) => (bif r then (some (.inr (.inl ((t8, ()), (o0, o1, o2, ()))))) else (some (.inl ((s, t7, (w64 (t8 + (1 : Int))), ()), (o0, o1, o2, ()))))) | none => none)) else (some (.inr (.inr ((), (o0, o1, o2, ())))))
noncomputable def fn7 : argP fn7_a → obP (extObs 0 fn7_o) → Option fn7_E.P
  | (s, ()), (o0, o1, o2, ()) => match loopO fn7_B0 ((s, (List.length s : Int), (0 : Int), ()), (o0, o1, o2, ())) with | some (.inl ((t4, ()), (o0_2, o1_2, o2_2, ()))) => some ((t4, ()), (o0_2, o1_2, o2_2, ())) | some (.inr ((), (o0_3, o1_3, o2_3, ()))) => some (((-1 : Int), ()), (o0_3, o1_3, o2_3, ())) | none => none
noncomputable def fn7_x : Cx := ⟨tab, fn38_e, fun _ _ => 0, fun _ => false, [(16, 0), (16, 1), (16, 2), (16, 3)], []⟩
noncomputable def c311 : Code := bodyOf Tryz.f311
noncomputable def fn7_A : Ann := .seq .nil (.seq (.seq .nil (.loop fn7_J0 fn7_O0 fn7_B0 .nil)) .nil)
theorem fn7_r0 (p : fn7_J0.P) : run fn7_x (subc [1, 0, 1, 0, 0] c311) .nil (fn7_J0.S p) (leaf fn7_J0 fn7_O0) = fn7_B0 p := by kernel_rfl
noncomputable def fn7_D : Ve.Fn := ⟨311, fn7_a, fn7_o, fn7_E, fn7⟩
theorem fn7_w : Walk Tryz.prog fn7_x fn7_D Tryz.f311 c311 19 fn7_A :=
  .of Tryz.func311 (kcast (by kernel_rfl) (⟨fn7_r0, trivial⟩ : (∀ p, run fn7_x (subc [1, 0, 1, 0, 0] c311) .nil (fn7_J0.S p) (leaf fn7_J0 fn7_O0) = fn7_B0 p) ∧ True)) fun x y => by kernel_rfl
theorem fn7_s : fn7_D.Says Tryz.prog := fn7_w.says follows tabOk fn38_e_ok
noncomputable def fn7_e : Env := more fn38_e fn7_D
theorem fn7_e_ok : EnvOk Tryz.prog fn7_e := more_ok fn38_e_ok fn7_s
abbrev fn6_E : Ve.End := ⟨[⟨4, .shr, .bool, none⟩], [.box .shr (.prod I (.list (.prod I I))), .box .shr (.list I), .box .shr .bool]⟩
abbrev fn6_a : List ASh := [.val (.list (.prod I I)), .fn 252 [0, 1, 2]]
abbrev fn6_o : List OSh := [.box .shr (.prod I (.list (.prod I I))), .box .shr (.list I), .box .shr .bool]
noncomputable def fn6 : argP fn6_a → obP (extObs 0 fn6_o) → Option fn6_E.P
  | (s, ()), (o0, o1, o2, ()) => match fn7 (s, ()) (o0, o1, o2, ()) with | some ((r, ()), (o, o3, o4, ())) => some (((decide ((0 : Int) ≤ r)), ()), (o, o3, o4, ())) | none => none
noncomputable def fn6_x : Cx := ⟨tab, fn7_e, fun _ _ => 0, fun _ => false, [(7, 0), (7, 1), (7, 2), (7, 3)], []⟩
noncomputable def c251 : Code := bodyOf Tryz.f251
noncomputable def fn6_A : Ann := .nil
noncomputable def fn6_D : Ve.Fn := ⟨251, fn6_a, fn6_o, fn6_E, fn6⟩
theorem fn6_w : Walk Tryz.prog fn6_x fn6_D Tryz.f251 c251 9 fn6_A :=
  .of Tryz.func251 (kcast (by kernel_rfl) trivial) fun x y => by kernel_rfl
theorem fn6_s : fn6_D.Says Tryz.prog := fn6_w.says follows tabOk fn7_e_ok
noncomputable def fn6_e : Env := more fn7_e fn6_D
theorem fn6_e_ok : EnvOk Tryz.prog fn6_e := more_ok fn7_e_ok fn6_s
abbrev fn94_E : Ve.End := ⟨[⟨8, .shr, .bool, none⟩], []⟩
abbrev fn94_a : List ASh := [.val (.prod I (.list (.prod I I))), .val (.prod I (.list (.prod I I))), .val (.list I), .val .bool]
abbrev fn94_o : List OSh := []
noncomputable def fn94 : argP fn94_a → obP (extObs 0 fn94_o) → Option fn94_E.P
  | (g, h, list, lazy, ()), () => bif ((List.length list : Int) != g.1) then (some ((false, ()), ())) else (match fn8 (list, ()) (h, ()) with | some ((r, ()), (o, ())) => (bif r then (some ((false, ()), ())) else (match fn6 (g.2, ()) (o, list, lazy, ()) with | some ((r2, ()), (o2, o3, o4, ())) => some (((!r2), ()), ()) | none => none)) | none => none)
noncomputable def fn94_x : Cx := ⟨tab, fn6_e, fun _ _ => 0, fun _ => false, [(17, 0), (17, 1), (17, 2), (17, 3), (22, 0), (22, 1), (22, 2), (22, 3)], [(4, 0)]⟩
noncomputable def c132 : Code := bodyOf Tryz.f132
noncomputable def fn94_A : Ann := .nil
noncomputable def fn94_D : Ve.Fn := ⟨132, fn94_a, fn94_o, fn94_E, fn94⟩
theorem fn94_w : Walk Tryz.prog fn94_x fn94_D Tryz.f132 c132 24 fn94_A :=
  .of Tryz.func132 (kcast (by kernel_rfl) trivial) fun x y => by kernel_rfl
theorem fn94_s : fn94_D.Says Tryz.prog := fn94_w.says follows tabOk fn6_e_ok
noncomputable def fn94_e : Env := more fn6_e fn94_D
theorem fn94_e_ok : EnvOk Tryz.prog fn94_e := more_ok fn6_e_ok fn94_s
abbrev fn23_J0 : Tpl := ⟨[(0, .val (.list I)), (1, .val (.list I)), (9, .val (.list I)), (10, .val I), (11, .val I)], [], []⟩
abbrev fn23_J1 : Tpl := ⟨[(4, .val I)], [], []⟩
abbrev fn23_J2 : Tpl := ⟨[(0, .val (.list I)), (1, .val (.list I))], [], []⟩
abbrev fn23_E : Ve.End := ⟨[⟨4, .shr, I, none⟩], []⟩
abbrev fn23_a : List ASh := [.val (.list I), .val (.list I)]
abbrev fn23_o : List OSh := []
abbrev fn23_O0 : Out := .or .ret fn23_J1 (.one (.ex 0) fn23_J2)
noncomputable def fn23_B0 : fn23_J0.P → Option (fn23_J0.P ⊕ fn23_O0.P)
  | ((s1, s2, t9, t10, t11, ()), ()) => bif (decide (t11 < t10)) then (guardB (inb t11 (List.length t9)) (bif (decide ((List.length s2 : Int) ≤ t11)) then (some (.inr (.inl (((1 : Int), ()), ())))) else (guardB (inb t11 (List.length s2)) (match fn44 ((List.getD t9 (Int.toNat t11) (0 : Int)), (List.getD s2 (Int.toNat t11) (0 : Int)), ()) () with | some ((r, ()), ()) => (bif (r != (0 : Int)) then (some (.inr (.inl ((r, ()), ())))) else (some (.inl ((s1, s2, t9, t10, (w64 (t11 + (1 : Int))), ()), ())))) | none => none)))) else (some (.inr (.inr ((s1, s2, ()), ()))))
noncomputable def fn23 : argP fn23_a → obP (extObs 0 fn23_o) → Option fn23_E.P
  | (s1, s2, ()), () => match loopO fn23_B0 ((s1, s2, s1, (List.length s1 : Int), (0 : Int), ()), ()) with | some (.inl ((t4, ()), ())) => some ((t4, ()), ()) | some (.inr ((s1_2, s2_2, ()), ())) => (bif (decide ((List.length s1_2 : Int) < (List.length s2_2 : Int))) then (some (((-1 : Int), ()), ())) else (some (((0 : Int), ()), ()))) | none => none
noncomputable def fn23_x : Cx := ⟨tab, fn94_e, fun _ _ => 0, fun _ => false, [(26, 0), (26, 1), (26, 2), (26, 3)], []⟩
noncomputable def c261 : Code := bodyOf Tryz.f261
noncomputable def fn23_A : Ann := .seq .nil (.seq (.seq .nil (.loop fn23_J0 fn23_O0 fn23_B0 .nil)) .nil)
theorem fn23_r0 (p : fn23_J0.P) : run fn23_x (subc [1, 0, 1, 0, 0] c261) .nil (fn23_J0.S p) (leaf fn23_J0 fn23_O0) = fn23_B0 p := by kernel_rfl
noncomputable def fn23_D : Ve.Fn := ⟨261, fn23_a, fn23_o, fn23_E, fn23⟩
theorem fn23_w : Walk Tryz.prog fn23_x fn23_D Tryz.f261 c261 36 fn23_A :=
  .of Tryz.func261 (kcast (by kernel_rfl) (⟨fn23_r0, trivial⟩ : (∀ p, run fn23_x (subc [1, 0, 1, 0, 0] c261) .nil (fn23_J0.S p) (leaf fn23_J0 fn23_O0) = fn23_B0 p) ∧ True)) fun x y => by kernel_rfl
theorem fn23_s : fn23_D.Says Tryz.prog := fn23_w.says follows tabOk fn94_e_ok
noncomputable def fn23_e : Env := more fn94_e fn23_D
theorem fn23_e_ok : EnvOk Tryz.prog fn23_e := more_ok fn94_e_ok fn23_s
abbrev fn4_J0 : Tpl := ⟨[(0, .val (.list (.list I))), (1, .val (.list I)), (2, .fn ⟨261, []⟩), (8, .val I), (9, .val I), (10, .val I)], [], []⟩
abbrev fn4_J1 : Tpl := ⟨[(0, .val (.list (.list I))), (1, .val (.list I)), (2, .fn ⟨261, []⟩), (8, .val I), (9, .val I)], [], []⟩
abbrev fn4_E : Ve.End := ⟨[⟨6, .shr, I, none⟩, ⟨7, .shr, .bool, none⟩], []⟩
abbrev fn4_a : List ASh := [.val (.list (.list I)), .val (.list I), .fn 261 []]
abbrev fn4_o : List OSh := []
abbrev fn4_O0 : Out := .one (.ex 0) fn4_J1
noncomputable def fn4_B0 : fn4_J0.P → Option (fn4_J0.P ⊕ fn4_O0.P)
  | ((x, target, n, i, j, ()), ()) => bif (decide (i < j)) then (guardB (inb (w64 (Int.fdiv (IntKind.wrap .u64 (w64 (i + j))) (2 ^ (min 1 64)))) (List.length x)) (match fn23 ((List.getD x (Int.toNat (w64 (Int.fdiv (IntKind.wrap .u64 (w64 (i + j))) (2 ^ (min 1 64))))) ([] : (List Int))), target, ()) () with | some ((r, ()), ()) => (bif (decide (r < (0 : Int))) then (some (.inl ((x, target, n, (w64 ((w64 (Int.fdiv (IntKind.wrap .u64 (w64 (i + j))) (2 ^ (min 1 64)))) + (1 : Int))), j, ()), ()))) else (some (.inl ((x, target, n, i, (w64 (Int.fdiv (IntKind.wrap .u64 (w64 (i + j))) (2 ^ (min 1 64)))), ()), ())))) | none => none)) else (some (.inr ((x, target, n, i, ()), ())))
noncomputable def fn4 : argP fn4_a → obP (extObs 0 fn4_o) → Option fn4_E.P
  | (x, target, ()), () => match loopO fn4_B0 ((x, target, (List.length x : Int), (0 : Int), (List.length x : Int), ()), ()) with | some ((x2, target2, n, i, ()), ()) => (bif (decide (i < n)) then (guardB (inb i (List.length x2)) (match fn23 ((List.getD x2 (Int.toNat i) ([] : (List Int))), target2, ()) () with | some ((r, ()), ()) => some ((i, (r == (0 : Int)), ()), ()) | none => none)) else (some ((i, false, ()), ()))) | none => none
noncomputable def fn4_x : Cx := ⟨tab, fn23_e, fun _ _ => 0, fun _ => false, [(30, 0), (30, 1), (30, 2), (30, 3), (46, 0), (46, 1), (46, 2), (46, 3)], []⟩
noncomputable def c308 : Code := bodyOf Tryz.f308
noncomputable def fn4_A : Ann := .seq .nil (.seq .nil (.seq .nil (.seq (.loop fn4_J0 fn4_O0 fn4_B0 .nil) .nil)))
theorem fn4_r0 (p : fn4_J0.P) : run fn4_x (subc [1, 1, 1, 0, 0, 0] c308) .nil (fn4_J0.S p) (leaf fn4_J0 fn4_O0) = fn4_B0 p := by kernel_rfl
noncomputable def fn4_D : Ve.Fn := ⟨308, fn4_a, fn4_o, fn4_E, fn4⟩
theorem fn4_w : Walk Tryz.prog fn4_x fn4_D Tryz.f308 c308 49 fn4_A :=
  .of Tryz.func308 (kcast (by kernel_rfl) (⟨fn4_r0, trivial⟩ : (∀ p, run fn4_x (subc [1, 1, 1, 0, 0, 0] c308) .nil (fn4_J0.S p) (leaf fn4_J0 fn4_O0) = fn4_B0 p) ∧ True)) fun x y => by kernel_rfl
theorem fn4_s : fn4_D.Says Tryz.prog := fn4_w.says follows tabOk fn23_e_ok
noncomputable def fn4_e : Env := more fn23_e fn4_D
theorem fn4_e_ok : EnvOk Tryz.prog fn4_e := more_ok fn23_e_ok fn4_s
abbrev fn41_E : Ve.End := ⟨[⟨4, .shr, I, none⟩, ⟨5, .shr, .bool, none⟩], []⟩
abbrev fn41_a : List ASh := [.val (.prod (.list (.list I)) (.list (.prod I I))), .val (.list I)]
abbrev fn41_o : List OSh := []
noncomputable def fn41 : argP fn41_a → obP (extObs 0 fn41_o) → Option fn41_E.P
  | (x, state, ()), () => match fn4 (x.1, state, ()) () with | some ((r, r2, ()), ()) => some ((r, r2, ()), ()) | none => none
noncomputable def fn41_x : Cx := ⟨tab, fn4_e, fun _ _ => 0, fun _ => false, [(9, 0), (9, 1), (9, 2), (9, 3)], [(2, 0)]⟩
noncomputable def c239 : Code := bodyOf Tryz.f239
noncomputable def fn41_A : Ann := .nil
noncomputable def fn41_D : Ve.Fn := ⟨239, fn41_a, fn41_o, fn41_E, fn41⟩
theorem fn41_w : Walk Tryz.prog fn41_x fn41_D Tryz.f239 c239 12 fn41_A :=
  .of Tryz.func239 (kcast (by kernel_rfl) trivial) fun x y => by kernel_rfl
theorem fn41_s : fn41_D.Says Tryz.prog := fn41_w.says follows tabOk fn4_e_ok
noncomputable def fn41_e : Env := more fn4_e fn41_D
theorem fn41_e_ok : EnvOk Tryz.prog fn41_e := more_ok fn4_e_ok fn41_s
noncomputable def slices_Sort_int_int_e : Env := more fn41_e (sortFn 280)
theorem slices_Sort_int_int_e_ok : EnvOk Tryz.prog slices_Sort_int_int_e := more_ok fn41_e_ok sort_s
noncomputable abbrev slices_Sort_int_int := (sortFn 280).F
abbrev fn42_J0 : Tpl := ⟨[(3, .own (.own .shr) (.list I)), (13, .val (.list (.prod I I))), (14, .val I), (15, .val I)], [], []⟩
abbrev fn42_J1 : Tpl := ⟨[(3, .own (.own .shr) (.list I))], [], []⟩
abbrev fn42_J2 : Tpl := ⟨[(3, .own (.own .shr) (.list I)), (46, .same (3, 0) []), (47, .val I), (48, .val I)], [], []⟩
abbrev fn42_E : Ve.End := ⟨[⟨2, (.own (.own .shr)), (.list (.list I)), none⟩], []⟩
abbrev fn42_a : List ASh := [.val (.prod (.list (.list I)) (.list (.prod I I)))]
abbrev fn42_o : List OSh := []
abbrev fn42_O0 : Out := .one (.ex 0) fn42_J1
noncomputable def fn42_B0 : fn42_J0.P → Option (fn42_J0.P ⊕ fn42_O0.P)
  | ((out, t13, t14, t15, ()), ()) => bif (decide (t15 < t14)) then (guardB (inb t15 (List.length t13)) (guardB (inb ((List.getD t13 (Int.toNat t15) ((0 : Int), (0 : Int))).1) (List.length out)) (guardB (decide ((List.length (List.getD out (Int.toNat ((List.getD t13 (Int.toNat t15) ((0 : Int), (0 : Int))).1)) ([] : (List Int))) + List.length [(List.getD t13 (Int.toNat t15) ((0 : Int), (0 : Int))).2]) * 8 ≤ 70368744177664)) (guardB (inb ((List.getD t13 (Int.toNat t15) ((0 : Int), (0 : Int))).1) (List.length out)) (guardB (Nat.beq (Int.toNat ((List.getD t13 (Int.toNat t15) ((0 : Int), (0 : Int))).1)) (Int.toNat ((List.getD t13 (Int.toNat t15) ((0 : Int), (0 : Int))).1)) && true) (guardB (inb ((List.getD t13 (Int.toNat t15) ((0 : Int), (0 : Int))).2) (List.length (List.set out (Int.toNat ((List.getD t13 (Int.toNat t15) ((0 : Int), (0 : Int))).1)) ((List.getD out (Int.toNat ((List.getD t13 (Int.toNat t15) ((0 : Int), (0 : Int))).1)) ([] : (List Int))) ++ [(List.getD t13 (Int.toNat t15) ((0 : Int), (0 : Int))).2])))) (guardB (decide ((List.length (List.getD (List.set out (Int.toNat ((List.getD t13 (Int.toNat t15) ((0 : Int), (0 : Int))).1)) ((List.getD out (Int.toNat ((List.getD t13 (Int.toNat t15) ((0 : Int), (0 : Int))).1)) ([] : (List Int))) ++ [(List.getD t13 (Int.toNat t15) ((0 : Int), (0 : Int))).2])) (Int.toNat ((List.getD t13 (Int.toNat t15) ((0 : Int), (0 : Int))).2)) ([] : (List Int))) + List.length [(List.getD t13 (Int.toNat t15) ((0 : Int), (0 : Int))).1]) * 8 ≤ 70368744177664)) (guardB (inb ((List.getD t13 (Int.toNat t15) ((0 : Int), (0 : Int))).2) (List.length (List.set out (Int.toNat ((List.getD t13 (Int.toNat t15) ((0 : Int), (0 : Int))).1)) ((List.getD out (Int.toNat ((List.getD t13 (Int.toNat t15) ((0 : Int), (0 : Int))).1)) ([] : (List Int))) ++ [(List.getD t13 (Int.toNat t15) ((0 : Int), (0 : Int))).2])))) (guardB (Nat.beq (Int.toNat ((List.getD t13 (Int.toNat t15) ((0 : Int), (0 : Int))).2)) (Int.toNat ((List.getD t13 (Int.toNat t15) ((0 : Int), (0 : Int))).2)) && true) (some (.inl (((List.set (List.set out (Int.toNat ((List.getD t13 (Int.toNat t15) ((0 : Int), (0 : Int))).1)) ((List.getD out (Int.toNat ((List.getD t13 (Int.toNat t15) ((0 : Int), (0 : Int))).1)) ([] : (List Int))) ++ [(List.getD t13 (Int.toNat t15) ((0 : Int), (0 : Int))).2])) (Int.toNat ((List.getD t13 (Int.toNat t15) ((0 : Int), (0 : Int))).2)) ((List.getD (List.set out (Int.toNat ((List.getD t13 (Int.toNat t15) ((0 : Int), (0 : Int))).1)) ((List.getD out (Int.toNat ((List.getD t13 (Int.toNat t15) ((0 : Int), (0 : Int))).1)) ([] : (List Int))) ++ [(List.getD t13 (Int.toNat t15) ((0 : Int), (0 : Int))).2])) (Int.toNat ((List.getD t13 (Int.toNat t15) ((0 : Int), (0 : Int))).2)) ([] : (List Int))) ++ [(List.getD t13 (Int.toNat t15) ((0 : Int), (0 : Int))).1])), t13, t14, (w64 (t15 + (1 : Int))), ()), ())))))))))))) else (some (.inr ((out, ()), ())))
abbrev fn42_O1 : Out := .one (.ex 2) fn42_J1
noncomputable def fn42_B1 : fn42_J2.P → Option (fn42_J2.P ⊕ fn42_O1.P)
  | ((out, t47, t48, ()), ()) => bif (decide (t48 < t47)) then (guardB (inb t48 (List.length out)) (match slices_Sort_int_int () ((List.getD out (Int.toNat t48) ([] : (List Int))), ()) with | some ((), (o, ())) => some (.inl (((List.set out (Int.toNat t48) o), t47, (w64 (t48 + (1 : Int))), ()), ())) | none => none)) else (some (.inr ((out, ()), ())))
noncomputable def fn42 : argP fn42_a → obP (extObs 0 fn42_o) → Option fn42_E.P
  | (x, ()), () => guardB (decide (0 ≤ (List.length x.1 : Int)) && decide ((List.length x.1 : Int) ≤ (List.length x.1 : Int)) && decide ((List.length x.1 : Int) * 24 ≤ 140737488355328)) (match loopO fn42_B0 (((List.replicate (Int.toNat (List.length x.1 : Int)) ([] : (List Int))), x.2, (List.length x.2 : Int), (0 : Int), ()), ()) with | some ((out, ()), ()) => (match loopO fn42_B1 ((out, (List.length out : Int), (0 : Int), ()), ()) with | some ((out2, ()), ()) => some ((out2, ()), ()) | none => none) | none => none)
noncomputable def fn42_x : Cx := ⟨tab, slices_Sort_int_int_e, fun f n => bif Nat.beq f 280 && Nat.beq n 0 then 1 else 0, fun _ => false, [(29, 0), (42, 0), (53, 0), (53, 1), (53, 2), (53, 3)], [(1, 0), (5, 0)]⟩
noncomputable def c175 : Code := bodyOf Tryz.f175
noncomputable def fn42_A : Ann := .seq .nil (.seq .nil (.seq (.seq .nil (.loop fn42_J0 fn42_O0 fn42_B0 (.seq .nil (.seq .nil (.seq (.seq .nil (.seq (.draw [(0, .flo), (1, .flo), (2, .flo), (3, .flo), (4, .flo), (5, .flo), (6, .flo), (8, .flo), (9, .flo), (7, .qui), (10, .sole), (11, .sole), (12, .flo), (13, .sole)]) (.draw [(0, .flo), (1, .flo), (2, .flo), (3, .flo), (4, .flo), (5, .flo), (6, .flo), (8, .flo), (9, .flo), (7, .qui), (10, .sole), (11, .sole), (12, .flo), (13, .sole)]))) .nil))))) (.seq (.seq .nil (.loop fn42_J2 fn42_O1 fn42_B1 .nil)) .nil)))
theorem fn42_r0 (p : fn42_J0.P) : run fn42_x (subc [1, 1, 0, 1, 0, 0] c175) (.seq .nil (.seq .nil (.seq (.seq .nil (.seq (.draw [(0, .flo), (1, .flo), (2, .flo), (3, .flo), (4, .flo), (5, .flo), (6, .flo), (8, .flo), (9, .flo), (7, .qui), (10, .sole), (11, .sole), (12, .flo), (13, .sole)]) (.draw [(0, .flo), (1, .flo), (2, .flo), (3, .flo), (4, .flo), (5, .flo), (6, .flo), (8, .flo), (9, .flo), (7, .qui), (10, .sole), (11, .sole), (12, .flo), (13, .sole)]))) .nil))) (fn42_J0.S p) (leaf fn42_J0 fn42_O0) = fn42_B0 p := by kernel_rfl
theorem fn42_r1 (p : fn42_J2.P) : run fn42_x (subc [1, 1, 1, 0, 1, 0, 0] c175) .nil (fn42_J2.S p) (leaf fn42_J2 fn42_O1) = fn42_B1 p := by kernel_rfl
noncomputable def fn42_D : Ve.Fn := ⟨175, fn42_a, fn42_o, fn42_E, fn42⟩
theorem fn42_w : Walk Tryz.prog fn42_x fn42_D Tryz.f175 c175 56 fn42_A :=
  .of Tryz.func175 (kcast (by kernel_rfl) (⟨fn42_r0, fn42_r1, trivial⟩ : (∀ p, run fn42_x (subc [1, 1, 0, 1, 0, 0] c175) (.seq .nil (.seq .nil (.seq (.seq .nil (.seq (.draw [(0, .flo), (1, .flo), (2, .flo), (3, .flo), (4, .flo), (5, .flo), (6, .flo), (8, .flo), (9, .flo), (7, .qui), (10, .sole), (11, .sole), (12, .flo), (13, .sole)]) (.draw [(0, .flo), (1, .flo), (2, .flo), (3, .flo), (4, .flo), (5, .flo), (6, .flo), (8, .flo), (9, .flo), (7, .qui), (10, .sole), (11, .sole), (12, .flo), (13, .sole)]))) .nil))) (fn42_J0.S p) (leaf fn42_J0 fn42_O0) = fn42_B0 p) ∧ (∀ p, run fn42_x (subc [1, 1, 1, 0, 1, 0, 0] c175) .nil (fn42_J2.S p) (leaf fn42_J2 fn42_O1) = fn42_B1 p) ∧ True)) fun x y => by kernel_rfl
theorem fn42_s : fn42_D.Says Tryz.prog := fn42_w.says follows tabOk slices_Sort_int_int_e_ok
noncomputable def fn42_e : Env := more slices_Sort_int_int_e fn42_D
theorem fn42_e_ok : EnvOk Tryz.prog fn42_e := more_ok slices_Sort_int_int_e_ok fn42_s
abbrev fn91_E : Ve.End := ⟨[⟨4, .shr, (.int .u64), none⟩, ⟨5, .shr, (.int .u64), none⟩], []⟩
abbrev fn91_a : List ASh := [.val (.int .u64), .val (.int .u64)]
abbrev fn91_o : List OSh := []
noncomputable def fn91 : argP fn91_a → obP (extObs 0 fn91_o) → Option fn91_E.P
  | (x, y, ()), () => some (((IntKind.wrap .u64 ((IntKind.wrap .u64 ((IntKind.wrap .u64 ((Int.fdiv x (2 ^ (min 32 64))) * (Int.fdiv y (2 ^ (min 32 64))))) + (Int.fdiv (IntKind.wrap .u64 ((IntKind.wrap .u64 ((Int.fdiv x (2 ^ (min 32 64))) * (IntKind.wrap .u64 (BitVec.ofInt 64 y &&& BitVec.ofInt 64 (4294967295 : Int)).toNat))) + (Int.fdiv (IntKind.wrap .u64 ((IntKind.wrap .u64 (BitVec.ofInt 64 x &&& BitVec.ofInt 64 (4294967295 : Int)).toNat) * (IntKind.wrap .u64 (BitVec.ofInt 64 y &&& BitVec.ofInt 64 (4294967295 : Int)).toNat))) (2 ^ (min 32 64))))) (2 ^ (min 32 64))))) + (Int.fdiv (IntKind.wrap .u64 ((IntKind.wrap .u64 (BitVec.ofInt 64 (IntKind.wrap .u64 ((IntKind.wrap .u64 ((Int.fdiv x (2 ^ (min 32 64))) * (IntKind.wrap .u64 (BitVec.ofInt 64 y &&& BitVec.ofInt 64 (4294967295 : Int)).toNat))) + (Int.fdiv (IntKind.wrap .u64 ((IntKind.wrap .u64 (BitVec.ofInt 64 x &&& BitVec.ofInt 64 (4294967295 : Int)).toNat) * (IntKind.wrap .u64 (BitVec.ofInt 64 y &&& BitVec.ofInt 64 (4294967295 : Int)).toNat))) (2 ^ (min 32 64))))) &&& BitVec.ofInt 64 (4294967295 : Int)).toNat) + (IntKind.wrap .u64 ((IntKind.wrap .u64 (BitVec.ofInt 64 x &&& BitVec.ofInt 64 (4294967295 : Int)).toNat) * (Int.fdiv y (2 ^ (min 32 64))))))) (2 ^ (min 32 64))))), (IntKind.wrap .u64 (x * y)), ()), ())
noncomputable def fn91_x : Cx := ⟨tab, fn42_e, fun _ _ => 0, fun _ => false, [], []⟩
noncomputable def c360 : Code := bodyOf Tryz.f360
noncomputable def fn91_A : Ann := .nil
noncomputable def fn91_D : Ve.Fn := ⟨360, fn91_a, fn91_o, fn91_E, fn91⟩
theorem fn91_w : Walk Tryz.prog fn91_x fn91_D Tryz.f360 c360 51 fn91_A :=
  .of Tryz.func360 (kcast (by kernel_rfl) trivial) fun x y => by kernel_rfl
theorem fn91_s : fn91_D.Says Tryz.prog := fn91_w.says follows tabOk fn42_e_ok
noncomputable def fn91_e : Env := more fn42_e fn91_D
theorem fn91_e_ok : EnvOk Tryz.prog fn91_e := more_ok fn42_e_ok fn91_s
abbrev fn101_E : Ve.End := ⟨[⟨4, .shr, (.int .u64), none⟩, ⟨5, .shr, (.int .u64), none⟩], []⟩
abbrev fn101_a : List ASh := [.val (.int .u64), .val (.int .u64)]
abbrev fn101_o : List OSh := []
noncomputable def fn101 : argP fn101_a → obP (extObs 0 fn101_o) → Option fn101_E.P
  | (x, y, ()), () => match fn91 (x, y, ()) () with | some ((hi, lo, ()), ()) => some ((hi, lo, ()), ()) | none => none
noncomputable def fn101_x : Cx := ⟨tab, fn91_e, fun _ _ => 0, fun _ => false, [(15, 0), (15, 1), (15, 2), (15, 3), (25, 0), (25, 1), (25, 2), (25, 3)], []⟩
noncomputable def c324 : Code := bodyOf Tryz.f324
noncomputable def fn101_A : Ann := .nil
noncomputable def fn101_D : Ve.Fn := ⟨324, fn101_a, fn101_o, fn101_E, fn101⟩
theorem fn101_w : Walk Tryz.prog fn101_x fn101_D Tryz.f324 c324 30 fn101_A :=
  .of Tryz.func324 (kcast (by kernel_rfl) trivial) fun x y => by kernel_rfl
theorem fn101_s : fn101_D.Says Tryz.prog := fn101_w.says follows tabOk fn91_e_ok
noncomputable def fn101_e : Env := more fn91_e fn101_D
theorem fn101_e_ok : EnvOk Tryz.prog fn101_e := more_ok fn91_e_ok fn101_s
abbrev fn25_J0 : Tpl := ⟨[(7, .own .shr I), (8, .val I)], [], []⟩
abbrev fn25_J1 : Tpl := ⟨[(7, .own .shr I)], [], []⟩
abbrev fn25_E : Ve.End := ⟨[⟨4, (.own .shr), (.list I), none⟩], []⟩
abbrev fn25_a : List ASh := [.val (.list I), .val I]
abbrev fn25_o : List OSh := []
abbrev fn25_O0 : Out := .one (.ex 0) fn25_J1
noncomputable def fn25_B0 : fn25_J0.P → Option (fn25_J0.P ⊕ fn25_O0.P)
  | ((newslice, n, ()), ()) => bif (decide (n < (List.length newslice : Int))) then (guardB (decide (0 ≤ n) && decide (n ≤ (List.length newslice : Int)) && decide ((List.length newslice : Int) ≤ (List.length newslice : Int))) (guardB (decide (0 ≤ (0 : Int)) && decide ((0 : Int) ≤ n) && decide (n ≤ (List.length newslice : Int))) (guardB (decide ((Int.toNat n) ≤ (Int.toNat (List.length newslice : Int))) && decide ((Int.toNat (List.length newslice : Int)) ≤ List.length newslice)) (some (.inl (((List.take (Int.toNat n) newslice ++ List.take (min (List.length (List.drop 0 (List.take (Int.toNat n) newslice))) ((Int.toNat (List.length newslice : Int)) - (Int.toNat n))) (List.drop 0 (List.take (Int.toNat n) newslice)) ++ List.drop ((Int.toNat n) + (min (List.length (List.drop 0 (List.take (Int.toNat n) newslice))) ((Int.toNat (List.length newslice : Int)) - (Int.toNat n)))) newslice), (w64 (n + (((min (List.length (List.drop 0 (List.take (Int.toNat n) newslice))) ((Int.toNat (List.length newslice : Int)) - (Int.toNat n))) : Nat) : Int))), ()), ())))))) else (some (.inr ((newslice, ()), ())))
noncomputable def fn25 : argP fn25_a → obP (extObs 0 fn25_o) → Option fn25_E.P
  | (x, count, ()), () => bif (decide (count < (0 : Int))) then none else (match fn101 ((IntKind.wrap .u64 (List.length x : Int)), (IntKind.wrap .u64 count), ()) () with | some ((hi, lo, ()), ()) => (bif (decide ((0 : Int) < hi)) then none else (bif (decide ((9223372036854775807 : Int) < lo)) then none else (guardB (decide (0 ≤ (w64 lo)) && decide ((w64 lo) ≤ (w64 lo)) && decide ((w64 lo) * 8 ≤ 140737488355328)) (guardB (decide (0 ≤ List.length (List.replicate (Int.toNat (w64 lo)) (0 : Int))) && decide (List.length (List.replicate (Int.toNat (w64 lo)) (0 : Int)) ≤ List.length (List.replicate (Int.toNat (w64 lo)) (0 : Int)))) (match loopO fn25_B0 (((List.take 0 (List.replicate (Int.toNat (w64 lo)) (0 : Int)) ++ List.take (min (List.length x) (List.length (List.replicate (Int.toNat (w64 lo)) (0 : Int)) - 0)) x ++ List.drop (0 + (min (List.length x) (List.length (List.replicate (Int.toNat (w64 lo)) (0 : Int)) - 0))) (List.replicate (Int.toNat (w64 lo)) (0 : Int))), (((min (List.length x) (List.length (List.replicate (Int.toNat (w64 lo)) (0 : Int)) - 0)) : Nat) : Int), ()), ()) with | some ((newslice, ()), ()) => some ((newslice, ()), ()) | none => none))))) | none => none)
noncomputable def fn25_x : Cx := ⟨tab, fn101_e, fun _ _ => 0, fun _ => false, [(18, 0), (18, 1), (18, 2), (18, 3)], []⟩
noncomputable def c298 : Code := bodyOf Tryz.f298
noncomputable def fn25_A : Ann := .seq .nil (.seq .nil (.seq .nil (.seq .nil (.seq .nil (.seq .nil (.seq (.loop fn25_J0 fn25_O0 fn25_B0 (.seq .nil (.draw [(0, .flo), (1, .flo), (2, .flo), (3, .flo), (4, .flo), (5, .flo), (6, .flo), (7, .sole), (8, .flo), (9, .flo)]))) .nil))))))
theorem fn25_r0 (p : fn25_J0.P) : run fn25_x (subc [1, 1, 1, 1, 1, 1, 0, 0, 0] c298) (.seq .nil (.draw [(0, .flo), (1, .flo), (2, .flo), (3, .flo), (4, .flo), (5, .flo), (6, .flo), (7, .sole), (8, .flo), (9, .flo)])) (fn25_J0.S p) (leaf fn25_J0 fn25_O0) = fn25_B0 p := by kernel_rfl
noncomputable def fn25_D : Ve.Fn := ⟨298, fn25_a, fn25_o, fn25_E, fn25⟩
theorem fn25_w : Walk Tryz.prog fn25_x fn25_D Tryz.f298 c298 48 fn25_A :=
  .of Tryz.func298 (kcast (by kernel_rfl) (⟨fn25_r0, trivial⟩ : (∀ p, run fn25_x (subc [1, 1, 1, 1, 1, 1, 0, 0, 0] c298) (.seq .nil (.draw [(0, .flo), (1, .flo), (2, .flo), (3, .flo), (4, .flo), (5, .flo), (6, .flo), (7, .sole), (8, .flo), (9, .flo)])) (fn25_J0.S p) (leaf fn25_J0 fn25_O0) = fn25_B0 p) ∧ True)) fun x y => by kernel_rfl
theorem fn25_s : fn25_D.Says Tryz.prog := fn25_w.says follows tabOk fn101_e_ok
noncomputable def fn25_e : Env := more fn101_e fn25_D
theorem fn25_e_ok : EnvOk Tryz.prog fn25_e := more_ok fn101_e_ok fn25_s
abbrev fn77_J0 : Tpl := ⟨[(0, .val (.list (.list I))), (5, .own .shr I), (6, .own .shr I), (7, .val I), (30, .val (.list I)), (31, .val I), (32, .val I)], [], []⟩
abbrev fn77_J1 : Tpl := ⟨[(0, .val (.list (.list I))), (5, .own .shr I), (6, .own .shr I)], [], []⟩
abbrev fn77_J2 : Tpl := ⟨[(5, .own .shr I)], [], []⟩
abbrev fn77_E : Ve.End := ⟨[⟨4, (.own .shr), (.list I), none⟩], []⟩
abbrev fn77_a : List ASh := [.val (.list (.list I)), .val I]
abbrev fn77_o : List OSh := []
abbrev fn77_O0 : Out := .one (.ex 2) fn77_J1
noncomputable def fn77_B0 : fn77_J0.P → Option (fn77_J0.P ⊕ fn77_O0.P)
  | ((roads, out, queue, i, t30, t31, t32, ()), ()) => bif (decide (t32 < t31)) then (guardB (inb t32 (List.length t30)) (guardB (inb (List.getD t30 (Int.toNat t32) (0 : Int)) (List.length out)) (bif (decide ((List.getD out (Int.toNat (List.getD t30 (Int.toNat t32) (0 : Int))) (0 : Int)) < (0 : Int))) then (guardB (inb i (List.length out)) (guardB (inb (List.getD t30 (Int.toNat t32) (0 : Int)) (List.length out)) (guardB (decide ((List.length queue + List.length [(List.getD t30 (Int.toNat t32) (0 : Int))]) * 8 ≤ 70368744177664)) (some (.inl ((roads, (List.set out (Int.toNat (List.getD t30 (Int.toNat t32) (0 : Int))) (w64 ((List.getD out (Int.toNat i) (0 : Int)) + (1 : Int)))), (queue ++ [(List.getD t30 (Int.toNat t32) (0 : Int))]), i, t30, t31, (w64 (t32 + (1 : Int))), ()), ())))))) else (some (.inl ((roads, out, queue, i, t30, t31, (w64 (t32 + (1 : Int))), ()), ())))))) else (some (.inr ((roads, out, queue, ()), ())))
abbrev fn77_O1 : Out := .one (.ex 0) fn77_J2
noncomputable def fn77_B1 : fn77_J1.P → Option (fn77_J1.P ⊕ fn77_O1.P)
  | ((roads, out, queue, ()), ()) => bif (decide ((0 : Int) < (List.length queue : Int))) then (guardB (inb (0 : Int) (List.length queue)) (guardB (decide (0 ≤ (1 : Int)) && decide ((1 : Int) ≤ (List.length queue : Int)) && decide ((List.length queue : Int) ≤ (List.length queue : Int))) (guardB (inb (List.getD queue 0 (0 : Int)) (List.length roads)) (match loopO fn77_B0 ((roads, out, (List.drop 1 (List.take (Int.toNat (List.length queue : Int)) queue)), (List.getD queue 0 (0 : Int)), (List.getD roads (Int.toNat (List.getD queue 0 (0 : Int))) ([] : (List Int))), (List.length (List.getD roads (Int.toNat (List.getD queue 0 (0 : Int))) ([] : (List Int))) : Int), (0 : Int), ()), ()) with | some ((roads2, out2, queue2, ()), ()) => some (.inl ((roads2, out2, queue2, ()), ())) | none => none)))) else (some (.inr ((out, ()), ())))
noncomputable def fn77 : argP fn77_a → obP (extObs 0 fn77_o) → Option fn77_E.P
  | (roads, from_, ()), () => match fn25 ([(-1 : Int)], (List.length roads : Int), ()) () with | some ((r, ()), ()) => guardB (inb from_ (List.length r)) (match loopO fn77_B1 ((roads, (List.set r (Int.toNat from_) (0 : Int)), [from_], ()), ()) with | some ((out, ()), ()) => some ((out, ()), ()) | none => none) | none => none
noncomputable def fn77_x : Cx := ⟨tab, fn25_e, fun _ _ => 0, fun _ => false, [(10, 0), (51, 0)], []⟩
noncomputable def c216 : Code := bodyOf Tryz.f216
noncomputable def fn77_A : Ann := .seq .nil (.seq .nil (.seq .nil (.seq .nil (.seq (.loop fn77_J1 fn77_O1 fn77_B1 (.seq .nil (.seq .nil (.seq .nil (.seq .nil (.loop fn77_J0 fn77_O0 fn77_B0 .nil)))))) .nil))))
theorem fn77_r0 (p : fn77_J1.P) : run fn77_x (subc [1, 1, 1, 1, 0, 0, 0] c216) (.seq .nil (.seq .nil (.seq .nil (.seq .nil (.loop fn77_J0 fn77_O0 fn77_B0 .nil))))) (fn77_J1.S p) (leaf fn77_J1 fn77_O1) = fn77_B1 p := by kernel_rfl
theorem fn77_r1 (p : fn77_J0.P) : run fn77_x (subc [1, 1, 1, 1, 0, 0, 0, 1, 0, 1, 1, 1, 0, 0] c216) .nil (fn77_J0.S p) (leaf fn77_J0 fn77_O0) = fn77_B0 p := by kernel_rfl
noncomputable def fn77_D : Ve.Fn := ⟨216, fn77_a, fn77_o, fn77_E, fn77⟩
theorem fn77_w : Walk Tryz.prog fn77_x fn77_D Tryz.f216 c216 55 fn77_A :=
  .of Tryz.func216 (kcast (by kernel_rfl) (⟨fn77_r0, fn77_r1, trivial⟩ : (∀ p, run fn77_x (subc [1, 1, 1, 1, 0, 0, 0] c216) (.seq .nil (.seq .nil (.seq .nil (.seq .nil (.loop fn77_J0 fn77_O0 fn77_B0 .nil))))) (fn77_J1.S p) (leaf fn77_J1 fn77_O1) = fn77_B1 p) ∧ (∀ p, run fn77_x (subc [1, 1, 1, 1, 0, 0, 0, 1, 0, 1, 1, 1, 0, 0] c216) .nil (fn77_J0.S p) (leaf fn77_J0 fn77_O0) = fn77_B0 p) ∧ True)) fun x y => by kernel_rfl
theorem fn77_s : fn77_D.Says Tryz.prog := fn77_w.says follows tabOk fn25_e_ok
noncomputable def fn77_e : Env := more fn25_e fn77_D
theorem fn77_e_ok : EnvOk Tryz.prog fn77_e := more_ok fn25_e_ok fn77_s
abbrev fn34_J0 : Tpl := ⟨[(1, .val I), (2, .val I), (8, .val (.list (.list I))), (9, .val (.list I)), (10, .own .shr I), (31, .val (.list I)), (32, .val I), (33, .val I)], [], []⟩
abbrev fn34_J1 : Tpl := ⟨[(1, .val I), (2, .val I), (8, .val (.list (.list I))), (9, .val (.list I)), (10, .own .shr I)], [], []⟩
abbrev fn34_J2 : Tpl := ⟨[(10, .own .shr I)], [], []⟩
abbrev fn34_E : Ve.End := ⟨[⟨6, (.own .shr), (.list I), none⟩, ⟨7, .shr, .bool, none⟩], []⟩
abbrev fn34_a : List ASh := [.val (.prod (.list (.list I)) (.list (.prod I I))), .val I, .val I]
abbrev fn34_o : List OSh := []
abbrev fn34_O0 : Out := .one (.ex 2) fn34_J1
noncomputable def fn34_B0 : fn34_J0.P → Option (fn34_J0.P ⊕ fn34_O0.P)
  | ((i, j, roads, far, out, t31, t32, t33, ()), ()) => bif (decide (t33 < t32)) then (guardB (inb t33 (List.length t31)) (guardB (inb (List.getD t31 (Int.toNat t33) (0 : Int)) (List.length far)) (guardB (inb i (List.length far)) (bif ((List.getD far (Int.toNat (List.getD t31 (Int.toNat t33) (0 : Int))) (0 : Int)) == (w64 ((List.getD far (Int.toNat i) (0 : Int)) - (1 : Int)))) then (some (.inr (((List.getD t31 (Int.toNat t33) (0 : Int)), j, roads, far, out, ()), ()))) else (some (.inl ((i, j, roads, far, out, t31, t32, (w64 (t33 + (1 : Int))), ()), ()))))))) else (some (.inr ((i, j, roads, far, out, ()), ())))
abbrev fn34_O1 : Out := .one (.ex 0) fn34_J2
noncomputable def fn34_B1 : fn34_J1.P → Option (fn34_J1.P ⊕ fn34_O1.P)
  | ((i, j, roads, far, out, ()), ()) => bif (i != j) then (guardB (inb i (List.length roads)) (match loopO fn34_B0 ((i, j, roads, far, out, (List.getD roads (Int.toNat i) ([] : (List Int))), (List.length (List.getD roads (Int.toNat i) ([] : (List Int))) : Int), (0 : Int), ()), ()) with | some ((i2, j2, roads2, far2, out2, ()), ()) => guardB (decide ((List.length out2 + List.length [i2]) * 8 ≤ 70368744177664)) (some (.inl ((i2, j2, roads2, far2, (out2 ++ [i2]), ()), ()))) | none => none)) else (some (.inr ((out, ()), ())))
noncomputable def fn34 : argP fn34_a → obP (extObs 0 fn34_o) → Option fn34_E.P
  | (x, i, j, ()), () => match fn42 (x, ()) () with | some ((r, ()), ()) => (match fn77 (r, j, ()) () with | some ((r2, ()), ()) => guardB (inb i (List.length r2)) (bif (decide ((List.getD r2 (Int.toNat i) (0 : Int)) < (0 : Int))) then (some ((([] : (List Int)), false, ()), ())) else (match loopO fn34_B1 ((i, j, r, r2, [i], ()), ()) with | some ((out, ()), ()) => some ((out, true, ()), ()) | none => none)) | none => none) | none => none
noncomputable def fn34_x : Cx := ⟨tab, fn77_e, fun _ _ => 0, fun _ => false, [(14, 0), (14, 1), (14, 2), (14, 3), (8, 0), (17, 0), (17, 1), (17, 2), (17, 3), (9, 0), (51, 0)], [(3, 0)]⟩
noncomputable def c240 : Code := bodyOf Tryz.f240
noncomputable def fn34_A : Ann := .seq .nil (.seq .nil (.seq .nil (.seq .nil (.seq .nil (.seq (.loop fn34_J1 fn34_O1 fn34_B1 (.seq .nil (.seq (.seq .nil (.loop fn34_J0 fn34_O0 fn34_B0 (.seq .nil (.seq .nil (.seq (.seq .nil (.seq (.draw [(0, .flo), (1, .flo), (2, .flo), (3, .flo), (4, .flo), (5, .flo), (6, .flo), (7, .flo), (8, .flo), (9, .flo)]) .nil)) .nil))))) .nil))) .nil)))))
theorem fn34_r0 (p : fn34_J1.P) : run fn34_x (subc [1, 1, 1, 1, 1, 0, 0, 0] c240) (.seq .nil (.seq (.seq .nil (.loop fn34_J0 fn34_O0 fn34_B0 (.seq .nil (.seq .nil (.seq (.seq .nil (.seq (.draw [(0, .flo), (1, .flo), (2, .flo), (3, .flo), (4, .flo), (5, .flo), (6, .flo), (7, .flo), (8, .flo), (9, .flo)]) .nil)) .nil))))) .nil)) (fn34_J1.S p) (leaf fn34_J1 fn34_O1) = fn34_B1 p := by kernel_rfl
theorem fn34_r1 (p : fn34_J0.P) : run fn34_x (subc [1, 1, 1, 1, 1, 0, 0, 0, 1, 0, 0, 1, 0, 0] c240) (.seq .nil (.seq .nil (.seq (.seq .nil (.seq (.draw [(0, .flo), (1, .flo), (2, .flo), (3, .flo), (4, .flo), (5, .flo), (6, .flo), (7, .flo), (8, .flo), (9, .flo)]) .nil)) .nil))) (fn34_J0.S p) (leaf fn34_J0 fn34_O0) = fn34_B0 p := by kernel_rfl
noncomputable def fn34_D : Ve.Fn := ⟨240, fn34_a, fn34_o, fn34_E, fn34⟩
theorem fn34_w : Walk Tryz.prog fn34_x fn34_D Tryz.f240 c240 54 fn34_A :=
  .of Tryz.func240 (kcast (by kernel_rfl) (⟨fn34_r0, fn34_r1, trivial⟩ : (∀ p, run fn34_x (subc [1, 1, 1, 1, 1, 0, 0, 0] c240) (.seq .nil (.seq (.seq .nil (.loop fn34_J0 fn34_O0 fn34_B0 (.seq .nil (.seq .nil (.seq (.seq .nil (.seq (.draw [(0, .flo), (1, .flo), (2, .flo), (3, .flo), (4, .flo), (5, .flo), (6, .flo), (7, .flo), (8, .flo), (9, .flo)]) .nil)) .nil))))) .nil)) (fn34_J1.S p) (leaf fn34_J1 fn34_O1) = fn34_B1 p) ∧ (∀ p, run fn34_x (subc [1, 1, 1, 1, 1, 0, 0, 0, 1, 0, 0, 1, 0, 0] c240) (.seq .nil (.seq .nil (.seq (.seq .nil (.seq (.draw [(0, .flo), (1, .flo), (2, .flo), (3, .flo), (4, .flo), (5, .flo), (6, .flo), (7, .flo), (8, .flo), (9, .flo)]) .nil)) .nil))) (fn34_J0.S p) (leaf fn34_J0 fn34_O0) = fn34_B0 p) ∧ True)) fun x y => by kernel_rfl
theorem fn34_s : fn34_D.Says Tryz.prog := fn34_w.says follows tabOk fn77_e_ok
noncomputable def fn34_e : Env := more fn77_e fn34_D
theorem fn34_e_ok : EnvOk Tryz.prog fn34_e := more_ok fn77_e_ok fn34_s
abbrev fn45_J0 : Tpl := ⟨[(3, .cst (.prod (.list (.list I)) (.list (.prod I I)))), (13, .val .bool), (14, .own (.own .shr) (.list I)), (43, .val (.list I)), (44, .val I), (45, .val I)], [], []⟩
abbrev fn45_J1 : Tpl := ⟨[(13, .val .bool), (14, .own (.own .shr) (.list I))], [], []⟩
abbrev fn45_E : Ve.End := ⟨[⟨6, (.own (.own .shr)), (.list (.list I)), none⟩, ⟨7, .shr, .bool, none⟩], []⟩
abbrev fn45_a : List ASh := [.val (.prod (.list (.list I)) (.list (.prod I I))), .val (.list I), .val (.list I)]
abbrev fn45_o : List OSh := []
abbrev fn45_O0 : Out := .one (.ex 0) fn45_J1
noncomputable def fn45_B0 : fn45_J0.P → Option (fn45_J0.P ⊕ fn45_O0.P)
  | ((x, ok, out, t43, t44, t45, ()), ()) => bif (decide (t45 < t44)) then (guardB (inb t45 (List.length t43)) (guardB (inb (List.getD t43 (Int.toNat t45) (0 : Int)) (List.length x.1)) (match slices_Clone_int_int ((List.getD x.1 (Int.toNat (List.getD t43 (Int.toNat t45) (0 : Int))) ([] : (List Int))), ()) () with | some ((r, ()), ()) => guardB (decide ((List.length out + List.length [r]) * 24 ≤ 70368744177664)) (some (.inl ((x, ok, (out ++ [r]), t43, t44, (w64 (t45 + (1 : Int))), ()), ()))) | none => none))) else (some (.inr ((ok, out, ()), ())))
noncomputable def fn45 : argP fn45_a → obP (extObs 0 fn45_o) → Option fn45_E.P
  | (x, a, b, ()), () => match fn41 (x, a, ()) () with | some ((r, r2, ()), ()) => (match fn41 (x, b, ()) () with | some ((r3, r4, ()), ()) => (bif (!r2) then (some ((([] : (List (List Int))), false, ()), ())) else (bif (!r4) then (some ((([] : (List (List Int))), false, ()), ())) else (match fn34 (x, r, r3, ()) () with | some ((r5, r6, ()), ()) => (match loopO fn45_B0 ((x, r6, ([] : (List (List Int))), r5, (List.length r5 : Int), (0 : Int), ()), ()) with | some ((ok, out, ()), ()) => some ((out, ok, ()), ()) | none => none) | none => none))) | none => none) | none => none
noncomputable def fn45_x : Cx := ⟨tab, fn34_e, fun _ _ => 0, fun _ => false, [(20, 0), (20, 1), (20, 2), (20, 3), (26, 0), (26, 1), (26, 2), (26, 3), (39, 0), (39, 1), (39, 2), (39, 3), (12, 0)], [(3, 0)]⟩
noncomputable def c133 : Code := bodyOf Tryz.f133
noncomputable def fn45_A : Ann := .seq .nil (.seq .nil (.seq .nil (.seq .nil (.seq .nil (.seq .nil (.seq (.seq .nil (.loop fn45_J0 fn45_O0 fn45_B0 .nil)) .nil))))))
theorem fn45_r0 (p : fn45_J0.P) : run fn45_x (subc [1, 1, 1, 1, 1, 1, 0, 1, 0, 0] c133) .nil (fn45_J0.S p) (leaf fn45_J0 fn45_O0) = fn45_B0 p := by kernel_rfl
noncomputable def fn45_D : Ve.Fn := ⟨133, fn45_a, fn45_o, fn45_E, fn45⟩
theorem fn45_w : Walk Tryz.prog fn45_x fn45_D Tryz.f133 c133 61 fn45_A :=
  .of Tryz.func133 (kcast (by kernel_rfl) (⟨fn45_r0, trivial⟩ : (∀ p, run fn45_x (subc [1, 1, 1, 1, 1, 1, 0, 1, 0, 0] c133) .nil (fn45_J0.S p) (leaf fn45_J0 fn45_O0) = fn45_B0 p) ∧ True)) fun x y => by kernel_rfl
theorem fn45_s : fn45_D.Says Tryz.prog := fn45_w.says follows tabOk fn34_e_ok
noncomputable def fn45_e : Env := more fn34_e fn45_D
theorem fn45_e_ok : EnvOk Tryz.prog fn45_e := more_ok fn34_e_ok fn45_s
abbrev fn75_E : Ve.End := ⟨[⟨10, (.own (.own .shr)), (.list (.list I)), none⟩, ⟨11, .shr, .bool, none⟩], []⟩
abbrev fn75_a : List ASh := [.val (.prod I (.list (.prod I I))), .val (.prod I (.list (.prod I I))), .val (.list I), .val (.list I), .val .bool]
abbrev fn75_o : List OSh := []
noncomputable def fn75 : argP fn75_a → obP (extObs 0 fn75_o) → Option fn75_E.P
  | (g, h, a, b, lazy, ()), () => match fn54 (g, h, lazy, ()) () with | some ((r, r2, ()), ()) => (bif (!r2) then (some ((([] : (List (List Int))), false, ()), ())) else (match fn94 (g, h, a, lazy, ()) () with | some ((r3, ()), ()) => (bif (!r3) then (some ((([] : (List (List Int))), false, ()), ())) else (match fn94 (g, h, b, lazy, ()) () with | some ((r4, ()), ()) => (bif (!r4) then (some ((([] : (List (List Int))), false, ()), ())) else (match fn45 ((r.1, r.2), a, b, ()) () with | some ((r5, r6, ()), ()) => some ((r5, r6, ()), ()) | none => none)) | none => none)) | none => none)) | none => none
noncomputable def fn75_x : Cx := ⟨tab, fn45_e, fun _ _ => 0, fun _ => false, [(28, 0), (28, 1), (28, 2), (28, 3), (36, 0), (36, 1), (36, 2), (36, 3)], [(5, 0), (6, 0), (12, 0)]⟩
noncomputable def c15 : Code := bodyOf Tryz.f15
noncomputable def fn75_A : Ann := .nil
noncomputable def fn75_D : Ve.Fn := ⟨15, fn75_a, fn75_o, fn75_E, fn75⟩
theorem fn75_w : Walk Tryz.prog fn75_x fn75_D Tryz.f15 c15 45 fn75_A :=
  .of Tryz.func15 (kcast (by kernel_rfl) trivial) fun x y => by kernel_rfl
theorem fn75_s : fn75_D.Says Tryz.prog := fn75_w.says follows tabOk fn45_e_ok
noncomputable def fn75_e : Env := more fn45_e fn75_D
theorem fn75_e_ok : EnvOk Tryz.prog fn75_e := more_ok fn45_e_ok fn75_s
abbrev fn84_J0 : Tpl := ⟨[(2, .val (.list I)), (3, .val .bool), (4, .cst (.prod I (.list (.prod I I)))), (5, .cst (.prod I (.list (.prod I I)))), (9, .val I)], [], []⟩
abbrev fn84_J1 : Tpl := ⟨[(8, .val .bool)], [], []⟩
abbrev fn84_J2 : Tpl := ⟨[(2, .val (.list I)), (3, .val .bool), (4, .cst (.prod I (.list (.prod I I)))), (5, .cst (.prod I (.list (.prod I I))))], [], []⟩
abbrev fn84_J3 : Tpl := ⟨[(2, .val (.list I)), (3, .val .bool), (4, .cst (.prod I (.list (.prod I I)))), (5, .cst (.prod I (.list (.prod I I)))), (10, .val I)], [], []⟩
abbrev fn84_J4 : Tpl := ⟨[], [], []⟩
abbrev fn84_E : Ve.End := ⟨[⟨8, .shr, .bool, none⟩], []⟩
abbrev fn84_a : List ASh := [.val (.prod I (.list (.prod I I))), .val (.prod I (.list (.prod I I))), .val (.list I), .val .bool]
abbrev fn84_o : List OSh := []
abbrev fn84_O0 : Out := .or .ret fn84_J1 (.one (.ex 0) fn84_J2)
noncomputable def fn84_B0 : fn84_J0.P → Option (fn84_J0.P ⊕ fn84_O0.P)
  | ((list, lazy, g, h, x, ()), ()) => bif (decide (x < (List.length list : Int))) then (guardB (inb x (List.length list)) (match fn100 ((List.getD list (Int.toNat x) (0 : Int)), (0 : Int), (w64 (h.1 - (1 : Int))), ()) () with | some ((r, ()), ()) => (bif (!r) then (some (.inr (.inl ((false, ()), ())))) else (some (.inl ((list, lazy, g, h, (w64 (x + (1 : Int))), ()), ())))) | none => none)) else (some (.inr (.inr ((list, lazy, g, h, ()), ()))))
abbrev fn84_O1 : Out := .or .ret fn84_J1 (.one (.ex 2) fn84_J4)
noncomputable def fn84_B1 : fn84_J3.P → Option (fn84_J3.P ⊕ fn84_O1.P)
  | ((list, lazy, g, h, i, ()), ()) => bif (decide (i < (List.length g.2 : Int))) then (guardB (inb i (List.length g.2)) (guardB (inb ((List.getD g.2 (Int.toNat i) ((0 : Int), (0 : Int))).1) (List.length list)) (guardB (inb i (List.length g.2)) (guardB (inb ((List.getD g.2 (Int.toNat i) ((0 : Int), (0 : Int))).2) (List.length list)) (match fn66 (h, (List.getD list (Int.toNat ((List.getD g.2 (Int.toNat i) ((0 : Int), (0 : Int))).1)) (0 : Int)), (List.getD list (Int.toNat ((List.getD g.2 (Int.toNat i) ((0 : Int), (0 : Int))).2)) (0 : Int)), lazy, ()) () with | some ((r, ()), ()) => (bif (!r) then (some (.inr (.inl ((false, ()), ())))) else (some (.inl ((list, lazy, g, h, (w64 (i + (1 : Int))), ()), ())))) | none => none))))) else (some (.inr (.inr ((), ()))))
noncomputable def fn84 : argP fn84_a → obP (extObs 0 fn84_o) → Option fn84_E.P
  | (g, h, list, lazy, ()), () => match loopO fn84_B0 ((list, lazy, g, h, (0 : Int), ()), ()) with | some (.inl ((t8, ()), ())) => some ((t8, ()), ()) | some (.inr ((list2, lazy2, g2, h2, ()), ())) => (bif ((List.length list2 : Int) != g2.1) then (some ((false, ()), ())) else (match loopO fn84_B1 ((list2, lazy2, g2, h2, (0 : Int), ()), ()) with | some (.inl ((t8_2, ()), ())) => some ((t8_2, ()), ()) | some (.inr ((), ())) => some ((true, ()), ()) | none => none)) | none => none
noncomputable def fn84_x : Cx := ⟨tab, fn75_e, fun _ _ => 0, fun _ => false, [(24, 0), (24, 1), (24, 2), (24, 3), (58, 0), (58, 1), (58, 2), (58, 3)], [(4, 0), (5, 0)]⟩
noncomputable def c126 : Code := bodyOf Tryz.f126
noncomputable def fn84_A : Ann := .seq .nil (.seq (.seq .nil (.loop fn84_J0 fn84_O0 fn84_B0 (.seq .nil (.seq (.seq (.draw [(0, .flo), (1, .flo), (2, .flo), (3, .flo), (4, .flo), (5, .flo), (6, .flo), (7, .sole), (8, .flo)]) .nil) .nil)))) (.seq .nil (.seq (.seq .nil (.loop fn84_J3 fn84_O1 fn84_B1 (.seq .nil (.seq (.seq (.draw [(0, .flo), (1, .flo), (2, .flo), (3, .flo), (4, .flo), (5, .flo), (6, .flo), (7, .flo), (8, .flo), (9, .flo), (10, .flo), (11, .flo), (12, .flo), (13, .flo), (14, .flo), (15, .flo), (16, .flo), (17, .flo), (18, .flo), (19, .flo), (20, .sole), (21, .flo)]) .nil) .nil)))) .nil)))
theorem fn84_r0 (p : fn84_J0.P) : run fn84_x (subc [1, 0, 1, 0, 0] c126) (.seq .nil (.seq (.seq (.draw [(0, .flo), (1, .flo), (2, .flo), (3, .flo), (4, .flo), (5, .flo), (6, .flo), (7, .sole), (8, .flo)]) .nil) .nil)) (fn84_J0.S p) (leaf fn84_J0 fn84_O0) = fn84_B0 p := by kernel_rfl
theorem fn84_r1 (p : fn84_J3.P) : run fn84_x (subc [1, 1, 1, 0, 1, 0, 0] c126) (.seq .nil (.seq (.seq (.draw [(0, .flo), (1, .flo), (2, .flo), (3, .flo), (4, .flo), (5, .flo), (6, .flo), (7, .flo), (8, .flo), (9, .flo), (10, .flo), (11, .flo), (12, .flo), (13, .flo), (14, .flo), (15, .flo), (16, .flo), (17, .flo), (18, .flo), (19, .flo), (20, .sole), (21, .flo)]) .nil) .nil)) (fn84_J3.S p) (leaf fn84_J3 fn84_O1) = fn84_B1 p := by kernel_rfl
noncomputable def fn84_D : Ve.Fn := ⟨126, fn84_a, fn84_o, fn84_E, fn84⟩
theorem fn84_w : Walk Tryz.prog fn84_x fn84_D Tryz.f126 c126 60 fn84_A :=
  .of Tryz.func126 (kcast (by kernel_rfl) (⟨fn84_r0, fn84_r1, trivial⟩ : (∀ p, run fn84_x (subc [1, 0, 1, 0, 0] c126) (.seq .nil (.seq (.seq (.draw [(0, .flo), (1, .flo), (2, .flo), (3, .flo), (4, .flo), (5, .flo), (6, .flo), (7, .sole), (8, .flo)]) .nil) .nil)) (fn84_J0.S p) (leaf fn84_J0 fn84_O0) = fn84_B0 p) ∧ (∀ p, run fn84_x (subc [1, 1, 1, 0, 1, 0, 0] c126) (.seq .nil (.seq (.seq (.draw [(0, .flo), (1, .flo), (2, .flo), (3, .flo), (4, .flo), (5, .flo), (6, .flo), (7, .flo), (8, .flo), (9, .flo), (10, .flo), (11, .flo), (12, .flo), (13, .flo), (14, .flo), (15, .flo), (16, .flo), (17, .flo), (18, .flo), (19, .flo), (20, .sole), (21, .flo)]) .nil) .nil)) (fn84_J3.S p) (leaf fn84_J3 fn84_O1) = fn84_B1 p) ∧ True)) fun x y => by kernel_rfl
theorem fn84_s : fn84_D.Says Tryz.prog := fn84_w.says follows tabOk fn75_e_ok
noncomputable def fn84_e : Env := more fn75_e fn84_D
theorem fn84_e_ok : EnvOk Tryz.prog fn84_e := more_ok fn75_e_ok fn84_s
abbrev fn86_J0 : Tpl := ⟨[(0, .val (.list I)), (1, .val (.list I)), (5, .val I)], [], []⟩
abbrev fn86_J1 : Tpl := ⟨[(4, .val .bool)], [], []⟩
abbrev fn86_J2 : Tpl := ⟨[], [], []⟩
abbrev fn86_E : Ve.End := ⟨[⟨4, .shr, .bool, none⟩], []⟩
abbrev fn86_a : List ASh := [.val (.list I), .val (.list I)]
abbrev fn86_o : List OSh := []
abbrev fn86_O0 : Out := .or .ret fn86_J1 (.one (.ex 0) fn86_J2)
noncomputable def fn86_B0 : fn86_J0.P → Option (fn86_J0.P ⊕ fn86_O0.P)
  | ((a, b, i, ()), ()) => bif (decide (i < (List.length a : Int))) then (guardB (inb i (List.length a)) (guardB (inb i (List.length b)) (bif ((List.getD a (Int.toNat i) (0 : Int)) != (List.getD b (Int.toNat i) (0 : Int))) then (some (.inr (.inl ((false, ()), ())))) else (some (.inl ((a, b, (w64 (i + (1 : Int))), ()), ())))))) else (some (.inr (.inr ((), ()))))
noncomputable def fn86 : argP fn86_a → obP (extObs 0 fn86_o) → Option fn86_E.P
  | (a, b, ()), () => bif ((List.length a : Int) != (List.length b : Int)) then (some ((false, ()), ())) else (match loopO fn86_B0 ((a, b, (0 : Int), ()), ()) with | some (.inl ((t4, ()), ())) => some ((t4, ()), ()) | some (.inr ((), ())) => some ((true, ()), ()) | none => none)
noncomputable def fn86_x : Cx := ⟨tab, fn84_e, fun _ _ => 0, fun _ => false, [], []⟩
noncomputable def c177 : Code := bodyOf Tryz.f177
noncomputable def fn86_A : Ann := .seq .nil (.seq .nil (.seq (.seq .nil (.loop fn86_J0 fn86_O0 fn86_B0 (.seq .nil (.seq (.seq (.draw [(0, .flo), (1, .flo), (2, .flo), (3, .flo), (4, .flo), (5, .flo), (6, .flo), (7, .flo), (8, .flo)]) .nil) .nil)))) .nil))
theorem fn86_r0 (p : fn86_J0.P) : run fn86_x (subc [1, 1, 0, 1, 0, 0] c177) (.seq .nil (.seq (.seq (.draw [(0, .flo), (1, .flo), (2, .flo), (3, .flo), (4, .flo), (5, .flo), (6, .flo), (7, .flo), (8, .flo)]) .nil) .nil)) (fn86_J0.S p) (leaf fn86_J0 fn86_O0) = fn86_B0 p := by kernel_rfl
noncomputable def fn86_D : Ve.Fn := ⟨177, fn86_a, fn86_o, fn86_E, fn86⟩
theorem fn86_w : Walk Tryz.prog fn86_x fn86_D Tryz.f177 c177 26 fn86_A :=
  .of Tryz.func177 (kcast (by kernel_rfl) (⟨fn86_r0, trivial⟩ : (∀ p, run fn86_x (subc [1, 1, 0, 1, 0, 0] c177) (.seq .nil (.seq (.seq (.draw [(0, .flo), (1, .flo), (2, .flo), (3, .flo), (4, .flo), (5, .flo), (6, .flo), (7, .flo), (8, .flo)]) .nil) .nil)) (fn86_J0.S p) (leaf fn86_J0 fn86_O0) = fn86_B0 p) ∧ True)) fun x y => by kernel_rfl
theorem fn86_s : fn86_D.Says Tryz.prog := fn86_w.says follows tabOk fn84_e_ok
noncomputable def fn86_e : Env := more fn84_e fn86_D
theorem fn86_e_ok : EnvOk Tryz.prog fn86_e := more_ok fn84_e_ok fn86_s
abbrev fn69_J0 : Tpl := ⟨[(1, .val (.list I)), (2, .cst (.prod (.list (.list I)) (.list (.prod I I)))), (5, .val I)], [], []⟩
abbrev fn69_J1 : Tpl := ⟨[(4, .val I)], [], []⟩
abbrev fn69_J2 : Tpl := ⟨[], [], []⟩
abbrev fn69_E : Ve.End := ⟨[⟨4, .shr, I, none⟩], []⟩
abbrev fn69_a : List ASh := [.val (.prod (.list (.list I)) (.list (.prod I I))), .val (.list I)]
abbrev fn69_o : List OSh := []
abbrev fn69_O0 : Out := .or .ret fn69_J1 (.one (.ex 0) fn69_J2)
noncomputable def fn69_B0 : fn69_J0.P → Option (fn69_J0.P ⊕ fn69_O0.P)
  | ((state, x, i, ()), ()) => bif (decide (i < (List.length x.1 : Int))) then (guardB (inb i (List.length x.1)) (match fn86 ((List.getD x.1 (Int.toNat i) ([] : (List Int))), state, ()) () with | some ((r, ()), ()) => (bif r then (some (.inr (.inl ((i, ()), ())))) else (some (.inl ((state, x, (w64 (i + (1 : Int))), ()), ())))) | none => none)) else (some (.inr (.inr ((), ()))))
noncomputable def fn69 : argP fn69_a → obP (extObs 0 fn69_o) → Option fn69_E.P
  | (x, state, ()), () => match loopO fn69_B0 ((state, x, (0 : Int), ()), ()) with | some (.inl ((t4, ()), ())) => some ((t4, ()), ()) | some (.inr ((), ())) => some (((-1 : Int), ()), ()) | none => none
noncomputable def fn69_x : Cx := ⟨tab, fn86_e, fun _ _ => 0, fun _ => false, [(19, 0), (19, 1), (19, 2), (19, 3)], [(2, 0)]⟩
noncomputable def c129 : Code := bodyOf Tryz.f129
noncomputable def fn69_A : Ann := .seq .nil (.seq (.seq .nil (.loop fn69_J0 fn69_O0 fn69_B0 .nil)) .nil)
theorem fn69_r0 (p : fn69_J0.P) : run fn69_x (subc [1, 0, 1, 0, 0] c129) .nil (fn69_J0.S p) (leaf fn69_J0 fn69_O0) = fn69_B0 p := by kernel_rfl
noncomputable def fn69_D : Ve.Fn := ⟨129, fn69_a, fn69_o, fn69_E, fn69⟩
theorem fn69_w : Walk Tryz.prog fn69_x fn69_D Tryz.f129 c129 21 fn69_A :=
  .of Tryz.func129 (kcast (by kernel_rfl) (⟨fn69_r0, trivial⟩ : (∀ p, run fn69_x (subc [1, 0, 1, 0, 0] c129) .nil (fn69_J0.S p) (leaf fn69_J0 fn69_O0) = fn69_B0 p) ∧ True)) fun x y => by kernel_rfl
theorem fn69_s : fn69_D.Says Tryz.prog := fn69_w.says follows tabOk fn86_e_ok
noncomputable def fn69_e : Env := more fn86_e fn69_D
theorem fn69_e_ok : EnvOk Tryz.prog fn69_e := more_ok fn86_e_ok fn69_s
abbrev fn70_J0 : Tpl := ⟨[(1, .cst (.prod (.list (.list I)) (.list (.prod I I)))), (3, .own (.own .shr) (.list I)), (4, .val I)], [], []⟩
abbrev fn70_J1 : Tpl := ⟨[(1, .cst (.prod (.list (.list I)) (.list (.prod I I)))), (3, .own (.own .shr) (.list I))], [], []⟩
abbrev fn70_J2 : Tpl := ⟨[(1, .cst (.prod (.list (.list I)) (.list (.prod I I)))), (3, .own (.own .shr) (.list I)), (7, .val I)], [], []⟩
abbrev fn70_J3 : Tpl := ⟨[(3, .own (.own .shr) (.list I))], [], []⟩
abbrev fn70_E : Ve.End := ⟨[⟨2, (.own (.own .shr)), (.list (.list I)), none⟩], []⟩
abbrev fn70_a : List ASh := [.val (.prod (.list (.list I)) (.list (.prod I I)))]
abbrev fn70_o : List OSh := []
abbrev fn70_O0 : Out := .one (.ex 0) fn70_J1
noncomputable def fn70_B0 : fn70_J0.P → Option (fn70_J0.P ⊕ fn70_O0.P)
  | ((t1, t3, t4, ()), ()) => bif (decide (t4 < (List.length t1.2 : Int))) then (guardB (inb t4 (List.length t1.2)) (guardB (inb t4 (List.length t1.2)) (guardB (inb ((List.getD t1.2 (Int.toNat t4) ((0 : Int), (0 : Int))).2) (List.length t3)) (guardB (decide ((List.length (List.getD t3 (Int.toNat ((List.getD t1.2 (Int.toNat t4) ((0 : Int), (0 : Int))).2)) ([] : (List Int))) + List.length [(List.getD t1.2 (Int.toNat t4) ((0 : Int), (0 : Int))).1]) * 8 ≤ 70368744177664)) (guardB (inb ((List.getD t1.2 (Int.toNat t4) ((0 : Int), (0 : Int))).2) (List.length t3)) (guardB (Nat.beq (Int.toNat ((List.getD t1.2 (Int.toNat t4) ((0 : Int), (0 : Int))).2)) (Int.toNat ((List.getD t1.2 (Int.toNat t4) ((0 : Int), (0 : Int))).2)) && true) (some (.inl ((t1, (List.set t3 (Int.toNat ((List.getD t1.2 (Int.toNat t4) ((0 : Int), (0 : Int))).2)) ((List.getD t3 (Int.toNat ((List.getD t1.2 (Int.toNat t4) ((0 : Int), (0 : Int))).2)) ([] : (List Int))) ++ [(List.getD t1.2 (Int.toNat t4) ((0 : Int), (0 : Int))).1])), (w64 (t4 + (1 : Int))), ()), ()))))))))) else (some (.inr ((t1, t3, ()), ())))
abbrev fn70_O1 : Out := .one (.ex 2) fn70_J3
noncomputable def fn70_B1 : fn70_J2.P → Option (fn70_J2.P ⊕ fn70_O1.P)
  | ((t1, t3, t7, ()), ()) => bif (decide (t7 < (List.length t1.2 : Int))) then (guardB (inb t7 (List.length t1.2)) (guardB (inb t7 (List.length t1.2)) (guardB (inb ((List.getD t1.2 (Int.toNat t7) ((0 : Int), (0 : Int))).1) (List.length t3)) (guardB (decide ((List.length (List.getD t3 (Int.toNat ((List.getD t1.2 (Int.toNat t7) ((0 : Int), (0 : Int))).1)) ([] : (List Int))) + List.length [(List.getD t1.2 (Int.toNat t7) ((0 : Int), (0 : Int))).2]) * 8 ≤ 70368744177664)) (guardB (inb ((List.getD t1.2 (Int.toNat t7) ((0 : Int), (0 : Int))).1) (List.length t3)) (guardB (Nat.beq (Int.toNat ((List.getD t1.2 (Int.toNat t7) ((0 : Int), (0 : Int))).1)) (Int.toNat ((List.getD t1.2 (Int.toNat t7) ((0 : Int), (0 : Int))).1)) && true) (some (.inl ((t1, (List.set t3 (Int.toNat ((List.getD t1.2 (Int.toNat t7) ((0 : Int), (0 : Int))).1)) ((List.getD t3 (Int.toNat ((List.getD t1.2 (Int.toNat t7) ((0 : Int), (0 : Int))).1)) ([] : (List Int))) ++ [(List.getD t1.2 (Int.toNat t7) ((0 : Int), (0 : Int))).2])), (w64 (t7 + (1 : Int))), ()), ()))))))))) else (some (.inr ((t3, ()), ())))
noncomputable def fn70 : argP fn70_a → obP (extObs 0 fn70_o) → Option fn70_E.P
  | (t0, ()), () => guardB (decide (0 ≤ (List.length t0.1 : Int)) && decide ((List.length t0.1 : Int) ≤ (List.length t0.1 : Int)) && decide ((List.length t0.1 : Int) * 24 ≤ 140737488355328)) (match loopO fn70_B0 ((t0, (List.replicate (Int.toNat (List.length t0.1 : Int)) ([] : (List Int))), (0 : Int), ()), ()) with | some ((t1, t3, ()), ()) => (match loopO fn70_B1 ((t1, t3, (0 : Int), ()), ()) with | some ((t3_2, ()), ()) => some ((t3_2, ()), ()) | none => none) | none => none)
noncomputable def fn70_x : Cx := ⟨tab, fn69_e, fun _ _ => 0, fun _ => false, [(40, 0), (69, 0)], [(1, 0)]⟩
noncomputable def c194 : Code := bodyOf Tryz.f194
noncomputable def fn70_A : Ann := .seq .nil (.seq .nil (.seq (.seq .nil (.loop fn70_J0 fn70_O0 fn70_B0 (.seq .nil (.seq (.seq (.draw [(0, .flo), (1, .flo), (2, .flo), (3, .flo), (4, .flo), (5, .flo), (6, .flo), (7, .flo), (8, .flo), (9, .flo), (10, .flo), (11, .flo), (12, .flo), (13, .flo)]) .nil) .nil)))) (.seq (.seq .nil (.loop fn70_J2 fn70_O1 fn70_B1 (.seq .nil (.seq (.seq (.draw [(0, .flo), (1, .flo), (2, .flo), (3, .flo), (4, .flo), (5, .flo), (6, .flo), (7, .flo), (8, .flo), (9, .flo), (10, .flo), (11, .flo), (12, .flo), (13, .flo)]) .nil) .nil)))) .nil)))
theorem fn70_r0 (p : fn70_J0.P) : run fn70_x (subc [1, 1, 0, 1, 0, 0] c194) (.seq .nil (.seq (.seq (.draw [(0, .flo), (1, .flo), (2, .flo), (3, .flo), (4, .flo), (5, .flo), (6, .flo), (7, .flo), (8, .flo), (9, .flo), (10, .flo), (11, .flo), (12, .flo), (13, .flo)]) .nil) .nil)) (fn70_J0.S p) (leaf fn70_J0 fn70_O0) = fn70_B0 p := by kernel_rfl
theorem fn70_r1 (p : fn70_J2.P) : run fn70_x (subc [1, 1, 1, 0, 1, 0, 0] c194) (.seq .nil (.seq (.seq (.draw [(0, .flo), (1, .flo), (2, .flo), (3, .flo), (4, .flo), (5, .flo), (6, .flo), (7, .flo), (8, .flo), (9, .flo), (10, .flo), (11, .flo), (12, .flo), (13, .flo)]) .nil) .nil)) (fn70_J2.S p) (leaf fn70_J2 fn70_O1) = fn70_B1 p := by kernel_rfl
noncomputable def fn70_D : Ve.Fn := ⟨194, fn70_a, fn70_o, fn70_E, fn70⟩
theorem fn70_w : Walk Tryz.prog fn70_x fn70_D Tryz.f194 c194 73 fn70_A :=
  .of Tryz.func194 (kcast (by kernel_rfl) (⟨fn70_r0, fn70_r1, trivial⟩ : (∀ p, run fn70_x (subc [1, 1, 0, 1, 0, 0] c194) (.seq .nil (.seq (.seq (.draw [(0, .flo), (1, .flo), (2, .flo), (3, .flo), (4, .flo), (5, .flo), (6, .flo), (7, .flo), (8, .flo), (9, .flo), (10, .flo), (11, .flo), (12, .flo), (13, .flo)]) .nil) .nil)) (fn70_J0.S p) (leaf fn70_J0 fn70_O0) = fn70_B0 p) ∧ (∀ p, run fn70_x (subc [1, 1, 1, 0, 1, 0, 0] c194) (.seq .nil (.seq (.seq (.draw [(0, .flo), (1, .flo), (2, .flo), (3, .flo), (4, .flo), (5, .flo), (6, .flo), (7, .flo), (8, .flo), (9, .flo), (10, .flo), (11, .flo), (12, .flo), (13, .flo)]) .nil) .nil)) (fn70_J2.S p) (leaf fn70_J2 fn70_O1) = fn70_B1 p) ∧ True)) fun x y => by kernel_rfl
theorem fn70_s : fn70_D.Says Tryz.prog := fn70_w.says follows tabOk fn69_e_ok
noncomputable def fn70_e : Env := more fn69_e fn70_D
theorem fn70_e_ok : EnvOk Tryz.prog fn70_e := more_ok fn69_e_ok fn70_s
abbrev fn62_J0 : Tpl := ⟨[(0, .val (.list (.list I))), (1, .val I), (5, .own .shr I), (6, .val I)], [], []⟩
abbrev fn62_J1 : Tpl := ⟨[(0, .val (.list (.list I))), (1, .val I), (5, .own .shr I)], [], []⟩
abbrev fn62_J2 : Tpl := ⟨[(0, .val (.list (.list I))), (5, .own .shr I), (7, .own .shr I), (8, .val I), (9, .val (.list I)), (10, .val I)], [], []⟩
abbrev fn62_J3 : Tpl := ⟨[(0, .val (.list (.list I))), (5, .own .shr I), (7, .own .shr I), (8, .val I)], [], []⟩
abbrev fn62_J4 : Tpl := ⟨[(5, .own .shr I)], [], []⟩
abbrev fn62_E : Ve.End := ⟨[⟨4, (.own .shr), (.list I), none⟩], []⟩
abbrev fn62_a : List ASh := [.val (.list (.list I)), .val I]
abbrev fn62_o : List OSh := []
abbrev fn62_O0 : Out := .one (.ex 0) fn62_J1
noncomputable def fn62_B0 : fn62_J0.P → Option (fn62_J0.P ⊕ fn62_O0.P)
  | ((t0, t1, t5, t6, ()), ()) => bif (decide (t6 < (List.length t5 : Int))) then (guardB (inb t6 (List.length t5)) (some (.inl ((t0, t1, (List.set t5 (Int.toNat t6) (-1 : Int)), (w64 (t6 + (1 : Int))), ()), ())))) else (some (.inr ((t0, t1, t5, ()), ())))
abbrev fn62_O1 : Out := .one (.ex 4) fn62_J3
noncomputable def fn62_B1 : fn62_J2.P → Option (fn62_J2.P ⊕ fn62_O1.P)
  | ((t0, t5, t7, t8, t9, t10, ()), ()) => bif (decide (t10 < (List.length t9 : Int))) then (guardB (inb t10 (List.length t9)) (guardB (inb (List.getD t9 (Int.toNat t10) (0 : Int)) (List.length t5)) (bif (decide ((List.getD t5 (Int.toNat (List.getD t9 (Int.toNat t10) (0 : Int))) (0 : Int)) < (0 : Int))) then (guardB (inb t10 (List.length t9)) (guardB (inb t8 (List.length t7)) (guardB (inb (List.getD t7 (Int.toNat t8) (0 : Int)) (List.length t5)) (guardB (inb (List.getD t9 (Int.toNat t10) (0 : Int)) (List.length t5)) (guardB (inb t10 (List.length t9)) (guardB (decide ((List.length t7 + List.length [(List.getD t9 (Int.toNat t10) (0 : Int))]) * 8 ≤ 70368744177664)) (some (.inl ((t0, (List.set t5 (Int.toNat (List.getD t9 (Int.toNat t10) (0 : Int))) (w64 ((List.getD t5 (Int.toNat (List.getD t7 (Int.toNat t8) (0 : Int))) (0 : Int)) + (1 : Int)))), (t7 ++ [(List.getD t9 (Int.toNat t10) (0 : Int))]), t8, t9, (w64 (t10 + (1 : Int))), ()), ()))))))))) else (some (.inl ((t0, t5, t7, t8, t9, (w64 (t10 + (1 : Int))), ()), ())))))) else (some (.inr ((t0, t5, t7, t8, ()), ())))
abbrev fn62_O2 : Out := .one (.ex 2) fn62_J4
noncomputable def fn62_B2 : fn62_J3.P → Option (fn62_J3.P ⊕ fn62_O2.P)
  | ((t0, t5, t7, t8, ()), ()) => bif (decide (t8 < (List.length t7 : Int))) then (guardB (inb t8 (List.length t7)) (guardB (inb (List.getD t7 (Int.toNat t8) (0 : Int)) (List.length t0)) (match loopO fn62_B1 ((t0, t5, t7, t8, (List.getD t0 (Int.toNat (List.getD t7 (Int.toNat t8) (0 : Int))) ([] : (List Int))), (0 : Int), ()), ()) with | some ((t0_2, t5_2, t7_2, t8_2, ()), ()) => some (.inl ((t0_2, t5_2, t7_2, (w64 (t8_2 + (1 : Int))), ()), ())) | none => none))) else (some (.inr ((t5, ()), ())))
noncomputable def fn62 : argP fn62_a → obP (extObs 0 fn62_o) → Option fn62_E.P
  | (t0, t1, ()), () => guardB (decide (0 ≤ (List.length t0 : Int)) && decide ((List.length t0 : Int) ≤ (List.length t0 : Int)) && decide ((List.length t0 : Int) * 8 ≤ 140737488355328)) (match loopO fn62_B0 ((t0, t1, (List.replicate (Int.toNat (List.length t0 : Int)) (0 : Int)), (0 : Int), ()), ()) with | some ((t0_2, t1_2, t5, ()), ()) => guardB (inb t1_2 (List.length t5)) (match loopO fn62_B2 ((t0_2, (List.set t5 (Int.toNat t1_2) (0 : Int)), [t1_2], (0 : Int), ()), ()) with | some ((t5_2, ()), ()) => some ((t5_2, ()), ()) | none => none) | none => none)
noncomputable def fn62_x : Cx := ⟨tab, fn70_e, fun _ _ => 0, fun _ => false, [(9, 0), (74, 0)], []⟩
noncomputable def c217 : Code := bodyOf Tryz.f217
noncomputable def fn62_A : Ann := .seq .nil (.seq .nil (.seq (.seq .nil (.loop fn62_J0 fn62_O0 fn62_B0 .nil)) (.seq .nil (.seq .nil (.seq (.seq .nil (.loop fn62_J3 fn62_O2 fn62_B2 (.seq .nil (.seq (.seq .nil (.seq .nil (.loop fn62_J2 fn62_O1 fn62_B1 (.seq .nil (.seq (.seq .nil (.seq (.seq (.draw [(0, .flo), (1, .flo), (2, .flo), (3, .flo), (4, .flo), (5, .flo), (6, .flo), (7, .flo), (8, .flo), (9, .qui), (10, .flo), (11, .qui), (12, .flo), (13, .flo), (14, .sole)]) .nil) .nil)) .nil))))) .nil)))) .nil)))))
theorem fn62_r0 (p : fn62_J0.P) : run fn62_x (subc [1, 1, 0, 1, 0, 0] c217) .nil (fn62_J0.S p) (leaf fn62_J0 fn62_O0) = fn62_B0 p := by kernel_rfl
theorem fn62_r1 (p : fn62_J3.P) : run fn62_x (subc [1, 1, 1, 1, 1, 0, 1, 0, 0] c217) (.seq .nil (.seq (.seq .nil (.seq .nil (.loop fn62_J2 fn62_O1 fn62_B1 (.seq .nil (.seq (.seq .nil (.seq (.seq (.draw [(0, .flo), (1, .flo), (2, .flo), (3, .flo), (4, .flo), (5, .flo), (6, .flo), (7, .flo), (8, .flo), (9, .qui), (10, .flo), (11, .qui), (12, .flo), (13, .flo), (14, .sole)]) .nil) .nil)) .nil))))) .nil)) (fn62_J3.S p) (leaf fn62_J3 fn62_O2) = fn62_B2 p := by kernel_rfl
theorem fn62_r2 (p : fn62_J2.P) : run fn62_x (subc [1, 1, 1, 1, 1, 0, 1, 0, 0, 1, 0, 0, 1, 1, 0, 0] c217) (.seq .nil (.seq (.seq .nil (.seq (.seq (.draw [(0, .flo), (1, .flo), (2, .flo), (3, .flo), (4, .flo), (5, .flo), (6, .flo), (7, .flo), (8, .flo), (9, .qui), (10, .flo), (11, .qui), (12, .flo), (13, .flo), (14, .sole)]) .nil) .nil)) .nil)) (fn62_J2.S p) (leaf fn62_J2 fn62_O1) = fn62_B1 p := by kernel_rfl
noncomputable def fn62_D : Ve.Fn := ⟨217, fn62_a, fn62_o, fn62_E, fn62⟩
theorem fn62_w : Walk Tryz.prog fn62_x fn62_D Tryz.f217 c217 77 fn62_A :=
  .of Tryz.func217 (kcast (by kernel_rfl) (⟨fn62_r0, fn62_r1, fn62_r2, trivial⟩ : (∀ p, run fn62_x (subc [1, 1, 0, 1, 0, 0] c217) .nil (fn62_J0.S p) (leaf fn62_J0 fn62_O0) = fn62_B0 p) ∧ (∀ p, run fn62_x (subc [1, 1, 1, 1, 1, 0, 1, 0, 0] c217) (.seq .nil (.seq (.seq .nil (.seq .nil (.loop fn62_J2 fn62_O1 fn62_B1 (.seq .nil (.seq (.seq .nil (.seq (.seq (.draw [(0, .flo), (1, .flo), (2, .flo), (3, .flo), (4, .flo), (5, .flo), (6, .flo), (7, .flo), (8, .flo), (9, .qui), (10, .flo), (11, .qui), (12, .flo), (13, .flo), (14, .sole)]) .nil) .nil)) .nil))))) .nil)) (fn62_J3.S p) (leaf fn62_J3 fn62_O2) = fn62_B2 p) ∧ (∀ p, run fn62_x (subc [1, 1, 1, 1, 1, 0, 1, 0, 0, 1, 0, 0, 1, 1, 0, 0] c217) (.seq .nil (.seq (.seq .nil (.seq (.seq (.draw [(0, .flo), (1, .flo), (2, .flo), (3, .flo), (4, .flo), (5, .flo), (6, .flo), (7, .flo), (8, .flo), (9, .qui), (10, .flo), (11, .qui), (12, .flo), (13, .flo), (14, .sole)]) .nil) .nil)) .nil)) (fn62_J2.S p) (leaf fn62_J2 fn62_O1) = fn62_B1 p) ∧ True)) fun x y => by kernel_rfl
theorem fn62_s : fn62_D.Says Tryz.prog := fn62_w.says follows tabOk fn70_e_ok
noncomputable def fn62_e : Env := more fn70_e fn62_D
theorem fn62_e_ok : EnvOk Tryz.prog fn62_e := more_ok fn70_e_ok fn62_s
abbrev fn90_J0 : Tpl := ⟨[(1, .val I), (2, .val I), (7, .val (.list (.list I))), (8, .val (.list I)), (9, .own .shr I), (10, .val I)], [], []⟩
abbrev fn90_J1 : Tpl := ⟨[(1, .val I), (2, .val I), (7, .val (.list (.list I))), (8, .val (.list I)), (9, .own .shr I)], [], []⟩
abbrev fn90_J2 : Tpl := ⟨[(9, .own .shr I)], [], []⟩
abbrev fn90_E : Ve.End := ⟨[⟨6, (.own .shr), (.list I), none⟩], []⟩
abbrev fn90_a : List ASh := [.val (.prod (.list (.list I)) (.list (.prod I I))), .val I, .val I]
abbrev fn90_o : List OSh := []
abbrev fn90_O0 : Out := .one (.ex 2) fn90_J0
noncomputable def fn90_B0 : fn90_J0.P → Option (fn90_J0.P ⊕ fn90_O0.P)
  | ((i, j, lists, dist, out, k, ()), ()) => guardB (inb i (List.length lists)) (guardB (inb k (List.length (List.getD lists (Int.toNat i) ([] : (List Int))))) (guardB (inb (List.getD (List.getD lists (Int.toNat i) ([] : (List Int))) (Int.toNat k) (0 : Int)) (List.length dist)) (guardB (inb i (List.length dist)) (bif ((List.getD dist (Int.toNat (List.getD (List.getD lists (Int.toNat i) ([] : (List Int))) (Int.toNat k) (0 : Int))) (0 : Int)) != (w64 ((List.getD dist (Int.toNat i) (0 : Int)) - (1 : Int)))) then (some (.inl ((i, j, lists, dist, out, (w64 (k + (1 : Int))), ()), ()))) else (some (.inr ((i, j, lists, dist, out, k, ()), ())))))))
abbrev fn90_O1 : Out := .one (.ex 0) fn90_J2
noncomputable def fn90_B1 : fn90_J1.P → Option (fn90_J1.P ⊕ fn90_O1.P)
  | ((i, j, lists, dist, out, ()), ()) => bif (i != j) then (match loopO fn90_B0 ((i, j, lists, dist, out, (0 : Int), ()), ()) with | some ((i2, j2, lists2, dist2, out2, k, ()), ()) => guardB (inb i2 (List.length lists2)) (guardB (inb k (List.length (List.getD lists2 (Int.toNat i2) ([] : (List Int))))) (guardB (decide ((List.length out2 + List.length [(List.getD (List.getD lists2 (Int.toNat i2) ([] : (List Int))) (Int.toNat k) (0 : Int))]) * 8 ≤ 70368744177664)) (some (.inl (((List.getD (List.getD lists2 (Int.toNat i2) ([] : (List Int))) (Int.toNat k) (0 : Int)), j2, lists2, dist2, (out2 ++ [(List.getD (List.getD lists2 (Int.toNat i2) ([] : (List Int))) (Int.toNat k) (0 : Int))]), ()), ()))))) | none => none) else (some (.inr ((out, ()), ())))
noncomputable def fn90 : argP fn90_a → obP (extObs 0 fn90_o) → Option fn90_E.P
  | (x, i, j, ()), () => match fn70 (x, ()) () with | some ((r, ()), ()) => (match fn62 (r, j, ()) () with | some ((r2, ()), ()) => guardB (inb i (List.length r2)) (bif (decide ((List.getD r2 (Int.toNat i) (0 : Int)) < (0 : Int))) then (some ((([] : (List Int)), ()), ())) else (match loopO fn90_B1 ((i, j, r, r2, [i], ()), ()) with | some ((out, ()), ()) => some ((out, ()), ()) | none => none)) | none => none) | none => none
noncomputable def fn90_x : Cx := ⟨tab, fn62_e, fun _ _ => 0, fun _ => false, [(12, 0), (12, 1), (12, 2), (12, 3), (7, 0), (15, 0), (15, 1), (15, 2), (15, 3), (8, 0), (21, 0), (54, 0)], [(3, 0)]⟩
noncomputable def c128 : Code := bodyOf Tryz.f128
noncomputable def fn90_A : Ann := .seq .nil (.seq .nil (.seq .nil (.seq .nil (.seq .nil (.seq (.loop fn90_J1 fn90_O1 fn90_B1 (.seq .nil (.seq .nil (.seq (.loop fn90_J0 fn90_O0 fn90_B0 (.seq (.seq (.draw [(0, .flo), (1, .flo), (2, .flo), (3, .flo), (4, .flo), (5, .flo), (6, .flo), (7, .flo), (8, .flo), (9, .flo), (10, .flo), (11, .flo), (12, .flo), (13, .flo), (14, .flo), (15, .flo)]) .nil) .nil)) .nil)))) .nil)))))
theorem fn90_r0 (p : fn90_J1.P) : run fn90_x (subc [1, 1, 1, 1, 1, 0, 0, 0] c128) (.seq .nil (.seq .nil (.seq (.loop fn90_J0 fn90_O0 fn90_B0 (.seq (.seq (.draw [(0, .flo), (1, .flo), (2, .flo), (3, .flo), (4, .flo), (5, .flo), (6, .flo), (7, .flo), (8, .flo), (9, .flo), (10, .flo), (11, .flo), (12, .flo), (13, .flo), (14, .flo), (15, .flo)]) .nil) .nil)) .nil))) (fn90_J1.S p) (leaf fn90_J1 fn90_O1) = fn90_B1 p := by kernel_rfl
theorem fn90_r1 (p : fn90_J0.P) : run fn90_x (subc [1, 1, 1, 1, 1, 0, 0, 0, 1, 0, 1, 0, 0, 0] c128) (.seq (.seq (.draw [(0, .flo), (1, .flo), (2, .flo), (3, .flo), (4, .flo), (5, .flo), (6, .flo), (7, .flo), (8, .flo), (9, .flo), (10, .flo), (11, .flo), (12, .flo), (13, .flo), (14, .flo), (15, .flo)]) .nil) .nil) (fn90_J0.S p) (leaf fn90_J0 fn90_O0) = fn90_B0 p := by kernel_rfl
noncomputable def fn90_D : Ve.Fn := ⟨128, fn90_a, fn90_o, fn90_E, fn90⟩
theorem fn90_w : Walk Tryz.prog fn90_x fn90_D Tryz.f128 c128 57 fn90_A :=
  .of Tryz.func128 (kcast (by kernel_rfl) (⟨fn90_r0, fn90_r1, trivial⟩ : (∀ p, run fn90_x (subc [1, 1, 1, 1, 1, 0, 0, 0] c128) (.seq .nil (.seq .nil (.seq (.loop fn90_J0 fn90_O0 fn90_B0 (.seq (.seq (.draw [(0, .flo), (1, .flo), (2, .flo), (3, .flo), (4, .flo), (5, .flo), (6, .flo), (7, .flo), (8, .flo), (9, .flo), (10, .flo), (11, .flo), (12, .flo), (13, .flo), (14, .flo), (15, .flo)]) .nil) .nil)) .nil))) (fn90_J1.S p) (leaf fn90_J1 fn90_O1) = fn90_B1 p) ∧ (∀ p, run fn90_x (subc [1, 1, 1, 1, 1, 0, 0, 0, 1, 0, 1, 0, 0, 0] c128) (.seq (.seq (.draw [(0, .flo), (1, .flo), (2, .flo), (3, .flo), (4, .flo), (5, .flo), (6, .flo), (7, .flo), (8, .flo), (9, .flo), (10, .flo), (11, .flo), (12, .flo), (13, .flo), (14, .flo), (15, .flo)]) .nil) .nil) (fn90_J0.S p) (leaf fn90_J0 fn90_O0) = fn90_B0 p) ∧ True)) fun x y => by kernel_rfl
theorem fn90_s : fn90_D.Says Tryz.prog := fn90_w.says follows tabOk fn62_e_ok
noncomputable def fn90_e : Env := more fn62_e fn90_D
theorem fn90_e_ok : EnvOk Tryz.prog fn90_e := more_ok fn62_e_ok fn90_s
abbrev fn72_J0 : Tpl := ⟨[(1, .val (.list I)), (2, .cst (.prod (.list (.list I)) (.list (.prod I I)))), (5, .own (.own .shr) (.list I)), (6, .val I)], [], []⟩
abbrev fn72_J1 : Tpl := ⟨[(5, .own (.own .shr) (.list I))], [], []⟩
abbrev fn72_E : Ve.End := ⟨[⟨4, (.own (.own .shr)), (.list (.list I)), none⟩], []⟩
abbrev fn72_a : List ASh := [.val (.prod (.list (.list I)) (.list (.prod I I))), .val (.list I)]
abbrev fn72_o : List OSh := []
abbrev fn72_O0 : Out := .one (.ex 0) fn72_J1
noncomputable def fn72_B0 : fn72_J0.P → Option (fn72_J0.P ⊕ fn72_O0.P)
  | ((walk, x, out, i, ()), ()) => bif (decide (i < (List.length walk : Int))) then (guardB (inb i (List.length walk)) (guardB (inb (List.getD walk (Int.toNat i) (0 : Int)) (List.length x.1)) (match fn97 ((List.getD x.1 (Int.toNat (List.getD walk (Int.toNat i) (0 : Int))) ([] : (List Int))), ()) () with | some ((r, ()), ()) => guardB (decide ((List.length out + List.length [r]) * 24 ≤ 70368744177664)) (some (.inl ((walk, x, (out ++ [r]), (w64 (i + (1 : Int))), ()), ()))) | none => none))) else (some (.inr ((out, ()), ())))
noncomputable def fn72 : argP fn72_a → obP (extObs 0 fn72_o) → Option fn72_E.P
  | (x, walk, ()), () => match loopO fn72_B0 ((walk, x, ([] : (List (List Int))), (0 : Int), ()), ()) with | some ((out, ()), ()) => some ((out, ()), ()) | none => none
noncomputable def fn72_x : Cx := ⟨tab, fn90_e, fun _ _ => 0, fun _ => false, [], [(2, 0)]⟩
noncomputable def c130 : Code := bodyOf Tryz.f130
noncomputable def fn72_A : Ann := .seq .nil (.seq .nil (.seq (.seq .nil (.loop fn72_J0 fn72_O0 fn72_B0 (.seq .nil (.seq (.draw [(0, .flo), (1, .flo), (2, .flo), (3, .flo), (4, .flo), (5, .flo), (6, .flo), (7, .flo), (8, .flo), (9, .sole), (10, .sole), (11, .sole), (12, .flo)]) .nil)))) .nil))
theorem fn72_r0 (p : fn72_J0.P) : run fn72_x (subc [1, 1, 0, 1, 0, 0] c130) (.seq .nil (.seq (.draw [(0, .flo), (1, .flo), (2, .flo), (3, .flo), (4, .flo), (5, .flo), (6, .flo), (7, .flo), (8, .flo), (9, .sole), (10, .sole), (11, .sole), (12, .flo)]) .nil)) (fn72_J0.S p) (leaf fn72_J0 fn72_O0) = fn72_B0 p := by kernel_rfl
noncomputable def fn72_D : Ve.Fn := ⟨130, fn72_a, fn72_o, fn72_E, fn72⟩
theorem fn72_w : Walk Tryz.prog fn72_x fn72_D Tryz.f130 c130 27 fn72_A :=
  .of Tryz.func130 (kcast (by kernel_rfl) (⟨fn72_r0, trivial⟩ : (∀ p, run fn72_x (subc [1, 1, 0, 1, 0, 0] c130) (.seq .nil (.seq (.draw [(0, .flo), (1, .flo), (2, .flo), (3, .flo), (4, .flo), (5, .flo), (6, .flo), (7, .flo), (8, .flo), (9, .sole), (10, .sole), (11, .sole), (12, .flo)]) .nil)) (fn72_J0.S p) (leaf fn72_J0 fn72_O0) = fn72_B0 p) ∧ True)) fun x y => by kernel_rfl
theorem fn72_s : fn72_D.Says Tryz.prog := fn72_w.says follows tabOk fn90_e_ok
noncomputable def fn72_e : Env := more fn90_e fn72_D
theorem fn72_e_ok : EnvOk Tryz.prog fn72_e := more_ok fn90_e_ok fn72_s
abbrev fn82_E : Ve.End := ⟨[⟨10, (.own (.own .shr)), (.list (.list I)), none⟩, ⟨11, .shr, .bool, none⟩], []⟩
abbrev fn82_a : List ASh := [.val (.prod I (.list (.prod I I))), .val (.prod I (.list (.prod I I))), .val (.list I), .val (.list I), .val .bool]
abbrev fn82_o : List OSh := []
noncomputable def fn82 : argP fn82_a → obP (extObs 0 fn82_o) → Option fn82_E.P
  | (g, h, a, b, lazy, ()), () => match fn67 (g, h, ()) () with | some ((r, ()), ()) => (bif (!r) then (some ((([] : (List (List Int))), false, ()), ())) else (match fn84 (g, h, a, lazy, ()) () with | some ((r2, ()), ()) => (bif (!r2) then (some ((([] : (List (List Int))), false, ()), ())) else (match fn84 (g, h, b, lazy, ()) () with | some ((r3, ()), ()) => (bif (!r3) then (some ((([] : (List (List Int))), false, ()), ())) else (match fn61 (g, h, lazy, ()) () with | some ((r4, r5, ()), ()) => (bif (!r5) then (some ((([] : (List (List Int))), false, ()), ())) else (match fn69 ((r4.1, r4.2), a, ()) () with | some ((r6, ()), ()) => (match fn69 ((r4.1, r4.2), b, ()) () with | some ((r7, ()), ()) => (match fn90 ((r4.1, r4.2), r6, r7, ()) () with | some ((r8, ()), ()) => (match fn72 ((r4.1, r4.2), r8, ()) () with | some ((r9, ()), ()) => some ((r9, (decide ((0 : Int) < (List.length r8 : Int))), ()), ()) | none => none) | none => none) | none => none) | none => none)) | none => none)) | none => none)) | none => none)) | none => none
noncomputable def fn82_x : Cx := ⟨tab, fn72_e, fun _ _ => 0, fun _ => false, [(17, 0), (17, 1), (17, 2), (17, 3), (24, 0), (24, 1), (24, 2), (24, 3), (32, 0), (32, 1), (32, 2), (32, 3), (35, 0), (45, 0), (49, 0), (49, 1), (49, 2), (49, 3), (52, 0), (52, 1), (52, 2), (52, 3), (53, 0), (53, 1), (53, 2), (53, 3), (14, 0), (56, 0), (56, 1), (56, 2), (56, 3)], [(5, 0), (6, 0), (12, 0)]⟩
noncomputable def c12 : Code := bodyOf Tryz.f12
noncomputable def fn82_A : Ann := .seq .nil (.seq .nil (.seq .nil (.seq .nil (.seq (.draw [(0, .flo), (1, .flo), (2, .flo), (4, .flo), (5, .flo), (3, .sole), (6, .sole), (7, .sole), (8, .flo)]) .nil))))
noncomputable def fn82_D : Ve.Fn := ⟨12, fn82_a, fn82_o, fn82_E, fn82⟩
theorem fn82_w : Walk Tryz.prog fn82_x fn82_D Tryz.f12 c12 60 fn82_A :=
  .of Tryz.func12 (kcast (by kernel_rfl) trivial) fun x y => by kernel_rfl
theorem fn82_s : fn82_D.Says Tryz.prog := fn82_w.says follows tabOk fn72_e_ok
noncomputable def fn82_e : Env := more fn72_e fn82_D
theorem fn82_e_ok : EnvOk Tryz.prog fn82_e := more_ok fn72_e_ok fn82_s
abbrev fn93_E : Ve.End := ⟨[⟨8, .shr, .bool, none⟩, ⟨9, .shr, .bool, none⟩], []⟩
abbrev fn93_a : List ASh := [.val (.prod I (.list (.prod I I))), .val (.prod I (.list (.prod I I))), .val (.list I), .val .bool]
abbrev fn93_o : List OSh := []
noncomputable def fn93 : argP fn93_a → obP (extObs 0 fn93_o) → Option fn93_E.P
  | (g, h, list, lazy, ()), () => match fn49 (g, h, ()) () with | some ((r, ()), ()) => (bif (!r) then (some ((false, false, ()), ())) else (match fn94 (g, h, list, lazy, ()) () with | some ((r2, ()), ()) => some ((r2, true, ()), ()) | none => none)) | none => none
noncomputable def fn93_x : Cx := ⟨tab, fn82_e, fun _ _ => 0, fun _ => false, [(12, 0), (12, 1), (12, 2), (12, 3), (18, 0), (18, 1), (18, 2), (18, 3)], [(4, 0), (5, 0)]⟩
noncomputable def c70 : Code := bodyOf Tryz.f70
noncomputable def fn93_A : Ann := .nil
noncomputable def fn93_D : Ve.Fn := ⟨70, fn93_a, fn93_o, fn93_E, fn93⟩
theorem fn93_w : Walk Tryz.prog fn93_x fn93_D Tryz.f70 c70 19 fn93_A :=
  .of Tryz.func70 (kcast (by kernel_rfl) trivial) fun x y => by kernel_rfl
theorem fn93_s : fn93_D.Says Tryz.prog := fn93_w.says follows tabOk fn82_e_ok
noncomputable def fn93_e : Env := more fn82_e fn93_D
theorem fn93_e_ok : EnvOk Tryz.prog fn93_e := more_ok fn82_e_ok fn93_s
abbrev fn96_E : Ve.End := ⟨[⟨8, .shr, .bool, none⟩, ⟨9, .shr, .bool, none⟩], []⟩
abbrev fn96_a : List ASh := [.val (.prod I (.list (.prod I I))), .val (.prod I (.list (.prod I I))), .val (.list I), .val .bool]
abbrev fn96_o : List OSh := []
noncomputable def fn96 : argP fn96_a → obP (extObs 0 fn96_o) → Option fn96_E.P
  | (g, h, list, lazy, ()), () => match fn67 (g, h, ()) () with | some ((r, ()), ()) => (bif (!r) then (some ((false, false, ()), ())) else (match fn84 (g, h, list, lazy, ()) () with | some ((r2, ()), ()) => some ((r2, true, ()), ()) | none => none)) | none => none
noncomputable def fn96_x : Cx := ⟨tab, fn93_e, fun _ _ => 0, fun _ => false, [(12, 0), (12, 1), (12, 2), (12, 3), (18, 0), (18, 1), (18, 2), (18, 3)], [(4, 0), (5, 0)]⟩
noncomputable def c71 : Code := bodyOf Tryz.f71
noncomputable def fn96_A : Ann := .nil
noncomputable def fn96_D : Ve.Fn := ⟨71, fn96_a, fn96_o, fn96_E, fn96⟩
theorem fn96_w : Walk Tryz.prog fn96_x fn96_D Tryz.f71 c71 19 fn96_A :=
  .of Tryz.func71 (kcast (by kernel_rfl) trivial) fun x y => by kernel_rfl
theorem fn96_s : fn96_D.Says Tryz.prog := fn96_w.says follows tabOk fn93_e_ok
noncomputable def fn96_e : Env := more fn93_e fn96_D
theorem fn96_e_ok : EnvOk Tryz.prog fn96_e := more_ok fn93_e_ok fn96_s
abbrev fn32_E : Ve.End := ⟨[⟨2, .shr, (.prod I (.list (.prod I I))), some 30⟩, ⟨3, .shr, (.prod I (.list (.prod I I))), some 30⟩, ⟨4, .shr, (.prod I (.list (.prod I I))), some 30⟩, ⟨5, (.own .shr), (.list I), none⟩, ⟨6, (.own .shr), (.list I), none⟩, ⟨7, .shr, .bool, none⟩], []⟩
abbrev fn32_a : List ASh := [.own .shr (.list (.int .u8))]
abbrev fn32_o : List OSh := []
noncomputable def fn32 : argP fn32_a → obP (extObs 0 fn32_o) → Option fn32_E.P
  | (code, ()), () => match fn29 () ((code, ((0 : Int), (0 : Int))), ()) with | some ((r, r2, ()), (o, ())) => (match fn15 ((4 : Int), ()) (o, ()) with | some ((r3, ()), (o2, ())) => (match fn28 ((2 : Int), ()) (o2, ()) with | some ((r4, ()), (o3, ())) => (match fn18 ((r.1, r.2), (r2.1, r2.2), r4, ()) (o3, ()) with | some ((r5, ()), (o4, ())) => (match fn18 ((r2.1, r2.2), (r3.1, r3.2), r4, ()) (o4, ()) with | some ((r6, ()), (o5, ())) => some (((r.1, r.2), (r2.1, r2.2), (r3.1, r3.2), r5, r6, r4, ()), ()) | none => none) | none => none) | none => none) | none => none) | none => none
noncomputable def fn32_x : Cx := ⟨tab, fn96_e, fun f n => bif Nat.beq f 156 && Nat.beq n 0 then 1 else bif Nat.beq f 182 && Nat.beq n 0 then 1 else bif Nat.beq f 183 && Nat.beq n 0 then 1 else bif Nat.beq f 184 && Nat.beq n 0 then 1 else 0, fun _ => false, [(9, 0), (10, 0), (11, 0), (24, 0), (24, 1), (24, 2), (24, 3), (32, 0), (32, 1), (32, 2), (32, 3), (37, 0), (37, 1), (37, 2), (37, 3)], [(9, 0), (10, 0), (11, 0)]⟩
noncomputable def c72 : Code := bodyOf Tryz.f72
noncomputable def fn32_A : Ann := .seq .nil (.seq .nil (.seq .nil (.seq .nil (.seq (.draw [(0, .flo), (1, .flo), (2, .flo), (3, .flo), (4, .flo), (5, .flo), (6, .flo), (8, .flo), (9, .flo), (10, .flo), (11, .flo), (13, .flo), (7, .sole), (12, .sole), (14, .sole), (15, .sole), (16, .sole), (17, .flo), (18, .flo), (19, .flo)]) .nil))))
noncomputable def fn32_D : Ve.Fn := ⟨72, fn32_a, fn32_o, fn32_E, fn32⟩
theorem fn32_w : Walk Tryz.prog fn32_x fn32_D Tryz.f72 c72 39 fn32_A :=
  .of Tryz.func72 (kcast (by kernel_rfl) trivial) fun x y => by kernel_rfl
theorem fn32_s : fn32_D.Says Tryz.prog := fn32_w.says follows tabOk fn96_e_ok
noncomputable def fn32_e : Env := more fn96_e fn32_D
theorem fn32_e_ok : EnvOk Tryz.prog fn32_e := more_ok fn96_e_ok fn32_s
abbrev fn52_J0 : Tpl := ⟨[(4, .val (.list I)), (14, .own .shr I), (44, .val (.list I)), (45, .val I), (46, .val I)], [], []⟩
abbrev fn52_J1 : Tpl := ⟨[(14, .own .shr I)], [], []⟩
abbrev fn52_E : Ve.End := ⟨[⟨12, (.own .shr), (.list I), none⟩, ⟨13, .shr, .bool, none⟩], []⟩
abbrev fn52_a : List ASh := [.val (.prod I (.list (.prod I I))), .val (.prod I (.list (.prod I I))), .val (.prod I (.list (.prod I I))), .val (.list I), .val (.list I), .val .bool]
abbrev fn52_o : List OSh := []
abbrev fn52_O0 : Out := .one (.ex 0) fn52_J1
noncomputable def fn52_B0 : fn52_J0.P → Option (fn52_J0.P ⊕ fn52_O0.P)
  | ((b, out, t44, t45, t46, ()), ()) => bif (decide (t46 < t45)) then (guardB (inb t46 (List.length t44)) (guardB (inb (List.getD t44 (Int.toNat t46) (0 : Int)) (List.length b)) (guardB (decide ((List.length out + List.length [(List.getD b (Int.toNat (List.getD t44 (Int.toNat t46) (0 : Int))) (0 : Int))]) * 8 ≤ 70368744177664)) (some (.inl ((b, (out ++ [(List.getD b (Int.toNat (List.getD t44 (Int.toNat t46) (0 : Int))) (0 : Int))]), t44, t45, (w64 (t46 + (1 : Int))), ()), ())))))) else (some (.inr ((out, ()), ())))
noncomputable def fn52 : argP fn52_a → obP (extObs 0 fn52_o) → Option fn52_E.P
  | (g, h, k, a, b, lazy, ()), () => match fn49 (g, h, ()) () with | some ((r, ()), ()) => (bif (!r) then (some ((([] : (List Int)), false, ()), ())) else (match fn49 (h, k, ()) () with | some ((r2, ()), ()) => (bif (!r2) then (some ((([] : (List Int)), false, ()), ())) else (match fn94 (g, h, a, lazy, ()) () with | some ((r3, ()), ()) => (bif (!r3) then (some ((([] : (List Int)), false, ()), ())) else (match fn94 (h, k, b, lazy, ()) () with | some ((r4, ()), ()) => (bif (!r4) then (some ((([] : (List Int)), false, ()), ())) else (match loopO fn52_B0 ((b, ([] : (List Int)), a, (List.length a : Int), (0 : Int), ()), ()) with | some ((out, ()), ()) => some ((out, true, ()), ()) | none => none)) | none => none)) | none => none)) | none => none)) | none => none
noncomputable def fn52_x : Cx := ⟨tab, fn32_e, fun _ _ => 0, fun _ => false, [(19, 0), (19, 1), (19, 2), (19, 3), (24, 0), (24, 1), (24, 2), (24, 3), (32, 0), (32, 1), (32, 2), (32, 3), (40, 0), (40, 1), (40, 2), (40, 3), (55, 0)], [(6, 0), (7, 0), (8, 0)]⟩
noncomputable def c73 : Code := bodyOf Tryz.f73
noncomputable def fn52_A : Ann := .seq .nil (.seq .nil (.seq .nil (.seq (.seq .nil (.loop fn52_J0 fn52_O0 fn52_B0 .nil)) .nil)))
theorem fn52_r0 (p : fn52_J0.P) : run fn52_x (subc [1, 1, 1, 0, 1, 0, 0] c73) .nil (fn52_J0.S p) (leaf fn52_J0 fn52_O0) = fn52_B0 p := by kernel_rfl
noncomputable def fn52_D : Ve.Fn := ⟨73, fn52_a, fn52_o, fn52_E, fn52⟩
theorem fn52_w : Walk Tryz.prog fn52_x fn52_D Tryz.f73 c73 59 fn52_A :=
  .of Tryz.func73 (kcast (by kernel_rfl) (⟨fn52_r0, trivial⟩ : (∀ p, run fn52_x (subc [1, 1, 1, 0, 1, 0, 0] c73) .nil (fn52_J0.S p) (leaf fn52_J0 fn52_O0) = fn52_B0 p) ∧ True)) fun x y => by kernel_rfl
theorem fn52_s : fn52_D.Says Tryz.prog := fn52_w.says follows tabOk fn32_e_ok
noncomputable def fn52_e : Env := more fn32_e fn52_D
theorem fn52_e_ok : EnvOk Tryz.prog fn52_e := more_ok fn32_e_ok fn52_s
abbrev fn56_J0 : Tpl := ⟨[(3, .val (.list I)), (4, .val (.list I)), (14, .own .shr I), (15, .val I)], [], []⟩
abbrev fn56_J1 : Tpl := ⟨[(14, .own .shr I)], [], []⟩
abbrev fn56_E : Ve.End := ⟨[⟨12, (.own .shr), (.list I), none⟩, ⟨13, .shr, .bool, none⟩], []⟩
abbrev fn56_a : List ASh := [.val (.prod I (.list (.prod I I))), .val (.prod I (.list (.prod I I))), .val (.prod I (.list (.prod I I))), .val (.list I), .val (.list I), .val .bool]
abbrev fn56_o : List OSh := []
abbrev fn56_O0 : Out := .one (.ex 0) fn56_J1
noncomputable def fn56_B0 : fn56_J0.P → Option (fn56_J0.P ⊕ fn56_O0.P)
  | ((a, b, out, x, ()), ()) => bif (decide (x < (List.length a : Int))) then (guardB (inb x (List.length a)) (guardB (inb (List.getD a (Int.toNat x) (0 : Int)) (List.length b)) (guardB (decide ((List.length out + List.length [(List.getD b (Int.toNat (List.getD a (Int.toNat x) (0 : Int))) (0 : Int))]) * 8 ≤ 70368744177664)) (some (.inl ((a, b, (out ++ [(List.getD b (Int.toNat (List.getD a (Int.toNat x) (0 : Int))) (0 : Int))]), (w64 (x + (1 : Int))), ()), ())))))) else (some (.inr ((out, ()), ())))
noncomputable def fn56 : argP fn56_a → obP (extObs 0 fn56_o) → Option fn56_E.P
  | (g, h, k, a, b, lazy, ()), () => match fn67 (g, h, ()) () with | some ((r, ()), ()) => (bif (!r) then (some ((([] : (List Int)), false, ()), ())) else (match fn67 (h, k, ()) () with | some ((r2, ()), ()) => (bif (!r2) then (some ((([] : (List Int)), false, ()), ())) else (match fn84 (g, h, a, lazy, ()) () with | some ((r3, ()), ()) => (bif (!r3) then (some ((([] : (List Int)), false, ()), ())) else (match fn84 (h, k, b, lazy, ()) () with | some ((r4, ()), ()) => (bif (!r4) then (some ((([] : (List Int)), false, ()), ())) else (match loopO fn56_B0 ((a, b, ([] : (List Int)), (0 : Int), ()), ()) with | some ((out, ()), ()) => some ((out, true, ()), ()) | none => none)) | none => none)) | none => none)) | none => none)) | none => none
noncomputable def fn56_x : Cx := ⟨tab, fn52_e, fun _ _ => 0, fun _ => false, [(19, 0), (19, 1), (19, 2), (19, 3), (24, 0), (24, 1), (24, 2), (24, 3), (32, 0), (32, 1), (32, 2), (32, 3), (40, 0), (40, 1), (40, 2), (40, 3), (58, 0)], [(6, 0), (7, 0), (8, 0)]⟩
noncomputable def c74 : Code := bodyOf Tryz.f74
noncomputable def fn56_A : Ann := .seq .nil (.seq .nil (.seq .nil (.seq (.seq .nil (.loop fn56_J0 fn56_O0 fn56_B0 .nil)) .nil)))
theorem fn56_r0 (p : fn56_J0.P) : run fn56_x (subc [1, 1, 1, 0, 1, 0, 0] c74) .nil (fn56_J0.S p) (leaf fn56_J0 fn56_O0) = fn56_B0 p := by kernel_rfl
noncomputable def fn56_D : Ve.Fn := ⟨74, fn56_a, fn56_o, fn56_E, fn56⟩
theorem fn56_w : Walk Tryz.prog fn56_x fn56_D Tryz.f74 c74 61 fn56_A :=
  .of Tryz.func74 (kcast (by kernel_rfl) (⟨fn56_r0, trivial⟩ : (∀ p, run fn56_x (subc [1, 1, 1, 0, 1, 0, 0] c74) .nil (fn56_J0.S p) (leaf fn56_J0 fn56_O0) = fn56_B0 p) ∧ True)) fun x y => by kernel_rfl
theorem fn56_s : fn56_D.Says Tryz.prog := fn56_w.says follows tabOk fn52_e_ok
noncomputable def fn56_e : Env := more fn52_e fn56_D
theorem fn56_e_ok : EnvOk Tryz.prog fn56_e := more_ok fn52_e_ok fn56_s
abbrev fn39_E : Ve.End := ⟨[⟨2, .shr, (.prod I (.list (.prod I I))), some 30⟩, ⟨3, .shr, (.prod I (.list (.prod I I))), some 30⟩, ⟨4, (.own .shr), (.list I), none⟩, ⟨5, .shr, .bool, none⟩], []⟩
abbrev fn39_a : List ASh := [.own .shr (.list (.int .u8))]
abbrev fn39_o : List OSh := []
noncomputable def fn39 : argP fn39_a → obP (extObs 0 fn39_o) → Option fn39_E.P
  | (code, ()), () => match fn29 () ((code, ((0 : Int), (0 : Int))), ()) with | some ((r, r2, ()), (o, ())) => (match fn28 ((2 : Int), ()) (o, ()) with | some ((r3, ()), (o2, ())) => (match fn18 ((r.1, r.2), (r2.1, r2.2), r3, ()) (o2, ()) with | some ((r4, ()), (o3, ())) => some (((r.1, r.2), (r2.1, r2.2), r4, r3, ()), ()) | none => none) | none => none) | none => none
noncomputable def fn39_x : Cx := ⟨tab, fn56_e, fun f n => bif Nat.beq f 156 && Nat.beq n 0 then 1 else bif Nat.beq f 182 && Nat.beq n 0 then 1 else bif Nat.beq f 183 && Nat.beq n 0 then 1 else 0, fun _ => false, [(7, 0), (8, 0), (19, 0), (19, 1), (19, 2), (19, 3), (26, 0), (26, 1), (26, 2), (26, 3)], [(7, 0), (8, 0)]⟩
noncomputable def c75 : Code := bodyOf Tryz.f75
noncomputable def fn39_A : Ann := .seq .nil (.seq .nil (.seq .nil (.seq .nil (.seq (.draw [(0, .flo), (1, .flo), (2, .flo), (3, .flo), (4, .flo), (5, .flo), (7, .flo), (6, .sole), (8, .sole), (9, .sole), (10, .flo), (11, .flo)]) .nil))))
noncomputable def fn39_D : Ve.Fn := ⟨75, fn39_a, fn39_o, fn39_E, fn39⟩
theorem fn39_w : Walk Tryz.prog fn39_x fn39_D Tryz.f75 c75 28 fn39_A :=
  .of Tryz.func75 (kcast (by kernel_rfl) trivial) fun x y => by kernel_rfl
theorem fn39_s : fn39_D.Says Tryz.prog := fn39_w.says follows tabOk fn56_e_ok
noncomputable def fn39_e : Env := more fn56_e fn39_D
theorem fn39_e_ok : EnvOk Tryz.prog fn39_e := more_ok fn56_e_ok fn39_s
abbrev fn78_J0 : Tpl := ⟨[(0, .val (.list (.int .u8))), (3, .cst (.prod I (.list (.prod I I)))), (4, .cst (.prod I (.list (.prod I I)))), (5, .val .bool), (6, .cst (.prod (.list (.list I)) (.list (.prod I I)))), (7, .val .bool), (10, .val I), (11, .val .bool)], [], []⟩
abbrev fn78_J1 : Tpl := ⟨[(0, .val (.list (.int .u8))), (6, .cst (.prod (.list (.list I)) (.list (.prod I I)))), (7, .val .bool), (10, .val I), (14, .val (.list I)), (15, .val .bool)], [], []⟩
abbrev fn78_J2 : Tpl := ⟨[(0, .val (.list (.int .u8)))], [], []⟩
abbrev fn78_J3 : Tpl := ⟨[(0, .val (.list (.int .u8))), (18, .cst (.prod I (.list (.prod I I)))), (19, .cst (.prod I (.list (.prod I I)))), (22, .val .bool), (23, .val (.list (.list I))), (27, .val I), (32, .val I), (33, .val I)], [], []⟩
abbrev fn78_J4 : Tpl := ⟨[(0, .val (.list (.int .u8))), (18, .cst (.prod I (.list (.prod I I)))), (19, .cst (.prod I (.list (.prod I I)))), (22, .val .bool), (23, .val (.list (.list I))), (27, .val I), (32, .val I)], [], []⟩
abbrev fn78_J5 : Tpl := ⟨[(0, .val (.list (.int .u8))), (18, .cst (.prod I (.list (.prod I I)))), (19, .cst (.prod I (.list (.prod I I)))), (22, .val .bool), (23, .val (.list (.list I))), (27, .val I)], [], []⟩
abbrev fn78_J6 : Tpl := ⟨[(2, .val .bool)], [], []⟩
abbrev fn78_E : Ve.End := ⟨[⟨2, .shr, .bool, none⟩], []⟩
abbrev fn78_a : List ASh := [.val (.list (.int .u8))]
abbrev fn78_o : List OSh := []
abbrev fn78_O0 : Out := .one (.ex 2) fn78_J4
noncomputable def fn78_B0 : fn78_J3.P → Option (fn78_J3.P ⊕ fn78_O0.P)
  | ((t0, t18, t19, t22, t23, t27, t32, t33, ()), ()) => bif (decide ((0 : Int) < t27)) then (guardB (inb t27 (List.length t23)) (bif (decide (t33 < (List.length (List.getD t23 (Int.toNat t27) ([] : (List Int))) : Int))) then (guardB (inb t27 (List.length t23)) (guardB (inb t33 (List.length (List.getD t23 (Int.toNat t27) ([] : (List Int))))) (guardB (inb (w64 (t27 - (1 : Int))) (List.length t23)) (guardB (inb t33 (List.length (List.getD t23 (Int.toNat (w64 (t27 - (1 : Int)))) ([] : (List Int))))) (bif ((List.getD (List.getD t23 (Int.toNat t27) ([] : (List Int))) (Int.toNat t33) (0 : Int)) != (List.getD (List.getD t23 (Int.toNat (w64 (t27 - (1 : Int)))) ([] : (List Int))) (Int.toNat t33) (0 : Int))) then (some (.inl ((t0, t18, t19, t22, t23, t27, (w64 (t32 + (1 : Int))), (w64 (t33 + (1 : Int))), ()), ()))) else (some (.inl ((t0, t18, t19, t22, t23, t27, t32, (w64 (t33 + (1 : Int))), ()), ())))))))) else (some (.inr ((t0, t18, t19, t22, t23, t27, t32, ()), ()))))) else (some (.inr ((t0, t18, t19, t22, t23, t27, t32, ()), ())))
abbrev fn78_O1 : Out := .or .ret fn78_J6 (.one (.ex 0) fn78_J2)
noncomputable def fn78_B1 : fn78_J5.P → Option (fn78_J5.P ⊕ fn78_O1.P)
  | ((t0, t18, t19, t22, t23, t27, ()), ()) => bif (decide (t27 < (List.length t23 : Int))) then (guardB (inb t27 (List.length t23)) (match fn93 (t18, t19, (List.getD t23 (Int.toNat t27) ([] : (List Int))), t22, ()) () with | some ((r, r2, ()), ()) => guardB (inb t27 (List.length t23)) (match fn96 (t18, t19, (List.getD t23 (Int.toNat t27) ([] : (List Int))), t22, ()) () with | some ((r3, r4, ()), ()) => (bif (!r2) then (some (.inr (.inl ((false, ()), ())))) else (bif (!r4) then (some (.inr (.inl ((false, ()), ())))) else (bif (!(r == r3)) then (some (.inr (.inl ((false, ()), ())))) else (bif (!r) then (some (.inr (.inl ((false, ()), ())))) else (match loopO fn78_B0 ((t0, t18, t19, t22, t23, t27, (0 : Int), (0 : Int), ()), ()) with | some ((t0_2, t18_2, t19_2, t22_2, t23_2, t27_2, t32, ()), ()) => (bif (decide ((0 : Int) < t27_2)) then (bif (t32 != (1 : Int)) then (some (.inr (.inl ((false, ()), ())))) else (some (.inl ((t0_2, t18_2, t19_2, t22_2, t23_2, (w64 (t27_2 + (1 : Int))), ()), ())))) else (some (.inl ((t0_2, t18_2, t19_2, t22_2, t23_2, (w64 (t27_2 + (1 : Int))), ()), ())))) | none => none))))) | none => none) | none => none)) else (some (.inr (.inr ((t0, ()), ()))))
noncomputable def fn78 : argP fn78_a → obP (extObs 0 fn78_o) → Option fn78_E.P
  | (t0, ()), () => match fn99 (t0, ()) () with | some ((r, ()), ()) => (bif r then (some ((true, ()), ())) else (match fn33 (t0, ()) () with | some ((r2, r3, r4, ()), ()) => (match fn54 (r2, r3, r4, ()) () with | some ((r5, r6, ()), ()) => (match fn58 (r2, r3, r4, ()) () with | some ((r7, r8, ()), ()) => (bif (!(r6 == r8)) then (some ((false, ()), ())) else (match fn80 ((r5.1, r5.2), (r7.1, r7.2), ()) () with | some ((r9, ()), ()) => (bif (!r9) then (some ((false, ()), ())) else (match fn47 (r2, r3, r4, ()) () with | some ((r10, r11, ()), ()) => (match (match fn50 (r2, r3, r4, ()) () with | some ((r12, r13, ()), ()) => (bif (r10 != r12) then (some (.inr ((false, ()), ()))) else (bif (!(r11 == r13)) then (some (.inr ((false, ()), ()))) else (bif r11 then (bif (!(r6 == (decide (r10 ≤ (300 : Int))))) then (some (.inr ((false, ()), ()))) else (some (.inl ((t0, r2, r3, r4, (r5.1, r5.2), r6, r10, r11, ()), ())))) else (bif (!(r6 == false)) then (some (.inr ((false, ()), ()))) else (some (.inl ((t0, r2, r3, r4, (r5.1, r5.2), r6, r10, r11, ()), ()))))))) | none => none : Option (fn78_J0.P ⊕ fn78_E.P)) with | some (.inl ((t0_2, t3, t4, t5, t6, t7, t10, t11, ()), ())) => (match fn53 (t3, t4, t5, ()) () with | some ((r14, r15, ()), ()) => (match (match fn57 (t3, t4, t5, ()) () with | some ((r16, r17, ()), ()) => (bif (!(r15 == r17)) then (some (.inr ((false, ()), ()))) else (bif t11 then (bif (!(r15 == (decide ((0 : Int) < t10)))) then (some (.inr ((false, ()), ()))) else (match fn95 (r14, r16, ()) () with | some ((r18, ()), ()) => (bif (!r18) then (some (.inr ((false, ()), ()))) else (some (.inl ((t0_2, t6, t7, t10, r14, r15, ()), ())))) | none => none)) else (bif (!(r15 == false)) then (some (.inr ((false, ()), ()))) else (match fn95 (r14, r16, ()) () with | some ((r19, ()), ()) => (bif (!r19) then (some (.inr ((false, ()), ()))) else (some (.inl ((t0_2, t6, t7, t10, r14, r15, ()), ())))) | none => none)))) | none => none : Option (fn78_J1.P ⊕ fn78_E.P)) with | some (.inl ((t0_3, t6_2, t7_2, t10_2, t14, t15, ()), ())) => (match (bif t7_2 then (bif ((List.length t6_2.1 : Int) != t10_2) then (some (.inr ((false, ()), ()))) else (bif t15 then (guardB (inb (0 : Int) (List.length t6_2.1)) (match fn95 ((List.getD t6_2.1 0 ([] : (List Int))), t14, ()) () with | some ((r20, ()), ()) => (bif (!r20) then (some (.inr ((false, ()), ()))) else (some (.inl ((t0_3, ()), ())))) | none => none)) else (some (.inl ((t0_3, ()), ()))))) else (some (.inl ((t0_3, ()), ()))) : Option (fn78_J2.P ⊕ fn78_E.P)) with | some (.inl ((t0_4, ()), ())) => (match fn35 (t0_4, ()) () with | some ((r21, r22, r23, r24, r25, ()), ()) => (match fn75 (r21, r22, r23, r24, r25, ()) () with | some ((r26, r27, ()), ()) => (match fn82 (r21, r22, r23, r24, r25, ()) () with | some ((r28, r29, ()), ()) => (bif (!(r27 == r29)) then (some ((false, ()), ())) else (match fn81 (r26, r28, ()) () with | some ((r30, ()), ()) => (bif (!r30) then (some ((false, ()), ())) else (match loopO fn78_B1 ((t0_4, r21, r22, r25, r26, (0 : Int), ()), ()) with | some (.inl ((t2, ()), ())) => some ((t2, ()), ()) | some (.inr ((t0_5, ()), ())) => (match fn32 (t0_5, ()) () with | some ((r31, r32, r33, r34, r35, r36, ()), ()) => (match fn52 (r31, r32, r33, r34, r35, r36, ()) () with | some ((r37, r38, ()), ()) => (match fn56 (r31, r32, r33, r34, r35, r36, ()) () with | some ((r39, r40, ()), ()) => (bif (!(r38 == r40)) then (some ((false, ()), ())) else (match fn95 (r37, r39, ()) () with | some ((r41, ()), ()) => (bif (!r41) then (some ((false, ()), ())) else (match (bif r38 then (match fn93 (r31, r33, r37, r36, ()) () with | some ((r42, r43, ()), ()) => (bif (!r43) then (some (.inr ((false, ()), ()))) else (bif (!r42) then (some (.inr ((false, ()), ()))) else (some (.inl ((t0_5, ()), ()))))) | none => none) else (some (.inl ((t0_5, ()), ()))) : Option (fn78_J2.P ⊕ fn78_E.P)) with | some (.inl ((t0_6, ()), ())) => (match fn39 (t0_6, ()) () with | some ((r44, r45, r46, r47, ()), ()) => (match fn93 (r44, r45, r46, r47, ()) () with | some ((r48, r49, ()), ()) => (match fn96 (r44, r45, r46, r47, ()) () with | some ((r50, r51, ()), ()) => (bif (r48 == r50) then (some (((r49 == r51), ()), ())) else (some ((false, ()), ()))) | none => none) | none => none) | none => none) | some (.inr r) => some r | none => none)) | none => none)) | none => none) | none => none) | none => none) | none => none)) | none => none)) | none => none) | none => none) | none => none) | some (.inr r) => some r | none => none) | some (.inr r) => some r | none => none) | none => none) | some (.inr r) => some r | none => none) | none => none)) | none => none)) | none => none) | none => none) | none => none)) | none => none
noncomputable def fn78_x : Cx := ⟨tab, fn39_e, fun f n => bif Nat.beq f 56 && Nat.beq n 0 then 2 else bif Nat.beq f 68 && Nat.beq n 0 then 2 else bif Nat.beq f 72 && Nat.beq n 0 then 2 else bif Nat.beq f 75 && Nat.beq n 0 then 2 else 0, fun _ => false, [(55, 0), (55, 1), (55, 2), (55, 3), (82, 0), (82, 1), (82, 2), (82, 3), (89, 0), (89, 1), (89, 2), (89, 3), (96, 0), (96, 1), (96, 2), (96, 3), (120, 0), (120, 1), (120, 2), (120, 3), (14, 0), (127, 0), (127, 1), (127, 2), (127, 3), (16, 0), (145, 0), (145, 1), (145, 2), (145, 3), (163, 0), (163, 1), (163, 2), (163, 3), (20, 0), (21, 0), (182, 0), (182, 1), (182, 2), (182, 3), (23, 0), (191, 0), (191, 1), (191, 2), (191, 3), (25, 0), (200, 0), (200, 1), (200, 2), (200, 3), (217, 0), (217, 1), (217, 2), (217, 3), (228, 0), (228, 1), (228, 2), (228, 3), (37, 0), (38, 0), (299, 0), (299, 1), (299, 2), (299, 3), (40, 0), (309, 0), (309, 1), (309, 2), (309, 3), (42, 0), (318, 0), (318, 1), (318, 2), (318, 3), (327, 0), (327, 1), (327, 2), (327, 3), (48, 0), (348, 0), (348, 1), (348, 2), (348, 3), (356, 0), (356, 1), (356, 2), (356, 3)], [(3, 0), (4, 0), (6, 0), (8, 0), (18, 0), (19, 0), (34, 0), (35, 0), (36, 0), (46, 0), (47, 0)]⟩
noncomputable def c7 : Code := bodyOf Tryz.f7
noncomputable def fn78_A : Ann := .seq .nil (.seq .nil (.seq .nil (.seq .nil (.seq .nil (.seq .nil (.cut fn78_J0 .nil (.seq .nil (.cut fn78_J1 .nil (.cut fn78_J2 .nil (.seq .nil (.seq .nil (.seq .nil (.seq (.seq .nil (.loop fn78_J5 fn78_O1 fn78_B1 (.seq .nil (.seq (.seq (.draw [(0, .flo), (1, .flo), (2, .flo), (3, .flo), (4, .flo), (5, .flo), (6, .flo), (7, .sole), (8, .flo), (9, .flo), (10, .flo), (11, .flo), (12, .flo)]) (.seq (.seq (.draw [(0, .flo), (1, .flo), (2, .flo), (3, .flo), (4, .flo), (5, .flo), (6, .flo), (7, .sole), (8, .flo), (9, .flo), (10, .flo), (11, .flo), (12, .flo)]) .nil) (.seq .nil (.seq (.seq .nil (.loop fn78_J3 fn78_O0 fn78_B0 (.seq .nil (.seq (.seq (.draw [(0, .flo), (1, .flo), (2, .flo), (3, .flo), (4, .flo), (5, .flo), (6, .flo), (7, .flo), (8, .flo), (9, .flo), (10, .flo), (11, .flo), (12, .flo), (13, .flo), (14, .flo), (15, .flo)]) .nil) .nil)))) .nil)))) .nil)))) (.seq .nil (.seq .nil (.seq .nil (.cut fn78_J2 .nil .nil)))))))))))))))))
theorem fn78_r0 (p : fn78_J5.P) : run fn78_x (subc [1, 1, 1, 1, 1, 1, 1, 1, 1, 1, 1, 1, 1, 0, 1, 0, 0] c7) (.seq .nil (.seq (.seq (.draw [(0, .flo), (1, .flo), (2, .flo), (3, .flo), (4, .flo), (5, .flo), (6, .flo), (7, .sole), (8, .flo), (9, .flo), (10, .flo), (11, .flo), (12, .flo)]) (.seq (.seq (.draw [(0, .flo), (1, .flo), (2, .flo), (3, .flo), (4, .flo), (5, .flo), (6, .flo), (7, .sole), (8, .flo), (9, .flo), (10, .flo), (11, .flo), (12, .flo)]) .nil) (.seq .nil (.seq (.seq .nil (.loop fn78_J3 fn78_O0 fn78_B0 (.seq .nil (.seq (.seq (.draw [(0, .flo), (1, .flo), (2, .flo), (3, .flo), (4, .flo), (5, .flo), (6, .flo), (7, .flo), (8, .flo), (9, .flo), (10, .flo), (11, .flo), (12, .flo), (13, .flo), (14, .flo), (15, .flo)]) .nil) .nil)))) .nil)))) .nil)) (fn78_J5.S p) (leaf fn78_J5 fn78_O1) = fn78_B1 p := by kernel_rfl
theorem fn78_r1 (p : fn78_J3.P) : run fn78_x (subc [1, 1, 1, 1, 1, 1, 1, 1, 1, 1, 1, 1, 1, 0, 1, 0, 0, 1, 0, 0, 1, 1, 1, 0, 1, 0, 0] c7) (.seq .nil (.seq (.seq (.draw [(0, .flo), (1, .flo), (2, .flo), (3, .flo), (4, .flo), (5, .flo), (6, .flo), (7, .flo), (8, .flo), (9, .flo), (10, .flo), (11, .flo), (12, .flo), (13, .flo), (14, .flo), (15, .flo)]) .nil) .nil)) (fn78_J3.S p) (leaf fn78_J3 fn78_O0) = fn78_B0 p := by kernel_rfl
noncomputable def fn78_D : Ve.Fn := ⟨7, fn78_a, fn78_o, fn78_E, fn78⟩
theorem fn78_w : Walk Tryz.prog fn78_x fn78_D Tryz.f7 c7 367 fn78_A :=
  .of Tryz.func7 (kcast (by kernel_rfl) (⟨fn78_r0, fn78_r1, trivial⟩ : (∀ p, run fn78_x (subc [1, 1, 1, 1, 1, 1, 1, 1, 1, 1, 1, 1, 1, 0, 1, 0, 0] c7) (.seq .nil (.seq (.seq (.draw [(0, .flo), (1, .flo), (2, .flo), (3, .flo), (4, .flo), (5, .flo), (6, .flo), (7, .sole), (8, .flo), (9, .flo), (10, .flo), (11, .flo), (12, .flo)]) (.seq (.seq (.draw [(0, .flo), (1, .flo), (2, .flo), (3, .flo), (4, .flo), (5, .flo), (6, .flo), (7, .sole), (8, .flo), (9, .flo), (10, .flo), (11, .flo), (12, .flo)]) .nil) (.seq .nil (.seq (.seq .nil (.loop fn78_J3 fn78_O0 fn78_B0 (.seq .nil (.seq (.seq (.draw [(0, .flo), (1, .flo), (2, .flo), (3, .flo), (4, .flo), (5, .flo), (6, .flo), (7, .flo), (8, .flo), (9, .flo), (10, .flo), (11, .flo), (12, .flo), (13, .flo), (14, .flo), (15, .flo)]) .nil) .nil)))) .nil)))) .nil)) (fn78_J5.S p) (leaf fn78_J5 fn78_O1) = fn78_B1 p) ∧ (∀ p, run fn78_x (subc [1, 1, 1, 1, 1, 1, 1, 1, 1, 1, 1, 1, 1, 0, 1, 0, 0, 1, 0, 0, 1, 1, 1, 0, 1, 0, 0] c7) (.seq .nil (.seq (.seq (.draw [(0, .flo), (1, .flo), (2, .flo), (3, .flo), (4, .flo), (5, .flo), (6, .flo), (7, .flo), (8, .flo), (9, .flo), (10, .flo), (11, .flo), (12, .flo), (13, .flo), (14, .flo), (15, .flo)]) .nil) .nil)) (fn78_J3.S p) (leaf fn78_J3 fn78_O0) = fn78_B0 p) ∧ True)) fun x y => by kernel_rfl
theorem fn78_s : fn78_D.Says Tryz.prog := fn78_w.says follows tabOk fn39_e_ok
noncomputable def fn78_e : Env := more fn39_e fn78_D
theorem fn78_e_ok : EnvOk Tryz.prog fn78_e := more_ok fn39_e_ok fn78_s
end Go.Proofs.YtcabghamgilafaaGreat.V
