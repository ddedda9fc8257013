/-
  What the functions that the law reaches compute: typed pure functions, checked against the code.
-/
import Derived.Test.YtcabghamgilafaaGreatProg
import Derived.Test.YtcabghamgilafaaGreatE4
import Derived.Test.YtcabghamgilafaaGreatS
namespace Go.Proofs.YtcabghamgilafaaGreat.V
open Go.Ve Go.Proofs
set_option linter.unusedVariables false
set_option linter.unusedSimpArgs false
set_option maxRecDepth 100000
def tab : Tab := [(3, .data ⟨I, 0, 8, false⟩), (4, .data ⟨.bool, 0, 1, false⟩), (5, .data ⟨(.int .u8), 0, 1, false⟩), (22, .data ⟨(.list (.prod I I)), 0, 16, false⟩), (25, .data ⟨(.list I), 0, 8, false⟩), (27, .data ⟨(.list (.list I)), 0, 24, false⟩), (30, .data ⟨(.prod I (.list (.prod I I))), 2, 32, false⟩), (35, .fn), (40, .data ⟨(.list (.int .u8)), 0, 1, false⟩), (49, .data ⟨(.prod (.list (.list I)) (.list (.prod I I))), 2, 48, false⟩), (72, .data ⟨(.prod I I), 2, 16, true⟩), (126, .data ⟨(.int .u64), 0, 8, false⟩), (128, .data ⟨(.prod (.list (.int .u8)) (.prod I (.int .u64))), 3, 40, false⟩), (131, .fn), (135, .fn), (170, .fn), (213, .data ⟨(.int .u64), 0, 8, false⟩), (218, .data ⟨(.list .bool), 0, 1, false⟩)]
theorem follows : Tryz.prog.follows .mixedOrders = true := by kernel_rfl
theorem ti3 : TiOk Tryz.prog tab 3 ⟨I, 0, 8, false⟩ := ti_int (by kernel_rfl) Tryz.underlying3
theorem ti4 : TiOk Tryz.prog tab 4 ⟨.bool, 0, 1, false⟩ := ti_bool (by kernel_rfl) Tryz.underlying4
theorem ti5 : TiOk Tryz.prog tab 5 ⟨(.int .u8), 0, 1, false⟩ := ti_int (by kernel_rfl) Tryz.underlying5
theorem ti22 : TiOk Tryz.prog tab 22 ⟨(.list (.prod I I)), 0, 16, false⟩ := ti_list (ie := ⟨(.prod I I), 2, 16, true⟩) (by kernel_rfl) Tryz.underlying22 (by kernel_rfl) rfl (by kernel_rfl) (by kernel_rfl)
theorem ti25 : TiOk Tryz.prog tab 25 ⟨(.list I), 0, 8, false⟩ := ti_list (ie := ⟨I, 0, 8, false⟩) (by kernel_rfl) Tryz.underlying25 (by kernel_rfl) rfl (by kernel_rfl) (by kernel_rfl)
theorem ti27 : TiOk Tryz.prog tab 27 ⟨(.list (.list I)), 0, 24, false⟩ := ti_list (ie := ⟨(.list I), 0, 8, false⟩) (by kernel_rfl) Tryz.underlying27 (by kernel_rfl) rfl (by kernel_rfl) (by kernel_rfl)
theorem ti30 : TiOk Tryz.prog tab 30 ⟨(.prod I (.list (.prod I I))), 2, 32, false⟩ := ti_struct (by kernel_rfl) Tryz.underlying30 (by kernel_rfl) (by kernel_rfl) (by kernel_rfl) (by kernel_rfl)
theorem ti35 : FnOk Tryz.prog 35 := ti_fn (by kernel_rfl) (Tryz.underlying35)
theorem ti40 : TiOk Tryz.prog tab 40 ⟨(.list (.int .u8)), 0, 1, false⟩ := ti_list (ie := ⟨(.int .u8), 0, 1, false⟩) (by kernel_rfl) Tryz.underlying40 (by kernel_rfl) rfl (by kernel_rfl) (by kernel_rfl)
theorem ti49 : TiOk Tryz.prog tab 49 ⟨(.prod (.list (.list I)) (.list (.prod I I))), 2, 48, false⟩ := ti_struct (by kernel_rfl) Tryz.underlying49 (by kernel_rfl) (by kernel_rfl) (by kernel_rfl) (by kernel_rfl)
theorem ti72 : TiOk Tryz.prog tab 72 ⟨(.prod I I), 2, 16, true⟩ := ti_arr (ie := ⟨I, 0, 8, false⟩) (by kernel_rfl) Tryz.underlying72 (by kernel_rfl) rfl (by kernel_rfl) (by kernel_rfl)
theorem ti126 : TiOk Tryz.prog tab 126 ⟨(.int .u64), 0, 8, false⟩ := ti_int (by kernel_rfl) Tryz.underlying126
theorem ti128 : TiOk Tryz.prog tab 128 ⟨(.prod (.list (.int .u8)) (.prod I (.int .u64))), 3, 40, false⟩ := ti_struct (by kernel_rfl) Tryz.underlying128 (by kernel_rfl) (by kernel_rfl) (by kernel_rfl) (by kernel_rfl)
theorem ti131 : FnOk Tryz.prog 131 := ti_fn (by kernel_rfl) (Tryz.underlying131)
theorem ti135 : FnOk Tryz.prog 135 := ti_fn (by kernel_rfl) (Tryz.underlying135)
theorem ti170 : FnOk Tryz.prog 170 := ti_fn (by kernel_rfl) (Tryz.underlying170)
theorem ti213 : TiOk Tryz.prog tab 213 ⟨(.int .u64), 0, 8, false⟩ := ti_int (by kernel_rfl) Tryz.underlying213
theorem ti218 : TiOk Tryz.prog tab 218 ⟨(.list .bool), 0, 1, false⟩ := ti_list (ie := ⟨.bool, 0, 1, false⟩) (by kernel_rfl) Tryz.underlying218 (by kernel_rfl) rfl (by kernel_rfl) (by kernel_rfl)
theorem tabOk : TabOk' Tryz.prog tab := tabOk_of ⟨ti3, ti4, ti5, ti22, ti25, ti27, ti30, ti35, ti40, ti49, ti72, ti126, ti128, ti131, ti135, ti170, ti213, ti218, trivial⟩
/-! loop.example/g01128/laws.rBig -/
abbrev laws_rBig_E : Ve.End := ⟨[⟨2, .shr, .bool, none⟩], []⟩
abbrev laws_rBig_a : List ASh := [.val (.list (.int .u8))]
abbrev laws_rBig_o : List OSh := []
noncomputable def laws_rBig : argP laws_rBig_a → obP (extObs 0 laws_rBig_o) → Option laws_rBig_E.P
  | (code, ()), () => some (((decide ((65536 : Int) < (List.length code : Int))), ()), ())
noncomputable def laws_rBig_x : Cx := ⟨tab, noEnv, fun _ _ => 0, fun _ => false, [], []⟩
noncomputable def c23 : Code := bodyOf Tryz.f23
noncomputable def laws_rBig_A : Ann := .nil
noncomputable def laws_rBig_D : Ve.Fn := ⟨23, laws_rBig_a, laws_rBig_o, laws_rBig_E, laws_rBig⟩
theorem laws_rBig_w : Walk Tryz.prog laws_rBig_x laws_rBig_D Tryz.f23 c23 6 laws_rBig_A :=
  ⟨⟨Tryz.func23, by kernel_rfl, by kernel_rfl, by kernel_rfl, by decide, by kernel_rfl, Nat.le_of_ble_eq_true (by kernel_rfl)⟩, by kernel_rfl, by kernel_rfl, by kernel_rfl, kcast (by kernel_rfl) trivial, by kernel_rfl, fun x y => by kernel_rfl⟩
theorem laws_rBig_s : laws_rBig_D.Says Tryz.prog := laws_rBig_w.says follows tabOk noEnv_ok
noncomputable def laws_rBig_e : Env := more noEnv laws_rBig_D
theorem laws_rBig_e_ok : EnvOk Tryz.prog laws_rBig_e := more_ok noEnv_ok laws_rBig_s
/-! (*loop.example/g01128/spec.l1Cur).next -/
abbrev fn17_J0 : Tpl := ⟨[(0, .ptr (1000000, 0)), (3, .val I)], [((1000000, 0), .box .shr (.prod (.list (.int .u8)) (.prod I (.int .u64))))], []⟩
abbrev fn17_E : Ve.End := ⟨[⟨2, .shr, I, none⟩], [.box .shr (.prod (.list (.int .u8)) (.prod I (.int .u64)))]⟩
abbrev fn17_a : List ASh := [.adr 0]
abbrev fn17_o : List OSh := [.box .shr (.prod (.list (.int .u8)) (.prod I (.int .u64)))]
noncomputable def fn17 : argP fn17_a → obP (extObs 0 fn17_o) → Option fn17_E.P
  | (), (o0, ()) => match (bif (decide (o0.2.1 < (List.length o0.1 : Int))) then (guardB (inb o0.2.1 (List.length o0.1)) (some (.inl (((w64 (List.getD o0.1 (Int.toNat o0.2.1) (0 : Int))), ()), (o0, ()))))) else (some (.inl (((0 : Int), ()), (o0, ())))) : Option (fn17_J0.P ⊕ fn17_E.P)) with | some (.inl ((b, ()), (o0_2, ()))) => (bif (decide ((w64 (o0_2.2.1 + (1 : Int))) ≤ (List.length o0_2.1 : Int))) then (some ((b, ()), ((o0_2.1, ((w64 (o0_2.2.1 + (1 : Int))), (IntKind.wrap .u64 ((IntKind.wrap .u64 ((IntKind.wrap .u64 (o0_2.2.2 * (6364136223846793005 : Int))) + (IntKind.wrap .u64 b))) + (462197 : Int))))), ()))) else (some (((w64 (IntKind.wrap .u64 (BitVec.ofInt 64 (Int.fdiv (IntKind.wrap .u64 ((IntKind.wrap .u64 ((IntKind.wrap .u64 (o0_2.2.2 * (6364136223846793005 : Int))) + (IntKind.wrap .u64 b))) + (462197 : Int))) (2 ^ (min 40 64))) &&& BitVec.ofInt 64 (255 : Int)).toNat)), ()), ((o0_2.1, ((w64 (o0_2.2.1 + (1 : Int))), (IntKind.wrap .u64 ((IntKind.wrap .u64 ((IntKind.wrap .u64 (o0_2.2.2 * (6364136223846793005 : Int))) + (IntKind.wrap .u64 b))) + (462197 : Int))))), ())))) | some (.inr r) => some r | none => none
noncomputable def fn17_x : Cx := ⟨tab, laws_rBig_e, fun _ _ => 0, fun _ => false, [], []⟩
noncomputable def c269 : Code := bodyOf Tryz.f269
noncomputable def fn17_A : Ann := .seq .nil (.seq .nil (.cut fn17_J0 (.seq (.draw [(0, .flo), (1, .flo), (2, .flo), (4, .flo), (5, .flo), (6, .flo), (3, .qui), (7, .qui), (8, .flo), (9, .flo)]) (.seq (.draw [(0, .flo), (1, .flo), (2, .flo), (4, .flo), (5, .flo), (6, .flo), (3, .qui), (7, .qui), (8, .flo), (9, .flo), (10, .flo), (11, .flo)]) .nil)) (.seq .nil (.seq .nil (.seq (.seq (.draw [(0, .flo), (1, .flo), (2, .flo), (4, .flo), (5, .flo), (6, .flo), (3, .qui), (7, .qui), (8, .flo), (9, .flo)]) .nil) .nil)))))
noncomputable def fn17_D : Ve.Fn := ⟨269, fn17_a, fn17_o, fn17_E, fn17⟩
theorem fn17_w : Walk Tryz.prog fn17_x fn17_D Tryz.f269 c269 62 fn17_A :=
  ⟨⟨Tryz.func269, by kernel_rfl, by kernel_rfl, by kernel_rfl, by decide, by kernel_rfl, Nat.le_of_ble_eq_true (by kernel_rfl)⟩, by kernel_rfl, by kernel_rfl, by kernel_rfl, kcast (by kernel_rfl) trivial, by kernel_rfl, fun x y => by kernel_rfl⟩
theorem fn17_s : fn17_D.Says Tryz.prog := fn17_w.says follows tabOk laws_rBig_e_ok
noncomputable def fn17_e : Env := more laws_rBig_e fn17_D
theorem fn17_e_ok : EnvOk Tryz.prog fn17_e := more_ok laws_rBig_e_ok fn17_s
/-! (*loop.example/g01128/spec.l1Cur).pick -/
abbrev fn15_E : Ve.End := ⟨[⟨4, .shr, I, none⟩], [.box .shr (.prod (.list (.int .u8)) (.prod I (.int .u64)))]⟩
abbrev fn15_a : List ASh := [.adr 0, .val I]
abbrev fn15_o : List OSh := [.box .shr (.prod (.list (.int .u8)) (.prod I (.int .u64)))]
noncomputable def fn15 : argP fn15_a → obP (extObs 0 fn15_o) → Option fn15_E.P
  | (n, ()), (o0, ()) => bif (decide (n ≤ (1 : Int))) then (some (((0 : Int), ()), (o0, ()))) else (match fn17 () (o0, ()) with | some ((r, ()), (o, ())) => (bif (decide ((200 : Int) < n)) then (match fn17 () (o, ()) with | some ((r2, ()), (o2, ())) => guardB (!(n == 0)) (some (((Int.tmod (w64 ((w64 (r * (256 : Int))) + r2)) n), ()), (o2, ()))) | none => none) else (guardB (!(n == 0)) (some (((Int.tmod r n), ()), (o, ()))))) | none => none)
noncomputable def fn15_x : Cx := ⟨tab, fn17_e, fun f n => bif Nat.beq f 269 && Nat.beq n 0 then 1 else 0, fun _ => false, [(9, 0), (9, 1), (9, 2), (9, 3), (15, 0), (15, 1), (15, 2), (15, 3)], []⟩
noncomputable def c163 : Code := bodyOf Tryz.f163
noncomputable def fn15_A : Ann := .nil
noncomputable def fn15_D : Ve.Fn := ⟨163, fn15_a, fn15_o, fn15_E, fn15⟩
theorem fn15_w : Walk Tryz.prog fn15_x fn15_D Tryz.f163 c163 20 fn15_A :=
  ⟨⟨Tryz.func163, by kernel_rfl, by kernel_rfl, by kernel_rfl, by decide, by kernel_rfl, Nat.le_of_ble_eq_true (by kernel_rfl)⟩, by kernel_rfl, by kernel_rfl, by kernel_rfl, kcast (by kernel_rfl) trivial, by kernel_rfl, fun x y => by kernel_rfl⟩
theorem fn15_s : fn15_D.Says Tryz.prog := fn15_w.says follows tabOk fn17_e_ok
noncomputable def fn15_e : Env := more fn17_e fn15_D
theorem fn15_e_ok : EnvOk Tryz.prog fn15_e := more_ok fn17_e_ok fn15_s
/-! (*loop.example/g01128/spec.l1Cur).among -/
abbrev fn12_E : Ve.End := ⟨[⟨4, .shr, I, none⟩], [.box .shr (.prod (.list (.int .u8)) (.prod I (.int .u64)))]⟩
abbrev fn12_a : List ASh := [.adr 0, .val (.list I)]
abbrev fn12_o : List OSh := [.box .shr (.prod (.list (.int .u8)) (.prod I (.int .u64)))]
noncomputable def fn12 : argP fn12_a → obP (extObs 0 fn12_o) → Option fn12_E.P
  | (list, ()), (o0, ()) => match fn15 ((List.length list : Int), ()) (o0, ()) with | some ((r, ()), (o, ())) => guardB (inb r (List.length list)) (some (((List.getD list (Int.toNat r) (0 : Int)), ()), (o, ()))) | none => none
noncomputable def fn12_x : Cx := ⟨tab, fn15_e, fun f n => bif Nat.beq f 163 && Nat.beq n 0 then 1 else 0, fun _ => false, [(9, 0), (9, 1), (9, 2), (9, 3)], []⟩
noncomputable def c137 : Code := bodyOf Tryz.f137
noncomputable def fn12_A : Ann := .nil
noncomputable def fn12_D : Ve.Fn := ⟨137, fn12_a, fn12_o, fn12_E, fn12⟩
theorem fn12_w : Walk Tryz.prog fn12_x fn12_D Tryz.f137 c137 12 fn12_A :=
  ⟨⟨Tryz.func137, by kernel_rfl, by kernel_rfl, by kernel_rfl, by decide, by kernel_rfl, Nat.le_of_ble_eq_true (by kernel_rfl)⟩, by kernel_rfl, by kernel_rfl, by kernel_rfl, kcast (by kernel_rfl) trivial, by kernel_rfl, fun x y => by kernel_rfl⟩
theorem fn12_s : fn12_D.Says Tryz.prog := fn12_w.says follows tabOk fn15_e_ok
noncomputable def fn12_e : Env := more fn15_e fn12_D
theorem fn12_e_ok : EnvOk Tryz.prog fn12_e := more_ok fn15_e_ok fn12_s
/-! (*loop.example/g01128/spec.l1Cur).one -/
abbrev fn18_E : Ve.End := ⟨[⟨4, .shr, .bool, none⟩], [.box .shr (.prod (.list (.int .u8)) (.prod I (.int .u64)))]⟩
abbrev fn18_a : List ASh := [.adr 0, .val I]
abbrev fn18_o : List OSh := [.box .shr (.prod (.list (.int .u8)) (.prod I (.int .u64)))]
noncomputable def fn18 : argP fn18_a → obP (extObs 0 fn18_o) → Option fn18_E.P
  | (n, ()), (o0, ()) => match fn15 (n, ()) (o0, ()) with | some ((r, ()), (o, ())) => some (((r == (0 : Int)), ()), (o, ())) | none => none
noncomputable def fn18_x : Cx := ⟨tab, fn12_e, fun f n => bif Nat.beq f 163 && Nat.beq n 0 then 1 else 0, fun _ => false, [(7, 0), (7, 1), (7, 2), (7, 3)], []⟩
noncomputable def c156 : Code := bodyOf Tryz.f156
noncomputable def fn18_A : Ann := .nil
noncomputable def fn18_D : Ve.Fn := ⟨156, fn18_a, fn18_o, fn18_E, fn18⟩
theorem fn18_w : Walk Tryz.prog fn18_x fn18_D Tryz.f156 c156 9 fn18_A :=
  ⟨⟨Tryz.func156, by kernel_rfl, by kernel_rfl, by kernel_rfl, by decide, by kernel_rfl, Nat.le_of_ble_eq_true (by kernel_rfl)⟩, by kernel_rfl, by kernel_rfl, by kernel_rfl, kcast (by kernel_rfl) trivial, by kernel_rfl, fun x y => by kernel_rfl⟩
theorem fn18_s : fn18_D.Says Tryz.prog := fn18_w.says follows tabOk fn12_e_ok
noncomputable def fn18_e : Env := more fn12_e fn18_D
theorem fn18_e_ok : EnvOk Tryz.prog fn18_e := more_ok fn12_e_ok fn18_s
/-! loop.example/g01128/spec.l1Least -/
abbrev fn63_E : Ve.End := ⟨[⟨4, .shr, I, none⟩], []⟩
abbrev fn63_a : List ASh := [.val I, .val I]
abbrev fn63_o : List OSh := []
noncomputable def fn63 : argP fn63_a → obP (extObs 0 fn63_o) → Option fn63_E.P
  | (a, b, ()), () => bif (decide (a < b)) then (some ((a, ()), ())) else (some ((b, ()), ()))
noncomputable def fn63_x : Cx := ⟨tab, fn18_e, fun _ _ => 0, fun _ => false, [], []⟩
noncomputable def c282 : Code := bodyOf Tryz.f282
noncomputable def fn63_A : Ann := .nil
noncomputable def fn63_D : Ve.Fn := ⟨282, fn63_a, fn63_o, fn63_E, fn63⟩
theorem fn63_w : Walk Tryz.prog fn63_x fn63_D Tryz.f282 c282 10 fn63_A :=
  ⟨⟨Tryz.func282, by kernel_rfl, by kernel_rfl, by kernel_rfl, by decide, by kernel_rfl, Nat.le_of_ble_eq_true (by kernel_rfl)⟩, by kernel_rfl, by kernel_rfl, by kernel_rfl, kcast (by kernel_rfl) trivial, by kernel_rfl, fun x y => by kernel_rfl⟩
theorem fn63_s : fn63_D.Says Tryz.prog := fn63_w.says follows tabOk fn18_e_ok
noncomputable def fn63_e : Env := more fn18_e fn63_D
theorem fn63_e_ok : EnvOk Tryz.prog fn63_e := more_ok fn18_e_ok fn63_s
/-! loop.example/g01128/spec.l2Edge -/
abbrev fn73_E : Ve.End := ⟨[⟨4, .shr, .bool, none⟩], []⟩
abbrev fn73_a : List ASh := [.val (.prod I I), .val (.prod I I)]
abbrev fn73_o : List OSh := []
noncomputable def fn73 : argP fn73_a → obP (extObs 0 fn73_o) → Option fn73_E.P
  | (a, b, ()), () => bif (decide (a.1 < b.1)) then (some ((true, ()), ())) else (bif (a.1 == b.1) then (some (((decide (a.2 < b.2)), ()), ())) else (some ((false, ()), ())))
noncomputable def fn73_x : Cx := ⟨tab, fn63_e, fun _ _ => 0, fun _ => false, [], [(2, 0), (3, 0)]⟩
noncomputable def c289 : Code := bodyOf Tryz.f289
noncomputable def fn73_A : Ann := .nil
noncomputable def fn73_D : Ve.Fn := ⟨289, fn73_a, fn73_o, fn73_E, fn73⟩
theorem fn73_w : Walk Tryz.prog fn73_x fn73_D Tryz.f289 c289 24 fn73_A :=
  ⟨⟨Tryz.func289, by kernel_rfl, by kernel_rfl, by kernel_rfl, by decide, by kernel_rfl, Nat.le_of_ble_eq_true (by kernel_rfl)⟩, by kernel_rfl, by kernel_rfl, by kernel_rfl, kcast (by kernel_rfl) trivial, by kernel_rfl, fun x y => by kernel_rfl⟩
theorem fn73_s : fn73_D.Says Tryz.prog := fn73_w.says follows tabOk fn63_e_ok
noncomputable def fn73_e : Env := more fn63_e fn73_D
theorem fn73_e_ok : EnvOk Tryz.prog fn73_e := more_ok fn63_e_ok fn73_s
/-! loop.example/g01128/spec.l2PutPair -/
abbrev fn25_J0 : Tpl := ⟨[(0, .own .shr (.prod I I)), (3, .cst (.prod I I)), (5, .val I)], [], []⟩
abbrev fn25_J1 : Tpl := ⟨[(4, .own .shr (.prod I I))], [], []⟩
abbrev fn25_J2 : Tpl := ⟨[(0, .own .shr (.prod I I)), (36, .str (.sub (0, 0) [])), (38, .val (.prod I I)), (43, .str (.sub (0, 0) []))], [], []⟩
abbrev fn25_J3 : Tpl := ⟨[(0, .own .shr (.prod I I)), (33, .own .shr (.prod I I)), (36, .str (.sub (0, 0) [])), (38, .val (.prod I I)), (43, .str (.sub (0, 0) []))], [], []⟩
abbrev fn25_E : Ve.End := ⟨[⟨4, (.own .shr), (.list (.prod I I)), none⟩], []⟩
abbrev fn25_a : List ASh := [.own (.own .shr) (.list (.prod I I)), .val (.prod I I)]
abbrev fn25_o : List OSh := []
noncomputable def fn25_D1 : fn25_J3.P → Option fn25_J1.P
  | ((list, t33, (lo, hi), t38, (lo2, hi2), ()), ()) => guardB (decide ((List.length t33 + List.length (List.drop lo (List.take hi list))) * 16 ≤ 70368744177664)) (guardB (decide ((List.length (t33 ++ (List.drop lo (List.take hi list))) + List.length [t38]) * 16 ≤ 70368744177664)) (guardB (decide ((List.length ((t33 ++ (List.drop lo (List.take hi list))) ++ [t38]) + List.length (List.drop lo2 (List.take hi2 list))) * 16 ≤ 70368744177664)) (some (((((t33 ++ (List.drop lo (List.take hi list))) ++ [t38]) ++ (List.drop lo2 (List.take hi2 list))), ()), ()))))
noncomputable def fn25_T1 : DT fn25_J1 := .node fn25_J3 fn25_D1 (.br [(4, .sole), (6, .sole), (7, .sole), (11, .sole), (12, .flo)] .fin (.br [(6, .sole), (4, .sole), (7, .sole), (11, .sole), (12, .flo)] .fin .nobr))
noncomputable def fn25_D0 : fn25_J2.P → Option fn25_J1.P
  | ((list, (lo, hi), t38, (lo2, hi2), ()), ()) => fn25_D1 ((list, ([] : (List (Int × Int))), (lo, hi), t38, (lo2, hi2), ()), ())
noncomputable def fn25_T0 : DT fn25_J1 := .node fn25_J2 fn25_D0 (.br [(0, .sole)] fn25_T1 (.br [(6, .sole), (0, .sole), (4, .sole), (7, .sole), (11, .sole), (12, .flo)] .fin .nobr))
abbrev fn25_O0 : Out := .one (.ex 0) fn25_J0
noncomputable def fn25_B0 : fn25_J0.P → Option (fn25_J0.P ⊕ fn25_O0.P)
  | ((list, e, k, ()), ()) => bif (decide ((0 : Int) < k)) then (guardB (inb (w64 (k - (1 : Int))) (List.length list)) (match fn73 (e, (List.getD list (Int.toNat (w64 (k - (1 : Int)))) ((0 : Int), (0 : Int))), ()) () with | some ((r, ()), ()) => (bif r then (some (.inl ((list, e, (w64 (k - (1 : Int))), ()), ()))) else (some (.inr ((list, e, k, ()), ())))) | none => none)) else (some (.inr ((list, e, k, ()), ())))
noncomputable def fn25 : argP fn25_a → obP (extObs 0 fn25_o) → Option fn25_E.P
  | (list, e, ()), () => match loopO fn25_B0 ((list, e, (List.length list : Int), ()), ()) with | some ((list2, e2, k, ()), ()) => (match (bif (decide ((0 : Int) < k)) then (guardB (inb (w64 (k - (1 : Int))) (List.length list2)) (bif ((((List.getD list2 (Int.toNat (w64 (k - (1 : Int)))) ((0 : Int), (0 : Int))).1) == e2.1) && (((List.getD list2 (Int.toNat (w64 (k - (1 : Int)))) ((0 : Int), (0 : Int))).2) == e2.2)) then (some (.inr ((list2, ()), ()))) else (some (.inl ((list2, e2, k, ()), ()))))) else (some (.inl ((list2, e2, k, ()), ()))) : Option (fn25_J0.P ⊕ fn25_E.P)) with | some (.inl ((list3, e3, k2, ()), ())) => guardB (decide (0 ≤ (0 : Int)) && decide ((0 : Int) ≤ k2) && decide (k2 ≤ (List.length list3 : Int))) (guardB (decide (0 ≤ k2) && decide (k2 ≤ (List.length list3 : Int)) && decide ((List.length list3 : Int) ≤ (List.length list3 : Int))) (match fn25_D0 ((list3, (0, (Int.toNat k2)), e3, ((Int.toNat k2), (Int.toNat (List.length list3 : Int))), ()), ()) with | some ((t4, ()), ()) => some ((t4, ()), ()) | none => none)) | some (.inr r) => some r | none => none) | none => none
noncomputable def fn25_x : Cx := ⟨tab, fn73_e, fun _ _ => 0, fun _ => false, [(17, 0), (17, 1), (17, 2), (17, 3), (39, 0)], [(3, 0)]⟩
noncomputable def c283 : Code := bodyOf Tryz.f283
noncomputable def fn25_A : Ann := .seq .nil (.seq .nil (.seq (.loop fn25_J0 fn25_O0 fn25_B0 (.seq (.seq (.draw [(0, .flo), (1, .flo), (2, .flo), (3, .flo), (4, .flo), (5, .flo), (6, .flo), (7, .flo), (8, .qui), (9, .sole), (10, .flo)]) .nil) .nil)) (.cut fn25_J0 (.seq (.draw [(0, .flo), (1, .flo), (2, .flo), (3, .flo), (4, .flo), (5, .flo), (6, .flo), (8, .flo), (7, .qui), (9, .flo), (10, .flo)]) .nil) (.seq (.draws [(1, .flo), (2, .flo), (3, .flo), (5, .flo), (8, .flo), (9, .flo), (10, .flo)] fn25_J1 fn25_T0) .nil))))
theorem fn25_r0 (p : fn25_J0.P) : run fn25_x (subc [1, 1, 0, 0, 0] c283) (.seq (.seq (.draw [(0, .flo), (1, .flo), (2, .flo), (3, .flo), (4, .flo), (5, .flo), (6, .flo), (7, .flo), (8, .qui), (9, .sole), (10, .flo)]) .nil) .nil) (fn25_J0.S p) (leaf fn25_J0 fn25_O0) = fn25_B0 p := by kernel_rfl
theorem fn25_D0b0 (p : fn25_J2.P) : runDrawn fn25_x (opsOf (subc [1, 1, 1, 1, 0] c283)) [(0, .sole)] (fn25_J2.S p) (endT fn25_x fn25_T1) = fn25_D0 p := by kernel_rfl
theorem fn25_D1b0 (p : fn25_J3.P) : runDrawn fn25_x (opsOf (subc [1, 1, 1, 1, 0] c283)) [(4, .sole), (6, .sole), (7, .sole), (11, .sole), (12, .flo)] (fn25_J3.S p) (endT fn25_x (.fin : DT fn25_J1)) = fn25_D1 p := by kernel_rfl
theorem fn25_D1b1 (p : fn25_J3.P) : runDrawn fn25_x (opsOf (subc [1, 1, 1, 1, 0] c283)) [(6, .sole), (4, .sole), (7, .sole), (11, .sole), (12, .flo)] (fn25_J3.S p) (endT fn25_x (.fin : DT fn25_J1)) = fn25_D1 p := by kernel_rfl
theorem fn25_D0b1 (p : fn25_J2.P) : runDrawn fn25_x (opsOf (subc [1, 1, 1, 1, 0] c283)) [(6, .sole), (0, .sole), (4, .sole), (7, .sole), (11, .sole), (12, .flo)] (fn25_J2.S p) (endT fn25_x (.fin : DT fn25_J1)) = fn25_D0 p := by kernel_rfl
noncomputable def fn25_D : Ve.Fn := ⟨283, fn25_a, fn25_o, fn25_E, fn25⟩
theorem fn25_w : Walk Tryz.prog fn25_x fn25_D Tryz.f283 c283 45 fn25_A :=
  ⟨⟨Tryz.func283, by kernel_rfl, by kernel_rfl, by kernel_rfl, by decide, by kernel_rfl, Nat.le_of_ble_eq_true (by kernel_rfl)⟩, by kernel_rfl, by kernel_rfl, by kernel_rfl, kcast (by kernel_rfl) (⟨fn25_r0, fn25_D0b0, fn25_D1b0, fn25_D1b1, fn25_D0b1, trivial⟩ : (∀ p, run fn25_x (subc [1, 1, 0, 0, 0] c283) (.seq (.seq (.draw [(0, .flo), (1, .flo), (2, .flo), (3, .flo), (4, .flo), (5, .flo), (6, .flo), (7, .flo), (8, .qui), (9, .sole), (10, .flo)]) .nil) .nil) (fn25_J0.S p) (leaf fn25_J0 fn25_O0) = fn25_B0 p) ∧ (∀ p, runDrawn fn25_x (opsOf (subc [1, 1, 1, 1, 0] c283)) [(0, .sole)] (fn25_J2.S p) (endT fn25_x fn25_T1) = fn25_D0 p) ∧ (∀ p, runDrawn fn25_x (opsOf (subc [1, 1, 1, 1, 0] c283)) [(4, .sole), (6, .sole), (7, .sole), (11, .sole), (12, .flo)] (fn25_J3.S p) (endT fn25_x (.fin : DT fn25_J1)) = fn25_D1 p) ∧ (∀ p, runDrawn fn25_x (opsOf (subc [1, 1, 1, 1, 0] c283)) [(6, .sole), (4, .sole), (7, .sole), (11, .sole), (12, .flo)] (fn25_J3.S p) (endT fn25_x (.fin : DT fn25_J1)) = fn25_D1 p) ∧ (∀ p, runDrawn fn25_x (opsOf (subc [1, 1, 1, 1, 0] c283)) [(6, .sole), (0, .sole), (4, .sole), (7, .sole), (11, .sole), (12, .flo)] (fn25_J2.S p) (endT fn25_x (.fin : DT fn25_J1)) = fn25_D0 p) ∧ True), by kernel_rfl, fun x y => by kernel_rfl⟩
theorem fn25_s : fn25_D.Says Tryz.prog := fn25_w.says follows tabOk fn73_e_ok
noncomputable def fn25_e : Env := more fn73_e fn25_D
theorem fn25_e_ok : EnvOk Tryz.prog fn25_e := more_ok fn73_e_ok fn25_s
/-! (*loop.example/g01128/spec.l1Cur).someGraph -/
abbrev fn9_J0 : Tpl := ⟨[(0, .ptr (1000000, 0)), (1, .val I), (4, .ptr (4, 0)), (5, .val I)], [((1000000, 0), .box .shr (.prod (.list (.int .u8)) (.prod I (.int .u64)))), ((4, 0), .box (.prod .shr (.own .shr)) (.prod I (.list (.prod I I))))], []⟩
abbrev fn9_J1 : Tpl := ⟨[(0, .ptr (1000000, 0)), (4, .ptr (4, 0)), (5, .val I), (6, .ptr (6, 0)), (7, .val I), (8, .val .bool), (9, .val I), (10, .val I)], [((1000000, 0), .box .shr (.prod (.list (.int .u8)) (.prod I (.int .u64)))), ((4, 0), .box (.prod .shr (.own .shr)) (.prod I (.list (.prod I I)))), ((6, 0), .box (.prod .shr (.own .shr)) (.prod I (.list (.prod I I))))], []⟩
abbrev fn9_J2 : Tpl := ⟨[(0, .ptr (1000000, 0)), (4, .ptr (4, 0)), (5, .val I), (6, .ptr (6, 0)), (7, .val I), (8, .val .bool), (9, .val I)], [((1000000, 0), .box .shr (.prod (.list (.int .u8)) (.prod I (.int .u64)))), ((4, 0), .box (.prod .shr (.own .shr)) (.prod I (.list (.prod I I)))), ((6, 0), .box (.prod .shr (.own .shr)) (.prod I (.list (.prod I I))))], []⟩
abbrev fn9_J3 : Tpl := ⟨[(0, .ptr (1000000, 0)), (4, .ptr (4, 0)), (6, .ptr (6, 0))], [((1000000, 0), .box .shr (.prod (.list (.int .u8)) (.prod I (.int .u64)))), ((4, 0), .box (.prod .shr (.own .shr)) (.prod I (.list (.prod I I)))), ((6, 0), .box (.prod .shr (.own .shr)) (.prod I (.list (.prod I I))))], []⟩
abbrev fn9_J4 : Tpl := ⟨[(4, .ptr (4, 0)), (6, .ptr (6, 0))], [((4, 0), .box (.prod .shr (.own .shr)) (.prod I (.list (.prod I I)))), ((6, 0), .box (.prod .shr (.own .shr)) (.prod I (.list (.prod I I)))), ((1000000, 0), .box .shr (.prod (.list (.int .u8)) (.prod I (.int .u64))))], []⟩
abbrev fn9_J5 : Tpl := ⟨[(0, .ptr (1000000, 0)), (4, .ptr (4, 0)), (5, .val I), (6, .ptr (6, 0)), (7, .val I), (8, .val .bool), (9, .val I), (63, .adp (6, 0) [.snd]), (65, .ptr (1000000, 0)), (66, .val I), (68, .val I)], [((1000000, 0), .box .shr (.prod (.list (.int .u8)) (.prod I (.int .u64)))), ((4, 0), .box (.prod .shr (.own .shr)) (.prod I (.list (.prod I I)))), ((6, 0), .box (.prod .shr (.own .shr)) (.prod I (.list (.prod I I))))], []⟩
abbrev fn9_J6 : Tpl := ⟨[(4, .ptr (4, 0)), (6, .ptr (6, 0)), (82, .adp (6, 0) [.snd]), (84, .ptr (1000000, 0)), (86, .ptr (1000000, 0))], [((4, 0), .box (.prod .shr (.own .shr)) (.prod I (.list (.prod I I)))), ((6, 0), .box (.prod .shr (.own .shr)) (.prod I (.list (.prod I I)))), ((1000000, 0), .box .shr (.prod (.list (.int .u8)) (.prod I (.int .u64))))], []⟩
abbrev fn9_J7 : Tpl := ⟨[(4, .ptr (4, 0)), (6, .ptr (6, 0)), (82, .adp (6, 0) [.snd]), (85, .val I), (86, .ptr (1000000, 0))], [((4, 0), .box (.prod .shr (.own .shr)) (.prod I (.list (.prod I I)))), ((6, 0), .box (.prod .shr (.own .shr)) (.prod I (.list (.prod I I)))), ((1000000, 0), .box .shr (.prod (.list (.int .u8)) (.prod I (.int .u64))))], []⟩
abbrev fn9_J8 : Tpl := ⟨[(4, .ptr (4, 0)), (6, .ptr (6, 0)), (99, .adp (6, 0) [.snd]), (101, .adp (6, 0) [.snd]), (103, .ptr (1000000, 0)), (106, .val I)], [((4, 0), .box (.prod .shr (.own .shr)) (.prod I (.list (.prod I I)))), ((6, 0), .box (.prod .shr (.own .shr)) (.prod I (.list (.prod I I)))), ((1000000, 0), .box .shr (.prod (.list (.int .u8)) (.prod I (.int .u64))))], []⟩
abbrev fn9_J9 : Tpl := ⟨[(4, .ptr (4, 0)), (6, .ptr (6, 0)), (100, .same (6, 0) [.snd]), (101, .adp (6, 0) [.snd]), (103, .ptr (1000000, 0)), (106, .val I)], [((4, 0), .box (.prod .shr (.own .shr)) (.prod I (.list (.prod I I)))), ((6, 0), .box (.prod .shr (.own .shr)) (.prod I (.list (.prod I I)))), ((1000000, 0), .box .shr (.prod (.list (.int .u8)) (.prod I (.int .u64))))], []⟩
abbrev fn9_J10 : Tpl := ⟨[(4, .ptr (4, 0)), (6, .ptr (6, 0)), (99, .adp (6, 0) [.snd]), (102, .same (6, 0) [.snd]), (103, .ptr (1000000, 0)), (106, .val I)], [((4, 0), .box (.prod .shr (.own .shr)) (.prod I (.list (.prod I I)))), ((6, 0), .box (.prod .shr (.own .shr)) (.prod I (.list (.prod I I)))), ((1000000, 0), .box .shr (.prod (.list (.int .u8)) (.prod I (.int .u64))))], []⟩
abbrev fn9_E : Ve.End := ⟨[⟨4, (.prod .shr (.own .shr)), (.prod I (.list (.prod I I))), some 30⟩], [.box .shr (.prod (.list (.int .u8)) (.prod I (.int .u64)))]⟩
abbrev fn9_a : List ASh := [.adr 0, .val I]
abbrev fn9_o : List OSh := [.box .shr (.prod (.list (.int .u8)) (.prod I (.int .u64)))]
noncomputable def fn9_D0 : fn9_J5.P → Option fn9_J2.P
  | ((t5, t7, t8, t9, t66, t68, ()), (o0, t4, t6, ())) => match fn15 (t66, ()) (o0, ()) with | some ((r, ()), (o, ())) => (match fn25 (t6.2, (r, t68), ()) () with | some ((r2, ()), ()) => some ((t5, t7, t8, t9, ()), (o, t4, (t6.1, r2), ())) | none => none) | none => none
noncomputable def fn9_T0 : DT fn9_J2 := .node fn9_J5 fn9_D0 (.br [(1, .sole), (4, .sole), (6, .flo), (7, .sole), (8, .flo), (9, .sole)] .fin (.br [(4, .sole), (6, .flo), (1, .qui), (7, .sole), (8, .flo), (9, .sole)] .fin .nobr))
noncomputable def fn9_D2 : fn9_J7.P → Option fn9_J4.P
  | ((t85, ()), (t4, t6, o0, ())) => match fn15 ((9 : Int), ()) (o0, ()) with | some ((r, ()), (o, ())) => guardB (decide ((List.length t6.2 + List.length [(t85, (w64 (r - (1 : Int))))]) * 16 ≤ 70368744177664)) (some ((), (t4, (t6.1, (t6.2 ++ [(t85, (w64 (r - (1 : Int))))])), o, ()))) | none => none
noncomputable def fn9_T2 : DT fn9_J4 := .node fn9_J7 fn9_D2 (.br [(1, .sole), (5, .sole), (6, .flo), (7, .flo), (8, .sole), (9, .sole), (10, .flo), (11, .sole)] .fin (.br [(5, .sole), (6, .flo), (7, .flo), (1, .qui), (8, .sole), (9, .sole), (10, .flo), (11, .sole)] .fin .nobr))
noncomputable def fn9_D1 : fn9_J6.P → Option fn9_J4.P
  | ((), (t4, t6, o0, ())) => match fn15 ((4 : Int), ()) (o0, ()) with | some ((r, ()), (o, ())) => (match fn15 ((9 : Int), ()) (o, ()) with | some ((r2, ()), (o2, ())) => guardB (decide ((List.length t6.2 + List.length [(r, (w64 (r2 - (1 : Int))))]) * 16 ≤ 70368744177664)) (some ((), (t4, (t6.1, (t6.2 ++ [(r, (w64 (r2 - (1 : Int))))])), o2, ()))) | none => none) | none => none
noncomputable def fn9_T1 : DT fn9_J4 := .node fn9_J6 fn9_D1 (.br [(1, .sole), (3, .sole), (5, .sole), (6, .flo), (7, .flo), (8, .sole), (9, .sole), (10, .flo), (11, .sole)] .fin (.br [(3, .sole)] fn9_T2 .nobr))
noncomputable def fn9_D4 : fn9_J9.P → Option fn9_J4.P
  | ((t106, ()), (t4, t6, o0, ())) => match fn15 (t106, ()) (o0, ()) with | some ((r, ()), (o, ())) => guardB (inb r (List.length t6.2)) (guardB (decide ((List.length t6.2 + List.length [(List.getD t6.2 (Int.toNat r) ((0 : Int), (0 : Int)))]) * 16 ≤ 70368744177664)) (some ((), (t4, (t6.1, (t6.2 ++ [(List.getD t6.2 (Int.toNat r) ((0 : Int), (0 : Int)))])), o, ())))) | none => none
noncomputable def fn9_T4 : DT fn9_J4 := .node fn9_J9 fn9_D4 (.br [(3, .sole), (8, .sole), (9, .flo), (10, .qui), (11, .sole), (12, .sole), (13, .flo), (14, .sole)] .fin (.br [(8, .sole), (3, .qui), (9, .flo), (10, .qui), (11, .sole), (12, .sole), (13, .flo), (14, .sole)] .fin .nobr))
noncomputable def fn9_D5 : fn9_J10.P → Option fn9_J4.P
  | ((t106, ()), (t4, t6, o0, ())) => match fn15 (t106, ()) (o0, ()) with | some ((r, ()), (o, ())) => guardB (inb r (List.length t6.2)) (guardB (decide ((List.length t6.2 + List.length [(List.getD t6.2 (Int.toNat r) ((0 : Int), (0 : Int)))]) * 16 ≤ 70368744177664)) (some ((), (t4, (t6.1, (t6.2 ++ [(List.getD t6.2 (Int.toNat r) ((0 : Int), (0 : Int)))])), o, ())))) | none => none
noncomputable def fn9_T5 : DT fn9_J4 := .node fn9_J10 fn9_D5 (.br [(1, .sole), (8, .sole), (9, .flo), (10, .qui), (11, .sole), (12, .sole), (13, .flo), (14, .sole)] .fin (.br [(8, .sole), (9, .flo), (1, .qui), (10, .qui), (11, .sole), (12, .sole), (13, .flo), (14, .sole)] .fin .nobr))
noncomputable def fn9_D3 : fn9_J8.P → Option fn9_J4.P
  | ((t106, ()), (t4, t6, o0, ())) => fn9_D4 ((t106, ()), (t4, t6, o0, ()))
noncomputable def fn9_T3 : DT fn9_J4 := .node fn9_J8 fn9_D3 (.br [(1, .sole)] fn9_T4 (.br [(3, .sole)] fn9_T5 (.br [(8, .sole), (1, .qui), (3, .qui), (9, .flo), (10, .qui), (11, .sole), (12, .sole), (13, .flo), (14, .sole)] .fin .nobr)))
abbrev fn9_O0 : Out := .one (.ex 2) fn9_J2
noncomputable def fn9_B0 : fn9_J1.P → Option (fn9_J1.P ⊕ fn9_O0.P)
  | ((t5, t7, t8, t9, t10, ()), (o0, t4, t6, ())) => bif (decide (t10 < t5)) then (match fn15 (t7, ()) (o0, ()) with | some ((r, ()), (o, ())) => (bif (r == (0 : Int)) then (match fn25 (t6.2, (t9, t10), ()) () with | some ((r2, ()), ()) => some (.inl ((t5, t7, t8, t9, (w64 (t10 + (1 : Int))), ()), (o, t4, (t6.1, r2), ()))) | none => none) else (some (.inl ((t5, t7, t8, t9, (w64 (t10 + (1 : Int))), ()), (o, t4, t6, ()))))) | none => none) else (some (.inr ((t5, t7, t8, t9, ()), (o0, t4, t6, ()))))
abbrev fn9_O1 : Out := .one (.ex 0) fn9_J3
noncomputable def fn9_B1 : fn9_J2.P → Option (fn9_J2.P ⊕ fn9_O1.P)
  | ((t5, t7, t8, t9, ()), (o0, t4, t6, ())) => bif (decide (t9 < t5)) then (match loopO fn9_B0 ((t5, t7, t8, t9, (w64 (t9 + (1 : Int))), ()), (o0, t4, t6, ())) with | some ((t5_2, t7_2, t8_2, t9_2, ()), (o0_2, t4_2, t6_2, ())) => (bif (decide ((0 : Int) < t9_2)) then (bif (!t8_2) then (match fn9_D0 ((t5_2, t7_2, t8_2, t9_2, t9_2, t9_2, ()), (o0_2, t4_2, t6_2, ())) with | some ((t5_3, t7_3, t8_3, t9_3, ()), (o0_3, t4_3, t6_3, ())) => some (.inl ((t5_3, t7_3, t8_3, (w64 (t9_3 + (1 : Int))), ()), (o0_3, t4_3, t6_3, ()))) | none => none) else (some (.inl ((t5_2, t7_2, t8_2, (w64 (t9_2 + (1 : Int))), ()), (o0_2, t4_2, t6_2, ()))))) else (some (.inl ((t5_2, t7_2, t8_2, (w64 (t9_2 + (1 : Int))), ()), (o0_2, t4_2, t6_2, ()))))) | none => none) else (some (.inr ((), (o0, t4, t6, ()))))
noncomputable def fn9 : argP fn9_a → obP (extObs 0 fn9_o) → Option fn9_E.P
  | (t1, ()), (o0, ()) => match fn12 ([(4 : Int), (5 : Int), (3 : Int), (6 : Int), (2 : Int), (1 : Int), (0 : Int)], ()) (o0, ()) with | some ((r, ()), (o, ())) => (match (bif (decide ((6 : Int) < t1)) then (match fn18 ((4 : Int), ()) (o, ()) with | some ((r2, ()), (o2, ())) => (bif r2 then (match fn15 ((2 : Int), ()) (o2, ()) with | some ((r3, ()), (o3, ())) => some (.inl ((t1, (w64 ((7 : Int) + r3)), ()), (o3, ((0 : Int), ([] : (List (Int × Int)))), ()))) | none => none) else (some (.inl ((t1, r, ()), (o2, ((0 : Int), ([] : (List (Int × Int)))), ()))))) | none => none) else (some (.inl ((t1, r, ()), (o, ((0 : Int), ([] : (List (Int × Int)))), ())))) : Option (fn9_J0.P ⊕ fn9_E.P)) with | some (.inl ((t1_2, t5, ()), (o0_2, t4, ()))) => (match fn63 (t5, t1_2, ()) () with | some ((r4, ()), ()) => (match fn12 ([(1 : Int), (3 : Int), (4 : Int), (6 : Int)], ()) (o0_2, ()) with | some ((r5, ()), (o4, ())) => (match fn18 ((5 : Int), ()) (o4, ()) with | some ((r6, ()), (o5, ())) => (match loopO fn9_B1 ((r4, r5, r6, (0 : Int), ()), (o5, t4, (r4, ([] : (List (Int × Int)))), ())) with | some ((), (o0_3, t4_2, t6, ())) => (match fn15 ((50 : Int), ()) (o0_3, ()) with | some ((r7, ()), (o6, ())) => (bif (r7 == (0 : Int)) then (match fn12 ([(-1 : Int), (8 : Int), (9 : Int), (0 : Int), (4611686018427387904 : Int)], ()) (o6, ()) with | some ((r8, ()), (o7, ())) => some (((r8, t6.2), ()), (o7, ())) | none => none) else (bif (r7 == (1 : Int)) then (match fn9_D1 ((), (t4_2, t6, o6, ())) with | some ((), (t4_3, t6_2, o0_4, ())) => some (((t6_2.1, t6_2.2), ()), (o0_4, ())) | none => none) else (bif (r7 == (2 : Int)) then (bif (decide ((0 : Int) < (List.length t6.2 : Int))) then (match fn9_D3 (((List.length t6.2 : Int), ()), (t4_2, t6, o6, ())) with | some ((), (t4_4, t6_3, o0_5, ())) => some (((t6_3.1, t6_3.2), ()), (o0_5, ())) | none => none) else (some (((t6.1, t6.2), ()), (o6, ())))) else (some (((t6.1, t6.2), ()), (o6, ())))))) | none => none) | none => none) | none => none) | none => none) | none => none) | some (.inr r) => some r | none => none) | none => none
noncomputable def fn9_x : Cx := ⟨tab, fn25_e, fun f n => bif Nat.beq f 137 && Nat.beq n 0 then 1 else bif Nat.beq f 156 && Nat.beq n 0 then 1 else bif Nat.beq f 163 && Nat.beq n 0 then 1 else bif Nat.beq f 283 && Nat.beq n 0 then 2 else 0, fun _ => false, [(12, 0), (13, 0), (13, 1), (13, 2), (13, 3), (18, 0), (18, 1), (18, 2), (18, 3), (21, 0), (21, 1), (21, 2), (21, 3), (25, 0), (25, 1), (25, 2), (25, 3), (30, 0), (31, 0), (31, 1), (31, 2), (31, 3), (33, 0), (33, 1), (33, 2), (33, 3), (48, 0), (48, 1), (48, 2), (48, 3), (67, 0), (67, 1), (67, 2), (67, 3), (73, 0), (73, 1), (73, 2), (73, 3), (77, 0), (78, 0), (78, 1), (78, 2), (78, 3), (85, 0), (85, 1), (85, 2), (85, 3), (87, 0), (87, 1), (87, 2), (87, 3), (90, 0), (107, 0), (107, 1), (107, 2), (107, 3), (110, 0)], []⟩
noncomputable def c184 : Code := bodyOf Tryz.f184
noncomputable def fn9_A : Ann := .seq .nil (.seq .nil (.cut fn9_J0 .nil (.seq .nil (.seq .nil (.seq (.seq .nil (.loop fn9_J2 fn9_O1 fn9_B1 (.seq .nil (.seq (.seq (.seq .nil (.loop fn9_J1 fn9_O0 fn9_B0 .nil)) (.seq .nil (.seq (.draws [(0, .flo), (2, .flo), (3, .flo), (5, .flo)] fn9_J2 fn9_T0) .nil))) .nil)))) (.seq (.seq .nil (.seq .nil (.seq .nil (.seq .nil (.seq (.draws [(0, .flo), (2, .flo), (4, .flo)] fn9_J4 fn9_T1) (.seq .nil (.seq (.seq .nil (.seq (.draws [(0, .flo), (2, .flo), (4, .flo), (5, .flo), (6, .qui), (7, .flo)] fn9_J4 fn9_T3) .nil)) .nil))))))) .nil))))))
theorem fn9_r0 (p : fn9_J2.P) : run fn9_x (subc [1, 1, 1, 1, 1, 0, 1, 0, 0] c184) (.seq .nil (.seq (.seq (.seq .nil (.loop fn9_J1 fn9_O0 fn9_B0 .nil)) (.seq .nil (.seq (.draws [(0, .flo), (2, .flo), (3, .flo), (5, .flo)] fn9_J2 fn9_T0) .nil))) .nil)) (fn9_J2.S p) (leaf fn9_J2 fn9_O1) = fn9_B1 p := by kernel_rfl
theorem fn9_r1 (p : fn9_J1.P) : run fn9_x (subc [1, 1, 1, 1, 1, 0, 1, 0, 0, 1, 0, 0, 0, 1, 0, 0] c184) .nil (fn9_J1.S p) (leaf fn9_J1 fn9_O0) = fn9_B0 p := by kernel_rfl
theorem fn9_D0b0 (p : fn9_J5.P) : runDrawn fn9_x (opsOf (subc [1, 1, 1, 1, 1, 0, 1, 0, 0, 1, 0, 0, 1, 1, 0] c184)) [(1, .sole), (4, .sole), (6, .flo), (7, .sole), (8, .flo), (9, .sole)] (fn9_J5.S p) (endT fn9_x (.fin : DT fn9_J2)) = fn9_D0 p := by kernel_rfl
theorem fn9_D0b1 (p : fn9_J5.P) : runDrawn fn9_x (opsOf (subc [1, 1, 1, 1, 1, 0, 1, 0, 0, 1, 0, 0, 1, 1, 0] c184)) [(4, .sole), (6, .flo), (1, .qui), (7, .sole), (8, .flo), (9, .sole)] (fn9_J5.S p) (endT fn9_x (.fin : DT fn9_J2)) = fn9_D0 p := by kernel_rfl
theorem fn9_D1b0 (p : fn9_J6.P) : runDrawn fn9_x (opsOf (subc [1, 1, 1, 1, 1, 1, 0, 1, 0, 1, 1, 1, 0] c184)) [(1, .sole), (3, .sole), (5, .sole), (6, .flo), (7, .flo), (8, .sole), (9, .sole), (10, .flo), (11, .sole)] (fn9_J6.S p) (endT fn9_x (.fin : DT fn9_J4)) = fn9_D1 p := by kernel_rfl
theorem fn9_D1b1 (p : fn9_J6.P) : runDrawn fn9_x (opsOf (subc [1, 1, 1, 1, 1, 1, 0, 1, 0, 1, 1, 1, 0] c184)) [(3, .sole)] (fn9_J6.S p) (endT fn9_x fn9_T2) = fn9_D1 p := by kernel_rfl
theorem fn9_D2b0 (p : fn9_J7.P) : runDrawn fn9_x (opsOf (subc [1, 1, 1, 1, 1, 1, 0, 1, 0, 1, 1, 1, 0] c184)) [(1, .sole), (5, .sole), (6, .flo), (7, .flo), (8, .sole), (9, .sole), (10, .flo), (11, .sole)] (fn9_J7.S p) (endT fn9_x (.fin : DT fn9_J4)) = fn9_D2 p := by kernel_rfl
theorem fn9_D2b1 (p : fn9_J7.P) : runDrawn fn9_x (opsOf (subc [1, 1, 1, 1, 1, 1, 0, 1, 0, 1, 1, 1, 0] c184)) [(5, .sole), (6, .flo), (7, .flo), (1, .qui), (8, .sole), (9, .sole), (10, .flo), (11, .sole)] (fn9_J7.S p) (endT fn9_x (.fin : DT fn9_J4)) = fn9_D2 p := by kernel_rfl
theorem fn9_D3b0 (p : fn9_J8.P) : runDrawn fn9_x (opsOf (subc [1, 1, 1, 1, 1, 1, 0, 1, 0, 1, 1, 1, 1, 1, 0, 1, 0] c184)) [(1, .sole)] (fn9_J8.S p) (endT fn9_x fn9_T4) = fn9_D3 p := by kernel_rfl
theorem fn9_D4b0 (p : fn9_J9.P) : runDrawn fn9_x (opsOf (subc [1, 1, 1, 1, 1, 1, 0, 1, 0, 1, 1, 1, 1, 1, 0, 1, 0] c184)) [(3, .sole), (8, .sole), (9, .flo), (10, .qui), (11, .sole), (12, .sole), (13, .flo), (14, .sole)] (fn9_J9.S p) (endT fn9_x (.fin : DT fn9_J4)) = fn9_D4 p := by kernel_rfl
theorem fn9_D4b1 (p : fn9_J9.P) : runDrawn fn9_x (opsOf (subc [1, 1, 1, 1, 1, 1, 0, 1, 0, 1, 1, 1, 1, 1, 0, 1, 0] c184)) [(8, .sole), (3, .qui), (9, .flo), (10, .qui), (11, .sole), (12, .sole), (13, .flo), (14, .sole)] (fn9_J9.S p) (endT fn9_x (.fin : DT fn9_J4)) = fn9_D4 p := by kernel_rfl
theorem fn9_D3b1 (p : fn9_J8.P) : runDrawn fn9_x (opsOf (subc [1, 1, 1, 1, 1, 1, 0, 1, 0, 1, 1, 1, 1, 1, 0, 1, 0] c184)) [(3, .sole)] (fn9_J8.S p) (endT fn9_x fn9_T5) = fn9_D3 p := by kernel_rfl
theorem fn9_D5b0 (p : fn9_J10.P) : runDrawn fn9_x (opsOf (subc [1, 1, 1, 1, 1, 1, 0, 1, 0, 1, 1, 1, 1, 1, 0, 1, 0] c184)) [(1, .sole), (8, .sole), (9, .flo), (10, .qui), (11, .sole), (12, .sole), (13, .flo), (14, .sole)] (fn9_J10.S p) (endT fn9_x (.fin : DT fn9_J4)) = fn9_D5 p := by kernel_rfl
theorem fn9_D5b1 (p : fn9_J10.P) : runDrawn fn9_x (opsOf (subc [1, 1, 1, 1, 1, 1, 0, 1, 0, 1, 1, 1, 1, 1, 0, 1, 0] c184)) [(8, .sole), (9, .flo), (1, .qui), (10, .qui), (11, .sole), (12, .sole), (13, .flo), (14, .sole)] (fn9_J10.S p) (endT fn9_x (.fin : DT fn9_J4)) = fn9_D5 p := by kernel_rfl
theorem fn9_D3b2 (p : fn9_J8.P) : runDrawn fn9_x (opsOf (subc [1, 1, 1, 1, 1, 1, 0, 1, 0, 1, 1, 1, 1, 1, 0, 1, 0] c184)) [(8, .sole), (1, .qui), (3, .qui), (9, .flo), (10, .qui), (11, .sole), (12, .sole), (13, .flo), (14, .sole)] (fn9_J8.S p) (endT fn9_x (.fin : DT fn9_J4)) = fn9_D3 p := by kernel_rfl
noncomputable def fn9_D : Ve.Fn := ⟨184, fn9_a, fn9_o, fn9_E, fn9⟩
theorem fn9_w : Walk Tryz.prog fn9_x fn9_D Tryz.f184 c184 114 fn9_A :=
  ⟨⟨Tryz.func184, by kernel_rfl, by kernel_rfl, by kernel_rfl, by decide, by kernel_rfl, Nat.le_of_ble_eq_true (by kernel_rfl)⟩, by kernel_rfl, by kernel_rfl, by kernel_rfl, kcast (by kernel_rfl) (⟨fn9_r0, fn9_r1, fn9_D0b0, fn9_D0b1, fn9_D1b0, fn9_D1b1, fn9_D2b0, fn9_D2b1, fn9_D3b0, fn9_D4b0, fn9_D4b1, fn9_D3b1, fn9_D5b0, fn9_D5b1, fn9_D3b2, trivial⟩ : (∀ p, run fn9_x (subc [1, 1, 1, 1, 1, 0, 1, 0, 0] c184) (.seq .nil (.seq (.seq (.seq .nil (.loop fn9_J1 fn9_O0 fn9_B0 .nil)) (.seq .nil (.seq (.draws [(0, .flo), (2, .flo), (3, .flo), (5, .flo)] fn9_J2 fn9_T0) .nil))) .nil)) (fn9_J2.S p) (leaf fn9_J2 fn9_O1) = fn9_B1 p) ∧ (∀ p, run fn9_x (subc [1, 1, 1, 1, 1, 0, 1, 0, 0, 1, 0, 0, 0, 1, 0, 0] c184) .nil (fn9_J1.S p) (leaf fn9_J1 fn9_O0) = fn9_B0 p) ∧ (∀ p, runDrawn fn9_x (opsOf (subc [1, 1, 1, 1, 1, 0, 1, 0, 0, 1, 0, 0, 1, 1, 0] c184)) [(1, .sole), (4, .sole), (6, .flo), (7, .sole), (8, .flo), (9, .sole)] (fn9_J5.S p) (endT fn9_x (.fin : DT fn9_J2)) = fn9_D0 p) ∧ (∀ p, runDrawn fn9_x (opsOf (subc [1, 1, 1, 1, 1, 0, 1, 0, 0, 1, 0, 0, 1, 1, 0] c184)) [(4, .sole), (6, .flo), (1, .qui), (7, .sole), (8, .flo), (9, .sole)] (fn9_J5.S p) (endT fn9_x (.fin : DT fn9_J2)) = fn9_D0 p) ∧ (∀ p, runDrawn fn9_x (opsOf (subc [1, 1, 1, 1, 1, 1, 0, 1, 0, 1, 1, 1, 0] c184)) [(1, .sole), (3, .sole), (5, .sole), (6, .flo), (7, .flo), (8, .sole), (9, .sole), (10, .flo), (11, .sole)] (fn9_J6.S p) (endT fn9_x (.fin : DT fn9_J4)) = fn9_D1 p) ∧ (∀ p, runDrawn fn9_x (opsOf (subc [1, 1, 1, 1, 1, 1, 0, 1, 0, 1, 1, 1, 0] c184)) [(3, .sole)] (fn9_J6.S p) (endT fn9_x fn9_T2) = fn9_D1 p) ∧ (∀ p, runDrawn fn9_x (opsOf (subc [1, 1, 1, 1, 1, 1, 0, 1, 0, 1, 1, 1, 0] c184)) [(1, .sole), (5, .sole), (6, .flo), (7, .flo), (8, .sole), (9, .sole), (10, .flo), (11, .sole)] (fn9_J7.S p) (endT fn9_x (.fin : DT fn9_J4)) = fn9_D2 p) ∧ (∀ p, runDrawn fn9_x (opsOf (subc [1, 1, 1, 1, 1, 1, 0, 1, 0, 1, 1, 1, 0] c184)) [(5, .sole), (6, .flo), (7, .flo), (1, .qui), (8, .sole), (9, .sole), (10, .flo), (11, .sole)] (fn9_J7.S p) (endT fn9_x (.fin : DT fn9_J4)) = fn9_D2 p) ∧ (∀ p, runDrawn fn9_x (opsOf (subc [1, 1, 1, 1, 1, 1, 0, 1, 0, 1, 1, 1, 1, 1, 0, 1, 0] c184)) [(1, .sole)] (fn9_J8.S p) (endT fn9_x fn9_T4) = fn9_D3 p) ∧ (∀ p, runDrawn fn9_x (opsOf (subc [1, 1, 1, 1, 1, 1, 0, 1, 0, 1, 1, 1, 1, 1, 0, 1, 0] c184)) [(3, .sole), (8, .sole), (9, .flo), (10, .qui), (11, .sole), (12, .sole), (13, .flo), (14, .sole)] (fn9_J9.S p) (endT fn9_x (.fin : DT fn9_J4)) = fn9_D4 p) ∧ (∀ p, runDrawn fn9_x (opsOf (subc [1, 1, 1, 1, 1, 1, 0, 1, 0, 1, 1, 1, 1, 1, 0, 1, 0] c184)) [(8, .sole), (3, .qui), (9, .flo), (10, .qui), (11, .sole), (12, .sole), (13, .flo), (14, .sole)] (fn9_J9.S p) (endT fn9_x (.fin : DT fn9_J4)) = fn9_D4 p) ∧ (∀ p, runDrawn fn9_x (opsOf (subc [1, 1, 1, 1, 1, 1, 0, 1, 0, 1, 1, 1, 1, 1, 0, 1, 0] c184)) [(3, .sole)] (fn9_J8.S p) (endT fn9_x fn9_T5) = fn9_D3 p) ∧ (∀ p, runDrawn fn9_x (opsOf (subc [1, 1, 1, 1, 1, 1, 0, 1, 0, 1, 1, 1, 1, 1, 0, 1, 0] c184)) [(1, .sole), (8, .sole), (9, .flo), (10, .qui), (11, .sole), (12, .sole), (13, .flo), (14, .sole)] (fn9_J10.S p) (endT fn9_x (.fin : DT fn9_J4)) = fn9_D5 p) ∧ (∀ p, runDrawn fn9_x (opsOf (subc [1, 1, 1, 1, 1, 1, 0, 1, 0, 1, 1, 1, 1, 1, 0, 1, 0] c184)) [(8, .sole), (9, .flo), (1, .qui), (10, .qui), (11, .sole), (12, .sole), (13, .flo), (14, .sole)] (fn9_J10.S p) (endT fn9_x (.fin : DT fn9_J4)) = fn9_D5 p) ∧ (∀ p, runDrawn fn9_x (opsOf (subc [1, 1, 1, 1, 1, 1, 0, 1, 0, 1, 1, 1, 1, 1, 0, 1, 0] c184)) [(8, .sole), (1, .qui), (3, .qui), (9, .flo), (10, .qui), (11, .sole), (12, .sole), (13, .flo), (14, .sole)] (fn9_J8.S p) (endT fn9_x (.fin : DT fn9_J4)) = fn9_D3 p) ∧ True), by kernel_rfl, fun x y => by kernel_rfl⟩
theorem fn9_s : fn9_D.Says Tryz.prog := fn9_w.says follows tabOk fn25_e_ok
noncomputable def fn9_e : Env := more fn25_e fn9_D
theorem fn9_e_ok : EnvOk Tryz.prog fn9_e := more_ok fn25_e_ok fn9_s
/-! (*loop.example/g01128/spec.l1Cur).bigGraph -/
abbrev fn10_E : Ve.End := ⟨[⟨2, (.prod .shr (.own .shr)), (.prod I (.list (.prod I I))), some 30⟩], [.box .shr (.prod (.list (.int .u8)) (.prod I (.int .u64)))]⟩
abbrev fn10_a : List ASh := [.adr 0]
abbrev fn10_o : List OSh := [.box .shr (.prod (.list (.int .u8)) (.prod I (.int .u64)))]
noncomputable def fn10 : argP fn10_a → obP (extObs 0 fn10_o) → Option fn10_E.P
  | (), (o0, ()) => match fn9 ((8 : Int), ()) (o0, ()) with | some ((r, ()), (o, ())) => some (((r.1, r.2), ()), (o, ())) | none => none
noncomputable def fn10_x : Cx := ⟨tab, fn9_e, fun f n => bif Nat.beq f 184 && Nat.beq n 0 then 1 else 0, fun _ => false, [], []⟩
noncomputable def c270 : Code := bodyOf Tryz.f270
noncomputable def fn10_A : Ann := .nil
noncomputable def fn10_D : Ve.Fn := ⟨270, fn10_a, fn10_o, fn10_E, fn10⟩
theorem fn10_w : Walk Tryz.prog fn10_x fn10_D Tryz.f270 c270 5 fn10_A :=
  ⟨⟨Tryz.func270, by kernel_rfl, by kernel_rfl, by kernel_rfl, by decide, by kernel_rfl, Nat.le_of_ble_eq_true (by kernel_rfl)⟩, by kernel_rfl, by kernel_rfl, by kernel_rfl, kcast (by kernel_rfl) trivial, by kernel_rfl, fun x y => by kernel_rfl⟩
theorem fn10_s : fn10_D.Says Tryz.prog := fn10_w.says follows tabOk fn9_e_ok
noncomputable def fn10_e : Env := more fn9_e fn10_D
theorem fn10_e_ok : EnvOk Tryz.prog fn10_e := more_ok fn9_e_ok fn10_s
/-! loop.example/g01128/spec.DrawIsGraph -/
abbrev fn24_E : Ve.End := ⟨[⟨2, (.prod .shr (.own .shr)), (.prod I (.list (.prod I I))), some 30⟩], []⟩
abbrev fn24_a : List ASh := [.own .shr (.list (.int .u8))]
abbrev fn24_o : List OSh := []
noncomputable def fn24 : argP fn24_a → obP (extObs 0 fn24_o) → Option fn24_E.P
  | (code, ()), () => match fn10 () ((code, ((0 : Int), (0 : Int))), ()) with | some ((r, ()), (o, ())) => some (((r.1, r.2), ()), ()) | none => none
noncomputable def fn24_x : Cx := ⟨tab, fn10_e, fun f n => bif Nat.beq f 270 && Nat.beq n 0 then 1 else 0, fun _ => false, [], []⟩
noncomputable def c167 : Code := bodyOf Tryz.f167
noncomputable def fn24_A : Ann := .nil
noncomputable def fn24_D : Ve.Fn := ⟨167, fn24_a, fn24_o, fn24_E, fn24⟩
theorem fn24_w : Walk Tryz.prog fn24_x fn24_D Tryz.f167 c167 9 fn24_A :=
  ⟨⟨Tryz.func167, by kernel_rfl, by kernel_rfl, by kernel_rfl, by decide, by kernel_rfl, Nat.le_of_ble_eq_true (by kernel_rfl)⟩, by kernel_rfl, by kernel_rfl, by kernel_rfl, kcast (by kernel_rfl) trivial, by kernel_rfl, fun x y => by kernel_rfl⟩
theorem fn24_s : fn24_D.Says Tryz.prog := fn24_w.says follows tabOk fn10_e_ok
noncomputable def fn24_e : Env := more fn10_e fn24_D
theorem fn24_e_ok : EnvOk Tryz.prog fn24_e := more_ok fn10_e_ok fn24_s
/-! loop.example/g01128/spec.DrawCanFold -/
abbrev fn23_E : Ve.End := ⟨[⟨2, (.prod .shr (.own .shr)), (.prod I (.list (.prod I I))), some 30⟩], []⟩
abbrev fn23_a : List ASh := [.own .shr (.list (.int .u8))]
abbrev fn23_o : List OSh := []
noncomputable def fn23 : argP fn23_a → obP (extObs 0 fn23_o) → Option fn23_E.P
  | (code, ()), () => match fn24 (code, ()) () with | some ((r, ()), ()) => some (((r.1, r.2), ()), ()) | none => none
noncomputable def fn23_x : Cx := ⟨tab, fn24_e, fun f n => bif Nat.beq f 167 && Nat.beq n 0 then 2 else 0, fun _ => false, [], []⟩
noncomputable def c48 : Code := bodyOf Tryz.f48
noncomputable def fn23_A : Ann := .nil
noncomputable def fn23_D : Ve.Fn := ⟨48, fn23_a, fn23_o, fn23_E, fn23⟩
theorem fn23_w : Walk Tryz.prog fn23_x fn23_D Tryz.f48 c48 5 fn23_A :=
  ⟨⟨Tryz.func48, by kernel_rfl, by kernel_rfl, by kernel_rfl, by decide, by kernel_rfl, Nat.le_of_ble_eq_true (by kernel_rfl)⟩, by kernel_rfl, by kernel_rfl, by kernel_rfl, kcast (by kernel_rfl) trivial, by kernel_rfl, fun x y => by kernel_rfl⟩
theorem fn23_s : fn23_D.Says Tryz.prog := fn23_w.says follows tabOk fn24_e_ok
noncomputable def fn23_e : Env := more fn24_e fn23_D
theorem fn23_e_ok : EnvOk Tryz.prog fn23_e := more_ok fn24_e_ok fn23_s
/-! loop.example/g01128/impl.between -/
abbrev fn55_E : Ve.End := ⟨[⟨6, .shr, .bool, none⟩], []⟩
abbrev fn55_a : List ASh := [.val I, .val I, .val I]
abbrev fn55_o : List OSh := []
noncomputable def fn55 : argP fn55_a → obP (extObs 0 fn55_o) → Option fn55_E.P
  | (n, low, high, ()), () => bif (decide (low ≤ n)) then (some (((decide (n ≤ high)), ()), ())) else (some ((false, ()), ()))
noncomputable def fn55_x : Cx := ⟨tab, fn23_e, fun _ _ => 0, fun _ => false, [], []⟩
noncomputable def c164 : Code := bodyOf Tryz.f164
noncomputable def fn55_A : Ann := .nil
noncomputable def fn55_D : Ve.Fn := ⟨164, fn55_a, fn55_o, fn55_E, fn55⟩
theorem fn55_w : Walk Tryz.prog fn55_x fn55_D Tryz.f164 c164 15 fn55_A :=
  ⟨⟨Tryz.func164, by kernel_rfl, by kernel_rfl, by kernel_rfl, by decide, by kernel_rfl, Nat.le_of_ble_eq_true (by kernel_rfl)⟩, by kernel_rfl, by kernel_rfl, by kernel_rfl, kcast (by kernel_rfl) trivial, by kernel_rfl, fun x y => by kernel_rfl⟩
theorem fn55_s : fn55_D.Says Tryz.prog := fn55_w.says follows tabOk fn23_e_ok
noncomputable def fn55_e : Env := more fn23_e fn55_D
theorem fn55_e_ok : EnvOk Tryz.prog fn55_e := more_ok fn23_e_ok fn55_s
/-! cmp.isNaN[int] -/
abbrev fn42_E : Ve.End := ⟨[⟨2, .shr, .bool, none⟩], []⟩
abbrev fn42_a : List ASh := [.val I]
abbrev fn42_o : List OSh := []
noncomputable def fn42 : argP fn42_a → obP (extObs 0 fn42_o) → Option fn42_E.P
  | (x, ()), () => some (((x != x), ()), ())
noncomputable def fn42_x : Cx := ⟨tab, fn55_e, fun _ _ => 0, fun _ => false, [], []⟩
noncomputable def c341 : Code := bodyOf Tryz.f341
noncomputable def fn42_A : Ann := .nil
noncomputable def fn42_D : Ve.Fn := ⟨341, fn42_a, fn42_o, fn42_E, fn42⟩
theorem fn42_w : Walk Tryz.prog fn42_x fn42_D Tryz.f341 c341 6 fn42_A :=
  ⟨⟨Tryz.func341, by kernel_rfl, by kernel_rfl, by kernel_rfl, by decide, by kernel_rfl, Nat.le_of_ble_eq_true (by kernel_rfl)⟩, by kernel_rfl, by kernel_rfl, by kernel_rfl, kcast (by kernel_rfl) trivial, by kernel_rfl, fun x y => by kernel_rfl⟩
theorem fn42_s : fn42_D.Says Tryz.prog := fn42_w.says follows tabOk fn55_e_ok
noncomputable def fn42_e : Env := more fn55_e fn42_D
theorem fn42_e_ok : EnvOk Tryz.prog fn42_e := more_ok fn55_e_ok fn42_s
/-! cmp.Compare[int] -/
abbrev fn33_E : Ve.End := ⟨[⟨4, .shr, I, none⟩], []⟩
abbrev fn33_a : List ASh := [.val I, .val I]
abbrev fn33_o : List OSh := []
noncomputable def fn33 : argP fn33_a → obP (extObs 0 fn33_o) → Option fn33_E.P
  | (x, y, ()), () => match fn42 (x, ()) () with | some ((r, ()), ()) => (match fn42 (y, ()) () with | some ((r2, ()), ()) => (bif r then (bif r2 then (some (((0 : Int), ()), ())) else (some (((-1 : Int), ()), ()))) else (bif r2 then (some (((1 : Int), ()), ())) else (bif (decide (x < y)) then (some (((-1 : Int), ()), ())) else (bif (decide (y < x)) then (some (((1 : Int), ()), ())) else (some (((0 : Int), ()), ())))))) | none => none) | none => none
noncomputable def fn33_x : Cx := ⟨tab, fn42_e, fun _ _ => 0, fun _ => false, [(8, 0), (8, 1), (8, 2), (8, 3), (10, 0), (10, 1), (10, 2), (10, 3)], []⟩
noncomputable def c315 : Code := bodyOf Tryz.f315
noncomputable def fn33_A : Ann := .nil
noncomputable def fn33_D : Ve.Fn := ⟨315, fn33_a, fn33_o, fn33_E, fn33⟩
theorem fn33_w : Walk Tryz.prog fn33_x fn33_D Tryz.f315 c315 20 fn33_A :=
  ⟨⟨Tryz.func315, by kernel_rfl, by kernel_rfl, by kernel_rfl, by decide, by kernel_rfl, Nat.le_of_ble_eq_true (by kernel_rfl)⟩, by kernel_rfl, by kernel_rfl, by kernel_rfl, kcast (by kernel_rfl) trivial, by kernel_rfl, fun x y => by kernel_rfl⟩
theorem fn33_s : fn33_D.Says Tryz.prog := fn33_w.says follows tabOk fn42_e_ok
noncomputable def fn33_e : Env := more fn42_e fn33_D
theorem fn33_e_ok : EnvOk Tryz.prog fn33_e := more_ok fn42_e_ok fn33_s
/-! cmp.Or[int] -/
abbrev fn76_J0 : Tpl := ⟨[(3, .val I), (6, .val (.list I)), (7, .val I), (8, .val I)], [], []⟩
abbrev fn76_J1 : Tpl := ⟨[(2, .val I)], [], []⟩
abbrev fn76_J2 : Tpl := ⟨[(3, .val I)], [], []⟩
abbrev fn76_E : Ve.End := ⟨[⟨2, .shr, I, none⟩], []⟩
abbrev fn76_a : List ASh := [.val (.list I)]
abbrev fn76_o : List OSh := []
abbrev fn76_O0 : Out := .or .ret fn76_J1 (.one (.ex 0) fn76_J2)
noncomputable def fn76_B0 : fn76_J0.P → Option (fn76_J0.P ⊕ fn76_O0.P)
  | ((zero_, t6, t7, t8, ()), ()) => bif (decide (t8 < t7)) then (guardB (inb t8 (List.length t6)) (bif ((List.getD t6 (Int.toNat t8) (0 : Int)) != zero_) then (some (.inr (.inl (((List.getD t6 (Int.toNat t8) (0 : Int)), ()), ())))) else (some (.inl ((zero_, t6, t7, (w64 (t8 + (1 : Int))), ()), ()))))) else (some (.inr (.inr ((zero_, ()), ()))))
noncomputable def fn76 : argP fn76_a → obP (extObs 0 fn76_o) → Option fn76_E.P
  | (vals, ()), () => match loopO fn76_B0 (((0 : Int), vals, (List.length vals : Int), (0 : Int), ()), ()) with | some (.inl ((t2, ()), ())) => some ((t2, ()), ()) | some (.inr ((zero_, ()), ())) => some ((zero_, ()), ()) | none => none
noncomputable def fn76_x : Cx := ⟨tab, fn33_e, fun _ _ => 0, fun _ => false, [], []⟩
noncomputable def c314 : Code := bodyOf Tryz.f314
noncomputable def fn76_A : Ann := .seq .nil (.seq .nil (.seq (.seq .nil (.loop fn76_J0 fn76_O0 fn76_B0 .nil)) .nil))
theorem fn76_r0 (p : fn76_J0.P) : run fn76_x (subc [1, 1, 0, 1, 0, 0] c314) .nil (fn76_J0.S p) (leaf fn76_J0 fn76_O0) = fn76_B0 p := by kernel_rfl
noncomputable def fn76_D : Ve.Fn := ⟨314, fn76_a, fn76_o, fn76_E, fn76⟩
theorem fn76_w : Walk Tryz.prog fn76_x fn76_D Tryz.f314 c314 18 fn76_A :=
  ⟨⟨Tryz.func314, by kernel_rfl, by kernel_rfl, by kernel_rfl, by decide, by kernel_rfl, Nat.le_of_ble_eq_true (by kernel_rfl)⟩, by kernel_rfl, by kernel_rfl, by kernel_rfl, kcast (by kernel_rfl) (⟨fn76_r0, trivial⟩ : (∀ p, run fn76_x (subc [1, 1, 0, 1, 0, 0] c314) .nil (fn76_J0.S p) (leaf fn76_J0 fn76_O0) = fn76_B0 p) ∧ True), by kernel_rfl, fun x y => by kernel_rfl⟩
theorem fn76_s : fn76_D.Says Tryz.prog := fn76_w.says follows tabOk fn33_e_ok
noncomputable def fn76_e : Env := more fn33_e fn76_D
theorem fn76_e_ok : EnvOk Tryz.prog fn76_e := more_ok fn33_e_ok fn76_s
/-! loop.example/g01128/impl.comparePairs -/
abbrev fn27_E : Ve.End := ⟨[⟨4, .shr, I, none⟩], []⟩
abbrev fn27_a : List ASh := [.val (.prod I I), .val (.prod I I)]
abbrev fn27_o : List OSh := []
noncomputable def fn27 : argP fn27_a → obP (extObs 0 fn27_o) → Option fn27_E.P
  | (a, b, ()), () => match fn33 (a.1, b.1, ()) () with | some ((r, ()), ()) => (match fn33 (a.2, b.2, ()) () with | some ((r2, ()), ()) => (match fn76 ([r, r2], ()) () with | some ((r3, ()), ()) => some ((r3, ()), ()) | none => none) | none => none) | none => none
noncomputable def fn27_x : Cx := ⟨tab, fn76_e, fun _ _ => 0, fun _ => false, [(9, 0), (9, 1), (9, 2), (9, 3), (14, 0), (14, 1), (14, 2), (14, 3), (15, 0), (16, 0), (16, 1), (16, 2), (16, 3)], [(2, 0), (3, 0)]⟩
noncomputable def c257 : Code := bodyOf Tryz.f257
noncomputable def fn27_A : Ann := .seq .nil (.seq (.draw [(0, .flo), (1, .flo), (2, .flo), (3, .flo), (5, .flo), (6, .flo), (7, .flo), (8, .flo), (4, .sole), (9, .sole), (10, .sole), (11, .sole), (12, .flo)]) .nil)
noncomputable def fn27_D : Ve.Fn := ⟨257, fn27_a, fn27_o, fn27_E, fn27⟩
theorem fn27_w : Walk Tryz.prog fn27_x fn27_D Tryz.f257 c257 17 fn27_A :=
  ⟨⟨Tryz.func257, by kernel_rfl, by kernel_rfl, by kernel_rfl, by decide, by kernel_rfl, Nat.le_of_ble_eq_true (by kernel_rfl)⟩, by kernel_rfl, by kernel_rfl, by kernel_rfl, kcast (by kernel_rfl) trivial, by kernel_rfl, fun x y => by kernel_rfl⟩
theorem fn27_s : fn27_D.Says Tryz.prog := fn27_w.says follows tabOk fn76_e_ok
noncomputable def fn27_e : Env := more fn76_e fn27_D
theorem fn27_e_ok : EnvOk Tryz.prog fn27_e := more_ok fn76_e_ok fn27_s
/-! loop.example/g01128/impl.isPairs -/
abbrev fn56_J0 : Tpl := ⟨[(0, .val (.list (.prod I I))), (1, .val I), (7, .val (.list (.prod I I))), (8, .val I), (9, .val I)], [], []⟩
abbrev fn56_J1 : Tpl := ⟨[(4, .val .bool)], [], []⟩
abbrev fn56_J2 : Tpl := ⟨[], [], []⟩
abbrev fn56_E : Ve.End := ⟨[⟨4, .shr, .bool, none⟩], []⟩
abbrev fn56_a : List ASh := [.val (.list (.prod I I)), .val I]
abbrev fn56_o : List OSh := []
abbrev fn56_O0 : Out := .or .ret fn56_J1 (.one (.ex 0) fn56_J2)
noncomputable def fn56_B0 : fn56_J0.P → Option (fn56_J0.P ⊕ fn56_O0.P)
  | ((list, below, t7, t8, t9, ()), ()) => bif (decide (t9 < t8)) then (guardB (inb t9 (List.length t7)) (bif (decide (((List.getD t7 (Int.toNat t9) ((0 : Int), (0 : Int))).1) < (0 : Int))) then (some (.inr (.inl ((false, ()), ())))) else (bif (decide (((List.getD t7 (Int.toNat t9) ((0 : Int), (0 : Int))).2) ≤ ((List.getD t7 (Int.toNat t9) ((0 : Int), (0 : Int))).1))) then (some (.inr (.inl ((false, ()), ())))) else (bif (decide (below ≤ ((List.getD t7 (Int.toNat t9) ((0 : Int), (0 : Int))).2))) then (some (.inr (.inl ((false, ()), ())))) else (bif (decide ((0 : Int) < t9)) then (guardB (inb (w64 (t9 - (1 : Int))) (List.length list)) (match fn27 ((List.getD list (Int.toNat (w64 (t9 - (1 : Int)))) ((0 : Int), (0 : Int))), (List.getD t7 (Int.toNat t9) ((0 : Int), (0 : Int))), ()) () with | some ((r, ()), ()) => (bif (decide ((0 : Int) ≤ r)) then (some (.inr (.inl ((false, ()), ())))) else (some (.inl ((list, below, t7, t8, (w64 (t9 + (1 : Int))), ()), ())))) | none => none)) else (some (.inl ((list, below, t7, t8, (w64 (t9 + (1 : Int))), ()), ())))))))) else (some (.inr (.inr ((), ()))))
noncomputable def fn56 : argP fn56_a → obP (extObs 0 fn56_o) → Option fn56_E.P
  | (list, below, ()), () => match loopO fn56_B0 ((list, below, list, (List.length list : Int), (0 : Int), ()), ()) with | some (.inl ((t4, ()), ())) => some ((t4, ()), ()) | some (.inr ((), ())) => some ((true, ()), ()) | none => none
noncomputable def fn56_x : Cx := ⟨tab, fn27_e, fun _ _ => 0, fun _ => false, [(40, 0), (40, 1), (40, 2), (40, 3)], [(6, 0)]⟩
noncomputable def c264 : Code := bodyOf Tryz.f264
noncomputable def fn56_A : Ann := .seq .nil (.seq (.seq .nil (.loop fn56_J0 fn56_O0 fn56_B0 (.seq .nil (.seq .nil (.seq (.seq .nil (.seq (.draw [(0, .flo), (1, .flo), (2, .flo), (3, .flo), (4, .flo), (6, .flo), (5, .qui), (7, .qui), (8, .flo), (9, .flo), (10, .flo), (11, .flo), (13, .flo), (12, .qui), (14, .flo), (15, .flo), (16, .flo), (17, .flo), (18, .flo), (19, .flo), (20, .flo), (21, .flo), (22, .flo), (23, .flo), (24, .qui), (25, .qui), (26, .sole), (27, .flo), (28, .flo), (29, .flo)]) .nil)) .nil))))) .nil)
theorem fn56_r0 (p : fn56_J0.P) : run fn56_x (subc [1, 0, 1, 0, 0] c264) (.seq .nil (.seq .nil (.seq (.seq .nil (.seq (.draw [(0, .flo), (1, .flo), (2, .flo), (3, .flo), (4, .flo), (6, .flo), (5, .qui), (7, .qui), (8, .flo), (9, .flo), (10, .flo), (11, .flo), (13, .flo), (12, .qui), (14, .flo), (15, .flo), (16, .flo), (17, .flo), (18, .flo), (19, .flo), (20, .flo), (21, .flo), (22, .flo), (23, .flo), (24, .qui), (25, .qui), (26, .sole), (27, .flo), (28, .flo), (29, .flo)]) .nil)) .nil))) (fn56_J0.S p) (leaf fn56_J0 fn56_O0) = fn56_B0 p := by kernel_rfl
noncomputable def fn56_D : Ve.Fn := ⟨264, fn56_a, fn56_o, fn56_E, fn56⟩
theorem fn56_w : Walk Tryz.prog fn56_x fn56_D Tryz.f264 c264 45 fn56_A :=
  ⟨⟨Tryz.func264, by kernel_rfl, by kernel_rfl, by kernel_rfl, by decide, by kernel_rfl, Nat.le_of_ble_eq_true (by kernel_rfl)⟩, by kernel_rfl, by kernel_rfl, by kernel_rfl, kcast (by kernel_rfl) (⟨fn56_r0, trivial⟩ : (∀ p, run fn56_x (subc [1, 0, 1, 0, 0] c264) (.seq .nil (.seq .nil (.seq (.seq .nil (.seq (.draw [(0, .flo), (1, .flo), (2, .flo), (3, .flo), (4, .flo), (6, .flo), (5, .qui), (7, .qui), (8, .flo), (9, .flo), (10, .flo), (11, .flo), (13, .flo), (12, .qui), (14, .flo), (15, .flo), (16, .flo), (17, .flo), (18, .flo), (19, .flo), (20, .flo), (21, .flo), (22, .flo), (23, .flo), (24, .qui), (25, .qui), (26, .sole), (27, .flo), (28, .flo), (29, .flo)]) .nil)) .nil))) (fn56_J0.S p) (leaf fn56_J0 fn56_O0) = fn56_B0 p) ∧ True), by kernel_rfl, fun x y => by kernel_rfl⟩
theorem fn56_s : fn56_D.Says Tryz.prog := fn56_w.says follows tabOk fn27_e_ok
noncomputable def fn56_e : Env := more fn27_e fn56_D
theorem fn56_e_ok : EnvOk Tryz.prog fn56_e := more_ok fn27_e_ok fn56_s
/-! loop.example/g01128/impl.IsGraph -/
abbrev fn51_E : Ve.End := ⟨[⟨2, .shr, .bool, none⟩], []⟩
abbrev fn51_a : List ASh := [.val (.prod I (.list (.prod I I)))]
abbrev fn51_o : List OSh := []
noncomputable def fn51 : argP fn51_a → obP (extObs 0 fn51_o) → Option fn51_E.P
  | (g, ()), () => match fn55 (g.1, (0 : Int), (8 : Int), ()) () with | some ((r, ()), ()) => (bif r then (match fn56 (g.2, g.1, ()) () with | some ((r2, ()), ()) => some ((r2, ()), ()) | none => none) else (some ((false, ()), ()))) | none => none
noncomputable def fn51_x : Cx := ⟨tab, fn56_e, fun _ _ => 0, fun _ => false, [(5, 0), (5, 1), (5, 2), (5, 3), (11, 0), (11, 1), (11, 2), (11, 3)], [(1, 0)]⟩
noncomputable def c170 : Code := bodyOf Tryz.f170
noncomputable def fn51_A : Ann := .nil
noncomputable def fn51_D : Ve.Fn := ⟨170, fn51_a, fn51_o, fn51_E, fn51⟩
theorem fn51_w : Walk Tryz.prog fn51_x fn51_D Tryz.f170 c170 13 fn51_A :=
  ⟨⟨Tryz.func170, by kernel_rfl, by kernel_rfl, by kernel_rfl, by decide, by kernel_rfl, Nat.le_of_ble_eq_true (by kernel_rfl)⟩, by kernel_rfl, by kernel_rfl, by kernel_rfl, kcast (by kernel_rfl) trivial, by kernel_rfl, fun x y => by kernel_rfl⟩
theorem fn51_s : fn51_D.Says Tryz.prog := fn51_w.says follows tabOk fn56_e_ok
noncomputable def fn51_e : Env := more fn56_e fn51_D
theorem fn51_e_ok : EnvOk Tryz.prog fn51_e := more_ok fn56_e_ok fn51_s
/-! (loop.example/g01128/impl.Graph).all -/
abbrev fn35_E : Ve.End := ⟨[⟨2, .shr, (.int .u64), none⟩], []⟩
abbrev fn35_a : List ASh := [.val (.prod I (.list (.prod I I)))]
abbrev fn35_o : List OSh := []
noncomputable def fn35 : argP fn35_a → obP (extObs 0 fn35_o) → Option fn35_E.P
  | (g, ()), () => guardB (decide (0 ≤ g.1)) (some (((IntKind.wrap .u64 ((IntKind.wrap .u64 ((1 : Int) * 2 ^ (min (Int.toNat g.1) 64))) - (1 : Int))), ()), ()))
noncomputable def fn35_x : Cx := ⟨tab, fn51_e, fun _ _ => 0, fun _ => false, [], [(1, 0)]⟩
noncomputable def c275 : Code := bodyOf Tryz.f275
noncomputable def fn35_A : Ann := .nil
noncomputable def fn35_D : Ve.Fn := ⟨275, fn35_a, fn35_o, fn35_E, fn35⟩
theorem fn35_w : Walk Tryz.prog fn35_x fn35_D Tryz.f275 c275 7 fn35_A :=
  ⟨⟨Tryz.func275, by kernel_rfl, by kernel_rfl, by kernel_rfl, by decide, by kernel_rfl, Nat.le_of_ble_eq_true (by kernel_rfl)⟩, by kernel_rfl, by kernel_rfl, by kernel_rfl, kcast (by kernel_rfl) trivial, by kernel_rfl, fun x y => by kernel_rfl⟩
theorem fn35_s : fn35_D.Says Tryz.prog := fn35_w.says follows tabOk fn51_e_ok
noncomputable def fn35_e : Env := more fn51_e fn35_D
theorem fn35_e_ok : EnvOk Tryz.prog fn35_e := more_ok fn51_e_ok fn35_s
/-! (loop.example/g01128/impl.bag).list -/
abbrev fn44_J0 : Tpl := ⟨[(0, .val (.int .u64)), (3, .own .shr I), (6, .val I)], [], []⟩
abbrev fn44_J1 : Tpl := ⟨[(3, .own .shr I)], [], []⟩
abbrev fn44_E : Ve.End := ⟨[⟨2, (.own .shr), (.list I), none⟩], []⟩
abbrev fn44_a : List ASh := [.val (.int .u64)]
abbrev fn44_o : List OSh := []
abbrev fn44_O0 : Out := .one (.ex 0) fn44_J1
noncomputable def fn44_B0 : fn44_J0.P → Option (fn44_J0.P ⊕ fn44_O0.P)
  | ((b, out, t6, ()), ()) => bif (decide (t6 < (8 : Int))) then (guardB (decide (0 ≤ t6)) (bif ((IntKind.wrap .u64 (BitVec.ofInt 64 (Int.fdiv b (2 ^ (min (Int.toNat t6) 64))) &&& BitVec.ofInt 64 (1 : Int)).toNat) == (1 : Int)) then (guardB (decide ((List.length out + List.length [t6]) * 8 ≤ 70368744177664)) (some (.inl ((b, (out ++ [t6]), (w64 (t6 + (1 : Int))), ()), ())))) else (some (.inl ((b, out, (w64 (t6 + (1 : Int))), ()), ()))))) else (some (.inr ((out, ()), ())))
noncomputable def fn44 : argP fn44_a → obP (extObs 0 fn44_o) → Option fn44_E.P
  | (b, ()), () => match loopO fn44_B0 ((b, ([] : (List Int)), (0 : Int), ()), ()) with | some ((out, ()), ()) => some ((out, ()), ()) | none => none
noncomputable def fn44_x : Cx := ⟨tab, fn35_e, fun _ _ => 0, fun _ => false, [(16, 0)], []⟩
noncomputable def c277 : Code := bodyOf Tryz.f277
noncomputable def fn44_A : Ann := .seq .nil (.seq .nil (.seq (.seq .nil (.loop fn44_J0 fn44_O0 fn44_B0 .nil)) .nil))
theorem fn44_r0 (p : fn44_J0.P) : run fn44_x (subc [1, 1, 0, 1, 0, 0] c277) .nil (fn44_J0.S p) (leaf fn44_J0 fn44_O0) = fn44_B0 p := by kernel_rfl
noncomputable def fn44_D : Ve.Fn := ⟨277, fn44_a, fn44_o, fn44_E, fn44⟩
theorem fn44_w : Walk Tryz.prog fn44_x fn44_D Tryz.f277 c277 20 fn44_A :=
  ⟨⟨Tryz.func277, by kernel_rfl, by kernel_rfl, by kernel_rfl, by decide, by kernel_rfl, Nat.le_of_ble_eq_true (by kernel_rfl)⟩, by kernel_rfl, by kernel_rfl, by kernel_rfl, kcast (by kernel_rfl) (⟨fn44_r0, trivial⟩ : (∀ p, run fn44_x (subc [1, 1, 0, 1, 0, 0] c277) .nil (fn44_J0.S p) (leaf fn44_J0 fn44_O0) = fn44_B0 p) ∧ True), by kernel_rfl, fun x y => by kernel_rfl⟩
theorem fn44_s : fn44_D.Says Tryz.prog := fn44_w.says follows tabOk fn35_e_ok
noncomputable def fn44_e : Env := more fn35_e fn44_D
theorem fn44_e_ok : EnvOk Tryz.prog fn44_e := more_ok fn35_e_ok fn44_s
/-! loop.example/g01128/impl.pair -/
abbrev impl_pair_E : Ve.End := ⟨[⟨4, .shr, (.prod I I), some 72⟩], []⟩
abbrev impl_pair_a : List ASh := [.val I, .val I]
abbrev impl_pair_o : List OSh := []
noncomputable def impl_pair : argP impl_pair_a → obP (extObs 0 impl_pair_o) → Option impl_pair_E.P
  | (a, b, ()), () => some ((((bif decide (b < a) then b else a), (bif decide (a < b) then b else a)), ()), ())
noncomputable def impl_pair_x : Cx := ⟨tab, fn44_e, fun _ _ => 0, fun _ => false, [], []⟩
noncomputable def c255 : Code := bodyOf Tryz.f255
noncomputable def impl_pair_A : Ann := .nil
noncomputable def impl_pair_D : Ve.Fn := ⟨255, impl_pair_a, impl_pair_o, impl_pair_E, impl_pair⟩
theorem impl_pair_w : Walk Tryz.prog impl_pair_x impl_pair_D Tryz.f255 c255 12 impl_pair_A :=
  ⟨⟨Tryz.func255, by kernel_rfl, by kernel_rfl, by kernel_rfl, by decide, by kernel_rfl, Nat.le_of_ble_eq_true (by kernel_rfl)⟩, by kernel_rfl, by kernel_rfl, by kernel_rfl, kcast (by kernel_rfl) trivial, by kernel_rfl, fun x y => by kernel_rfl⟩
theorem impl_pair_s : impl_pair_D.Says Tryz.prog := impl_pair_w.says follows tabOk fn44_e_ok
noncomputable def impl_pair_e : Env := more fn44_e impl_pair_D
theorem impl_pair_e_ok : EnvOk Tryz.prog impl_pair_e := more_ok fn44_e_ok impl_pair_s
/-! slices.Index[[][2]int,[2]int] -/
abbrev fn11_J0 : Tpl := ⟨[(0, .val (.list (.prod I I))), (3, .cst (.prod I I)), (7, .val I), (8, .val I)], [], []⟩
abbrev fn11_J1 : Tpl := ⟨[(4, .val I)], [], []⟩
abbrev fn11_J2 : Tpl := ⟨[], [], []⟩
abbrev fn11_E : Ve.End := ⟨[⟨4, .shr, I, none⟩], []⟩
abbrev fn11_a : List ASh := [.val (.list (.prod I I)), .val (.prod I I)]
abbrev fn11_o : List OSh := []
abbrev fn11_O0 : Out := .or .ret fn11_J1 (.one (.ex 0) fn11_J2)
noncomputable def fn11_B0 : fn11_J0.P → Option (fn11_J0.P ⊕ fn11_O0.P)
  | ((s, v, t7, t8, ()), ()) => bif (decide (t8 < t7)) then (guardB (inb t8 (List.length s)) (bif ((v.1 == ((List.getD s (Int.toNat t8) ((0 : Int), (0 : Int))).1)) && (v.2 == ((List.getD s (Int.toNat t8) ((0 : Int), (0 : Int))).2))) then (some (.inr (.inl ((t8, ()), ())))) else (some (.inl ((s, v, t7, (w64 (t8 + (1 : Int))), ()), ()))))) else (some (.inr (.inr ((), ()))))
noncomputable def fn11 : argP fn11_a → obP (extObs 0 fn11_o) → Option fn11_E.P
  | (s, v, ()), () => match loopO fn11_B0 ((s, v, (List.length s : Int), (0 : Int), ()), ()) with | some (.inl ((t4, ()), ())) => some ((t4, ()), ()) | some (.inr ((), ())) => some (((-1 : Int), ()), ()) | none => none
noncomputable def fn11_x : Cx := ⟨tab, impl_pair_e, fun _ _ => 0, fun _ => false, [], [(3, 0)]⟩
noncomputable def c350 : Code := bodyOf Tryz.f350
noncomputable def fn11_A : Ann := .seq .nil (.seq (.seq .nil (.loop fn11_J0 fn11_O0 fn11_B0 (.seq .nil (.seq .nil (.seq (.seq .nil (.seq (.draw [(0, .flo), (1, .flo), (2, .flo), (3, .flo), (4, .flo), (5, .flo)]) .nil)) .nil))))) .nil)
theorem fn11_r0 (p : fn11_J0.P) : run fn11_x (subc [1, 0, 1, 0, 0] c350) (.seq .nil (.seq .nil (.seq (.seq .nil (.seq (.draw [(0, .flo), (1, .flo), (2, .flo), (3, .flo), (4, .flo), (5, .flo)]) .nil)) .nil))) (fn11_J0.S p) (leaf fn11_J0 fn11_O0) = fn11_B0 p := by kernel_rfl
noncomputable def fn11_D : Ve.Fn := ⟨350, fn11_a, fn11_o, fn11_E, fn11⟩
theorem fn11_w : Walk Tryz.prog fn11_x fn11_D Tryz.f350 c350 19 fn11_A :=
  ⟨⟨Tryz.func350, by kernel_rfl, by kernel_rfl, by kernel_rfl, by decide, by kernel_rfl, Nat.le_of_ble_eq_true (by kernel_rfl)⟩, by kernel_rfl, by kernel_rfl, by kernel_rfl, kcast (by kernel_rfl) (⟨fn11_r0, trivial⟩ : (∀ p, run fn11_x (subc [1, 0, 1, 0, 0] c350) (.seq .nil (.seq .nil (.seq (.seq .nil (.seq (.draw [(0, .flo), (1, .flo), (2, .flo), (3, .flo), (4, .flo), (5, .flo)]) .nil)) .nil))) (fn11_J0.S p) (leaf fn11_J0 fn11_O0) = fn11_B0 p) ∧ True), by kernel_rfl, fun x y => by kernel_rfl⟩
theorem fn11_s : fn11_D.Says Tryz.prog := fn11_w.says follows tabOk impl_pair_e_ok
noncomputable def fn11_e : Env := more impl_pair_e fn11_D
theorem fn11_e_ok : EnvOk Tryz.prog fn11_e := more_ok impl_pair_e_ok fn11_s
/-! slices.Contains[[][2]int,[2]int] -/
abbrev fn8_E : Ve.End := ⟨[⟨4, .shr, .bool, none⟩], []⟩
abbrev fn8_a : List ASh := [.val (.list (.prod I I)), .val (.prod I I)]
abbrev fn8_o : List OSh := []
noncomputable def fn8 : argP fn8_a → obP (extObs 0 fn8_o) → Option fn8_E.P
  | (s, v, ()), () => match fn11 (s, v, ()) () with | some ((r, ()), ()) => some (((decide ((0 : Int) ≤ r)), ()), ()) | none => none
noncomputable def fn8_x : Cx := ⟨tab, fn11_e, fun _ _ => 0, fun _ => false, [(7, 0), (7, 1), (7, 2), (7, 3)], [(3, 0)]⟩
noncomputable def c321 : Code := bodyOf Tryz.f321
noncomputable def fn8_A : Ann := .nil
noncomputable def fn8_D : Ve.Fn := ⟨321, fn8_a, fn8_o, fn8_E, fn8⟩
theorem fn8_w : Walk Tryz.prog fn8_x fn8_D Tryz.f321 c321 9 fn8_A :=
  ⟨⟨Tryz.func321, by kernel_rfl, by kernel_rfl, by kernel_rfl, by decide, by kernel_rfl, Nat.le_of_ble_eq_true (by kernel_rfl)⟩, by kernel_rfl, by kernel_rfl, by kernel_rfl, kcast (by kernel_rfl) trivial, by kernel_rfl, fun x y => by kernel_rfl⟩
theorem fn8_s : fn8_D.Says Tryz.prog := fn8_w.says follows tabOk fn11_e_ok
noncomputable def fn8_e : Env := more fn11_e fn8_D
theorem fn8_e_ok : EnvOk Tryz.prog fn8_e := more_ok fn11_e_ok fn8_s
/-! (loop.example/g01128/impl.Graph).has -/
abbrev fn36_E : Ve.End := ⟨[⟨6, .shr, .bool, none⟩], []⟩
abbrev fn36_a : List ASh := [.val (.prod I (.list (.prod I I))), .val I, .val I]
abbrev fn36_o : List OSh := []
noncomputable def fn36 : argP fn36_a → obP (extObs 0 fn36_o) → Option fn36_E.P
  | (g, a, b, ()), () => match impl_pair (a, b, ()) () with | some ((r, ()), ()) => (match fn8 (g.2, r, ()) () with | some ((r2, ()), ()) => some ((r2, ()), ()) | none => none) | none => none
noncomputable def fn36_x : Cx := ⟨tab, fn8_e, fun _ _ => 0, fun _ => false, [(11, 0), (11, 1), (11, 2), (11, 3), (12, 0), (12, 1), (12, 2), (12, 3)], [(3, 0)]⟩
noncomputable def c279 : Code := bodyOf Tryz.f279
noncomputable def fn36_A : Ann := .seq .nil (.seq (.draw [(0, .flo), (1, .flo), (2, .flo), (3, .flo), (4, .sole), (5, .sole), (6, .flo)]) .nil)
noncomputable def fn36_D : Ve.Fn := ⟨279, fn36_a, fn36_o, fn36_E, fn36⟩
theorem fn36_w : Walk Tryz.prog fn36_x fn36_D Tryz.f279 c279 13 fn36_A :=
  ⟨⟨Tryz.func279, by kernel_rfl, by kernel_rfl, by kernel_rfl, by decide, by kernel_rfl, Nat.le_of_ble_eq_true (by kernel_rfl)⟩, by kernel_rfl, by kernel_rfl, by kernel_rfl, kcast (by kernel_rfl) trivial, by kernel_rfl, fun x y => by kernel_rfl⟩
theorem fn36_s : fn36_D.Says Tryz.prog := fn36_w.says follows tabOk fn8_e_ok
noncomputable def fn36_e : Env := more fn8_e fn36_D
theorem fn36_e_ok : EnvOk Tryz.prog fn36_e := more_ok fn8_e_ok fn36_s
/-! (loop.example/g01128/impl.Graph).neighbors -/
abbrev fn20_J0 : Tpl := ⟨[(1, .val I), (2, .cst (.prod I (.list (.prod I I)))), (5, .own .shr I), (9, .val I), (10, .val I)], [], []⟩
abbrev fn20_J1 : Tpl := ⟨[(5, .own .shr I)], [], []⟩
abbrev fn20_E : Ve.End := ⟨[⟨4, (.own .shr), (.list I), none⟩], []⟩
abbrev fn20_a : List ASh := [.val (.prod I (.list (.prod I I))), .val I]
abbrev fn20_o : List OSh := []
abbrev fn20_O0 : Out := .one (.ex 0) fn20_J1
noncomputable def fn20_B0 : fn20_J0.P → Option (fn20_J0.P ⊕ fn20_O0.P)
  | ((x, g, out, t9, t10, ()), ()) => bif (decide (t10 < t9)) then (bif (t10 != x) then (match fn36 (g, x, t10, ()) () with | some ((r, ()), ()) => (bif r then (guardB (decide ((List.length out + List.length [t10]) * 8 ≤ 70368744177664)) (some (.inl ((x, g, (out ++ [t10]), t9, (w64 (t10 + (1 : Int))), ()), ())))) else (some (.inl ((x, g, out, t9, (w64 (t10 + (1 : Int))), ()), ())))) | none => none) else (some (.inl ((x, g, out, t9, (w64 (t10 + (1 : Int))), ()), ())))) else (some (.inr ((out, ()), ())))
noncomputable def fn20 : argP fn20_a → obP (extObs 0 fn20_o) → Option fn20_E.P
  | (g, x, ()), () => match loopO fn20_B0 ((x, g, ([] : (List Int)), g.1, (0 : Int), ()), ()) with | some ((out, ()), ()) => some ((out, ()), ()) | none => none
noncomputable def fn20_x : Cx := ⟨tab, fn36_e, fun _ _ => 0, fun _ => false, [(20, 0), (20, 1), (20, 2), (20, 3), (24, 0)], [(2, 0)]⟩
noncomputable def c172 : Code := bodyOf Tryz.f172
noncomputable def fn20_A : Ann := .seq .nil (.seq .nil (.seq (.seq .nil (.loop fn20_J0 fn20_O0 fn20_B0 .nil)) .nil))
theorem fn20_r0 (p : fn20_J0.P) : run fn20_x (subc [1, 1, 0, 1, 0, 0] c172) .nil (fn20_J0.S p) (leaf fn20_J0 fn20_O0) = fn20_B0 p := by kernel_rfl
noncomputable def fn20_D : Ve.Fn := ⟨172, fn20_a, fn20_o, fn20_E, fn20⟩
theorem fn20_w : Walk Tryz.prog fn20_x fn20_D Tryz.f172 c172 28 fn20_A :=
  ⟨⟨Tryz.func172, by kernel_rfl, by kernel_rfl, by kernel_rfl, by decide, by kernel_rfl, Nat.le_of_ble_eq_true (by kernel_rfl)⟩, by kernel_rfl, by kernel_rfl, by kernel_rfl, kcast (by kernel_rfl) (⟨fn20_r0, trivial⟩ : (∀ p, run fn20_x (subc [1, 1, 0, 1, 0, 0] c172) .nil (fn20_J0.S p) (leaf fn20_J0 fn20_O0) = fn20_B0 p) ∧ True), by kernel_rfl, fun x y => by kernel_rfl⟩
theorem fn20_s : fn20_D.Says Tryz.prog := fn20_w.says follows tabOk fn36_e_ok
noncomputable def fn20_e : Env := more fn36_e fn20_D
theorem fn20_e_ok : EnvOk Tryz.prog fn20_e := more_ok fn36_e_ok fn20_s
/-! loop.example/g01128/impl.bagOf -/
abbrev fn77_J0 : Tpl := ⟨[(3, .val (.int .u64)), (6, .val (.list I)), (7, .val I), (8, .val I)], [], []⟩
abbrev fn77_J1 : Tpl := ⟨[(3, .val (.int .u64))], [], []⟩
abbrev fn77_E : Ve.End := ⟨[⟨2, .shr, (.int .u64), none⟩], []⟩
abbrev fn77_a : List ASh := [.val (.list I)]
abbrev fn77_o : List OSh := []
abbrev fn77_O0 : Out := .one (.ex 0) fn77_J1
noncomputable def fn77_B0 : fn77_J0.P → Option (fn77_J0.P ⊕ fn77_O0.P)
  | ((out, t6, t7, t8, ()), ()) => bif (decide (t8 < t7)) then (guardB (inb t8 (List.length t6)) (guardB (decide (0 ≤ (List.getD t6 (Int.toNat t8) (0 : Int)))) (some (.inl (((IntKind.wrap .u64 (BitVec.ofInt 64 out ||| BitVec.ofInt 64 (IntKind.wrap .u64 ((1 : Int) * 2 ^ (min (Int.toNat (List.getD t6 (Int.toNat t8) (0 : Int))) 64)))).toNat), t6, t7, (w64 (t8 + (1 : Int))), ()), ()))))) else (some (.inr ((out, ()), ())))
noncomputable def fn77 : argP fn77_a → obP (extObs 0 fn77_o) → Option fn77_E.P
  | (list, ()), () => match loopO fn77_B0 (((0 : Int), list, (List.length list : Int), (0 : Int), ()), ()) with | some ((out, ()), ()) => some ((out, ()), ()) | none => none
noncomputable def fn77_x : Cx := ⟨tab, fn20_e, fun _ _ => 0, fun _ => false, [], []⟩
noncomputable def c319 : Code := bodyOf Tryz.f319
noncomputable def fn77_A : Ann := .seq .nil (.seq .nil (.seq (.seq .nil (.loop fn77_J0 fn77_O0 fn77_B0 .nil)) .nil))
theorem fn77_r0 (p : fn77_J0.P) : run fn77_x (subc [1, 1, 0, 1, 0, 0] c319) .nil (fn77_J0.S p) (leaf fn77_J0 fn77_O0) = fn77_B0 p := by kernel_rfl
noncomputable def fn77_D : Ve.Fn := ⟨319, fn77_a, fn77_o, fn77_E, fn77⟩
theorem fn77_w : Walk Tryz.prog fn77_x fn77_D Tryz.f319 c319 18 fn77_A :=
  ⟨⟨Tryz.func319, by kernel_rfl, by kernel_rfl, by kernel_rfl, by decide, by kernel_rfl, Nat.le_of_ble_eq_true (by kernel_rfl)⟩, by kernel_rfl, by kernel_rfl, by kernel_rfl, kcast (by kernel_rfl) (⟨fn77_r0, trivial⟩ : (∀ p, run fn77_x (subc [1, 1, 0, 1, 0, 0] c319) .nil (fn77_J0.S p) (leaf fn77_J0 fn77_O0) = fn77_B0 p) ∧ True), by kernel_rfl, fun x y => by kernel_rfl⟩
theorem fn77_s : fn77_D.Says Tryz.prog := fn77_w.says follows tabOk fn20_e_ok
noncomputable def fn77_e : Env := more fn20_e fn77_D
theorem fn77_e_ok : EnvOk Tryz.prog fn77_e := more_ok fn20_e_ok fn77_s
/-! (loop.example/g01128/impl.bag).has -/
abbrev fn54_E : Ve.End := ⟨[⟨4, .shr, .bool, none⟩], []⟩
abbrev fn54_a : List ASh := [.val (.int .u64), .val I]
abbrev fn54_o : List OSh := []
noncomputable def fn54 : argP fn54_a → obP (extObs 0 fn54_o) → Option fn54_E.P
  | (b, x, ()), () => guardB (decide (0 ≤ x)) (some ((((IntKind.wrap .u64 (BitVec.ofInt 64 (Int.fdiv b (2 ^ (min (Int.toNat x) 64))) &&& BitVec.ofInt 64 (1 : Int)).toNat) == (1 : Int)), ()), ()))
noncomputable def fn54_x : Cx := ⟨tab, fn77_e, fun _ _ => 0, fun _ => false, [], []⟩
noncomputable def c320 : Code := bodyOf Tryz.f320
noncomputable def fn54_A : Ann := .nil
noncomputable def fn54_D : Ve.Fn := ⟨320, fn54_a, fn54_o, fn54_E, fn54⟩
theorem fn54_w : Walk Tryz.prog fn54_x fn54_D Tryz.f320 c320 10 fn54_A :=
  ⟨⟨Tryz.func320, by kernel_rfl, by kernel_rfl, by kernel_rfl, by decide, by kernel_rfl, Nat.le_of_ble_eq_true (by kernel_rfl)⟩, by kernel_rfl, by kernel_rfl, by kernel_rfl, kcast (by kernel_rfl) trivial, by kernel_rfl, fun x y => by kernel_rfl⟩
theorem fn54_s : fn54_D.Says Tryz.prog := fn54_w.says follows tabOk fn77_e_ok
noncomputable def fn54_e : Env := more fn77_e fn54_D
theorem fn54_e_ok : EnvOk Tryz.prog fn54_e := more_ok fn77_e_ok fn54_s
/-! (loop.example/g01128/impl.Graph).covers -/
abbrev fn26_E : Ve.End := ⟨[⟨8, .shr, .bool, none⟩], []⟩
abbrev fn26_a : List ASh := [.val (.prod I (.list (.prod I I))), .val (.int .u64), .val I, .val I]
abbrev fn26_o : List OSh := []
noncomputable def fn26 : argP fn26_a → obP (extObs 0 fn26_o) → Option fn26_E.P
  | (g, set, x, y, ()), () => match fn20 (g, x, ()) () with | some ((r, ()), ()) => (match fn77 (r, ()) () with | some ((r2, ()), ()) => (match fn54 ((IntKind.wrap .u64 (BitVec.ofInt 64 r2 &&& BitVec.ofInt 64 set).toNat), y, ()) () with | some ((r3, ()), ()) => (bif r3 then (guardB (decide (0 ≤ y)) (match fn20 (g, y, ()) () with | some ((r4, ()), ()) => (match fn77 (r4, ()) () with | some ((r5, ()), ()) => some ((((IntKind.wrap .u64 (BitVec.ofInt 64 (IntKind.wrap .u64 (BitVec.ofInt 64 r5 ||| BitVec.ofInt 64 (IntKind.wrap .u64 ((1 : Int) * 2 ^ (min (Int.toNat y) 64)))).toNat) &&& BitVec.ofInt 64 (IntKind.wrap .u64 (BitVec.ofInt 64 r2 &&& BitVec.ofInt 64 set).toNat)).toNat) == (IntKind.wrap .u64 (BitVec.ofInt 64 r2 &&& BitVec.ofInt 64 set).toNat)), ()), ()) | none => none) | none => none)) else (some ((false, ()), ()))) | none => none) | none => none) | none => none
noncomputable def fn26_x : Cx := ⟨tab, fn54_e, fun _ _ => 0, fun _ => false, [(12, 0), (12, 1), (12, 2), (12, 3), (13, 0), (13, 1), (13, 2), (13, 3), (18, 0), (18, 1), (18, 2), (18, 3), (22, 0), (22, 1), (22, 2), (22, 3), (23, 0), (23, 1), (23, 2), (23, 3)], [(4, 0)]⟩
noncomputable def c278 : Code := bodyOf Tryz.f278
noncomputable def fn26_A : Ann := .seq .nil (.seq .nil (.seq (.draw [(0, .flo), (1, .flo), (2, .sole), (3, .flo), (4, .flo), (5, .flo), (8, .flo), (9, .flo), (11, .flo), (13, .flo), (6, .sole), (7, .sole), (10, .flo), (12, .flo), (14, .flo), (15, .flo), (16, .flo)]) .nil))
noncomputable def fn26_D : Ve.Fn := ⟨278, fn26_a, fn26_o, fn26_E, fn26⟩
theorem fn26_w : Walk Tryz.prog fn26_x fn26_D Tryz.f278 c278 32 fn26_A :=
  ⟨⟨Tryz.func278, by kernel_rfl, by kernel_rfl, by kernel_rfl, by decide, by kernel_rfl, Nat.le_of_ble_eq_true (by kernel_rfl)⟩, by kernel_rfl, by kernel_rfl, by kernel_rfl, kcast (by kernel_rfl) trivial, by kernel_rfl, fun x y => by kernel_rfl⟩
theorem fn26_s : fn26_D.Says Tryz.prog := fn26_w.says follows tabOk fn54_e_ok
noncomputable def fn26_e : Env := more fn54_e fn26_D
theorem fn26_e_ok : EnvOk Tryz.prog fn26_e := more_ok fn54_e_ok fn26_s
/-! (loop.example/g01128/impl.Graph).folds$1 -/
abbrev fn7_J0 : Tpl := ⟨[(0, .ptr (1000000, 0)), (1, .cst (.prod I (.list (.prod I I)))), (2, .ptr (1000001, 0)), (5, .val I), (9, .val (.list I)), (10, .val I), (11, .val I), (16, .val (.list I)), (17, .val I), (18, .val I)], [((1000000, 0), .box .shr (.int .u64)), ((1000001, 0), .box (.own .shr) (.list (.prod I I)))], []⟩
abbrev fn7_J1 : Tpl := ⟨[(3, .val .bool)], [((1000000, 0), .box .shr (.int .u64)), ((1000001, 0), .box (.own .shr) (.list (.prod I I)))], []⟩
abbrev fn7_J2 : Tpl := ⟨[(0, .ptr (1000000, 0)), (1, .cst (.prod I (.list (.prod I I)))), (2, .ptr (1000001, 0)), (9, .val (.list I)), (10, .val I), (11, .val I)], [((1000000, 0), .box .shr (.int .u64)), ((1000001, 0), .box (.own .shr) (.list (.prod I I)))], []⟩
abbrev fn7_J3 : Tpl := ⟨[], [((1000000, 0), .box .shr (.int .u64)), ((1000001, 0), .box (.own .shr) (.list (.prod I I)))], []⟩
abbrev fn7_E : Ve.End := ⟨[⟨3, .shr, .bool, none⟩], [.box .shr (.int .u64), .box (.own .shr) (.list (.prod I I))]⟩
abbrev fn7_a : List ASh := [.adr 0, .cst (.prod I (.list (.prod I I))), .adr 1]
abbrev fn7_o : List OSh := [.box .shr (.int .u64), .box (.own .shr) (.list (.prod I I))]
abbrev fn7_O0 : Out := .or .ret fn7_J1 (.one (.ex 2) fn7_J2)
noncomputable def fn7_B0 : fn7_J0.P → Option (fn7_J0.P ⊕ fn7_O0.P)
  | ((t1, x, t9, t10, t11, t16, t17, t18, ()), (o0, o1, ())) => bif (decide (t18 < t17)) then (guardB (inb t18 (List.length t16)) (match fn26 (t1, o0, x, (List.getD t16 (Int.toNat t18) (0 : Int)), ()) () with | some ((r, ()), ()) => (bif r then (guardB (decide ((List.length o1 + List.length [(x, (List.getD t16 (Int.toNat t18) (0 : Int)))]) * 16 ≤ 70368744177664)) (guardB (decide (0 ≤ x)) (some (.inr (.inl ((true, ()), ((IntKind.wrap .u64 (BitVec.ofInt 64 o0 &&& ~~~ BitVec.ofInt 64 (IntKind.wrap .u64 ((1 : Int) * 2 ^ (min (Int.toNat x) 64)))).toNat), (o1 ++ [(x, (List.getD t16 (Int.toNat t18) (0 : Int)))]), ()))))))) else (some (.inl ((t1, x, t9, t10, t11, t16, t17, (w64 (t18 + (1 : Int))), ()), (o0, o1, ()))))) | none => none)) else (some (.inr (.inr ((t1, t9, t10, t11, ()), (o0, o1, ())))))
abbrev fn7_O1 : Out := .or .ret fn7_J1 (.one (.ex 0) fn7_J3)
noncomputable def fn7_B1 : fn7_J2.P → Option (fn7_J2.P ⊕ fn7_O1.P)
  | ((t1, t9, t10, t11, ()), (o0, o1, ())) => bif (decide (t11 < t10)) then (guardB (inb t11 (List.length t9)) (match fn44 (o0, ()) () with | some ((r, ()), ()) => (match loopO fn7_B0 ((t1, (List.getD t9 (Int.toNat t11) (0 : Int)), t9, t10, t11, r, (List.length r : Int), (0 : Int), ()), (o0, o1, ())) with | some (.inl ((t3, ()), (o0_2, o1_2, ()))) => some (.inr (.inl ((t3, ()), (o0_2, o1_2, ())))) | some (.inr ((t1_2, t9_2, t10_2, t11_2, ()), (o0_3, o1_3, ()))) => some (.inl ((t1_2, t9_2, t10_2, (w64 (t11_2 + (1 : Int))), ()), (o0_3, o1_3, ()))) | none => none) | none => none)) else (some (.inr (.inr ((), (o0, o1, ())))))
noncomputable def fn7 : argP fn7_a → obP (extObs 0 fn7_o) → Option fn7_E.P
  | (t1, ()), (o0, o1, ()) => match fn44 (o0, ()) () with | some ((r, ()), ()) => (match loopO fn7_B1 ((t1, r, (List.length r : Int), (0 : Int), ()), (o0, o1, ())) with | some (.inl ((t3, ()), (o0_2, o1_2, ()))) => some ((t3, ()), (o0_2, o1_2, ())) | some (.inr ((), (o0_3, o1_3, ()))) => some ((false, ()), (o0_3, o1_3, ())) | none => none) | none => none
noncomputable def fn7_x : Cx := ⟨tab, fn26_e, fun _ _ => 0, fun _ => false, [(9, 0), (9, 1), (9, 2), (9, 3), (16, 0), (16, 1), (16, 2), (16, 3), (26, 0), (26, 1), (26, 2), (26, 3), (31, 0)], []⟩
noncomputable def c276 : Code := bodyOf Tryz.f276
noncomputable def fn7_A : Ann := .seq .nil (.seq (.seq .nil (.loop fn7_J2 fn7_O1 fn7_B1 (.seq .nil (.seq .nil (.seq (.seq .nil (.seq .nil (.loop fn7_J0 fn7_O0 fn7_B0 (.seq .nil (.seq .nil (.seq (.seq .nil (.seq .nil (.seq (.seq .nil (.seq (.draw [(1, .flo), (2, .flo), (0, .qui), (3, .flo), (4, .sole)]) .nil)) .nil))) .nil)))))) .nil))))) .nil)
theorem fn7_r0 (p : fn7_J2.P) : run fn7_x (subc [1, 0, 1, 0, 0] c276) (.seq .nil (.seq .nil (.seq (.seq .nil (.seq .nil (.loop fn7_J0 fn7_O0 fn7_B0 (.seq .nil (.seq .nil (.seq (.seq .nil (.seq .nil (.seq (.seq .nil (.seq (.draw [(1, .flo), (2, .flo), (0, .qui), (3, .flo), (4, .sole)]) .nil)) .nil))) .nil)))))) .nil))) (fn7_J2.S p) (leaf fn7_J2 fn7_O1) = fn7_B1 p := by kernel_rfl
theorem fn7_r1 (p : fn7_J0.P) : run fn7_x (subc [1, 0, 1, 0, 0, 1, 1, 0, 0, 1, 1, 0, 0] c276) (.seq .nil (.seq .nil (.seq (.seq .nil (.seq .nil (.seq (.seq .nil (.seq (.draw [(1, .flo), (2, .flo), (0, .qui), (3, .flo), (4, .sole)]) .nil)) .nil))) .nil))) (fn7_J0.S p) (leaf fn7_J0 fn7_O0) = fn7_B0 p := by kernel_rfl
noncomputable def fn7_D : Ve.Fn := ⟨276, fn7_a, fn7_o, fn7_E, fn7⟩
theorem fn7_w : Walk Tryz.prog fn7_x fn7_D Tryz.f276 c276 39 fn7_A :=
  ⟨⟨Tryz.func276, by kernel_rfl, by kernel_rfl, by kernel_rfl, by decide, by kernel_rfl, Nat.le_of_ble_eq_true (by kernel_rfl)⟩, by kernel_rfl, by kernel_rfl, by kernel_rfl, kcast (by kernel_rfl) (⟨fn7_r0, fn7_r1, trivial⟩ : (∀ p, run fn7_x (subc [1, 0, 1, 0, 0] c276) (.seq .nil (.seq .nil (.seq (.seq .nil (.seq .nil (.loop fn7_J0 fn7_O0 fn7_B0 (.seq .nil (.seq .nil (.seq (.seq .nil (.seq .nil (.seq (.seq .nil (.seq (.draw [(1, .flo), (2, .flo), (0, .qui), (3, .flo), (4, .sole)]) .nil)) .nil))) .nil)))))) .nil))) (fn7_J2.S p) (leaf fn7_J2 fn7_O1) = fn7_B1 p) ∧ (∀ p, run fn7_x (subc [1, 0, 1, 0, 0, 1, 1, 0, 0, 1, 1, 0, 0] c276) (.seq .nil (.seq .nil (.seq (.seq .nil (.seq .nil (.seq (.seq .nil (.seq (.draw [(1, .flo), (2, .flo), (0, .qui), (3, .flo), (4, .sole)]) .nil)) .nil))) .nil))) (fn7_J0.S p) (leaf fn7_J0 fn7_O0) = fn7_B0 p) ∧ True), by kernel_rfl, fun x y => by kernel_rfl⟩
theorem fn7_s : fn7_D.Says Tryz.prog := fn7_w.says follows tabOk fn26_e_ok
noncomputable def fn7_e : Env := more fn26_e fn7_D
theorem fn7_e_ok : EnvOk Tryz.prog fn7_e := more_ok fn26_e_ok fn7_s
/-! (loop.example/g01128/impl.Graph).folds -/
abbrev fn28_J0 : Tpl := ⟨[(3, .ptr (3, 0)), (5, .fn ⟨276, [(4, 0), (1, 0), (3, 0)]⟩)], [((3, 0), .box (.own .shr) (.list (.prod I I))), ((4, 0), .box .shr (.int .u64)), ((1, 0), .box .shr (.prod I (.list (.prod I I))))], []⟩
abbrev fn28_J1 : Tpl := ⟨[(3, .ptr (3, 0))], [((3, 0), .box (.own .shr) (.list (.prod I I)))], []⟩
abbrev fn28_E : Ve.End := ⟨[⟨2, (.own .shr), (.list (.prod I I)), none⟩], []⟩
abbrev fn28_a : List ASh := [.val (.prod I (.list (.prod I I)))]
abbrev fn28_o : List OSh := []
abbrev fn28_O0 : Out := .one (.ex 0) fn28_J1
noncomputable def fn28_B0 : fn28_J0.P → Option (fn28_J0.P ⊕ fn28_O0.P)
  | ((), (out, set, g, ())) => match fn7 (g, ()) (set, out, ()) with | some ((r, ()), (o, o2, ())) => (bif r then (some (.inl ((), (o2, o, g, ())))) else (some (.inr ((), (o2, ()))))) | none => none
noncomputable def fn28 : argP fn28_a → obP (extObs 0 fn28_o) → Option fn28_E.P
  | (g, ()), () => match fn35 (g, ()) () with | some ((r, ()), ()) => (match loopO fn28_B0 ((), (([] : (List (Int × Int))), r, g, ())) with | some ((), (out, ())) => some ((out, ()), ()) | none => none) | none => none
noncomputable def fn28_x : Cx := ⟨tab, fn7_e, fun f n => bif Nat.beq f 276 && Nat.beq n 0 then 1 else bif Nat.beq f 276 && Nat.beq n 2 then 1 else 0, fun _ => false, [(8, 0), (8, 1), (8, 2), (8, 3), (11, 0), (11, 1), (11, 2), (11, 3)], []⟩
noncomputable def c171 : Code := bodyOf Tryz.f171
noncomputable def fn28_A : Ann := .seq .nil (.seq .nil (.seq .nil (.seq (.loop fn28_J0 fn28_O0 fn28_B0 .nil) .nil)))
theorem fn28_r0 (p : fn28_J0.P) : run fn28_x (subc [1, 1, 1, 0, 0, 0] c171) .nil (fn28_J0.S p) (leaf fn28_J0 fn28_O0) = fn28_B0 p := by kernel_rfl
noncomputable def fn28_D : Ve.Fn := ⟨171, fn28_a, fn28_o, fn28_E, fn28⟩
theorem fn28_w : Walk Tryz.prog fn28_x fn28_D Tryz.f171 c171 13 fn28_A :=
  ⟨⟨Tryz.func171, by kernel_rfl, by kernel_rfl, by kernel_rfl, by decide, by kernel_rfl, Nat.le_of_ble_eq_true (by kernel_rfl)⟩, by kernel_rfl, by kernel_rfl, by kernel_rfl, kcast (by kernel_rfl) (⟨fn28_r0, trivial⟩ : (∀ p, run fn28_x (subc [1, 1, 1, 0, 0, 0] c171) .nil (fn28_J0.S p) (leaf fn28_J0 fn28_O0) = fn28_B0 p) ∧ True), by kernel_rfl, fun x y => by kernel_rfl⟩
theorem fn28_s : fn28_D.Says Tryz.prog := fn28_w.says follows tabOk fn7_e_ok
noncomputable def fn28_e : Env := more fn7_e fn28_D
theorem fn28_e_ok : EnvOk Tryz.prog fn28_e := more_ok fn7_e_ok fn28_s
/-! loop.example/g01128/impl.FoldOrder -/
abbrev fn34_E : Ve.End := ⟨[⟨2, (.own .shr), (.list (.prod I I)), none⟩, ⟨3, .shr, .bool, none⟩], []⟩
abbrev fn34_a : List ASh := [.val (.prod I (.list (.prod I I)))]
abbrev fn34_o : List OSh := []
noncomputable def fn34 : argP fn34_a → obP (extObs 0 fn34_o) → Option fn34_E.P
  | (h, ()), () => match fn51 (h, ()) () with | some ((r, ()), ()) => (bif (!r) then (some ((([] : (List (Int × Int))), false, ()), ())) else (bif (h.1 == (0 : Int)) then (some ((([] : (List (Int × Int))), false, ()), ())) else (match fn28 (h, ()) () with | some ((r2, ()), ()) => some ((r2, true, ()), ()) | none => none))) | none => none
noncomputable def fn34_x : Cx := ⟨tab, fn28_e, fun _ _ => 0, fun _ => false, [(5, 0), (5, 1), (5, 2), (5, 3)], [(1, 0)]⟩
noncomputable def c51 : Code := bodyOf Tryz.f51
noncomputable def fn34_A : Ann := .nil
noncomputable def fn34_D : Ve.Fn := ⟨51, fn34_a, fn34_o, fn34_E, fn34⟩
theorem fn34_w : Walk Tryz.prog fn34_x fn34_D Tryz.f51 c51 14 fn34_A :=
  ⟨⟨Tryz.func51, by kernel_rfl, by kernel_rfl, by kernel_rfl, by decide, by kernel_rfl, Nat.le_of_ble_eq_true (by kernel_rfl)⟩, by kernel_rfl, by kernel_rfl, by kernel_rfl, kcast (by kernel_rfl) trivial, by kernel_rfl, fun x y => by kernel_rfl⟩
theorem fn34_s : fn34_D.Says Tryz.prog := fn34_w.says follows tabOk fn28_e_ok
noncomputable def fn34_e : Env := more fn28_e fn34_D
theorem fn34_e_ok : EnvOk Tryz.prog fn34_e := more_ok fn28_e_ok fn34_s
/-! loop.example/g01128/impl.CanFold -/
abbrev fn50_E : Ve.End := ⟨[⟨2, .shr, .bool, none⟩, ⟨3, .shr, .bool, none⟩], []⟩
abbrev fn50_a : List ASh := [.val (.prod I (.list (.prod I I)))]
abbrev fn50_o : List OSh := []
noncomputable def fn50 : argP fn50_a → obP (extObs 0 fn50_o) → Option fn50_E.P
  | (h, ()), () => match fn34 (h, ()) () with | some ((r, r2, ()), ()) => (bif r2 then (some ((((List.length r : Int) == (w64 (h.1 - (1 : Int)))), r2, ()), ())) else (some ((false, r2, ()), ()))) | none => none
noncomputable def fn50_x : Cx := ⟨tab, fn34_e, fun _ _ => 0, fun _ => false, [(8, 0), (8, 1), (8, 2), (8, 3), (4, 0)], [(1, 0)]⟩
noncomputable def c49 : Code := bodyOf Tryz.f49
noncomputable def fn50_A : Ann := .nil
noncomputable def fn50_D : Ve.Fn := ⟨49, fn50_a, fn50_o, fn50_E, fn50⟩
theorem fn50_w : Walk Tryz.prog fn50_x fn50_D Tryz.f49 c49 21 fn50_A :=
  ⟨⟨Tryz.func49, by kernel_rfl, by kernel_rfl, by kernel_rfl, by decide, by kernel_rfl, Nat.le_of_ble_eq_true (by kernel_rfl)⟩, by kernel_rfl, by kernel_rfl, by kernel_rfl, kcast (by kernel_rfl) trivial, by kernel_rfl, fun x y => by kernel_rfl⟩
theorem fn50_s : fn50_D.Says Tryz.prog := fn50_w.says follows tabOk fn34_e_ok
noncomputable def fn50_e : Env := more fn34_e fn50_D
theorem fn50_e_ok : EnvOk Tryz.prog fn50_e := more_ok fn34_e_ok fn50_s
/-! loop.example/g01128/spec.l1In -/
abbrev spec_l1In_E : Ve.End := ⟨[⟨6, .shr, .bool, none⟩], []⟩
abbrev spec_l1In_a : List ASh := [.val I, .val I, .val I]
abbrev spec_l1In_o : List OSh := []
noncomputable def spec_l1In : argP spec_l1In_a → obP (extObs 0 spec_l1In_o) → Option spec_l1In_E.P
  | (x, a, b, ()), () => bif (decide (a ≤ x)) then (some (((decide (x ≤ b)), ()), ())) else (some ((false, ()), ()))
noncomputable def spec_l1In_x : Cx := ⟨tab, fn50_e, fun _ _ => 0, fun _ => false, [], []⟩
noncomputable def c165 : Code := bodyOf Tryz.f165
noncomputable def spec_l1In_A : Ann := .nil
noncomputable def spec_l1In_D : Ve.Fn := ⟨165, spec_l1In_a, spec_l1In_o, spec_l1In_E, spec_l1In⟩
theorem spec_l1In_w : Walk Tryz.prog spec_l1In_x spec_l1In_D Tryz.f165 c165 15 spec_l1In_A :=
  ⟨⟨Tryz.func165, by kernel_rfl, by kernel_rfl, by kernel_rfl, by decide, by kernel_rfl, Nat.le_of_ble_eq_true (by kernel_rfl)⟩, by kernel_rfl, by kernel_rfl, by kernel_rfl, kcast (by kernel_rfl) trivial, by kernel_rfl, fun x y => by kernel_rfl⟩
theorem spec_l1In_s : spec_l1In_D.Says Tryz.prog := spec_l1In_w.says follows tabOk fn50_e_ok
noncomputable def spec_l1In_e : Env := more fn50_e spec_l1In_D
theorem spec_l1In_e_ok : EnvOk Tryz.prog spec_l1In_e := more_ok fn50_e_ok spec_l1In_s
/-! loop.example/g01128/spec.l2Pairs -/
abbrev fn64_J0 : Tpl := ⟨[(0, .val (.list (.prod I I))), (1, .val I), (5, .val I)], [], []⟩
abbrev fn64_J1 : Tpl := ⟨[(4, .val .bool)], [], []⟩
abbrev fn64_J2 : Tpl := ⟨[], [], []⟩
abbrev fn64_E : Ve.End := ⟨[⟨4, .shr, .bool, none⟩], []⟩
abbrev fn64_a : List ASh := [.val (.list (.prod I I)), .val I]
abbrev fn64_o : List OSh := []
abbrev fn64_O0 : Out := .or .ret fn64_J1 (.one (.ex 0) fn64_J2)
noncomputable def fn64_B0 : fn64_J0.P → Option (fn64_J0.P ⊕ fn64_O0.P)
  | ((pairs, n, i, ()), ()) => bif (decide (i < (List.length pairs : Int))) then (guardB (inb i (List.length pairs)) (match spec_l1In ((List.getD pairs (Int.toNat i) ((0 : Int), (0 : Int))).1, (0 : Int), (w64 (n - (1 : Int))), ()) () with | some ((r, ()), ()) => (bif (!r) then (some (.inr (.inl ((false, ()), ())))) else (match spec_l1In ((List.getD pairs (Int.toNat i) ((0 : Int), (0 : Int))).2, (0 : Int), (w64 (n - (1 : Int))), ()) () with | some ((r2, ()), ()) => (bif (!r2) then (some (.inr (.inl ((false, ()), ())))) else (bif (decide (((List.getD pairs (Int.toNat i) ((0 : Int), (0 : Int))).2) ≤ ((List.getD pairs (Int.toNat i) ((0 : Int), (0 : Int))).1))) then (some (.inr (.inl ((false, ()), ())))) else (bif (decide ((0 : Int) < i)) then (guardB (inb (w64 (i - (1 : Int))) (List.length pairs)) (match fn73 ((List.getD pairs (Int.toNat (w64 (i - (1 : Int)))) ((0 : Int), (0 : Int))), (List.getD pairs (Int.toNat i) ((0 : Int), (0 : Int))), ()) () with | some ((r3, ()), ()) => (bif (!r3) then (some (.inr (.inl ((false, ()), ())))) else (some (.inl ((pairs, n, (w64 (i + (1 : Int))), ()), ())))) | none => none)) else (some (.inl ((pairs, n, (w64 (i + (1 : Int))), ()), ())))))) | none => none)) | none => none)) else (some (.inr (.inr ((), ()))))
noncomputable def fn64 : argP fn64_a → obP (extObs 0 fn64_o) → Option fn64_E.P
  | (pairs, n, ()), () => match loopO fn64_B0 ((pairs, n, (0 : Int), ()), ()) with | some (.inl ((t4, ()), ())) => some ((t4, ()), ()) | some (.inr ((), ())) => some ((true, ()), ()) | none => none
noncomputable def fn64_x : Cx := ⟨tab, spec_l1In_e, fun _ _ => 0, fun _ => false, [(21, 0), (21, 1), (21, 2), (21, 3), (28, 0), (28, 1), (28, 2), (28, 3), (48, 0), (48, 1), (48, 2), (48, 3)], [(6, 0)]⟩
noncomputable def c271 : Code := bodyOf Tryz.f271
noncomputable def fn64_A : Ann := .seq .nil (.seq (.seq .nil (.loop fn64_J0 fn64_O0 fn64_B0 (.seq .nil (.seq (.seq .nil (.seq (.draw [(0, .flo), (1, .flo), (2, .flo), (3, .flo), (4, .sole), (5, .flo), (6, .flo), (7, .flo), (9, .flo), (10, .flo), (8, .qui), (11, .sole), (12, .flo), (13, .flo), (14, .flo), (15, .flo), (17, .flo), (16, .qui), (18, .qui), (19, .flo), (20, .flo), (21, .flo), (22, .flo), (23, .flo), (24, .flo), (25, .flo), (26, .flo), (27, .flo), (28, .flo), (29, .qui), (30, .qui), (31, .sole), (32, .flo), (33, .flo), (34, .flo)]) .nil)) .nil)))) .nil)
theorem fn64_r0 (p : fn64_J0.P) : run fn64_x (subc [1, 0, 1, 0, 0] c271) (.seq .nil (.seq (.seq .nil (.seq (.draw [(0, .flo), (1, .flo), (2, .flo), (3, .flo), (4, .sole), (5, .flo), (6, .flo), (7, .flo), (9, .flo), (10, .flo), (8, .qui), (11, .sole), (12, .flo), (13, .flo), (14, .flo), (15, .flo), (17, .flo), (16, .qui), (18, .qui), (19, .flo), (20, .flo), (21, .flo), (22, .flo), (23, .flo), (24, .flo), (25, .flo), (26, .flo), (27, .flo), (28, .flo), (29, .qui), (30, .qui), (31, .sole), (32, .flo), (33, .flo), (34, .flo)]) .nil)) .nil)) (fn64_J0.S p) (leaf fn64_J0 fn64_O0) = fn64_B0 p := by kernel_rfl
noncomputable def fn64_D : Ve.Fn := ⟨271, fn64_a, fn64_o, fn64_E, fn64⟩
theorem fn64_w : Walk Tryz.prog fn64_x fn64_D Tryz.f271 c271 52 fn64_A :=
  ⟨⟨Tryz.func271, by kernel_rfl, by kernel_rfl, by kernel_rfl, by decide, by kernel_rfl, Nat.le_of_ble_eq_true (by kernel_rfl)⟩, by kernel_rfl, by kernel_rfl, by kernel_rfl, kcast (by kernel_rfl) (⟨fn64_r0, trivial⟩ : (∀ p, run fn64_x (subc [1, 0, 1, 0, 0] c271) (.seq .nil (.seq (.seq .nil (.seq (.draw [(0, .flo), (1, .flo), (2, .flo), (3, .flo), (4, .sole), (5, .flo), (6, .flo), (7, .flo), (9, .flo), (10, .flo), (8, .qui), (11, .sole), (12, .flo), (13, .flo), (14, .flo), (15, .flo), (17, .flo), (16, .qui), (18, .qui), (19, .flo), (20, .flo), (21, .flo), (22, .flo), (23, .flo), (24, .flo), (25, .flo), (26, .flo), (27, .flo), (28, .flo), (29, .qui), (30, .qui), (31, .sole), (32, .flo), (33, .flo), (34, .flo)]) .nil)) .nil)) (fn64_J0.S p) (leaf fn64_J0 fn64_O0) = fn64_B0 p) ∧ True), by kernel_rfl, fun x y => by kernel_rfl⟩
theorem fn64_s : fn64_D.Says Tryz.prog := fn64_w.says follows tabOk spec_l1In_e_ok
noncomputable def fn64_e : Env := more spec_l1In_e fn64_D
theorem fn64_e_ok : EnvOk Tryz.prog fn64_e := more_ok spec_l1In_e_ok fn64_s
/-! loop.example/g01128/spec.l2Good -/
abbrev fn74_E : Ve.End := ⟨[⟨2, .shr, .bool, none⟩], []⟩
abbrev fn74_a : List ASh := [.val (.prod I (.list (.prod I I)))]
abbrev fn74_o : List OSh := []
noncomputable def fn74 : argP fn74_a → obP (extObs 0 fn74_o) → Option fn74_E.P
  | (g, ()), () => match spec_l1In (g.1, (0 : Int), (8 : Int), ()) () with | some ((r, ()), ()) => (bif r then (match fn64 (g.2, g.1, ()) () with | some ((r2, ()), ()) => some ((r2, ()), ()) | none => none) else (some ((false, ()), ()))) | none => none
noncomputable def fn74_x : Cx := ⟨tab, fn64_e, fun _ _ => 0, fun _ => false, [(5, 0), (5, 1), (5, 2), (5, 3), (11, 0), (11, 1), (11, 2), (11, 3)], [(1, 0)]⟩
noncomputable def c168 : Code := bodyOf Tryz.f168
noncomputable def fn74_A : Ann := .nil
noncomputable def fn74_D : Ve.Fn := ⟨168, fn74_a, fn74_o, fn74_E, fn74⟩
theorem fn74_w : Walk Tryz.prog fn74_x fn74_D Tryz.f168 c168 13 fn74_A :=
  ⟨⟨Tryz.func168, by kernel_rfl, by kernel_rfl, by kernel_rfl, by decide, by kernel_rfl, Nat.le_of_ble_eq_true (by kernel_rfl)⟩, by kernel_rfl, by kernel_rfl, by kernel_rfl, kcast (by kernel_rfl) trivial, by kernel_rfl, fun x y => by kernel_rfl⟩
theorem fn74_s : fn74_D.Says Tryz.prog := fn74_w.says follows tabOk fn64_e_ok
noncomputable def fn74_e : Env := more fn64_e fn74_D
theorem fn74_e_ok : EnvOk Tryz.prog fn74_e := more_ok fn64_e_ok fn74_s
/-! loop.example/g01128/spec.l2Bits -/
abbrev fn72_J0 : Tpl := ⟨[(0, .val I), (1, .val I), (5, .own .shr I), (6, .val I)], [], []⟩
abbrev fn72_J1 : Tpl := ⟨[(5, .own .shr I)], [], []⟩
abbrev fn72_E : Ve.End := ⟨[⟨4, (.own .shr), (.list I), none⟩], []⟩
abbrev fn72_a : List ASh := [.val I, .val I]
abbrev fn72_o : List OSh := []
abbrev fn72_O0 : Out := .one (.ex 0) fn72_J1
noncomputable def fn72_B0 : fn72_J0.P → Option (fn72_J0.P ⊕ fn72_O0.P)
  | ((n, code, out, x, ()), ()) => bif (decide (x < n)) then (guardB (decide (0 ≤ x)) (bif ((IntKind.wrap .i64 (BitVec.ofInt 64 (Int.fdiv code (2 ^ (min (Int.toNat x) 64))) &&& BitVec.ofInt 64 (1 : Int)).toNat) == (1 : Int)) then (guardB (decide ((List.length out + List.length [x]) * 8 ≤ 70368744177664)) (some (.inl ((n, code, (out ++ [x]), (w64 (x + (1 : Int))), ()), ())))) else (some (.inl ((n, code, out, (w64 (x + (1 : Int))), ()), ()))))) else (some (.inr ((out, ()), ())))
noncomputable def fn72 : argP fn72_a → obP (extObs 0 fn72_o) → Option fn72_E.P
  | (n, code, ()), () => match loopO fn72_B0 ((n, code, ([] : (List Int)), (0 : Int), ()), ()) with | some ((out, ()), ()) => some ((out, ()), ()) | none => none
noncomputable def fn72_x : Cx := ⟨tab, fn74_e, fun _ _ => 0, fun _ => false, [(20, 0)], []⟩
noncomputable def c272 : Code := bodyOf Tryz.f272
noncomputable def fn72_A : Ann := .seq .nil (.seq .nil (.seq (.seq .nil (.loop fn72_J0 fn72_O0 fn72_B0 .nil)) .nil))
theorem fn72_r0 (p : fn72_J0.P) : run fn72_x (subc [1, 1, 0, 1, 0, 0] c272) .nil (fn72_J0.S p) (leaf fn72_J0 fn72_O0) = fn72_B0 p := by kernel_rfl
noncomputable def fn72_D : Ve.Fn := ⟨272, fn72_a, fn72_o, fn72_E, fn72⟩
theorem fn72_w : Walk Tryz.prog fn72_x fn72_D Tryz.f272 c272 23 fn72_A :=
  ⟨⟨Tryz.func272, by kernel_rfl, by kernel_rfl, by kernel_rfl, by decide, by kernel_rfl, Nat.le_of_ble_eq_true (by kernel_rfl)⟩, by kernel_rfl, by kernel_rfl, by kernel_rfl, kcast (by kernel_rfl) (⟨fn72_r0, trivial⟩ : (∀ p, run fn72_x (subc [1, 1, 0, 1, 0, 0] c272) .nil (fn72_J0.S p) (leaf fn72_J0 fn72_O0) = fn72_B0 p) ∧ True), by kernel_rfl, fun x y => by kernel_rfl⟩
theorem fn72_s : fn72_D.Says Tryz.prog := fn72_w.says follows tabOk fn74_e_ok
noncomputable def fn72_e : Env := more fn74_e fn72_D
theorem fn72_e_ok : EnvOk Tryz.prog fn72_e := more_ok fn74_e_ok fn72_s
/-! loop.example/g01128/spec.l2Near -/
abbrev fn75_J0 : Tpl := ⟨[(1, .val I), (2, .val I), (3, .cst (.prod I (.list (.prod I I)))), (7, .val I)], [], []⟩
abbrev fn75_J1 : Tpl := ⟨[(6, .val .bool)], [], []⟩
abbrev fn75_J2 : Tpl := ⟨[], [], []⟩
abbrev fn75_E : Ve.End := ⟨[⟨6, .shr, .bool, none⟩], []⟩
abbrev fn75_a : List ASh := [.val (.prod I (.list (.prod I I))), .val I, .val I]
abbrev fn75_o : List OSh := []
abbrev fn75_O0 : Out := .or .ret fn75_J1 (.one (.ex 0) fn75_J2)
noncomputable def fn75_B0 : fn75_J0.P → Option (fn75_J0.P ⊕ fn75_O0.P)
  | ((a, b, g, i, ()), ()) => bif (decide (i < (List.length g.2 : Int))) then (guardB (inb i (List.length g.2)) (bif (((List.getD g.2 (Int.toNat i) ((0 : Int), (0 : Int))).1) == a) then (bif (((List.getD g.2 (Int.toNat i) ((0 : Int), (0 : Int))).2) == b) then (some (.inr (.inl ((true, ()), ())))) else (bif (((List.getD g.2 (Int.toNat i) ((0 : Int), (0 : Int))).1) == b) then (bif (((List.getD g.2 (Int.toNat i) ((0 : Int), (0 : Int))).2) == a) then (some (.inr (.inl ((true, ()), ())))) else (some (.inl ((a, b, g, (w64 (i + (1 : Int))), ()), ())))) else (some (.inl ((a, b, g, (w64 (i + (1 : Int))), ()), ()))))) else (bif (((List.getD g.2 (Int.toNat i) ((0 : Int), (0 : Int))).1) == b) then (bif (((List.getD g.2 (Int.toNat i) ((0 : Int), (0 : Int))).2) == a) then (some (.inr (.inl ((true, ()), ())))) else (some (.inl ((a, b, g, (w64 (i + (1 : Int))), ()), ())))) else (some (.inl ((a, b, g, (w64 (i + (1 : Int))), ()), ())))))) else (some (.inr (.inr ((), ()))))
noncomputable def fn75 : argP fn75_a → obP (extObs 0 fn75_o) → Option fn75_E.P
  | (g, a, b, ()), () => match loopO fn75_B0 ((a, b, g, (0 : Int), ()), ()) with | some (.inl ((t6, ()), ())) => some ((t6, ()), ()) | some (.inr ((), ())) => some ((false, ()), ()) | none => none
noncomputable def fn75_x : Cx := ⟨tab, fn72_e, fun _ _ => 0, fun _ => false, [], [(3, 0), (8, 0)]⟩
noncomputable def c281 : Code := bodyOf Tryz.f281
noncomputable def fn75_A : Ann := .seq .nil (.seq (.seq .nil (.loop fn75_J0 fn75_O0 fn75_B0 .nil)) .nil)
theorem fn75_r0 (p : fn75_J0.P) : run fn75_x (subc [1, 0, 1, 0, 0] c281) .nil (fn75_J0.S p) (leaf fn75_J0 fn75_O0) = fn75_B0 p := by kernel_rfl
noncomputable def fn75_D : Ve.Fn := ⟨281, fn75_a, fn75_o, fn75_E, fn75⟩
theorem fn75_w : Walk Tryz.prog fn75_x fn75_D Tryz.f281 c281 43 fn75_A :=
  ⟨⟨Tryz.func281, by kernel_rfl, by kernel_rfl, by kernel_rfl, by decide, by kernel_rfl, Nat.le_of_ble_eq_true (by kernel_rfl)⟩, by kernel_rfl, by kernel_rfl, by kernel_rfl, kcast (by kernel_rfl) (⟨fn75_r0, trivial⟩ : (∀ p, run fn75_x (subc [1, 0, 1, 0, 0] c281) .nil (fn75_J0.S p) (leaf fn75_J0 fn75_O0) = fn75_B0 p) ∧ True), by kernel_rfl, fun x y => by kernel_rfl⟩
theorem fn75_s : fn75_D.Says Tryz.prog := fn75_w.says follows tabOk fn72_e_ok
noncomputable def fn75_e : Env := more fn72_e fn75_D
theorem fn75_e_ok : EnvOk Tryz.prog fn75_e := more_ok fn72_e_ok fn75_s
/-! loop.example/g01128/spec.l10Covers -/
abbrev fn40_J0 : Tpl := ⟨[(1, .val (.list I)), (2, .val I), (3, .val I), (4, .cst (.prod I (.list (.prod I I)))), (9, .val I)], [], []⟩
abbrev fn40_J1 : Tpl := ⟨[(8, .val .bool)], [], []⟩
abbrev fn40_J2 : Tpl := ⟨[], [], []⟩
abbrev fn40_E : Ve.End := ⟨[⟨8, .shr, .bool, none⟩], []⟩
abbrev fn40_a : List ASh := [.val (.prod I (.list (.prod I I))), .val (.list I), .val I, .val I]
abbrev fn40_o : List OSh := []
abbrev fn40_O0 : Out := .or .ret fn40_J1 (.one (.ex 0) fn40_J2)
noncomputable def fn40_B0 : fn40_J0.P → Option (fn40_J0.P ⊕ fn40_O0.P)
  | ((left, x, y, h, i, ()), ()) => bif (decide (i < (List.length left : Int))) then (guardB (inb i (List.length left)) (bif ((List.getD left (Int.toNat i) (0 : Int)) == x) then (bif ((List.getD left (Int.toNat i) (0 : Int)) != y) then (match fn75 (h, y, (List.getD left (Int.toNat i) (0 : Int)), ()) () with | some ((r, ()), ()) => (bif (!r) then (some (.inr (.inl ((false, ()), ())))) else (some (.inl ((left, x, y, h, (w64 (i + (1 : Int))), ()), ())))) | none => none) else (some (.inl ((left, x, y, h, (w64 (i + (1 : Int))), ()), ())))) else (match fn75 (h, x, (List.getD left (Int.toNat i) (0 : Int)), ()) () with | some ((r2, ()), ()) => (bif r2 then (bif ((List.getD left (Int.toNat i) (0 : Int)) != y) then (match fn75 (h, y, (List.getD left (Int.toNat i) (0 : Int)), ()) () with | some ((r3, ()), ()) => (bif (!r3) then (some (.inr (.inl ((false, ()), ())))) else (some (.inl ((left, x, y, h, (w64 (i + (1 : Int))), ()), ())))) | none => none) else (some (.inl ((left, x, y, h, (w64 (i + (1 : Int))), ()), ())))) else (some (.inl ((left, x, y, h, (w64 (i + (1 : Int))), ()), ())))) | none => none))) else (some (.inr (.inr ((), ()))))
noncomputable def fn40 : argP fn40_a → obP (extObs 0 fn40_o) → Option fn40_E.P
  | (h, left, x, y, ()), () => match loopO fn40_B0 ((left, x, y, h, (0 : Int), ()), ()) with | some (.inl ((t8, ()), ())) => some ((t8, ()), ()) | some (.inr ((), ())) => some ((true, ()), ()) | none => none
noncomputable def fn40_x : Cx := ⟨tab, fn75_e, fun _ _ => 0, fun _ => false, [(28, 0), (28, 1), (28, 2), (28, 3), (39, 0), (39, 1), (39, 2), (39, 3)], [(4, 0)]⟩
noncomputable def c318 : Code := bodyOf Tryz.f318
noncomputable def fn40_A : Ann := .seq .nil (.seq (.seq .nil (.loop fn40_J0 fn40_O0 fn40_B0 .nil)) .nil)
theorem fn40_r0 (p : fn40_J0.P) : run fn40_x (subc [1, 0, 1, 0, 0] c318) .nil (fn40_J0.S p) (leaf fn40_J0 fn40_O0) = fn40_B0 p := by kernel_rfl
noncomputable def fn40_D : Ve.Fn := ⟨318, fn40_a, fn40_o, fn40_E, fn40⟩
theorem fn40_w : Walk Tryz.prog fn40_x fn40_D Tryz.f318 c318 42 fn40_A :=
  ⟨⟨Tryz.func318, by kernel_rfl, by kernel_rfl, by kernel_rfl, by decide, by kernel_rfl, Nat.le_of_ble_eq_true (by kernel_rfl)⟩, by kernel_rfl, by kernel_rfl, by kernel_rfl, kcast (by kernel_rfl) (⟨fn40_r0, trivial⟩ : (∀ p, run fn40_x (subc [1, 0, 1, 0, 0] c318) .nil (fn40_J0.S p) (leaf fn40_J0 fn40_O0) = fn40_B0 p) ∧ True), by kernel_rfl, fun x y => by kernel_rfl⟩
theorem fn40_s : fn40_D.Says Tryz.prog := fn40_w.says follows tabOk fn75_e_ok
noncomputable def fn40_e : Env := more fn75_e fn40_D
theorem fn40_e_ok : EnvOk Tryz.prog fn40_e := more_ok fn75_e_ok fn40_s
/-! loop.example/g01128/spec.l10Fold -/
abbrev fn61_J0 : Tpl := ⟨[(1, .val (.list I)), (2, .cst (.prod I (.list (.prod I I)))), (4, .ptr (4, 0)), (5, .val I), (6, .val I)], [((4, 0), .box .shr (.prod I I))], []⟩
abbrev fn61_J1 : Tpl := ⟨[(4, .ptr (4, 0))], [((4, 0), .box .shr (.prod I I))], []⟩
abbrev fn61_J2 : Tpl := ⟨[(1, .val (.list I)), (2, .cst (.prod I (.list (.prod I I)))), (4, .ptr (4, 0)), (5, .val I)], [((4, 0), .box .shr (.prod I I))], []⟩
abbrev fn61_E : Ve.End := ⟨[⟨4, .shr, (.prod I I), some 72⟩], []⟩
abbrev fn61_a : List ASh := [.val (.prod I (.list (.prod I I))), .val (.list I)]
abbrev fn61_o : List OSh := []
abbrev fn61_O0 : Out := .or .ret fn61_J1 (.one (.ex 2) fn61_J2)
noncomputable def fn61_B0 : fn61_J0.P → Option (fn61_J0.P ⊕ fn61_O0.P)
  | ((left, h, i, k, ()), (t4, ())) => bif (decide (k < (List.length left : Int))) then (bif (i != k) then (guardB (inb i (List.length left)) (guardB (inb k (List.length left)) (match fn40 (h, left, (List.getD left (Int.toNat i) (0 : Int)), (List.getD left (Int.toNat k) (0 : Int)), ()) () with | some ((r, ()), ()) => (bif r then (guardB (inb i (List.length left)) (guardB (inb k (List.length left)) (some (.inr (.inl ((), (((List.getD left (Int.toNat i) (0 : Int)), (List.getD left (Int.toNat k) (0 : Int))), ()))))))) else (some (.inl ((left, h, i, (w64 (k + (1 : Int))), ()), (t4, ()))))) | none => none))) else (some (.inl ((left, h, i, (w64 (k + (1 : Int))), ()), (t4, ()))))) else (some (.inr (.inr ((left, h, i, ()), (t4, ())))))
abbrev fn61_O1 : Out := .or .ret fn61_J1 (.one (.ex 0) fn61_J1)
noncomputable def fn61_B1 : fn61_J2.P → Option (fn61_J2.P ⊕ fn61_O1.P)
  | ((left, h, i, ()), (t4, ())) => bif (decide (i < (List.length left : Int))) then (match loopO fn61_B0 ((left, h, i, (0 : Int), ()), (t4, ())) with | some (.inl ((), (t4_2, ()))) => some (.inr (.inl ((), (t4_2, ())))) | some (.inr ((left2, h2, i2, ()), (t4_3, ()))) => some (.inl ((left2, h2, (w64 (i2 + (1 : Int))), ()), (t4_3, ()))) | none => none) else (some (.inr (.inr ((), (t4, ())))))
noncomputable def fn61 : argP fn61_a → obP (extObs 0 fn61_o) → Option fn61_E.P
  | (h, left, ()), () => match loopO fn61_B1 ((left, h, (0 : Int), ()), (((0 : Int), (0 : Int)), ())) with | some (.inl ((), (t4, ()))) => some ((t4, ()), ()) | some (.inr ((), (t4_2, ()))) => some ((((-1 : Int), (-1 : Int)), ()), ()) | none => none
noncomputable def fn61_x : Cx := ⟨tab, fn40_e, fun _ _ => 0, fun _ => false, [(33, 0), (33, 1), (33, 2), (33, 3)], [(2, 0)]⟩
noncomputable def c273 : Code := bodyOf Tryz.f273
noncomputable def fn61_A : Ann := .seq .nil (.seq (.seq .nil (.loop fn61_J2 fn61_O1 fn61_B1 (.seq .nil (.seq (.seq .nil (.loop fn61_J0 fn61_O0 fn61_B0 (.seq .nil (.seq (.seq (.draw [(0, .flo), (1, .flo), (2, .flo), (3, .flo), (4, .flo), (5, .flo), (6, .flo), (7, .flo), (8, .flo), (9, .flo), (10, .flo), (11, .flo), (12, .flo), (13, .flo), (14, .sole), (15, .flo)]) (.seq (.seq (.draw [(0, .flo), (1, .flo), (2, .flo), (3, .flo), (4, .flo), (5, .flo), (6, .flo), (7, .flo), (8, .flo), (9, .sole)]) .nil) .nil)) .nil)))) .nil)))) .nil)
theorem fn61_r0 (p : fn61_J2.P) : run fn61_x (subc [1, 0, 1, 0, 0] c273) (.seq .nil (.seq (.seq .nil (.loop fn61_J0 fn61_O0 fn61_B0 (.seq .nil (.seq (.seq (.draw [(0, .flo), (1, .flo), (2, .flo), (3, .flo), (4, .flo), (5, .flo), (6, .flo), (7, .flo), (8, .flo), (9, .flo), (10, .flo), (11, .flo), (12, .flo), (13, .flo), (14, .sole), (15, .flo)]) (.seq (.seq (.draw [(0, .flo), (1, .flo), (2, .flo), (3, .flo), (4, .flo), (5, .flo), (6, .flo), (7, .flo), (8, .flo), (9, .sole)]) .nil) .nil)) .nil)))) .nil)) (fn61_J2.S p) (leaf fn61_J2 fn61_O1) = fn61_B1 p := by kernel_rfl
theorem fn61_r1 (p : fn61_J0.P) : run fn61_x (subc [1, 0, 1, 0, 0, 1, 0, 0, 1, 0, 0] c273) (.seq .nil (.seq (.seq (.draw [(0, .flo), (1, .flo), (2, .flo), (3, .flo), (4, .flo), (5, .flo), (6, .flo), (7, .flo), (8, .flo), (9, .flo), (10, .flo), (11, .flo), (12, .flo), (13, .flo), (14, .sole), (15, .flo)]) (.seq (.seq (.draw [(0, .flo), (1, .flo), (2, .flo), (3, .flo), (4, .flo), (5, .flo), (6, .flo), (7, .flo), (8, .flo), (9, .sole)]) .nil) .nil)) .nil)) (fn61_J0.S p) (leaf fn61_J0 fn61_O0) = fn61_B0 p := by kernel_rfl
noncomputable def fn61_D : Ve.Fn := ⟨273, fn61_a, fn61_o, fn61_E, fn61⟩
theorem fn61_w : Walk Tryz.prog fn61_x fn61_D Tryz.f273 c273 45 fn61_A :=
  ⟨⟨Tryz.func273, by kernel_rfl, by kernel_rfl, by kernel_rfl, by decide, by kernel_rfl, Nat.le_of_ble_eq_true (by kernel_rfl)⟩, by kernel_rfl, by kernel_rfl, by kernel_rfl, kcast (by kernel_rfl) (⟨fn61_r0, fn61_r1, trivial⟩ : (∀ p, run fn61_x (subc [1, 0, 1, 0, 0] c273) (.seq .nil (.seq (.seq .nil (.loop fn61_J0 fn61_O0 fn61_B0 (.seq .nil (.seq (.seq (.draw [(0, .flo), (1, .flo), (2, .flo), (3, .flo), (4, .flo), (5, .flo), (6, .flo), (7, .flo), (8, .flo), (9, .flo), (10, .flo), (11, .flo), (12, .flo), (13, .flo), (14, .sole), (15, .flo)]) (.seq (.seq (.draw [(0, .flo), (1, .flo), (2, .flo), (3, .flo), (4, .flo), (5, .flo), (6, .flo), (7, .flo), (8, .flo), (9, .sole)]) .nil) .nil)) .nil)))) .nil)) (fn61_J2.S p) (leaf fn61_J2 fn61_O1) = fn61_B1 p) ∧ (∀ p, run fn61_x (subc [1, 0, 1, 0, 0, 1, 0, 0, 1, 0, 0] c273) (.seq .nil (.seq (.seq (.draw [(0, .flo), (1, .flo), (2, .flo), (3, .flo), (4, .flo), (5, .flo), (6, .flo), (7, .flo), (8, .flo), (9, .flo), (10, .flo), (11, .flo), (12, .flo), (13, .flo), (14, .sole), (15, .flo)]) (.seq (.seq (.draw [(0, .flo), (1, .flo), (2, .flo), (3, .flo), (4, .flo), (5, .flo), (6, .flo), (7, .flo), (8, .flo), (9, .sole)]) .nil) .nil)) .nil)) (fn61_J0.S p) (leaf fn61_J0 fn61_O0) = fn61_B0 p) ∧ True), by kernel_rfl, fun x y => by kernel_rfl⟩
theorem fn61_s : fn61_D.Says Tryz.prog := fn61_w.says follows tabOk fn40_e_ok
noncomputable def fn61_e : Env := more fn40_e fn61_D
theorem fn61_e_ok : EnvOk Tryz.prog fn61_e := more_ok fn40_e_ok fn61_s
/-! loop.example/g01128/spec.l4Without -/
abbrev fn41_J0 : Tpl := ⟨[(0, .val (.list I)), (1, .val I), (5, .own .shr I), (6, .val I)], [], []⟩
abbrev fn41_J1 : Tpl := ⟨[(5, .own .shr I)], [], []⟩
abbrev fn41_E : Ve.End := ⟨[⟨4, (.own .shr), (.list I), none⟩], []⟩
abbrev fn41_a : List ASh := [.val (.list I), .val I]
abbrev fn41_o : List OSh := []
abbrev fn41_O0 : Out := .one (.ex 0) fn41_J1
noncomputable def fn41_B0 : fn41_J0.P → Option (fn41_J0.P ⊕ fn41_O0.P)
  | ((set, x, out, i, ()), ()) => bif (decide (i < (List.length set : Int))) then (guardB (inb i (List.length set)) (bif ((List.getD set (Int.toNat i) (0 : Int)) != x) then (guardB (inb i (List.length set)) (guardB (decide ((List.length out + List.length [(List.getD set (Int.toNat i) (0 : Int))]) * 8 ≤ 70368744177664)) (some (.inl ((set, x, (out ++ [(List.getD set (Int.toNat i) (0 : Int))]), (w64 (i + (1 : Int))), ()), ()))))) else (some (.inl ((set, x, out, (w64 (i + (1 : Int))), ()), ()))))) else (some (.inr ((out, ()), ())))
noncomputable def fn41 : argP fn41_a → obP (extObs 0 fn41_o) → Option fn41_E.P
  | (set, x, ()), () => match loopO fn41_B0 ((set, x, ([] : (List Int)), (0 : Int), ()), ()) with | some ((out, ()), ()) => some ((out, ()), ()) | none => none
noncomputable def fn41_x : Cx := ⟨tab, fn61_e, fun _ _ => 0, fun _ => false, [(25, 0)], []⟩
noncomputable def c274 : Code := bodyOf Tryz.f274
noncomputable def fn41_A : Ann := .seq .nil (.seq .nil (.seq (.seq .nil (.loop fn41_J0 fn41_O0 fn41_B0 .nil)) .nil))
theorem fn41_r0 (p : fn41_J0.P) : run fn41_x (subc [1, 1, 0, 1, 0, 0] c274) .nil (fn41_J0.S p) (leaf fn41_J0 fn41_O0) = fn41_B0 p := by kernel_rfl
noncomputable def fn41_D : Ve.Fn := ⟨274, fn41_a, fn41_o, fn41_E, fn41⟩
theorem fn41_w : Walk Tryz.prog fn41_x fn41_D Tryz.f274 c274 28 fn41_A :=
  ⟨⟨Tryz.func274, by kernel_rfl, by kernel_rfl, by kernel_rfl, by decide, by kernel_rfl, Nat.le_of_ble_eq_true (by kernel_rfl)⟩, by kernel_rfl, by kernel_rfl, by kernel_rfl, kcast (by kernel_rfl) (⟨fn41_r0, trivial⟩ : (∀ p, run fn41_x (subc [1, 1, 0, 1, 0, 0] c274) .nil (fn41_J0.S p) (leaf fn41_J0 fn41_O0) = fn41_B0 p) ∧ True), by kernel_rfl, fun x y => by kernel_rfl⟩
theorem fn41_s : fn41_D.Says Tryz.prog := fn41_w.says follows tabOk fn61_e_ok
noncomputable def fn41_e : Env := more fn61_e fn41_D
theorem fn41_e_ok : EnvOk Tryz.prog fn41_e := more_ok fn61_e_ok fn41_s
/-! loop.example/g01128/spec.l10Folds -/
abbrev fn48_J0 : Tpl := ⟨[(1, .cst (.prod I (.list (.prod I I)))), (3, .own .shr (.prod I I)), (4, .val (.list I)), (5, .ptr (5, 0))], [((5, 0), .box .shr (.prod I I))], []⟩
abbrev fn48_J1 : Tpl := ⟨[(3, .own .shr (.prod I I))], [], []⟩
abbrev fn48_J2 : Tpl := ⟨[(1, .cst (.prod I (.list (.prod I I)))), (3, .own .shr (.prod I I)), (4, .val (.list I))], [], []⟩
abbrev fn48_J3 : Tpl := ⟨[(1, .cst (.prod I (.list (.prod I I)))), (8, .val I), (12, .val I)], [], []⟩
abbrev fn48_E : Ve.End := ⟨[⟨2, (.own .shr), (.list (.prod I I)), none⟩], []⟩
abbrev fn48_a : List ASh := [.val (.prod I (.list (.prod I I)))]
abbrev fn48_o : List OSh := []
noncomputable def fn48_D0 : fn48_J3.P → Option fn48_J2.P
  | ((h, t8, t12, ()), ()) => match fn72 (t8, t12, ()) () with | some ((r, ()), ()) => some ((h, ([] : (List (Int × Int))), r, ()), ()) | none => none
noncomputable def fn48_T0 : DT fn48_J2 := .node fn48_J3 fn48_D0 (.br [(0, .sole), (7, .sole), (8, .flo), (9, .flo)] .fin (.br [(7, .sole), (0, .sole), (8, .flo), (9, .flo)] .fin .nobr))
abbrev fn48_O0 : Out := .one (.ex 0) fn48_J1
noncomputable def fn48_B0 : fn48_J0.P → Option (fn48_J0.P ⊕ fn48_O0.P)
  | ((h, out, left, ()), (p, ())) => bif (decide ((0 : Int) ≤ p.1)) then (guardB (decide ((List.length out + List.length [p]) * 16 ≤ 70368744177664)) (match fn41 (left, p.1, ()) () with | some ((r, ()), ()) => (match fn61 (h, r, ()) () with | some ((r2, ()), ()) => some (.inl ((h, (out ++ [p]), r, ()), (r2, ()))) | none => none) | none => none)) else (some (.inr ((out, ()), ())))
noncomputable def fn48 : argP fn48_a → obP (extObs 0 fn48_o) → Option fn48_E.P
  | (h, ()), () => guardB (decide (0 ≤ h.1)) (match fn48_D0 ((h, h.1, (w64 ((w64 ((1 : Int) * 2 ^ (min (Int.toNat h.1) 64))) - (1 : Int))), ()), ()) with | some ((h2, out, left, ()), ()) => (match fn61 (h2, left, ()) () with | some ((r, ()), ()) => (match loopO fn48_B0 ((h2, out, left, ()), (r, ())) with | some ((out2, ()), ()) => some ((out2, ()), ()) | none => none) | none => none) | none => none)
noncomputable def fn48_x : Cx := ⟨tab, fn41_e, fun _ _ => 0, fun _ => false, [(13, 0), (13, 1), (13, 2), (13, 3), (4, 0), (16, 0), (16, 1), (16, 2), (16, 3), (25, 0), (30, 0), (30, 1), (30, 2), (30, 3), (22, 0), (22, 1), (22, 2), (22, 3)], [(1, 0)]⟩
noncomputable def c169 : Code := bodyOf Tryz.f169
noncomputable def fn48_A : Ann := .seq .nil (.seq (.draws [(1, .flo), (2, .flo), (3, .flo), (4, .flo), (5, .flo), (6, .flo)] fn48_J2 fn48_T0) (.seq (.seq .nil (.loop fn48_J0 fn48_O0 fn48_B0 .nil)) .nil))
theorem fn48_D0b0 (p : fn48_J3.P) : runDrawn fn48_x (opsOf (subc [1, 0] c169)) [(0, .sole), (7, .sole), (8, .flo), (9, .flo)] (fn48_J3.S p) (endT fn48_x (.fin : DT fn48_J2)) = fn48_D0 p := by kernel_rfl
theorem fn48_D0b1 (p : fn48_J3.P) : runDrawn fn48_x (opsOf (subc [1, 0] c169)) [(7, .sole), (0, .sole), (8, .flo), (9, .flo)] (fn48_J3.S p) (endT fn48_x (.fin : DT fn48_J2)) = fn48_D0 p := by kernel_rfl
theorem fn48_r1 (p : fn48_J0.P) : run fn48_x (subc [1, 1, 0, 1, 0, 0] c169) .nil (fn48_J0.S p) (leaf fn48_J0 fn48_O0) = fn48_B0 p := by kernel_rfl
noncomputable def fn48_D : Ve.Fn := ⟨169, fn48_a, fn48_o, fn48_E, fn48⟩
theorem fn48_w : Walk Tryz.prog fn48_x fn48_D Tryz.f169 c169 33 fn48_A :=
  ⟨⟨Tryz.func169, by kernel_rfl, by kernel_rfl, by kernel_rfl, by decide, by kernel_rfl, Nat.le_of_ble_eq_true (by kernel_rfl)⟩, by kernel_rfl, by kernel_rfl, by kernel_rfl, kcast (by kernel_rfl) (⟨fn48_D0b0, fn48_D0b1, fn48_r1, trivial⟩ : (∀ p, runDrawn fn48_x (opsOf (subc [1, 0] c169)) [(0, .sole), (7, .sole), (8, .flo), (9, .flo)] (fn48_J3.S p) (endT fn48_x (.fin : DT fn48_J2)) = fn48_D0 p) ∧ (∀ p, runDrawn fn48_x (opsOf (subc [1, 0] c169)) [(7, .sole), (0, .sole), (8, .flo), (9, .flo)] (fn48_J3.S p) (endT fn48_x (.fin : DT fn48_J2)) = fn48_D0 p) ∧ (∀ p, run fn48_x (subc [1, 1, 0, 1, 0, 0] c169) .nil (fn48_J0.S p) (leaf fn48_J0 fn48_O0) = fn48_B0 p) ∧ True), by kernel_rfl, fun x y => by kernel_rfl⟩
theorem fn48_s : fn48_D.Says Tryz.prog := fn48_w.says follows tabOk fn41_e_ok
noncomputable def fn48_e : Env := more fn41_e fn48_D
theorem fn48_e_ok : EnvOk Tryz.prog fn48_e := more_ok fn41_e_ok fn48_s
/-! loop.example/g01128/spec.CanFold -/
abbrev fn59_E : Ve.End := ⟨[⟨2, .shr, .bool, none⟩, ⟨3, .shr, .bool, none⟩], []⟩
abbrev fn59_a : List ASh := [.val (.prod I (.list (.prod I I)))]
abbrev fn59_o : List OSh := []
noncomputable def fn59 : argP fn59_a → obP (extObs 0 fn59_o) → Option fn59_E.P
  | (h, ()), () => match fn74 (h, ()) () with | some ((r, ()), ()) => (bif (!r) then (some ((false, false, ()), ())) else (bif (h.1 == (0 : Int)) then (some ((false, false, ()), ())) else (match fn48 (h, ()) () with | some ((r2, ()), ()) => some ((((List.length r2 : Int) == (w64 (h.1 - (1 : Int)))), true, ()), ()) | none => none))) | none => none
noncomputable def fn59_x : Cx := ⟨tab, fn48_e, fun _ _ => 0, fun _ => false, [(5, 0), (5, 1), (5, 2), (5, 3), (13, 0), (13, 1), (13, 2), (13, 3)], [(1, 0)]⟩
noncomputable def c50 : Code := bodyOf Tryz.f50
noncomputable def fn59_A : Ann := .seq .nil (.seq .nil (.seq (.draw [(0, .flo), (3, .flo), (4, .flo), (5, .flo), (1, .sole), (2, .flo), (6, .flo), (7, .flo), (8, .flo)]) .nil))
noncomputable def fn59_D : Ve.Fn := ⟨50, fn59_a, fn59_o, fn59_E, fn59⟩
theorem fn59_w : Walk Tryz.prog fn59_x fn59_D Tryz.f50 c50 19 fn59_A :=
  ⟨⟨Tryz.func50, by kernel_rfl, by kernel_rfl, by kernel_rfl, by decide, by kernel_rfl, Nat.le_of_ble_eq_true (by kernel_rfl)⟩, by kernel_rfl, by kernel_rfl, by kernel_rfl, kcast (by kernel_rfl) trivial, by kernel_rfl, fun x y => by kernel_rfl⟩
theorem fn59_s : fn59_D.Says Tryz.prog := fn59_w.says follows tabOk fn48_e_ok
noncomputable def fn59_e : Env := more fn48_e fn59_D
theorem fn59_e_ok : EnvOk Tryz.prog fn59_e := more_ok fn48_e_ok fn59_s
/-! loop.example/g01128/spec.FoldOrder -/
abbrev fn39_E : Ve.End := ⟨[⟨2, (.own .shr), (.list (.prod I I)), none⟩, ⟨3, .shr, .bool, none⟩], []⟩
abbrev fn39_a : List ASh := [.val (.prod I (.list (.prod I I)))]
abbrev fn39_o : List OSh := []
noncomputable def fn39 : argP fn39_a → obP (extObs 0 fn39_o) → Option fn39_E.P
  | (h, ()), () => match fn74 (h, ()) () with | some ((r, ()), ()) => (bif (!r) then (some ((([] : (List (Int × Int))), false, ()), ())) else (bif (h.1 == (0 : Int)) then (some ((([] : (List (Int × Int))), false, ()), ())) else (match fn48 (h, ()) () with | some ((r2, ()), ()) => some ((r2, true, ()), ()) | none => none))) | none => none
noncomputable def fn39_x : Cx := ⟨tab, fn59_e, fun _ _ => 0, fun _ => false, [(5, 0), (5, 1), (5, 2), (5, 3), (12, 0), (14, 0), (14, 1), (14, 2), (14, 3)], [(1, 0)]⟩
noncomputable def c52 : Code := bodyOf Tryz.f52
noncomputable def fn39_A : Ann := .nil
noncomputable def fn39_D : Ve.Fn := ⟨52, fn39_a, fn39_o, fn39_E, fn39⟩
theorem fn39_w : Walk Tryz.prog fn39_x fn39_D Tryz.f52 c52 15 fn39_A :=
  ⟨⟨Tryz.func52, by kernel_rfl, by kernel_rfl, by kernel_rfl, by decide, by kernel_rfl, Nat.le_of_ble_eq_true (by kernel_rfl)⟩, by kernel_rfl, by kernel_rfl, by kernel_rfl, kcast (by kernel_rfl) trivial, by kernel_rfl, fun x y => by kernel_rfl⟩
theorem fn39_s : fn39_D.Says Tryz.prog := fn39_w.says follows tabOk fn59_e_ok
noncomputable def fn39_e : Env := more fn59_e fn39_D
theorem fn39_e_ok : EnvOk Tryz.prog fn39_e := more_ok fn59_e_ok fn39_s
/-! loop.example/g01128/laws.rPairs -/
abbrev fn68_J0 : Tpl := ⟨[(0, .val (.list (.prod I I))), (1, .val (.list (.prod I I))), (5, .val I)], [], []⟩
abbrev fn68_J1 : Tpl := ⟨[(4, .val .bool)], [], []⟩
abbrev fn68_J2 : Tpl := ⟨[], [], []⟩
abbrev fn68_E : Ve.End := ⟨[⟨4, .shr, .bool, none⟩], []⟩
abbrev fn68_a : List ASh := [.val (.list (.prod I I)), .val (.list (.prod I I))]
abbrev fn68_o : List OSh := []
abbrev fn68_O0 : Out := .or .ret fn68_J1 (.one (.ex 0) fn68_J2)
noncomputable def fn68_B0 : fn68_J0.P → Option (fn68_J0.P ⊕ fn68_O0.P)
  | ((a, b, i, ()), ()) => bif (decide (i < (List.length a : Int))) then (guardB (inb i (List.length a)) (guardB (inb i (List.length b)) (bif (!((((List.getD a (Int.toNat i) ((0 : Int), (0 : Int))).1) == ((List.getD b (Int.toNat i) ((0 : Int), (0 : Int))).1)) && (((List.getD a (Int.toNat i) ((0 : Int), (0 : Int))).2) == ((List.getD b (Int.toNat i) ((0 : Int), (0 : Int))).2)))) then (some (.inr (.inl ((false, ()), ())))) else (some (.inl ((a, b, (w64 (i + (1 : Int))), ()), ())))))) else (some (.inr (.inr ((), ()))))
noncomputable def fn68 : argP fn68_a → obP (extObs 0 fn68_o) → Option fn68_E.P
  | (a, b, ()), () => bif ((List.length a : Int) != (List.length b : Int)) then (some ((false, ()), ())) else (match loopO fn68_B0 ((a, b, (0 : Int), ()), ()) with | some (.inl ((t4, ()), ())) => some ((t4, ()), ()) | some (.inr ((), ())) => some ((true, ()), ()) | none => none)
noncomputable def fn68_x : Cx := ⟨tab, fn39_e, fun _ _ => 0, fun _ => false, [], []⟩
noncomputable def c53 : Code := bodyOf Tryz.f53
noncomputable def fn68_A : Ann := .seq .nil (.seq .nil (.seq (.seq .nil (.loop fn68_J0 fn68_O0 fn68_B0 (.seq .nil (.seq (.seq (.draw [(0, .flo), (1, .flo), (2, .flo), (3, .flo), (4, .flo), (5, .flo), (6, .flo), (7, .flo), (8, .flo)]) .nil) .nil)))) .nil))
theorem fn68_r0 (p : fn68_J0.P) : run fn68_x (subc [1, 1, 0, 1, 0, 0] c53) (.seq .nil (.seq (.seq (.draw [(0, .flo), (1, .flo), (2, .flo), (3, .flo), (4, .flo), (5, .flo), (6, .flo), (7, .flo), (8, .flo)]) .nil) .nil)) (fn68_J0.S p) (leaf fn68_J0 fn68_O0) = fn68_B0 p := by kernel_rfl
noncomputable def fn68_D : Ve.Fn := ⟨53, fn68_a, fn68_o, fn68_E, fn68⟩
theorem fn68_w : Walk Tryz.prog fn68_x fn68_D Tryz.f53 c53 26 fn68_A :=
  ⟨⟨Tryz.func53, by kernel_rfl, by kernel_rfl, by kernel_rfl, by decide, by kernel_rfl, Nat.le_of_ble_eq_true (by kernel_rfl)⟩, by kernel_rfl, by kernel_rfl, by kernel_rfl, kcast (by kernel_rfl) (⟨fn68_r0, trivial⟩ : (∀ p, run fn68_x (subc [1, 1, 0, 1, 0, 0] c53) (.seq .nil (.seq (.seq (.draw [(0, .flo), (1, .flo), (2, .flo), (3, .flo), (4, .flo), (5, .flo), (6, .flo), (7, .flo), (8, .flo)]) .nil) .nil)) (fn68_J0.S p) (leaf fn68_J0 fn68_O0) = fn68_B0 p) ∧ True), by kernel_rfl, fun x y => by kernel_rfl⟩
theorem fn68_s : fn68_D.Says Tryz.prog := fn68_w.says follows tabOk fn39_e_ok
noncomputable def fn68_e : Env := more fn39_e fn68_D
theorem fn68_e_ok : EnvOk Tryz.prog fn68_e := more_ok fn39_e_ok fn68_s
/-! loop.example/g01128/impl.NeighborsOf -/
abbrev fn30_E : Ve.End := ⟨[⟨4, (.own .shr), (.list I), none⟩, ⟨5, .shr, .bool, none⟩], []⟩
abbrev fn30_a : List ASh := [.val (.prod I (.list (.prod I I))), .val I]
abbrev fn30_o : List OSh := []
noncomputable def fn30 : argP fn30_a → obP (extObs 0 fn30_o) → Option fn30_E.P
  | (g, x, ()), () => match fn51 (g, ()) () with | some ((r, ()), ()) => (bif (!r) then (some ((([] : (List Int)), false, ()), ())) else (match fn55 (x, (0 : Int), (w64 (g.1 - (1 : Int))), ()) () with | some ((r2, ()), ()) => (bif (!r2) then (some ((([] : (List Int)), false, ()), ())) else (match fn20 (g, x, ()) () with | some ((r3, ()), ()) => some ((r3, true, ()), ()) | none => none)) | none => none)) | none => none
noncomputable def fn30_x : Cx := ⟨tab, fn68_e, fun _ _ => 0, fun _ => false, [(7, 0), (7, 1), (7, 2), (7, 3), (14, 0), (14, 1), (14, 2), (14, 3)], [(2, 0)]⟩
noncomputable def c54 : Code := bodyOf Tryz.f54
noncomputable def fn30_A : Ann := .nil
noncomputable def fn30_D : Ve.Fn := ⟨54, fn30_a, fn30_o, fn30_E, fn30⟩
theorem fn30_w : Walk Tryz.prog fn30_x fn30_D Tryz.f54 c54 20 fn30_A :=
  ⟨⟨Tryz.func54, by kernel_rfl, by kernel_rfl, by kernel_rfl, by decide, by kernel_rfl, Nat.le_of_ble_eq_true (by kernel_rfl)⟩, by kernel_rfl, by kernel_rfl, by kernel_rfl, kcast (by kernel_rfl) trivial, by kernel_rfl, fun x y => by kernel_rfl⟩
theorem fn30_s : fn30_D.Says Tryz.prog := fn30_w.says follows tabOk fn68_e_ok
noncomputable def fn30_e : Env := more fn68_e fn30_D
theorem fn30_e_ok : EnvOk Tryz.prog fn30_e := more_ok fn68_e_ok fn30_s
/-! loop.example/g01128/laws.rHas -/
abbrev laws_rHas_J0 : Tpl := ⟨[(0, .val (.list I)), (1, .val I), (5, .val I)], [], []⟩
abbrev laws_rHas_J1 : Tpl := ⟨[(4, .val .bool)], [], []⟩
abbrev laws_rHas_J2 : Tpl := ⟨[], [], []⟩
abbrev laws_rHas_E : Ve.End := ⟨[⟨4, .shr, .bool, none⟩], []⟩
abbrev laws_rHas_a : List ASh := [.val (.list I), .val I]
abbrev laws_rHas_o : List OSh := []
abbrev laws_rHas_O0 : Out := .or .ret laws_rHas_J1 (.one (.ex 0) laws_rHas_J2)
noncomputable def laws_rHas_B0 : laws_rHas_J0.P → Option (laws_rHas_J0.P ⊕ laws_rHas_O0.P)
  | ((list, x, i, ()), ()) => bif (decide (i < (List.length list : Int))) then (guardB (inb i (List.length list)) (bif ((List.getD list (Int.toNat i) (0 : Int)) == x) then (some (.inr (.inl ((true, ()), ())))) else (some (.inl ((list, x, (w64 (i + (1 : Int))), ()), ()))))) else (some (.inr (.inr ((), ()))))
noncomputable def laws_rHas : argP laws_rHas_a → obP (extObs 0 laws_rHas_o) → Option laws_rHas_E.P
  | (list, x, ()), () => match loopO laws_rHas_B0 ((list, x, (0 : Int), ()), ()) with | some (.inl ((t4, ()), ())) => some ((t4, ()), ()) | some (.inr ((), ())) => some ((false, ()), ()) | none => none
noncomputable def laws_rHas_x : Cx := ⟨tab, fn30_e, fun _ _ => 0, fun _ => false, [], []⟩
noncomputable def c55 : Code := bodyOf Tryz.f55
noncomputable def laws_rHas_A : Ann := .seq .nil (.seq (.seq .nil (.loop laws_rHas_J0 laws_rHas_O0 laws_rHas_B0 .nil)) .nil)
theorem laws_rHas_r0 (p : laws_rHas_J0.P) : run laws_rHas_x (subc [1, 0, 1, 0, 0] c55) .nil (laws_rHas_J0.S p) (leaf laws_rHas_J0 laws_rHas_O0) = laws_rHas_B0 p := by kernel_rfl
noncomputable def laws_rHas_D : Ve.Fn := ⟨55, laws_rHas_a, laws_rHas_o, laws_rHas_E, laws_rHas⟩
theorem laws_rHas_w : Walk Tryz.prog laws_rHas_x laws_rHas_D Tryz.f55 c55 18 laws_rHas_A :=
  ⟨⟨Tryz.func55, by kernel_rfl, by kernel_rfl, by kernel_rfl, by decide, by kernel_rfl, Nat.le_of_ble_eq_true (by kernel_rfl)⟩, by kernel_rfl, by kernel_rfl, by kernel_rfl, kcast (by kernel_rfl) (⟨laws_rHas_r0, trivial⟩ : (∀ p, run laws_rHas_x (subc [1, 0, 1, 0, 0] c55) .nil (laws_rHas_J0.S p) (leaf laws_rHas_J0 laws_rHas_O0) = laws_rHas_B0 p) ∧ True), by kernel_rfl, fun x y => by kernel_rfl⟩
theorem laws_rHas_s : laws_rHas_D.Says Tryz.prog := laws_rHas_w.says follows tabOk fn30_e_ok
noncomputable def laws_rHas_e : Env := more fn30_e laws_rHas_D
theorem laws_rHas_e_ok : EnvOk Tryz.prog laws_rHas_e := more_ok fn30_e_ok laws_rHas_s
/-! loop.example/g01128/spec.l10Cycle -/
abbrev fn47_J0 : Tpl := ⟨[(0, .val I), (2, .ptr (2, 0)), (3, .ptr (3, 0)), (4, .val I)], [((2, 0), .box (.prod .shr (.own .shr)) (.prod I (.list (.prod I I)))), ((3, 0), .box (.prod .shr (.own .shr)) (.prod I (.list (.prod I I))))], []⟩
abbrev fn47_J1 : Tpl := ⟨[(2, .ptr (2, 0)), (3, .ptr (3, 0))], [((2, 0), .box (.prod .shr (.own .shr)) (.prod I (.list (.prod I I)))), ((3, 0), .box (.prod .shr (.own .shr)) (.prod I (.list (.prod I I))))], []⟩
abbrev fn47_E : Ve.End := ⟨[⟨2, (.prod .shr (.own .shr)), (.prod I (.list (.prod I I))), some 30⟩], []⟩
abbrev fn47_a : List ASh := [.val I]
abbrev fn47_o : List OSh := []
abbrev fn47_O0 : Out := .one (.ex 0) fn47_J1
noncomputable def fn47_B0 : fn47_J0.P → Option (fn47_J0.P ⊕ fn47_O0.P)
  | ((n, x, ()), (t2, out, ())) => bif (decide ((w64 (x + (1 : Int))) < n)) then (guardB (decide ((List.length out.2 + List.length [(x, (w64 (x + (1 : Int))))]) * 16 ≤ 70368744177664)) (some (.inl ((n, (w64 (x + (1 : Int))), ()), (t2, (out.1, (out.2 ++ [(x, (w64 (x + (1 : Int))))])), ()))))) else (some (.inr ((), (t2, out, ()))))
noncomputable def fn47 : argP fn47_a → obP (extObs 0 fn47_o) → Option fn47_E.P
  | (n, ()), () => match loopO fn47_B0 ((n, (1 : Int), ()), (((0 : Int), ([] : (List (Int × Int)))), (n, [((0 : Int), (1 : Int)), ((0 : Int), (w64 (n - (1 : Int))))]), ())) with | some ((), (t2, out, ())) => some (((out.1, out.2), ()), ()) | none => none
noncomputable def fn47_x : Cx := ⟨tab, laws_rHas_e, fun _ _ => 0, fun _ => false, [(24, 0)], []⟩
noncomputable def c143 : Code := bodyOf Tryz.f143
noncomputable def fn47_A : Ann := .seq .nil (.seq .nil (.seq (.seq .nil (.loop fn47_J0 fn47_O0 fn47_B0 .nil)) .nil))
theorem fn47_r0 (p : fn47_J0.P) : run fn47_x (subc [1, 1, 0, 1, 0, 0] c143) .nil (fn47_J0.S p) (leaf fn47_J0 fn47_O0) = fn47_B0 p := by kernel_rfl
noncomputable def fn47_D : Ve.Fn := ⟨143, fn47_a, fn47_o, fn47_E, fn47⟩
theorem fn47_w : Walk Tryz.prog fn47_x fn47_D Tryz.f143 c143 28 fn47_A :=
  ⟨⟨Tryz.func143, by kernel_rfl, by kernel_rfl, by kernel_rfl, by decide, by kernel_rfl, Nat.le_of_ble_eq_true (by kernel_rfl)⟩, by kernel_rfl, by kernel_rfl, by kernel_rfl, kcast (by kernel_rfl) (⟨fn47_r0, trivial⟩ : (∀ p, run fn47_x (subc [1, 1, 0, 1, 0, 0] c143) .nil (fn47_J0.S p) (leaf fn47_J0 fn47_O0) = fn47_B0 p) ∧ True), by kernel_rfl, fun x y => by kernel_rfl⟩
theorem fn47_s : fn47_D.Says Tryz.prog := fn47_w.says follows tabOk laws_rHas_e_ok
noncomputable def fn47_e : Env := more laws_rHas_e fn47_D
theorem fn47_e_ok : EnvOk Tryz.prog fn47_e := more_ok laws_rHas_e_ok fn47_s
/-! (*loop.example/g01128/spec.l1Cur).pair -/
abbrev fn19_J0 : Tpl := ⟨[(2, .ptr (2, 0)), (3, .ptr (3, 0))], [((2, 0), .box (.prod .shr (.own .shr)) (.prod I (.list (.prod I I)))), ((3, 0), .box (.prod .shr (.own .shr)) (.prod I (.list (.prod I I)))), ((1000000, 0), .box .shr (.prod (.list (.int .u8)) (.prod I (.int .u64))))], []⟩
abbrev fn19_J1 : Tpl := ⟨[(2, .ptr (2, 0)), (3, .ptr (3, 0)), (5, .ptr (5, 0)), (30, .str (.pr (.val I) (.ref (4, 0) [.snd])))], [((2, 0), .box (.prod .shr (.own .shr)) (.prod I (.list (.prod I I)))), ((3, 0), .box (.prod .shr (.own .shr)) (.prod I (.list (.prod I I)))), ((5, 0), .box (.prod .shr (.own .shr)) (.prod I (.list (.prod I I)))), ((4, 0), .box (.prod .shr (.own .shr)) (.prod I (.list (.prod I I)))), ((1000000, 0), .box .shr (.prod (.list (.int .u8)) (.prod I (.int .u64))))], []⟩
abbrev fn19_E : Ve.End := ⟨[⟨2, (.prod .shr (.own .shr)), (.prod I (.list (.prod I I))), some 30⟩, ⟨3, (.prod .shr (.own .shr)), (.prod I (.list (.prod I I))), some 30⟩], [.box .shr (.prod (.list (.int .u8)) (.prod I (.int .u64)))]⟩
abbrev fn19_a : List ASh := [.adr 0]
abbrev fn19_o : List OSh := [.box .shr (.prod (.list (.int .u8)) (.prod I (.int .u64)))]
noncomputable def fn19_D0 : fn19_J1.P → Option fn19_J0.P
  | (((t30, ()), ()), (t2, t3, h, g, o0, ())) => some ((), ((t30, g.2), (h.1, h.2), o0, ()))
noncomputable def fn19_T0 : DT fn19_J0 := .node fn19_J1 fn19_D0 (.br [(1, .sole), (2, .sole), (3, .sole)] .fin (.br [(2, .sole), (1, .qui), (3, .sole)] .fin .nobr))
noncomputable def fn19 : argP fn19_a → obP (extObs 0 fn19_o) → Option fn19_E.P
  | (), (o0, ()) => match fn9 ((4 : Int), ()) (o0, ()) with | some ((r, ()), (o, ())) => (match fn9 ((4 : Int), ()) (o, ()) with | some ((r2, ()), (o2, ())) => (match fn15 ((5 : Int), ()) (o2, ()) with | some ((r3, ()), (o3, ())) => (bif (r3 == (0 : Int)) then (match fn15 ((3 : Int), ()) (o3, ()) with | some ((r4, ()), (o4, ())) => (match fn47 ((w64 ((3 : Int) + r4)), ()) () with | some ((r5, ()), ()) => (match fn19_D0 (((r5.1, ()), ()), (((0 : Int), ([] : (List (Int × Int)))), ((0 : Int), ([] : (List (Int × Int)))), (r2.1, r2.2), (r5.1, r5.2), o4, ())) with | some ((), (t2, t3, o0_2, ())) => some ((t2, t3, ()), (o0_2, ())) | none => none) | none => none) | none => none) else (bif (r3 == (1 : Int)) then (match fn15 ((3 : Int), ()) (o3, ()) with | some ((r6, ()), (o5, ())) => (match fn47 ((w64 ((3 : Int) + r6)), ()) () with | some ((r7, ()), ()) => (match fn19_D0 (((r.1, ()), ()), (((0 : Int), ([] : (List (Int × Int)))), ((0 : Int), ([] : (List (Int × Int)))), (r7.1, r7.2), (r.1, r.2), o5, ())) with | some ((), (t2_2, t3_2, o0_3, ())) => some ((t2_2, t3_2, ()), (o0_3, ())) | none => none) | none => none) | none => none) else (bif (r3 == (2 : Int)) then (match fn18 ((3 : Int), ()) (o3, ()) with | some ((r8, ()), (o6, ())) => (bif r8 then (match fn10 () (o6, ()) with | some ((r9, ()), (o7, ())) => (match fn19_D0 (((r9.1, ()), ()), (((0 : Int), ([] : (List (Int × Int)))), ((0 : Int), ([] : (List (Int × Int)))), (r2.1, r2.2), (r9.1, r9.2), o7, ())) with | some ((), (t2_3, t3_3, o0_4, ())) => some ((t2_3, t3_3, ()), (o0_4, ())) | none => none) | none => none) else (match fn19_D0 (((r.1, ()), ()), (((0 : Int), ([] : (List (Int × Int)))), ((0 : Int), ([] : (List (Int × Int)))), (r2.1, r2.2), (r.1, r.2), o6, ())) with | some ((), (t2_4, t3_4, o0_5, ())) => some ((t2_4, t3_4, ()), (o0_5, ())) | none => none)) | none => none) else (match fn19_D0 (((r.1, ()), ()), (((0 : Int), ([] : (List (Int × Int)))), ((0 : Int), ([] : (List (Int × Int)))), (r2.1, r2.2), (r.1, r.2), o3, ())) with | some ((), (t2_5, t3_5, o0_6, ())) => some ((t2_5, t3_5, ()), (o0_6, ())) | none => none)))) | none => none) | none => none) | none => none
noncomputable def fn19_x : Cx := ⟨tab, fn47_e, fun f n => bif Nat.beq f 156 && Nat.beq n 0 then 1 else bif Nat.beq f 163 && Nat.beq n 0 then 1 else bif Nat.beq f 184 && Nat.beq n 0 then 1 else bif Nat.beq f 270 && Nat.beq n 0 then 1 else 0, fun _ => false, [(11, 0), (11, 1), (11, 2), (11, 3), (15, 0), (15, 1), (15, 2), (15, 3), (21, 0), (21, 1), (21, 2), (21, 3), (27, 0), (27, 1), (27, 2), (27, 3)], []⟩
noncomputable def c182 : Code := bodyOf Tryz.f182
noncomputable def fn19_A : Ann := .seq .nil (.seq .nil (.seq .nil (.seq (.draws [(0, .qui)] fn19_J0 fn19_T0) .nil)))
theorem fn19_D0b0 (p : fn19_J1.P) : runDrawn fn19_x (opsOf (subc [1, 1, 1, 0] c182)) [(1, .sole), (2, .sole), (3, .sole)] (fn19_J1.S p) (endT fn19_x (.fin : DT fn19_J0)) = fn19_D0 p := by kernel_rfl
theorem fn19_D0b1 (p : fn19_J1.P) : runDrawn fn19_x (opsOf (subc [1, 1, 1, 0] c182)) [(2, .sole), (1, .qui), (3, .sole)] (fn19_J1.S p) (endT fn19_x (.fin : DT fn19_J0)) = fn19_D0 p := by kernel_rfl
noncomputable def fn19_D : Ve.Fn := ⟨182, fn19_a, fn19_o, fn19_E, fn19⟩
theorem fn19_w : Walk Tryz.prog fn19_x fn19_D Tryz.f182 c182 32 fn19_A :=
  ⟨⟨Tryz.func182, by kernel_rfl, by kernel_rfl, by kernel_rfl, by decide, by kernel_rfl, Nat.le_of_ble_eq_true (by kernel_rfl)⟩, by kernel_rfl, by kernel_rfl, by kernel_rfl, kcast (by kernel_rfl) (⟨fn19_D0b0, fn19_D0b1, trivial⟩ : (∀ p, runDrawn fn19_x (opsOf (subc [1, 1, 1, 0] c182)) [(1, .sole), (2, .sole), (3, .sole)] (fn19_J1.S p) (endT fn19_x (.fin : DT fn19_J0)) = fn19_D0 p) ∧ (∀ p, runDrawn fn19_x (opsOf (subc [1, 1, 1, 0] c182)) [(2, .sole), (1, .qui), (3, .sole)] (fn19_J1.S p) (endT fn19_x (.fin : DT fn19_J0)) = fn19_D0 p) ∧ True), by kernel_rfl, fun x y => by kernel_rfl⟩
theorem fn19_s : fn19_D.Says Tryz.prog := fn19_w.says follows tabOk fn47_e_ok
noncomputable def fn19_e : Env := more fn47_e fn19_D
theorem fn19_e_ok : EnvOk Tryz.prog fn19_e := more_ok fn47_e_ok fn19_s
/-! loop.example/g01128/spec.DrawCountMaps -/
abbrev fn16_J0 : Tpl := ⟨[(2, .ptr (2, 0)), (3, .ptr (3, 0)), (4, .val .bool)], [((2, 0), .box (.prod .shr (.own .shr)) (.prod I (.list (.prod I I)))), ((3, 0), .box (.prod .shr (.own .shr)) (.prod I (.list (.prod I I))))], []⟩
abbrev fn16_J1 : Tpl := ⟨[(2, .ptr (2, 0)), (3, .ptr (3, 0)), (4, .val .bool), (6, .ptr (6, 0)), (7, .ptr (7, 0)), (18, .ptr (10, 0))], [((2, 0), .box (.prod .shr (.own .shr)) (.prod I (.list (.prod I I)))), ((3, 0), .box (.prod .shr (.own .shr)) (.prod I (.list (.prod I I)))), ((6, 0), .box (.prod .shr (.own .shr)) (.prod I (.list (.prod I I)))), ((7, 0), .box (.prod .shr (.own .shr)) (.prod I (.list (.prod I I)))), ((10, 0), .box .shr (.prod (.list (.int .u8)) (.prod I (.int .u64))))], []⟩
abbrev fn16_J2 : Tpl := ⟨[(2, .ptr (2, 0)), (3, .ptr (3, 0)), (4, .val .bool), (7, .ptr (7, 0)), (16, .str (.pr (.val I) (.ref (6, 0) [.snd]))), (18, .ptr (10, 0))], [((2, 0), .box (.prod .shr (.own .shr)) (.prod I (.list (.prod I I)))), ((3, 0), .box (.prod .shr (.own .shr)) (.prod I (.list (.prod I I)))), ((7, 0), .box (.prod .shr (.own .shr)) (.prod I (.list (.prod I I)))), ((6, 0), .box (.prod .shr (.own .shr)) (.prod I (.list (.prod I I)))), ((10, 0), .box .shr (.prod (.list (.int .u8)) (.prod I (.int .u64))))], []⟩
abbrev fn16_J3 : Tpl := ⟨[(2, .ptr (2, 0)), (3, .ptr (3, 0)), (4, .val .bool), (7, .ptr (7, 0)), (16, .str (.pr (.val I) (.ref (6, 0) [.snd]))), (19, .val .bool)], [((2, 0), .box (.prod .shr (.own .shr)) (.prod I (.list (.prod I I)))), ((3, 0), .box (.prod .shr (.own .shr)) (.prod I (.list (.prod I I)))), ((7, 0), .box (.prod .shr (.own .shr)) (.prod I (.list (.prod I I)))), ((6, 0), .box (.prod .shr (.own .shr)) (.prod I (.list (.prod I I))))], []⟩
abbrev fn16_J4 : Tpl := ⟨[(2, .ptr (2, 0)), (3, .ptr (3, 0)), (4, .val .bool), (6, .ptr (6, 0)), (17, .str (.pr (.val I) (.ref (7, 0) [.snd]))), (18, .ptr (10, 0))], [((2, 0), .box (.prod .shr (.own .shr)) (.prod I (.list (.prod I I)))), ((3, 0), .box (.prod .shr (.own .shr)) (.prod I (.list (.prod I I)))), ((6, 0), .box (.prod .shr (.own .shr)) (.prod I (.list (.prod I I)))), ((7, 0), .box (.prod .shr (.own .shr)) (.prod I (.list (.prod I I)))), ((10, 0), .box .shr (.prod (.list (.int .u8)) (.prod I (.int .u64))))], []⟩
abbrev fn16_E : Ve.End := ⟨[⟨2, (.prod .shr (.own .shr)), (.prod I (.list (.prod I I))), some 30⟩, ⟨3, (.prod .shr (.own .shr)), (.prod I (.list (.prod I I))), some 30⟩, ⟨4, .shr, .bool, none⟩], []⟩
abbrev fn16_a : List ASh := [.own .shr (.list (.int .u8))]
abbrev fn16_o : List OSh := []
noncomputable def fn16_D2 : fn16_J3.P → Option fn16_J0.P
  | ((t4, (t16, ()), t19, ()), (t2, t3, h, g, ())) => some ((t19, ()), ((t16, g.2), (h.1, h.2), ()))
noncomputable def fn16_T2 : DT fn16_J0 := .node fn16_J3 fn16_D2 (.br [(1, .sole), (4, .sole), (5, .sole), (6, .flo)] .fin (.br [(4, .sole), (1, .qui), (5, .sole), (6, .flo)] .fin .nobr))
noncomputable def fn16_D1 : fn16_J2.P → Option fn16_J0.P
  | ((t4, (t16, ()), ()), (t2, t3, h, g, t10, ())) => match fn18 ((2 : Int), ()) (t10, ()) with | some ((r, ()), (o, ())) => some ((r, ()), ((t16, g.2), (h.1, h.2), ())) | none => none
noncomputable def fn16_T1 : DT fn16_J0 := .node fn16_J2 fn16_D1 (.br [(1, .sole), (3, .sole), (4, .sole), (5, .sole), (6, .flo)] .fin (.br [(3, .sole)] fn16_T2 .nobr))
noncomputable def fn16_D3 : fn16_J4.P → Option fn16_J0.P
  | ((t4, (t17, ()), ()), (t2, t3, g, h, t10, ())) => match fn18 ((2 : Int), ()) (t10, ()) with | some ((r, ()), (o, ())) => some ((r, ()), ((g.1, g.2), (t17, h.2), ())) | none => none
noncomputable def fn16_T3 : DT fn16_J0 := .node fn16_J4 fn16_D3 (.br [(0, .sole), (3, .sole), (4, .sole), (5, .sole), (6, .flo)] .fin (.br [(3, .sole), (0, .qui), (4, .sole), (5, .sole), (6, .flo)] .fin .nobr))
noncomputable def fn16_D0 : fn16_J1.P → Option fn16_J0.P
  | ((t4, ()), (t2, t3, g, h, t10, ())) => fn16_D1 ((t4, (g.1, ()), ()), (t2, t3, h, g, t10, ()))
noncomputable def fn16_T0 : DT fn16_J0 := .node fn16_J1 fn16_D0 (.br [(0, .sole)] fn16_T1 (.br [(1, .sole)] fn16_T3 (.br [(3, .sole), (0, .qui)] fn16_T2 .nobr)))
noncomputable def fn16 : argP fn16_a → obP (extObs 0 fn16_o) → Option fn16_E.P
  | (code, ()), () => match fn19 () ((code, ((0 : Int), (0 : Int))), ()) with | some ((r, r2, ()), (o, ())) => (match fn16_D0 ((false, ()), (((0 : Int), ([] : (List (Int × Int)))), ((0 : Int), ([] : (List (Int × Int)))), (r.1, r.2), (r2.1, r2.2), o, ())) with | some ((t4, ()), (t2, t3, ())) => some ((t2, t3, t4, ()), ()) | none => none) | none => none
noncomputable def fn16_x : Cx := ⟨tab, fn19_e, fun f n => bif Nat.beq f 156 && Nat.beq n 0 then 1 else bif Nat.beq f 182 && Nat.beq n 0 then 1 else 0, fun _ => false, [(19, 0), (19, 1), (19, 2), (19, 3)], []⟩
noncomputable def c173 : Code := bodyOf Tryz.f173
noncomputable def fn16_A : Ann := .seq .nil (.seq .nil (.seq .nil (.seq (.draws [(2, .flo)] fn16_J0 fn16_T0) .nil)))
theorem fn16_D0b0 (p : fn16_J1.P) : runDrawn fn16_x (opsOf (subc [1, 1, 1, 0] c173)) [(0, .sole)] (fn16_J1.S p) (endT fn16_x fn16_T1) = fn16_D0 p := by kernel_rfl
theorem fn16_D1b0 (p : fn16_J2.P) : runDrawn fn16_x (opsOf (subc [1, 1, 1, 0] c173)) [(1, .sole), (3, .sole), (4, .sole), (5, .sole), (6, .flo)] (fn16_J2.S p) (endT fn16_x (.fin : DT fn16_J0)) = fn16_D1 p := by kernel_rfl
theorem fn16_D1b1 (p : fn16_J2.P) : runDrawn fn16_x (opsOf (subc [1, 1, 1, 0] c173)) [(3, .sole)] (fn16_J2.S p) (endT fn16_x fn16_T2) = fn16_D1 p := by kernel_rfl
theorem fn16_D2b0 (p : fn16_J3.P) : runDrawn fn16_x (opsOf (subc [1, 1, 1, 0] c173)) [(1, .sole), (4, .sole), (5, .sole), (6, .flo)] (fn16_J3.S p) (endT fn16_x (.fin : DT fn16_J0)) = fn16_D2 p := by kernel_rfl
theorem fn16_D2b1 (p : fn16_J3.P) : runDrawn fn16_x (opsOf (subc [1, 1, 1, 0] c173)) [(4, .sole), (1, .qui), (5, .sole), (6, .flo)] (fn16_J3.S p) (endT fn16_x (.fin : DT fn16_J0)) = fn16_D2 p := by kernel_rfl
theorem fn16_D0b1 (p : fn16_J1.P) : runDrawn fn16_x (opsOf (subc [1, 1, 1, 0] c173)) [(1, .sole)] (fn16_J1.S p) (endT fn16_x fn16_T3) = fn16_D0 p := by kernel_rfl
theorem fn16_D3b0 (p : fn16_J4.P) : runDrawn fn16_x (opsOf (subc [1, 1, 1, 0] c173)) [(0, .sole), (3, .sole), (4, .sole), (5, .sole), (6, .flo)] (fn16_J4.S p) (endT fn16_x (.fin : DT fn16_J0)) = fn16_D3 p := by kernel_rfl
theorem fn16_D3b1 (p : fn16_J4.P) : runDrawn fn16_x (opsOf (subc [1, 1, 1, 0] c173)) [(3, .sole), (0, .qui), (4, .sole), (5, .sole), (6, .flo)] (fn16_J4.S p) (endT fn16_x (.fin : DT fn16_J0)) = fn16_D3 p := by kernel_rfl
theorem fn16_D0b2 (p : fn16_J1.P) : runDrawn fn16_x (opsOf (subc [1, 1, 1, 0] c173)) [(3, .sole), (0, .qui)] (fn16_J1.S p) (endT fn16_x fn16_T2) = fn16_D0 p := by kernel_rfl
noncomputable def fn16_D : Ve.Fn := ⟨173, fn16_a, fn16_o, fn16_E, fn16⟩
theorem fn16_w : Walk Tryz.prog fn16_x fn16_D Tryz.f173 c173 20 fn16_A :=
  ⟨⟨Tryz.func173, by kernel_rfl, by kernel_rfl, by kernel_rfl, by decide, by kernel_rfl, Nat.le_of_ble_eq_true (by kernel_rfl)⟩, by kernel_rfl, by kernel_rfl, by kernel_rfl, kcast (by kernel_rfl) (⟨fn16_D0b0, fn16_D1b0, fn16_D1b1, fn16_D2b0, fn16_D2b1, fn16_D0b1, fn16_D3b0, fn16_D3b1, fn16_D0b2, fn16_D2b0, fn16_D2b1, trivial⟩ : (∀ p, runDrawn fn16_x (opsOf (subc [1, 1, 1, 0] c173)) [(0, .sole)] (fn16_J1.S p) (endT fn16_x fn16_T1) = fn16_D0 p) ∧ (∀ p, runDrawn fn16_x (opsOf (subc [1, 1, 1, 0] c173)) [(1, .sole), (3, .sole), (4, .sole), (5, .sole), (6, .flo)] (fn16_J2.S p) (endT fn16_x (.fin : DT fn16_J0)) = fn16_D1 p) ∧ (∀ p, runDrawn fn16_x (opsOf (subc [1, 1, 1, 0] c173)) [(3, .sole)] (fn16_J2.S p) (endT fn16_x fn16_T2) = fn16_D1 p) ∧ (∀ p, runDrawn fn16_x (opsOf (subc [1, 1, 1, 0] c173)) [(1, .sole), (4, .sole), (5, .sole), (6, .flo)] (fn16_J3.S p) (endT fn16_x (.fin : DT fn16_J0)) = fn16_D2 p) ∧ (∀ p, runDrawn fn16_x (opsOf (subc [1, 1, 1, 0] c173)) [(4, .sole), (1, .qui), (5, .sole), (6, .flo)] (fn16_J3.S p) (endT fn16_x (.fin : DT fn16_J0)) = fn16_D2 p) ∧ (∀ p, runDrawn fn16_x (opsOf (subc [1, 1, 1, 0] c173)) [(1, .sole)] (fn16_J1.S p) (endT fn16_x fn16_T3) = fn16_D0 p) ∧ (∀ p, runDrawn fn16_x (opsOf (subc [1, 1, 1, 0] c173)) [(0, .sole), (3, .sole), (4, .sole), (5, .sole), (6, .flo)] (fn16_J4.S p) (endT fn16_x (.fin : DT fn16_J0)) = fn16_D3 p) ∧ (∀ p, runDrawn fn16_x (opsOf (subc [1, 1, 1, 0] c173)) [(3, .sole), (0, .qui), (4, .sole), (5, .sole), (6, .flo)] (fn16_J4.S p) (endT fn16_x (.fin : DT fn16_J0)) = fn16_D3 p) ∧ (∀ p, runDrawn fn16_x (opsOf (subc [1, 1, 1, 0] c173)) [(3, .sole), (0, .qui)] (fn16_J1.S p) (endT fn16_x fn16_T2) = fn16_D0 p) ∧ (∀ p, runDrawn fn16_x (opsOf (subc [1, 1, 1, 0] c173)) [(1, .sole), (4, .sole), (5, .sole), (6, .flo)] (fn16_J3.S p) (endT fn16_x (.fin : DT fn16_J0)) = fn16_D2 p) ∧ (∀ p, runDrawn fn16_x (opsOf (subc [1, 1, 1, 0] c173)) [(4, .sole), (1, .qui), (5, .sole), (6, .flo)] (fn16_J3.S p) (endT fn16_x (.fin : DT fn16_J0)) = fn16_D2 p) ∧ True), by kernel_rfl, fun x y => by kernel_rfl⟩
theorem fn16_s : fn16_D.Says Tryz.prog := fn16_w.says follows tabOk fn19_e_ok
noncomputable def fn16_e : Env := more fn19_e fn16_D
theorem fn16_e_ok : EnvOk Tryz.prog fn16_e := more_ok fn19_e_ok fn16_s
/-! loop.example/g01128/spec.DrawMapSpace -/
abbrev fn22_E : Ve.End := ⟨[⟨2, (.prod .shr (.own .shr)), (.prod I (.list (.prod I I))), some 30⟩, ⟨3, (.prod .shr (.own .shr)), (.prod I (.list (.prod I I))), some 30⟩, ⟨4, .shr, .bool, none⟩], []⟩
abbrev fn22_a : List ASh := [.own .shr (.list (.int .u8))]
abbrev fn22_o : List OSh := []
noncomputable def fn22 : argP fn22_a → obP (extObs 0 fn22_o) → Option fn22_E.P
  | (code, ()), () => match fn16 (code, ()) () with | some ((r, r2, r3, ()), ()) => some (((r.1, r.2), (r2.1, r2.2), r3, ()), ()) | none => none
noncomputable def fn22_x : Cx := ⟨tab, fn16_e, fun f n => bif Nat.beq f 173 && Nat.beq n 0 then 2 else 0, fun _ => false, [], []⟩
noncomputable def c56 : Code := bodyOf Tryz.f56
noncomputable def fn22_A : Ann := .nil
noncomputable def fn22_D : Ve.Fn := ⟨56, fn22_a, fn22_o, fn22_E, fn22⟩
theorem fn22_w : Walk Tryz.prog fn22_x fn22_D Tryz.f56 c56 10 fn22_A :=
  ⟨⟨Tryz.func56, by kernel_rfl, by kernel_rfl, by kernel_rfl, by decide, by kernel_rfl, Nat.le_of_ble_eq_true (by kernel_rfl)⟩, by kernel_rfl, by kernel_rfl, by kernel_rfl, kcast (by kernel_rfl) trivial, by kernel_rfl, fun x y => by kernel_rfl⟩
theorem fn22_s : fn22_D.Says Tryz.prog := fn22_w.says follows tabOk fn16_e_ok
noncomputable def fn22_e : Env := more fn16_e fn22_D
theorem fn22_e_ok : EnvOk Tryz.prog fn22_e := more_ok fn16_e_ok fn22_s
/-! loop.example/g01128/impl.isMapCase -/
abbrev fn37_E : Ve.End := ⟨[⟨4, .shr, .bool, none⟩], []⟩
abbrev fn37_a : List ASh := [.val (.prod I (.list (.prod I I))), .val (.prod I (.list (.prod I I)))]
abbrev fn37_o : List OSh := []
noncomputable def fn37 : argP fn37_a → obP (extObs 0 fn37_o) → Option fn37_E.P
  | (g, h, ()), () => match fn51 (g, ()) () with | some ((r, ()), ()) => (bif r then (match fn51 (h, ()) () with | some ((r2, ()), ()) => (bif r2 then (some (((decide (g.1 ≤ (6 : Int))), ()), ())) else (some ((false, ()), ()))) | none => none) else (some ((false, ()), ()))) | none => none
noncomputable def fn37_x : Cx := ⟨tab, fn22_e, fun _ _ => 0, fun _ => false, [(6, 0), (6, 1), (6, 2), (6, 3), (9, 0), (9, 1), (9, 2), (9, 3)], [(2, 0), (3, 0)]⟩
noncomputable def c145 : Code := bodyOf Tryz.f145
noncomputable def fn37_A : Ann := .nil
noncomputable def fn37_D : Ve.Fn := ⟨145, fn37_a, fn37_o, fn37_E, fn37⟩
theorem fn37_w : Walk Tryz.prog fn37_x fn37_D Tryz.f145 c145 16 fn37_A :=
  ⟨⟨Tryz.func145, by kernel_rfl, by kernel_rfl, by kernel_rfl, by decide, by kernel_rfl, Nat.le_of_ble_eq_true (by kernel_rfl)⟩, by kernel_rfl, by kernel_rfl, by kernel_rfl, kcast (by kernel_rfl) trivial, by kernel_rfl, fun x y => by kernel_rfl⟩
theorem fn37_s : fn37_D.Says Tryz.prog := fn37_w.says follows tabOk fn22_e_ok
noncomputable def fn37_e : Env := more fn22_e fn37_D
theorem fn37_e_ok : EnvOk Tryz.prog fn37_e := more_ok fn22_e_ok fn37_s
noncomputable def slices_Clone_int_int_e : Env := more fn37_e (cloneFn 148)
theorem slices_Clone_int_int_e_ok : EnvOk Tryz.prog slices_Clone_int_int_e := more_ok fn37_e_ok clone_s
noncomputable abbrev slices_Clone_int_int := (cloneFn 148).F
/-! loop.example/g01128/impl.MapSpace$1 -/
abbrev fn13_J0 : Tpl := ⟨[(1, .ptr (1000000, 0))], [((1000000, 0), .box (.own (.own .shr)) (.list (.list I)))], []⟩
abbrev fn13_J1 : Tpl := ⟨[(1, .ptr (1000000, 0)), (5, .val (.list I))], [((1000000, 0), .box (.own (.own .shr)) (.list (.list I)))], []⟩
abbrev fn13_E : Ve.End := ⟨[⟨3, .shr, .bool, none⟩], [.box (.own (.own .shr)) (.list (.list I))]⟩
abbrev fn13_a : List ASh := [.val (.list I), .adr 0]
abbrev fn13_o : List OSh := [.box (.own (.own .shr)) (.list (.list I))]
noncomputable def fn13_D0 : fn13_J1.P → Option fn13_J0.P
  | ((t5, ()), (o0, ())) => match slices_Clone_int_int (t5, ()) () with | some ((r, ()), ()) => guardB (decide ((List.length o0 + List.length [r]) * 24 ≤ 70368744177664)) (some ((), ((o0 ++ [r]), ()))) | none => none
noncomputable def fn13_T0 : DT fn13_J0 := .node fn13_J1 fn13_D0 (.br [(0, .sole), (2, .sole), (3, .sole), (4, .sole), (5, .sole)] .fin (.br [(2, .sole), (0, .qui), (3, .sole), (4, .sole), (5, .sole)] .fin .nobr))
noncomputable def fn13 : argP fn13_a → obP (extObs 0 fn13_o) → Option fn13_E.P
  | (m, ()), (o0, ()) => match fn13_D0 ((m, ()), (o0, ())) with | some ((), (o0_2, ())) => some (((decide ((List.length o0_2 : Int) ≤ (300 : Int))), ()), (o0_2, ())) | none => none
noncomputable def fn13_x : Cx := ⟨tab, slices_Clone_int_int_e, fun _ _ => 0, fun _ => false, [], []⟩
noncomputable def c147 : Code := bodyOf Tryz.f147
noncomputable def fn13_A : Ann := .seq .nil (.seq (.draws [(1, .flo)] fn13_J0 fn13_T0) .nil)
theorem fn13_D0b0 (p : fn13_J1.P) : runDrawn fn13_x (opsOf (subc [1, 0] c147)) [(0, .sole), (2, .sole), (3, .sole), (4, .sole), (5, .sole)] (fn13_J1.S p) (endT fn13_x (.fin : DT fn13_J0)) = fn13_D0 p := by kernel_rfl
theorem fn13_D0b1 (p : fn13_J1.P) : runDrawn fn13_x (opsOf (subc [1, 0] c147)) [(2, .sole), (0, .qui), (3, .sole), (4, .sole), (5, .sole)] (fn13_J1.S p) (endT fn13_x (.fin : DT fn13_J0)) = fn13_D0 p := by kernel_rfl
noncomputable def fn13_D : Ve.Fn := ⟨147, fn13_a, fn13_o, fn13_E, fn13⟩
theorem fn13_w : Walk Tryz.prog fn13_x fn13_D Tryz.f147 c147 12 fn13_A :=
  ⟨⟨Tryz.func147, by kernel_rfl, by kernel_rfl, by kernel_rfl, by decide, by kernel_rfl, Nat.le_of_ble_eq_true (by kernel_rfl)⟩, by kernel_rfl, by kernel_rfl, by kernel_rfl, kcast (by kernel_rfl) (⟨fn13_D0b0, fn13_D0b1, trivial⟩ : (∀ p, runDrawn fn13_x (opsOf (subc [1, 0] c147)) [(0, .sole), (2, .sole), (3, .sole), (4, .sole), (5, .sole)] (fn13_J1.S p) (endT fn13_x (.fin : DT fn13_J0)) = fn13_D0 p) ∧ (∀ p, runDrawn fn13_x (opsOf (subc [1, 0] c147)) [(2, .sole), (0, .qui), (3, .sole), (4, .sole), (5, .sole)] (fn13_J1.S p) (endT fn13_x (.fin : DT fn13_J0)) = fn13_D0 p) ∧ True), by kernel_rfl, fun x y => by kernel_rfl⟩
theorem fn13_s : fn13_D.Says Tryz.prog := fn13_w.says follows tabOk slices_Clone_int_int_e_ok
noncomputable def fn13_e : Env := more slices_Clone_int_int_e fn13_D
theorem fn13_e_ok : EnvOk Tryz.prog fn13_e := more_ok slices_Clone_int_int_e_ok fn13_s
/-! (loop.example/g01128/impl.Graph).isFit -/
abbrev fn29_E : Ve.End := ⟨[⟨8, .shr, .bool, none⟩], []⟩
abbrev fn29_a : List ASh := [.val (.prod I (.list (.prod I I))), .val I, .val I, .val .bool]
abbrev fn29_o : List OSh := []
noncomputable def fn29 : argP fn29_a → obP (extObs 0 fn29_o) → Option fn29_E.P
  | (h, x, y, lazy, ()), () => match fn36 (h, x, y, ()) () with | some ((r, ()), ()) => (bif r then (some ((true, ()), ())) else (bif lazy then (some (((x == y), ()), ())) else (some ((false, ()), ())))) | none => none
noncomputable def fn29_x : Cx := ⟨tab, fn13_e, fun _ _ => 0, fun _ => false, [(12, 0), (12, 1), (12, 2), (12, 3)], [(4, 0)]⟩
noncomputable def c253 : Code := bodyOf Tryz.f253
noncomputable def fn29_A : Ann := .nil
noncomputable def fn29_D : Ve.Fn := ⟨253, fn29_a, fn29_o, fn29_E, fn29⟩
theorem fn29_w : Walk Tryz.prog fn29_x fn29_D Tryz.f253 c253 21 fn29_A :=
  ⟨⟨Tryz.func253, by kernel_rfl, by kernel_rfl, by kernel_rfl, by decide, by kernel_rfl, Nat.le_of_ble_eq_true (by kernel_rfl)⟩, by kernel_rfl, by kernel_rfl, by kernel_rfl, kcast (by kernel_rfl) trivial, by kernel_rfl, fun x y => by kernel_rfl⟩
theorem fn29_s : fn29_D.Says Tryz.prog := fn29_w.says follows tabOk fn13_e_ok
noncomputable def fn29_e : Env := more fn13_e fn29_D
theorem fn29_e_ok : EnvOk Tryz.prog fn29_e := more_ok fn13_e_ok fn29_s
/-! loop.example/g01128/impl.maps$1$1 -/
abbrev fn21_E : Ve.End := ⟨[⟨7, .shr, .bool, none⟩], []⟩
abbrev fn21_a : List ASh := [.val I, .cst I, .cst (.prod I (.list (.prod I I))), .cst I, .cst (.list I), .cst .bool]
abbrev fn21_o : List OSh := []
noncomputable def fn21 : argP fn21_a → obP (extObs 0 fn21_o) → Option fn21_E.P
  | (z, t1, t2, t3, t4, t5, ()), () => bif (decide (z < t1)) then (guardB (inb z (List.length t4)) (match fn29 (t2, t3, (List.getD t4 (Int.toNat z) (0 : Int)), t5, ()) () with | some ((r, ()), ()) => some (((!r), ()), ()) | none => none)) else (some ((false, ()), ()))
noncomputable def fn21_x : Cx := ⟨tab, fn29_e, fun _ _ => 0, fun _ => false, [(19, 0), (19, 1), (19, 2), (19, 3)], []⟩
noncomputable def c259 : Code := bodyOf Tryz.f259
noncomputable def fn21_A : Ann := .seq .nil (.seq (.draw [(0, .flo), (1, .flo), (2, .flo), (3, .flo), (4, .flo), (5, .flo), (6, .flo), (7, .flo), (8, .flo), (9, .flo), (10, .flo), (11, .sole), (12, .flo), (13, .flo), (14, .flo)]) .nil)
noncomputable def fn21_D : Ve.Fn := ⟨259, fn21_a, fn21_o, fn21_E, fn21⟩
theorem fn21_w : Walk Tryz.prog fn21_x fn21_D Tryz.f259 c259 22 fn21_A :=
  ⟨⟨Tryz.func259, by kernel_rfl, by kernel_rfl, by kernel_rfl, by decide, by kernel_rfl, Nat.le_of_ble_eq_true (by kernel_rfl)⟩, by kernel_rfl, by kernel_rfl, by kernel_rfl, kcast (by kernel_rfl) trivial, by kernel_rfl, fun x y => by kernel_rfl⟩
theorem fn21_s : fn21_D.Says Tryz.prog := fn21_w.says follows tabOk fn29_e_ok
noncomputable def fn21_e : Env := more fn29_e fn21_D
theorem fn21_e_ok : EnvOk Tryz.prog fn21_e := more_ok fn29_e_ok fn21_s
/-! slices.IndexFunc[[]int,int] -/
abbrev fn2_J0 : Tpl := ⟨[(0, .val (.list I)), (1, .fn ⟨259, [(1000000, 0), (1000001, 0), (1000002, 0), (1000003, 0), (1000004, 0)]⟩), (7, .val I), (8, .val I)], [((1000000, 0), .box .shr I), ((1000001, 0), .box .shr (.prod I (.list (.prod I I)))), ((1000002, 0), .box .shr I), ((1000003, 0), .box (.own .shr) (.list I)), ((1000004, 0), .box .shr .bool)], []⟩
abbrev fn2_J1 : Tpl := ⟨[(4, .val I)], [((1000000, 0), .box .shr I), ((1000001, 0), .box .shr (.prod I (.list (.prod I I)))), ((1000002, 0), .box .shr I), ((1000003, 0), .box (.own .shr) (.list I)), ((1000004, 0), .box .shr .bool)], []⟩
abbrev fn2_J2 : Tpl := ⟨[], [((1000000, 0), .box .shr I), ((1000001, 0), .box .shr (.prod I (.list (.prod I I)))), ((1000002, 0), .box .shr I), ((1000003, 0), .box (.own .shr) (.list I)), ((1000004, 0), .box .shr .bool)], []⟩
abbrev fn2_E : Ve.End := ⟨[⟨4, .shr, I, none⟩], [.box .shr I, .box .shr (.prod I (.list (.prod I I))), .box .shr I, .box (.own .shr) (.list I), .box .shr .bool]⟩
abbrev fn2_a : List ASh := [.val (.list I), .fn 259 [0, 1, 2, 3, 4]]
abbrev fn2_o : List OSh := [.box .shr I, .box .shr (.prod I (.list (.prod I I))), .box .shr I, .box (.own .shr) (.list I), .box .shr .bool]
abbrev fn2_O0 : Out := .or .ret fn2_J1 (.one (.ex 0) fn2_J2)
noncomputable def fn2_B0 : fn2_J0.P → Option (fn2_J0.P ⊕ fn2_O0.P)
  | ((s, t7, t8, ()), (o0, o1, o2, o3, o4, ())) => bif (decide (t8 < t7)) then (guardB (inb t8 (List.length s)) (match fn21 ((List.getD s (Int.toNat t8) (0 : Int)), o0, o1, o2, o3, o4, ()) () with | some ((r, ()), ()) => (bif r then (some (.inr (.inl ((t8, ()), (o0, o1, o2, o3, o4, ()))))) else (some (.inl ((s, t7, (w64 (t8 + (1 : Int))), ()), (o0, o1, o2, o3, o4, ()))))) | none => none)) else (some (.inr (.inr ((), (o0, o1, o2, o3, o4, ())))))
noncomputable def fn2 : argP fn2_a → obP (extObs 0 fn2_o) → Option fn2_E.P
  | (s, ()), (o0, o1, o2, o3, o4, ()) => match loopO fn2_B0 ((s, (List.length s : Int), (0 : Int), ()), (o0, o1, o2, o3, o4, ())) with | some (.inl ((t4, ()), (o0_2, o1_2, o2_2, o3_2, o4_2, ()))) => some ((t4, ()), (o0_2, o1_2, o2_2, o3_2, o4_2, ())) | some (.inr ((), (o0_3, o1_3, o2_3, o3_3, o4_3, ()))) => some (((-1 : Int), ()), (o0_3, o1_3, o2_3, o3_3, o4_3, ())) | none => none
noncomputable def fn2_x : Cx := ⟨tab, fn21_e, fun _ _ => 0, fun _ => false, [(16, 0), (16, 1), (16, 2), (16, 3)], []⟩
noncomputable def c310 : Code := bodyOf Tryz.f310
noncomputable def fn2_A : Ann := .seq .nil (.seq (.seq .nil (.loop fn2_J0 fn2_O0 fn2_B0 .nil)) .nil)
theorem fn2_r0 (p : fn2_J0.P) : run fn2_x (subc [1, 0, 1, 0, 0] c310) .nil (fn2_J0.S p) (leaf fn2_J0 fn2_O0) = fn2_B0 p := by kernel_rfl
noncomputable def fn2_D : Ve.Fn := ⟨310, fn2_a, fn2_o, fn2_E, fn2⟩
theorem fn2_w : Walk Tryz.prog fn2_x fn2_D Tryz.f310 c310 19 fn2_A :=
  ⟨⟨Tryz.func310, by kernel_rfl, by kernel_rfl, by kernel_rfl, by decide, by kernel_rfl, Nat.le_of_ble_eq_true (by kernel_rfl)⟩, by kernel_rfl, by kernel_rfl, by kernel_rfl, kcast (by kernel_rfl) (⟨fn2_r0, trivial⟩ : (∀ p, run fn2_x (subc [1, 0, 1, 0, 0] c310) .nil (fn2_J0.S p) (leaf fn2_J0 fn2_O0) = fn2_B0 p) ∧ True), by kernel_rfl, fun x y => by kernel_rfl⟩
theorem fn2_s : fn2_D.Says Tryz.prog := fn2_w.says follows tabOk fn21_e_ok
noncomputable def fn2_e : Env := more fn21_e fn2_D
theorem fn2_e_ok : EnvOk Tryz.prog fn2_e := more_ok fn21_e_ok fn2_s
/-! slices.ContainsFunc[[]int,int] -/
abbrev fn1_E : Ve.End := ⟨[⟨4, .shr, .bool, none⟩], [.box .shr I, .box .shr (.prod I (.list (.prod I I))), .box .shr I, .box (.own .shr) (.list I), .box .shr .bool]⟩
abbrev fn1_a : List ASh := [.val (.list I), .fn 259 [0, 1, 2, 3, 4]]
abbrev fn1_o : List OSh := [.box .shr I, .box .shr (.prod I (.list (.prod I I))), .box .shr I, .box (.own .shr) (.list I), .box .shr .bool]
noncomputable def fn1 : argP fn1_a → obP (extObs 0 fn1_o) → Option fn1_E.P
  | (s, ()), (o0, o1, o2, o3, o4, ()) => match fn2 (s, ()) (o0, o1, o2, o3, o4, ()) with | some ((r, ()), (o, o5, o6, o7, o8, ())) => some (((decide ((0 : Int) ≤ r)), ()), (o, o5, o6, o7, o8, ())) | none => none
noncomputable def fn1_x : Cx := ⟨tab, fn2_e, fun _ _ => 0, fun _ => false, [(7, 0), (7, 1), (7, 2), (7, 3)], []⟩
noncomputable def c249 : Code := bodyOf Tryz.f249
noncomputable def fn1_A : Ann := .nil
noncomputable def fn1_D : Ve.Fn := ⟨249, fn1_a, fn1_o, fn1_E, fn1⟩
theorem fn1_w : Walk Tryz.prog fn1_x fn1_D Tryz.f249 c249 9 fn1_A :=
  ⟨⟨Tryz.func249, by kernel_rfl, by kernel_rfl, by kernel_rfl, by decide, by kernel_rfl, Nat.le_of_ble_eq_true (by kernel_rfl)⟩, by kernel_rfl, by kernel_rfl, by kernel_rfl, kcast (by kernel_rfl) trivial, by kernel_rfl, fun x y => by kernel_rfl⟩
theorem fn1_s : fn1_D.Says Tryz.prog := fn1_w.says follows tabOk fn2_e_ok
noncomputable def fn1_e : Env := more fn2_e fn1_D
theorem fn1_e_ok : EnvOk Tryz.prog fn1_e := more_ok fn2_e_ok fn1_s
/-! loop.example/g01128/impl.maps$1 -/
abbrev fn0_J0 : Tpl := ⟨[(1, .ptr (1000000, 0)), (3, .ptr (1000002, 0)), (4, .ptr (1000003, 0)), (5, .ptr (1000004, 0)), (6, .ptr (1000005, 0)), (7, .ptr (7, 0)), (19, .val I), (20, .val I)], [((1000000, 0), .box .shr (.prod I (.list (.prod I I)))), ((1000002, 0), .box (.own .shr) (.list I)), ((1000003, 0), .box .shr (.prod I (.list (.prod I I)))), ((1000004, 0), .box .shr .bool), ((1000005, 0), .fbox (some ⟨258, [(1000000, 0), (1000001, 0), (1000002, 0), (1000003, 0), (1000004, 0), (1000005, 0)]⟩)), ((7, 0), .box .shr I), ((1000001, 0), .fbox (some ⟨147, [(1000006, 0)]⟩)), ((1000006, 0), .box (.own (.own .shr)) (.list (.list I)))], []⟩
abbrev fn0_J1 : Tpl := ⟨[(8, .val .bool)], [((1000000, 0), .box .shr (.prod I (.list (.prod I I)))), ((1000001, 0), .fbox (some ⟨147, [(1000006, 0)]⟩)), ((1000002, 0), .box (.own .shr) (.list I)), ((1000003, 0), .box .shr (.prod I (.list (.prod I I)))), ((1000004, 0), .box .shr .bool), ((1000005, 0), .fbox (some ⟨258, [(1000000, 0), (1000001, 0), (1000002, 0), (1000003, 0), (1000004, 0), (1000005, 0)]⟩)), ((1000006, 0), .box (.own (.own .shr)) (.list (.list I)))], []⟩
abbrev fn0_J2 : Tpl := ⟨[], [((1000000, 0), .box .shr (.prod I (.list (.prod I I)))), ((1000001, 0), .fbox (some ⟨147, [(1000006, 0)]⟩)), ((1000002, 0), .box (.own .shr) (.list I)), ((1000003, 0), .box .shr (.prod I (.list (.prod I I)))), ((1000004, 0), .box .shr .bool), ((1000005, 0), .fbox (some ⟨258, [(1000000, 0), (1000001, 0), (1000002, 0), (1000003, 0), (1000004, 0), (1000005, 0)]⟩)), ((1000006, 0), .box (.own (.own .shr)) (.list (.list I)))], []⟩
abbrev fn0_E : Ve.End := ⟨[⟨8, .shr, .bool, none⟩], [.box .shr (.prod I (.list (.prod I I))), .fbox (some ⟨147, [(1000006, 0)]⟩), .box (.own .shr) (.list I), .box .shr (.prod I (.list (.prod I I))), .box .shr .bool, .fbox (some ⟨258, [(1000000, 0), (1000001, 0), (1000002, 0), (1000003, 0), (1000004, 0), (1000005, 0)]⟩), .box (.own (.own .shr)) (.list (.list I))]⟩
abbrev fn0_a : List ASh := [.val I, .adr 0, .adr 1, .adr 2, .adr 3, .adr 4, .adr 5]
abbrev fn0_o : List OSh := [.box .shr (.prod I (.list (.prod I I))), .fbox (some ⟨147, [(1000006, 0)]⟩), .box (.own .shr) (.list I), .box .shr (.prod I (.list (.prod I I))), .box .shr .bool, .fbox (some ⟨258, [(1000000, 0), (1000001, 0), (1000002, 0), (1000003, 0), (1000004, 0), (1000005, 0)]⟩), .box (.own (.own .shr)) (.list (.list I))]
abbrev fn0_O0 : Out := .or .ret fn0_J1 (.one (.ex 0) fn0_J2)
noncomputable def fn0_B0 (rc : argP fn0_a → obP (extObs 0 fn0_o) → Option fn0_E.P) : fn0_J0.P → Option (fn0_J0.P ⊕ fn0_O0.P)
  | ((t19, t20, ()), (o0, o2, o3, o4, x, o6, ())) => bif (decide (t20 < t19)) then (guardB (inb x (List.length o2)) (match fn20 (o0, x, ()) () with | some ((r, ()), ()) => (match fn1 (r, ()) (x, o3, t20, (List.set o2 (Int.toNat x) t20), o4, ()) with | some ((r2, ()), (o, o5, o7, o8, o9, ())) => (bif (!r2) then (match rc ((w64 (o + (1 : Int))), ()) (o0, o8, o5, o9, o6, ()) with | some ((r3, ()), (o10, o11, o12, o13, o14, ())) => (bif (!r3) then (some (.inr (.inl ((false, ()), (o10, o11, o12, o13, o14, ()))))) else (some (.inl ((t19, (w64 (t20 + (1 : Int))), ()), (o10, o11, o12, o13, o, o14, ()))))) | none => none) else (some (.inl ((t19, (w64 (t20 + (1 : Int))), ()), (o0, o8, o5, o9, o, o6, ()))))) | none => none) | none => none)) else (some (.inr (.inr ((), (o0, o2, o3, o4, o6, ())))))
noncomputable def fn0_F (rc : argP fn0_a → obP (extObs 0 fn0_o) → Option fn0_E.P) : argP fn0_a → obP (extObs 0 fn0_o) → Option fn0_E.P
  | (x, ()), (o0, o2, o3, o4, o6, ()) => bif (x == o0.1) then (match fn13 (o2, ()) (o6, ()) with | some ((r, ()), (o, ())) => some ((r, ()), (o0, o2, o3, o4, o, ())) | none => none) else (match loopO (fn0_B0 rc) ((o3.1, (0 : Int), ()), (o0, o2, o3, o4, x, o6, ())) with | some (.inl ((t8, ()), (o0_2, o2_2, o3_2, o4_2, o6_2, ()))) => some ((t8, ()), (o0_2, o2_2, o3_2, o4_2, o6_2, ())) | some (.inr ((), (o0_3, o2_3, o3_3, o4_3, o6_3, ()))) => some ((true, ()), (o0_3, o2_3, o3_3, o4_3, o6_3, ())) | none => none)
noncomputable def fn0 : argP fn0_a → obP (extObs 0 fn0_o) → Option fn0_E.P := fuelF fn0_F 1000
noncomputable def fn0_x (rc : argP fn0_a → obP (extObs 0 fn0_o) → Option fn0_E.P) : Cx := ⟨tab, more fn1_e ⟨258, fn0_a, fn0_o, fn0_E, rc⟩, fun f n => bif Nat.beq f 147 && Nat.beq n 1 then 1 else bif Nat.beq f 258 && Nat.beq n 1 then 1 else bif Nat.beq f 258 && Nat.beq n 2 then 1 else bif Nat.beq f 258 && Nat.beq n 3 then 1 else bif Nat.beq f 258 && Nat.beq n 4 then 1 else bif Nat.beq f 258 && Nat.beq n 5 then 1 else bif Nat.beq f 258 && Nat.beq n 6 then 1 else 0, fun _ => false, [(17, 0), (17, 1), (17, 2), (17, 3), (29, 0), (29, 1), (29, 2), (29, 3), (31, 0), (31, 1), (31, 2), (31, 3), (38, 0), (38, 1), (38, 2), (38, 3)], []⟩
noncomputable def c258 : Code := bodyOf Tryz.f258
noncomputable def fn0_A (rc : argP fn0_a → obP (extObs 0 fn0_o) → Option fn0_E.P) : Ann := .seq .nil (.seq .nil (.seq (.seq .nil (.loop fn0_J0 fn0_O0 (fn0_B0 rc) .nil)) .nil))
theorem fn0_r0 (rc : argP fn0_a → obP (extObs 0 fn0_o) → Option fn0_E.P) (p : fn0_J0.P) : run (fn0_x rc) (subc [1, 1, 0, 1, 0, 0] c258) .nil (fn0_J0.S p) (leaf fn0_J0 fn0_O0) = (fn0_B0 rc) p := by kernel_rfl
noncomputable def fn0_D : Ve.Fn := ⟨258, fn0_a, fn0_o, fn0_E, fn0⟩
theorem fn0_w (rc : argP fn0_a → obP (extObs 0 fn0_o) → Option fn0_E.P) : Walk Tryz.prog (fn0_x rc) ⟨258, fn0_a, fn0_o, fn0_E, fn0_F rc⟩ Tryz.f258 c258 42 (fn0_A rc) :=
  ⟨⟨Tryz.func258, by kernel_rfl, by kernel_rfl, by kernel_rfl, by decide, by kernel_rfl, Nat.le_of_ble_eq_true (by kernel_rfl)⟩, by kernel_rfl, by kernel_rfl, by kernel_rfl, kcast (by kernel_rfl) (⟨(fn0_r0 rc), trivial⟩ : (∀ p, run (fn0_x rc) (subc [1, 1, 0, 1, 0, 0] c258) .nil (fn0_J0.S p) (leaf fn0_J0 fn0_O0) = (fn0_B0 rc) p) ∧ True), by kernel_rfl, fun x y => by kernel_rfl⟩
theorem fn0_s : fn0_D.Says Tryz.prog := fuel_says (fun rc h => (fn0_w rc).says follows tabOk (more_ok fn1_e_ok h)) 1000
noncomputable def fn0_e : Env := more fn1_e fn0_D
theorem fn0_e_ok : EnvOk Tryz.prog fn0_e := more_ok fn1_e_ok fn0_s
/-! loop.example/g01128/impl.maps -/
abbrev fn5_E : Ve.End := ⟨[], [.box (.own (.own .shr)) (.list (.list I))]⟩
abbrev fn5_a : List ASh := [.val (.prod I (.list (.prod I I))), .val (.prod I (.list (.prod I I))), .val .bool, .fn 147 [0]]
abbrev fn5_o : List OSh := [.box (.own (.own .shr)) (.list (.list I))]
noncomputable def fn5 : argP fn5_a → obP (extObs 0 fn5_o) → Option fn5_E.P
  | (g, h, lazy, ()), (o0, ()) => guardB (decide (0 ≤ g.1) && decide (g.1 ≤ g.1) && decide (g.1 * 8 ≤ 140737488355328)) (match fn0 ((0 : Int), ()) (g, (List.replicate (Int.toNat g.1) (0 : Int)), h, lazy, o0, ()) with | some ((r, ()), (o, o2, o3, o4, o5, ())) => some ((), (o5, ())) | none => none)
noncomputable def fn5_x : Cx := ⟨tab, fn0_e, fun f n => bif Nat.beq f 258 && Nat.beq n 1 then 1 else bif Nat.beq f 258 && Nat.beq n 2 then 1 else bif Nat.beq f 258 && Nat.beq n 3 then 1 else bif Nat.beq f 258 && Nat.beq n 4 then 1 else bif Nat.beq f 258 && Nat.beq n 5 then 1 else bif Nat.beq f 258 && Nat.beq n 6 then 1 else 0, fun _ => false, [(15, 0), (15, 1), (15, 2), (15, 3)], []⟩
noncomputable def c146 : Code := bodyOf Tryz.f146
noncomputable def fn5_A : Ann := .nil
noncomputable def fn5_D : Ve.Fn := ⟨146, fn5_a, fn5_o, fn5_E, fn5⟩
theorem fn5_w : Walk Tryz.prog fn5_x fn5_D Tryz.f146 c146 16 fn5_A :=
  ⟨⟨Tryz.func146, by kernel_rfl, by kernel_rfl, by kernel_rfl, by decide, by kernel_rfl, Nat.le_of_ble_eq_true (by kernel_rfl)⟩, by kernel_rfl, by kernel_rfl, by kernel_rfl, kcast (by kernel_rfl) trivial, by kernel_rfl, fun x y => by kernel_rfl⟩
theorem fn5_s : fn5_D.Says Tryz.prog := fn5_w.says follows tabOk fn0_e_ok
noncomputable def fn5_e : Env := more fn0_e fn5_D
theorem fn5_e_ok : EnvOk Tryz.prog fn5_e := more_ok fn0_e_ok fn5_s
noncomputable def slices_SortFunc_int_int_own_e : Env := more fn5_e (sortRowsFn 260 261 (.own .shr))
theorem slices_SortFunc_int_int_own_e_ok : EnvOk Tryz.prog slices_SortFunc_int_int_own_e := more_ok fn5_e_ok (sortRows_s (.own .shr))
noncomputable abbrev slices_SortFunc_int_int_own := (sortRowsFn 260 261 (.own .shr)).F
/-! loop.example/g01128/impl.places -/
abbrev fn67_J0 : Tpl := ⟨[(1, .val (.list I)), (5, .own .shr I), (9, .val (.list I)), (10, .val I), (11, .val I)], [], []⟩
abbrev fn67_J1 : Tpl := ⟨[(5, .own .shr I)], [], []⟩
abbrev fn67_E : Ve.End := ⟨[⟨4, (.own .shr), (.list I), none⟩], []⟩
abbrev fn67_a : List ASh := [.val (.list I), .val (.list I)]
abbrev fn67_o : List OSh := []
abbrev fn67_O0 : Out := .one (.ex 0) fn67_J1
noncomputable def fn67_B0 : fn67_J0.P → Option (fn67_J0.P ⊕ fn67_O0.P)
  | ((b, out, t9, t10, t11, ()), ()) => bif (decide (t11 < t10)) then (guardB (inb t11 (List.length t9)) (guardB (inb t11 (List.length b)) (bif ((List.getD b (Int.toNat t11) (0 : Int)) != (List.getD t9 (Int.toNat t11) (0 : Int))) then (guardB (decide ((List.length out + List.length [t11]) * 8 ≤ 70368744177664)) (some (.inl ((b, (out ++ [t11]), t9, t10, (w64 (t11 + (1 : Int))), ()), ())))) else (some (.inl ((b, out, t9, t10, (w64 (t11 + (1 : Int))), ()), ())))))) else (some (.inr ((out, ()), ())))
noncomputable def fn67 : argP fn67_a → obP (extObs 0 fn67_o) → Option fn67_E.P
  | (a, b, ()), () => match loopO fn67_B0 ((b, ([] : (List Int)), a, (List.length a : Int), (0 : Int), ()), ()) with | some ((out, ()), ()) => some ((out, ()), ()) | none => none
noncomputable def fn67_x : Cx := ⟨tab, slices_SortFunc_int_int_own_e, fun _ _ => 0, fun _ => false, [(24, 0)], []⟩
noncomputable def c262 : Code := bodyOf Tryz.f262
noncomputable def fn67_A : Ann := .seq .nil (.seq .nil (.seq (.seq .nil (.loop fn67_J0 fn67_O0 fn67_B0 .nil)) .nil))
theorem fn67_r0 (p : fn67_J0.P) : run fn67_x (subc [1, 1, 0, 1, 0, 0] c262) .nil (fn67_J0.S p) (leaf fn67_J0 fn67_O0) = fn67_B0 p := by kernel_rfl
noncomputable def fn67_D : Ve.Fn := ⟨262, fn67_a, fn67_o, fn67_E, fn67⟩
theorem fn67_w : Walk Tryz.prog fn67_x fn67_D Tryz.f262 c262 28 fn67_A :=
  ⟨⟨Tryz.func262, by kernel_rfl, by kernel_rfl, by kernel_rfl, by decide, by kernel_rfl, Nat.le_of_ble_eq_true (by kernel_rfl)⟩, by kernel_rfl, by kernel_rfl, by kernel_rfl, kcast (by kernel_rfl) (⟨fn67_r0, trivial⟩ : (∀ p, run fn67_x (subc [1, 1, 0, 1, 0, 0] c262) .nil (fn67_J0.S p) (leaf fn67_J0 fn67_O0) = fn67_B0 p) ∧ True), by kernel_rfl, fun x y => by kernel_rfl⟩
theorem fn67_s : fn67_D.Says Tryz.prog := fn67_w.says follows tabOk slices_SortFunc_int_int_own_e_ok
noncomputable def fn67_e : Env := more slices_SortFunc_int_int_own_e fn67_D
theorem fn67_e_ok : EnvOk Tryz.prog fn67_e := more_ok slices_SortFunc_int_int_own_e_ok fn67_s
/-! loop.example/g01128/impl.isChange -/
abbrev fn45_E : Ve.End := ⟨[⟨4, .shr, .bool, none⟩], []⟩
abbrev fn45_a : List ASh := [.val (.list I), .val (.list I)]
abbrev fn45_o : List OSh := []
noncomputable def fn45 : argP fn45_a → obP (extObs 0 fn45_o) → Option fn45_E.P
  | (a, b, ()), () => match fn67 (a, b, ()) () with | some ((r, ()), ()) => some ((((List.length r : Int) == (1 : Int)), ()), ()) | none => none
noncomputable def fn45_x : Cx := ⟨tab, fn67_e, fun _ _ => 0, fun _ => false, [(7, 0), (7, 1), (7, 2), (7, 3)], []⟩
noncomputable def c151 : Code := bodyOf Tryz.f151
noncomputable def fn45_A : Ann := .nil
noncomputable def fn45_D : Ve.Fn := ⟨151, fn45_a, fn45_o, fn45_E, fn45⟩
theorem fn45_w : Walk Tryz.prog fn45_x fn45_D Tryz.f151 c151 10 fn45_A :=
  ⟨⟨Tryz.func151, by kernel_rfl, by kernel_rfl, by kernel_rfl, by decide, by kernel_rfl, Nat.le_of_ble_eq_true (by kernel_rfl)⟩, by kernel_rfl, by kernel_rfl, by kernel_rfl, kcast (by kernel_rfl) trivial, by kernel_rfl, fun x y => by kernel_rfl⟩
theorem fn45_s : fn45_D.Says Tryz.prog := fn45_w.says follows tabOk fn67_e_ok
noncomputable def fn45_e : Env := more fn67_e fn45_D
theorem fn45_e_ok : EnvOk Tryz.prog fn45_e := more_ok fn67_e_ok fn45_s
/-! loop.example/g01128/impl.spaceOf -/
abbrev fn6_J0 : Tpl := ⟨[(1, .fn ⟨151, []⟩), (4, .ptr (4, 0)), (5, .ptr (5, 0)), (6, .val I), (7, .str (.rix (5, 0) [.fst] [])), (16, .same (5, 0) [.fst]), (17, .val I), (18, .val I), (27, .str (.sub (5, 0) [.fst])), (28, .val I), (29, .val I)], [((4, 0), .box (.prod (.own (.own .shr)) (.own .shr)) (.prod (.list (.list I)) (.list (.prod I I)))), ((5, 0), .box (.prod (.own (.own .shr)) (.own .shr)) (.prod (.list (.list I)) (.list (.prod I I))))], []⟩
abbrev fn6_J1 : Tpl := ⟨[(1, .fn ⟨151, []⟩), (4, .ptr (4, 0)), (5, .ptr (5, 0)), (16, .same (5, 0) [.fst]), (17, .val I), (18, .val I)], [((4, 0), .box (.prod (.own (.own .shr)) (.own .shr)) (.prod (.list (.list I)) (.list (.prod I I)))), ((5, 0), .box (.prod (.own (.own .shr)) (.own .shr)) (.prod (.list (.list I)) (.list (.prod I I))))], []⟩
abbrev fn6_J2 : Tpl := ⟨[(4, .ptr (4, 0)), (5, .ptr (5, 0))], [((4, 0), .box (.prod (.own (.own .shr)) (.own .shr)) (.prod (.list (.list I)) (.list (.prod I I)))), ((5, 0), .box (.prod (.own (.own .shr)) (.own .shr)) (.prod (.list (.list I)) (.list (.prod I I))))], []⟩
abbrev fn6_E : Ve.End := ⟨[⟨4, (.prod (.own (.own .shr)) (.own .shr)), (.prod (.list (.list I)) (.list (.prod I I))), some 49⟩], []⟩
abbrev fn6_a : List ASh := [.own (.own (.own .shr)) (.list (.list I)), .fn 151 []]
abbrev fn6_o : List OSh := []
abbrev fn6_O0 : Out := .one (.ex 2) fn6_J1
noncomputable def fn6_B0 : fn6_J0.P → Option (fn6_J0.P ⊕ fn6_O0.P)
  | ((i, i2, t17, t18, (lo, hi), t28, t29, ()), (t4, out, ())) => bif (decide (t29 < t28)) then (guardB (decide (0 ≤ t29) && decide (t29 < (((hi : Nat) : Int) - ((lo : Nat) : Int)))) (match fn45 ((List.getD out.1 i2 ([] : (List Int))), (List.getD out.1 (lo + (Int.toNat t29)) ([] : (List Int))), ()) () with | some ((r, ()), ()) => (bif r then (guardB (decide ((List.length out.2 + List.length [(i, (w64 ((w64 (i + (1 : Int))) + t29)))]) * 16 ≤ 70368744177664)) (some (.inl ((i, i2, t17, t18, (lo, hi), t28, (w64 (t29 + (1 : Int))), ()), (t4, (out.1, (out.2 ++ [(i, (w64 ((w64 (i + (1 : Int))) + t29)))])), ()))))) else (some (.inl ((i, i2, t17, t18, (lo, hi), t28, (w64 (t29 + (1 : Int))), ()), (t4, out, ()))))) | none => none)) else (some (.inr ((t17, t18, ()), (t4, out, ()))))
abbrev fn6_O1 : Out := .one (.ex 0) fn6_J2
noncomputable def fn6_B1 : fn6_J1.P → Option (fn6_J1.P ⊕ fn6_O1.P)
  | ((t17, t18, ()), (t4, out, ())) => bif (decide (t18 < t17)) then (guardB (inb t18 (List.length out.1)) (guardB (decide (0 ≤ (w64 (t18 + (1 : Int)))) && decide ((w64 (t18 + (1 : Int))) ≤ (List.length out.1 : Int)) && decide ((List.length out.1 : Int) ≤ (List.length out.1 : Int))) (match loopO fn6_B0 ((t18, (Int.toNat t18), t17, t18, ((Int.toNat (w64 (t18 + (1 : Int)))), (Int.toNat (List.length out.1 : Int))), ((((Int.toNat (List.length out.1 : Int)) - (Int.toNat (w64 (t18 + (1 : Int))))) : Nat) : Int), (0 : Int), ()), (t4, out, ())) with | some ((t17_2, t18_2, ()), (t4_2, out2, ())) => some (.inl ((t17_2, (w64 (t18_2 + (1 : Int))), ()), (t4_2, out2, ()))) | none => none))) else (some (.inr ((), (t4, out, ()))))
noncomputable def fn6 : argP fn6_a → obP (extObs 0 fn6_o) → Option fn6_E.P
  | (states, ()), () => match slices_SortFunc_int_int_own () (states, ()) with | some ((), (o, ())) => (match loopO fn6_B1 (((List.length o : Int), (0 : Int), ()), ((([] : (List (List Int))), ([] : (List (Int × Int)))), (o, ([] : (List (Int × Int)))), ())) with | some ((), (t4, out, ())) => some (((out.1, out.2), ()), ()) | none => none) | none => none
noncomputable def fn6_x : Cx := ⟨tab, fn45_e, fun f n => bif Nat.beq f 260 && Nat.beq n 0 then 1 else 0, fun _ => false, [(14, 0), (14, 1), (14, 2), (14, 3), (7, 0), (9, 0), (37, 0), (37, 1), (37, 2), (37, 3), (46, 0)], []⟩
noncomputable def c150 : Code := bodyOf Tryz.f150
noncomputable def fn6_A : Ann := .seq .nil (.seq .nil (.seq .nil (.seq (.seq .nil (.loop fn6_J1 fn6_O1 fn6_B1 (.seq .nil (.seq .nil (.seq (.seq .nil (.seq .nil (.loop fn6_J0 fn6_O0 fn6_B0 .nil))) .nil))))) .nil)))
theorem fn6_r0 (p : fn6_J1.P) : run fn6_x (subc [1, 1, 1, 0, 1, 0, 0] c150) (.seq .nil (.seq .nil (.seq (.seq .nil (.seq .nil (.loop fn6_J0 fn6_O0 fn6_B0 .nil))) .nil))) (fn6_J1.S p) (leaf fn6_J1 fn6_O1) = fn6_B1 p := by kernel_rfl
theorem fn6_r1 (p : fn6_J0.P) : run fn6_x (subc [1, 1, 1, 0, 1, 0, 0, 1, 1, 0, 0, 1, 1, 0, 0] c150) .nil (fn6_J0.S p) (leaf fn6_J0 fn6_O0) = fn6_B0 p := by kernel_rfl
noncomputable def fn6_D : Ve.Fn := ⟨150, fn6_a, fn6_o, fn6_E, fn6⟩
theorem fn6_w : Walk Tryz.prog fn6_x fn6_D Tryz.f150 c150 52 fn6_A :=
  ⟨⟨Tryz.func150, by kernel_rfl, by kernel_rfl, by kernel_rfl, by decide, by kernel_rfl, Nat.le_of_ble_eq_true (by kernel_rfl)⟩, by kernel_rfl, by kernel_rfl, by kernel_rfl, kcast (by kernel_rfl) (⟨fn6_r0, fn6_r1, trivial⟩ : (∀ p, run fn6_x (subc [1, 1, 1, 0, 1, 0, 0] c150) (.seq .nil (.seq .nil (.seq (.seq .nil (.seq .nil (.loop fn6_J0 fn6_O0 fn6_B0 .nil))) .nil))) (fn6_J1.S p) (leaf fn6_J1 fn6_O1) = fn6_B1 p) ∧ (∀ p, run fn6_x (subc [1, 1, 1, 0, 1, 0, 0, 1, 1, 0, 0, 1, 1, 0, 0] c150) .nil (fn6_J0.S p) (leaf fn6_J0 fn6_O0) = fn6_B0 p) ∧ True), by kernel_rfl, fun x y => by kernel_rfl⟩
theorem fn6_s : fn6_D.Says Tryz.prog := fn6_w.says follows tabOk fn45_e_ok
noncomputable def fn6_e : Env := more fn45_e fn6_D
theorem fn6_e_ok : EnvOk Tryz.prog fn6_e := more_ok fn45_e_ok fn6_s
/-! loop.example/g01128/impl.orNone -/
abbrev fn32_E : Ve.End := ⟨[⟨2, (.prod (.own (.own .shr)) (.own .shr)), (.prod (.list (.list I)) (.list (.prod I I))), some 49⟩, ⟨3, .shr, .bool, none⟩], []⟩
abbrev fn32_a : List ASh := [.own (.prod (.own (.own .shr)) (.own .shr)) (.prod (.list (.list I)) (.list (.prod I I)))]
abbrev fn32_o : List OSh := []
noncomputable def fn32 : argP fn32_a → obP (extObs 0 fn32_o) → Option fn32_E.P
  | (x, ()), () => bif (decide ((300 : Int) < (List.length x.1 : Int))) then (some (((([] : (List (List Int))), ([] : (List (Int × Int)))), false, ()), ())) else (bif (decide ((6000 : Int) < (List.length x.2 : Int))) then (some (((([] : (List (List Int))), ([] : (List (Int × Int)))), false, ()), ())) else (some (((x.1, x.2), true, ()), ())))
noncomputable def fn32_x : Cx := ⟨tab, fn6_e, fun _ _ => 0, fun _ => false, [], []⟩
noncomputable def c149 : Code := bodyOf Tryz.f149
noncomputable def fn32_A : Ann := .nil
noncomputable def fn32_D : Ve.Fn := ⟨149, fn32_a, fn32_o, fn32_E, fn32⟩
theorem fn32_w : Walk Tryz.prog fn32_x fn32_D Tryz.f149 c149 16 fn32_A :=
  ⟨⟨Tryz.func149, by kernel_rfl, by kernel_rfl, by kernel_rfl, by decide, by kernel_rfl, Nat.le_of_ble_eq_true (by kernel_rfl)⟩, by kernel_rfl, by kernel_rfl, by kernel_rfl, kcast (by kernel_rfl) trivial, by kernel_rfl, fun x y => by kernel_rfl⟩
theorem fn32_s : fn32_D.Says Tryz.prog := fn32_w.says follows tabOk fn6_e_ok
noncomputable def fn32_e : Env := more fn6_e fn32_D
theorem fn32_e_ok : EnvOk Tryz.prog fn32_e := more_ok fn6_e_ok fn32_s
/-! loop.example/g01128/impl.MapSpace -/
abbrev fn43_E : Ve.End := ⟨[⟨6, (.prod (.own (.own .shr)) (.own .shr)), (.prod (.list (.list I)) (.list (.prod I I))), some 49⟩, ⟨7, .shr, .bool, none⟩], []⟩
abbrev fn43_a : List ASh := [.val (.prod I (.list (.prod I I))), .val (.prod I (.list (.prod I I))), .val .bool]
abbrev fn43_o : List OSh := []
noncomputable def fn43 : argP fn43_a → obP (extObs 0 fn43_o) → Option fn43_E.P
  | (g, h, lazy, ()), () => match fn37 (g, h, ()) () with | some ((r, ()), ()) => (bif (!r) then (some (((([] : (List (List Int))), ([] : (List (Int × Int)))), false, ()), ())) else (match fn5 (g, h, lazy, ()) (([] : (List (List Int))), ()) with | some ((), (o, ())) => (bif (decide ((300 : Int) < (List.length o : Int))) then (some (((([] : (List (List Int))), ([] : (List (Int × Int)))), false, ()), ())) else (match fn6 (o, ()) () with | some ((r2, ()), ()) => (match fn32 ((r2.1, r2.2), ()) () with | some ((r3, r4, ()), ()) => some (((r3.1, r3.2), r4, ()), ()) | none => none) | none => none)) | none => none)) | none => none
noncomputable def fn43_x : Cx := ⟨tab, fn32_e, fun f n => bif Nat.beq f 149 && Nat.beq n 0 then 2 else bif Nat.beq f 150 && Nat.beq n 0 then 2 else 0, fun _ => false, [(11, 0), (11, 1), (11, 2), (11, 3), (19, 0), (19, 1), (19, 2), (19, 3)], [(3, 0), (4, 0)]⟩
noncomputable def c29 : Code := bodyOf Tryz.f29
noncomputable def fn43_A : Ann := .nil
noncomputable def fn43_D : Ve.Fn := ⟨29, fn43_a, fn43_o, fn43_E, fn43⟩
theorem fn43_w : Walk Tryz.prog fn43_x fn43_D Tryz.f29 c29 29 fn43_A :=
  ⟨⟨Tryz.func29, by kernel_rfl, by kernel_rfl, by kernel_rfl, by decide, by kernel_rfl, Nat.le_of_ble_eq_true (by kernel_rfl)⟩, by kernel_rfl, by kernel_rfl, by kernel_rfl, kcast (by kernel_rfl) trivial, by kernel_rfl, fun x y => by kernel_rfl⟩
theorem fn43_s : fn43_D.Says Tryz.prog := fn43_w.says follows tabOk fn32_e_ok
noncomputable def fn43_e : Env := more fn32_e fn43_D
theorem fn43_e_ok : EnvOk Tryz.prog fn43_e := more_ok fn32_e_ok fn43_s
/-! loop.example/g01128/spec.l10Good -/
abbrev fn62_E : Ve.End := ⟨[⟨4, .shr, .bool, none⟩], []⟩
abbrev fn62_a : List ASh := [.val (.prod I (.list (.prod I I))), .val (.prod I (.list (.prod I I)))]
abbrev fn62_o : List OSh := []
noncomputable def fn62 : argP fn62_a → obP (extObs 0 fn62_o) → Option fn62_E.P
  | (g, h, ()), () => match fn74 (g, ()) () with | some ((r, ()), ()) => (bif r then (match fn74 (h, ()) () with | some ((r2, ()), ()) => (bif r2 then (some (((decide (g.1 ≤ (6 : Int))), ()), ())) else (some ((false, ()), ()))) | none => none) else (some ((false, ()), ()))) | none => none
noncomputable def fn62_x : Cx := ⟨tab, fn43_e, fun _ _ => 0, fun _ => false, [(6, 0), (6, 1), (6, 2), (6, 3), (9, 0), (9, 1), (9, 2), (9, 3)], [(2, 0), (3, 0)]⟩
noncomputable def c125 : Code := bodyOf Tryz.f125
noncomputable def fn62_A : Ann := .nil
noncomputable def fn62_D : Ve.Fn := ⟨125, fn62_a, fn62_o, fn62_E, fn62⟩
theorem fn62_w : Walk Tryz.prog fn62_x fn62_D Tryz.f125 c125 16 fn62_A :=
  ⟨⟨Tryz.func125, by kernel_rfl, by kernel_rfl, by kernel_rfl, by decide, by kernel_rfl, Nat.le_of_ble_eq_true (by kernel_rfl)⟩, by kernel_rfl, by kernel_rfl, by kernel_rfl, kcast (by kernel_rfl) trivial, by kernel_rfl, fun x y => by kernel_rfl⟩
theorem fn62_s : fn62_D.Says Tryz.prog := fn62_w.says follows tabOk fn43_e_ok
noncomputable def fn62_e : Env := more fn43_e fn62_D
theorem fn62_e_ok : EnvOk Tryz.prog fn62_e := more_ok fn43_e_ok fn62_s
/-! loop.example/g01128/spec.l10Fits -/
abbrev fn60_E : Ve.End := ⟨[⟨8, .shr, .bool, none⟩], []⟩
abbrev fn60_a : List ASh := [.val (.prod I (.list (.prod I I))), .val I, .val I, .val .bool]
abbrev fn60_o : List OSh := []
noncomputable def fn60 : argP fn60_a → obP (extObs 0 fn60_o) → Option fn60_E.P
  | (h, a, b, lazy, ()), () => match fn75 (h, a, b, ()) () with | some ((r, ()), ()) => (bif r then (some ((true, ()), ())) else (bif lazy then (some (((a == b), ()), ())) else (some ((false, ()), ())))) | none => none
noncomputable def fn60_x : Cx := ⟨tab, fn62_e, fun _ _ => 0, fun _ => false, [(12, 0), (12, 1), (12, 2), (12, 3)], [(4, 0)]⟩
noncomputable def c246 : Code := bodyOf Tryz.f246
noncomputable def fn60_A : Ann := .nil
noncomputable def fn60_D : Ve.Fn := ⟨246, fn60_a, fn60_o, fn60_E, fn60⟩
theorem fn60_w : Walk Tryz.prog fn60_x fn60_D Tryz.f246 c246 21 fn60_A :=
  ⟨⟨Tryz.func246, by kernel_rfl, by kernel_rfl, by kernel_rfl, by decide, by kernel_rfl, Nat.le_of_ble_eq_true (by kernel_rfl)⟩, by kernel_rfl, by kernel_rfl, by kernel_rfl, kcast (by kernel_rfl) trivial, by kernel_rfl, fun x y => by kernel_rfl⟩
theorem fn60_s : fn60_D.Says Tryz.prog := fn60_w.says follows tabOk fn62_e_ok
noncomputable def fn60_e : Env := more fn62_e fn60_D
theorem fn60_e_ok : EnvOk Tryz.prog fn60_e := more_ok fn62_e_ok fn60_s
/-! loop.example/g01128/spec.l1Own -/
abbrev fn80_E : Ve.End := ⟨[⟨2, (.own .shr), (.list I), none⟩], []⟩
abbrev fn80_a : List ASh := [.val (.list I)]
abbrev fn80_o : List OSh := []
noncomputable def fn80 : argP fn80_a → obP (extObs 0 fn80_o) → Option fn80_E.P
  | (l, ()), () => guardB (decide ((List.length ([] : (List Int)) + List.length l) * 8 ≤ 70368744177664)) (some (((([] : (List Int)) ++ l), ()), ()))
noncomputable def fn80_x : Cx := ⟨tab, fn60_e, fun _ _ => 0, fun _ => false, [], []⟩
noncomputable def c228 : Code := bodyOf Tryz.f228
noncomputable def fn80_A : Ann := .nil
noncomputable def fn80_D : Ve.Fn := ⟨228, fn80_a, fn80_o, fn80_E, fn80⟩
theorem fn80_w : Walk Tryz.prog fn80_x fn80_D Tryz.f228 c228 6 fn80_A :=
  ⟨⟨Tryz.func228, by kernel_rfl, by kernel_rfl, by kernel_rfl, by decide, by kernel_rfl, Nat.le_of_ble_eq_true (by kernel_rfl)⟩, by kernel_rfl, by kernel_rfl, by kernel_rfl, kcast (by kernel_rfl) trivial, by kernel_rfl, fun x y => by kernel_rfl⟩
theorem fn80_s : fn80_D.Says Tryz.prog := fn80_w.says follows tabOk fn60_e_ok
noncomputable def fn80_e : Env := more fn60_e fn80_D
theorem fn80_e_ok : EnvOk Tryz.prog fn80_e := more_ok fn60_e_ok fn80_s
/-! loop.example/g01128/spec.l10All -/
abbrev fn71_J0 : Tpl := ⟨[(2, .val .bool), (3, .val (.list I)), (4, .val I), (5, .cst (.prod I (.list (.prod I I)))), (6, .cst (.prod I (.list (.prod I I)))), (11, .val I), (12, .own (.own .shr) (.list I)), (13, .val I), (14, .val .bool), (15, .val I)], [], []⟩
abbrev fn71_J1 : Tpl := ⟨[(2, .val .bool), (3, .val (.list I)), (4, .val I), (5, .cst (.prod I (.list (.prod I I)))), (6, .cst (.prod I (.list (.prod I I)))), (11, .val I), (12, .own (.own .shr) (.list I)), (13, .val I), (14, .val .bool)], [], []⟩
abbrev fn71_J2 : Tpl := ⟨[(2, .val .bool), (3, .val (.list I)), (4, .val I), (5, .cst (.prod I (.list (.prod I I)))), (6, .cst (.prod I (.list (.prod I I)))), (11, .val I), (12, .own .shr (.list I)), (13, .val I), (14, .val .bool), (15, .val I)], [], []⟩
abbrev fn71_J3 : Tpl := ⟨[(2, .val .bool), (3, .val (.list I)), (4, .val I), (5, .cst (.prod I (.list (.prod I I)))), (6, .cst (.prod I (.list (.prod I I)))), (11, .val I), (12, .own .shr (.list I)), (13, .val I), (14, .val .bool)], [], []⟩
abbrev fn71_J4 : Tpl := ⟨[(2, .val .bool), (3, .val (.list I)), (4, .val I), (5, .cst (.prod I (.list (.prod I I)))), (6, .cst (.prod I (.list (.prod I I)))), (11, .val I), (12, .own .shr (.list I)), (13, .val I)], [], []⟩
abbrev fn71_J5 : Tpl := ⟨[(12, .own .shr (.list I))], [], []⟩
abbrev fn71_J6 : Tpl := ⟨[(2, .val .bool), (3, .val (.list I)), (4, .val I), (5, .cst (.prod I (.list (.prod I I)))), (6, .cst (.prod I (.list (.prod I I)))), (11, .val I), (12, .own .shr (.list I)), (13, .val I), (61, .same (12, 0) []), (62, .val (.prod I (.list (.prod I I)))), (63, .val (.prod I (.list (.prod I I)))), (64, .val .bool), (65, .val (.list I)), (67, .val I), (73, .val I)], [], []⟩
abbrev fn71_E : Ve.End := ⟨[⟨10, (.own .shr), (.list (.list I)), none⟩], []⟩
abbrev fn71_a : List ASh := [.val (.prod I (.list (.prod I I))), .val (.prod I (.list (.prod I I))), .val .bool, .val (.list I), .val I]
abbrev fn71_o : List OSh := []
noncomputable def fn71_D0 (rc : argP fn71_a → obP (extObs 0 fn71_o) → Option fn71_E.P) : fn71_J6.P → Option fn71_J4.P
  | ((t2, t3, t4, t5, t6, t11, t12, t13, t62, t63, t64, t65, t67, t73, ()), ()) => match fn80 (t65, ()) () with | some ((r, ()), ()) => guardB (decide ((List.length r + List.length [t67]) * 8 ≤ 70368744177664)) (match rc (t62, t63, t64, (r ++ [t67]), t73, ()) () with | some ((r2, ()), ()) => guardB (decide ((List.length t12 + List.length r2) * 24 ≤ 70368744177664)) (some ((t2, t3, t4, t5, t6, t11, (t12 ++ r2), t13, ()), ())) | none => none) | none => none
noncomputable def fn71_T0 (rc : argP fn71_a → obP (extObs 0 fn71_o) → Option fn71_E.P) : DT fn71_J4 := .node fn71_J6 (fn71_D0 rc) (.br [(5, .sole), (7, .sole), (8, .sole), (13, .sole), (14, .sole), (15, .flo)] .fin (.br [(7, .sole), (5, .sole), (8, .sole), (13, .sole), (14, .sole), (15, .flo)] .fin .nobr))
abbrev fn71_O0 : Out := .one (.ex 2) fn71_J3
noncomputable def fn71_B0 (rc : argP fn71_a → obP (extObs 0 fn71_o) → Option fn71_E.P) : fn71_J2.P → Option (fn71_J2.P ⊕ fn71_O0.P)
  | ((t2, t3, t4, t5, t6, t11, t12, t13, t14, t15, ()), ()) => bif (decide (t15 < t11)) then (bif t14 then (match fn75 (t5, t15, t11, ()) () with | some ((r, ()), ()) => (bif (!r) then (some (.inl ((t2, t3, t4, t5, t6, t11, t12, t13, true, (w64 (t15 + (1 : Int))), ()), ()))) else (guardB (inb t15 (List.length t3)) (match fn60 (t6, (List.getD t3 (Int.toNat t15) (0 : Int)), t13, t2, ()) () with | some ((r2, ()), ()) => some (.inl ((t2, t3, t4, t5, t6, t11, t12, t13, r2, (w64 (t15 + (1 : Int))), ()), ())) | none => none))) | none => none) else (some (.inr ((t2, t3, t4, t5, t6, t11, t12, t13, t14, ()), ())))) else (some (.inr ((t2, t3, t4, t5, t6, t11, t12, t13, t14, ()), ())))
abbrev fn71_O1 : Out := .one (.ex 0) fn71_J5
noncomputable def fn71_B1 (rc : argP fn71_a → obP (extObs 0 fn71_o) → Option fn71_E.P) : fn71_J4.P → Option (fn71_J4.P ⊕ fn71_O1.P)
  | ((t2, t3, t4, t5, t6, t11, t12, t13, ()), ()) => bif (decide (t13 < t6.1)) then (bif (decide ((List.length t12 : Int) ≤ t4)) then (match loopO (fn71_B0 rc) ((t2, t3, t4, t5, t6, t11, t12, t13, true, (0 : Int), ()), ()) with | some ((t2_2, t3_2, t4_2, t5_2, t6_2, t11_2, t12_2, t13_2, t14, ()), ()) => (bif t14 then (match (fn71_D0 rc) ((t2_2, t3_2, t4_2, t5_2, t6_2, t11_2, t12_2, t13_2, t5_2, t6_2, t2_2, t3_2, t13_2, (w64 (t4_2 - (List.length t12_2 : Int))), ()), ()) with | some ((t2_3, t3_3, t4_3, t5_3, t6_3, t11_3, t12_3, t13_3, ()), ()) => some (.inl ((t2_3, t3_3, t4_3, t5_3, t6_3, t11_3, t12_3, (w64 (t13_3 + (1 : Int))), ()), ())) | none => none) else (some (.inl ((t2_2, t3_2, t4_2, t5_2, t6_2, t11_2, t12_2, (w64 (t13_2 + (1 : Int))), ()), ())))) | none => none) else (some (.inr ((t12, ()), ())))) else (some (.inr ((t12, ()), ())))
noncomputable def fn71_F (rc : argP fn71_a → obP (extObs 0 fn71_o) → Option fn71_E.P) : argP fn71_a → obP (extObs 0 fn71_o) → Option fn71_E.P
  | (t0, t1, t2, t3, t4, ()), () => bif ((List.length t3 : Int) == t0.1) then (some (([t3], ()), ())) else (match loopO (fn71_B1 rc) ((t2, t3, t4, t0, t1, (List.length t3 : Int), ([] : (List (List Int))), (0 : Int), ()), ()) with | some ((t12, ()), ()) => some ((t12, ()), ()) | none => none)
noncomputable def fn71 : argP fn71_a → obP (extObs 0 fn71_o) → Option fn71_E.P := fuelF fn71_F 1000
noncomputable def fn71_x (rc : argP fn71_a → obP (extObs 0 fn71_o) → Option fn71_E.P) : Cx := ⟨tab, more fn80_e ⟨181, fn71_a, fn71_o, fn71_E, rc⟩, fun _ _ => 0, fun _ => false, [(24, 0), (48, 0), (48, 1), (48, 2), (48, 3), (58, 0), (58, 1), (58, 2), (58, 3), (68, 0)], [(5, 0), (6, 0)]⟩
noncomputable def c181 : Code := bodyOf Tryz.f181
noncomputable def fn71_A (rc : argP fn71_a → obP (extObs 0 fn71_o) → Option fn71_E.P) : Ann := .seq .nil (.seq .nil (.seq .nil (.seq (.seq .nil (.loop fn71_J4 fn71_O1 (fn71_B1 rc) (.seq .nil (.seq (.seq .nil (.seq (.seq .nil (.loop fn71_J2 fn71_O0 (fn71_B0 rc) (.seq .nil (.seq (.draw [(0, .flo), (1, .flo), (2, .flo), (3, .sole), (4, .flo), (5, .flo), (6, .flo), (7, .flo), (8, .flo), (9, .flo), (11, .flo), (12, .flo), (10, .qui), (13, .sole), (14, .flo), (15, .flo)]) .nil)))) (.seq .nil (.seq (.draws [(0, .flo), (1, .flo), (2, .flo), (3, .flo), (4, .flo), (6, .flo), (9, .flo), (10, .flo), (11, .flo), (12, .flo)] fn71_J4 (fn71_T0 rc)) .nil)))) .nil)))) .nil)))
theorem fn71_r0 (rc : argP fn71_a → obP (extObs 0 fn71_o) → Option fn71_E.P) (p : fn71_J4.P) : run (fn71_x rc) (subc [1, 1, 1, 0, 1, 0, 0] c181) (.seq .nil (.seq (.seq .nil (.seq (.seq .nil (.loop fn71_J2 fn71_O0 (fn71_B0 rc) (.seq .nil (.seq (.draw [(0, .flo), (1, .flo), (2, .flo), (3, .sole), (4, .flo), (5, .flo), (6, .flo), (7, .flo), (8, .flo), (9, .flo), (11, .flo), (12, .flo), (10, .qui), (13, .sole), (14, .flo), (15, .flo)]) .nil)))) (.seq .nil (.seq (.draws [(0, .flo), (1, .flo), (2, .flo), (3, .flo), (4, .flo), (6, .flo), (9, .flo), (10, .flo), (11, .flo), (12, .flo)] fn71_J4 (fn71_T0 rc)) .nil)))) .nil)) (fn71_J4.S p) (leaf fn71_J4 fn71_O1) = (fn71_B1 rc) p := by kernel_rfl
theorem fn71_r1 (rc : argP fn71_a → obP (extObs 0 fn71_o) → Option fn71_E.P) (p : fn71_J2.P) : run (fn71_x rc) (subc [1, 1, 1, 0, 1, 0, 0, 1, 0, 0, 1, 0, 1, 0, 0] c181) (.seq .nil (.seq (.draw [(0, .flo), (1, .flo), (2, .flo), (3, .sole), (4, .flo), (5, .flo), (6, .flo), (7, .flo), (8, .flo), (9, .flo), (11, .flo), (12, .flo), (10, .qui), (13, .sole), (14, .flo), (15, .flo)]) .nil)) (fn71_J2.S p) (leaf fn71_J2 fn71_O0) = (fn71_B0 rc) p := by kernel_rfl
theorem fn71_D0b0 (rc : argP fn71_a → obP (extObs 0 fn71_o) → Option fn71_E.P) (p : fn71_J6.P) : runDrawn (fn71_x rc) (opsOf (subc [1, 1, 1, 0, 1, 0, 0, 1, 0, 0, 1, 1, 1, 0] c181)) [(5, .sole), (7, .sole), (8, .sole), (13, .sole), (14, .sole), (15, .flo)] (fn71_J6.S p) (endT (fn71_x rc) (.fin : DT fn71_J4)) = (fn71_D0 rc) p := by kernel_rfl
theorem fn71_D0b1 (rc : argP fn71_a → obP (extObs 0 fn71_o) → Option fn71_E.P) (p : fn71_J6.P) : runDrawn (fn71_x rc) (opsOf (subc [1, 1, 1, 0, 1, 0, 0, 1, 0, 0, 1, 1, 1, 0] c181)) [(7, .sole), (5, .sole), (8, .sole), (13, .sole), (14, .sole), (15, .flo)] (fn71_J6.S p) (endT (fn71_x rc) (.fin : DT fn71_J4)) = (fn71_D0 rc) p := by kernel_rfl
noncomputable def fn71_D : Ve.Fn := ⟨181, fn71_a, fn71_o, fn71_E, fn71⟩
theorem fn71_w (rc : argP fn71_a → obP (extObs 0 fn71_o) → Option fn71_E.P) : Walk Tryz.prog (fn71_x rc) ⟨181, fn71_a, fn71_o, fn71_E, fn71_F rc⟩ Tryz.f181 c181 77 (fn71_A rc) :=
  ⟨⟨Tryz.func181, by kernel_rfl, by kernel_rfl, by kernel_rfl, by decide, by kernel_rfl, Nat.le_of_ble_eq_true (by kernel_rfl)⟩, by kernel_rfl, by kernel_rfl, by kernel_rfl, kcast (by kernel_rfl) (⟨(fn71_r0 rc), (fn71_r1 rc), (fn71_D0b0 rc), (fn71_D0b1 rc), trivial⟩ : (∀ p, run (fn71_x rc) (subc [1, 1, 1, 0, 1, 0, 0] c181) (.seq .nil (.seq (.seq .nil (.seq (.seq .nil (.loop fn71_J2 fn71_O0 (fn71_B0 rc) (.seq .nil (.seq (.draw [(0, .flo), (1, .flo), (2, .flo), (3, .sole), (4, .flo), (5, .flo), (6, .flo), (7, .flo), (8, .flo), (9, .flo), (11, .flo), (12, .flo), (10, .qui), (13, .sole), (14, .flo), (15, .flo)]) .nil)))) (.seq .nil (.seq (.draws [(0, .flo), (1, .flo), (2, .flo), (3, .flo), (4, .flo), (6, .flo), (9, .flo), (10, .flo), (11, .flo), (12, .flo)] fn71_J4 (fn71_T0 rc)) .nil)))) .nil)) (fn71_J4.S p) (leaf fn71_J4 fn71_O1) = (fn71_B1 rc) p) ∧ (∀ p, run (fn71_x rc) (subc [1, 1, 1, 0, 1, 0, 0, 1, 0, 0, 1, 0, 1, 0, 0] c181) (.seq .nil (.seq (.draw [(0, .flo), (1, .flo), (2, .flo), (3, .sole), (4, .flo), (5, .flo), (6, .flo), (7, .flo), (8, .flo), (9, .flo), (11, .flo), (12, .flo), (10, .qui), (13, .sole), (14, .flo), (15, .flo)]) .nil)) (fn71_J2.S p) (leaf fn71_J2 fn71_O0) = (fn71_B0 rc) p) ∧ (∀ p, runDrawn (fn71_x rc) (opsOf (subc [1, 1, 1, 0, 1, 0, 0, 1, 0, 0, 1, 1, 1, 0] c181)) [(5, .sole), (7, .sole), (8, .sole), (13, .sole), (14, .sole), (15, .flo)] (fn71_J6.S p) (endT (fn71_x rc) (.fin : DT fn71_J4)) = (fn71_D0 rc) p) ∧ (∀ p, runDrawn (fn71_x rc) (opsOf (subc [1, 1, 1, 0, 1, 0, 0, 1, 0, 0, 1, 1, 1, 0] c181)) [(7, .sole), (5, .sole), (8, .sole), (13, .sole), (14, .sole), (15, .flo)] (fn71_J6.S p) (endT (fn71_x rc) (.fin : DT fn71_J4)) = (fn71_D0 rc) p) ∧ True), by kernel_rfl, fun x y => by kernel_rfl⟩
theorem fn71_s : fn71_D.Says Tryz.prog := fuel_says (fun rc h => (fn71_w rc).says follows tabOk (more_ok fn80_e_ok h)) 1000
noncomputable def fn71_e : Env := more fn80_e fn71_D
theorem fn71_e_ok : EnvOk Tryz.prog fn71_e := more_ok fn80_e_ok fn71_s
/-! loop.example/g01128/spec.l6Apart -/
abbrev fn65_J0 : Tpl := ⟨[(0, .val (.list I)), (1, .val (.list I)), (5, .val I), (6, .val I)], [], []⟩
abbrev fn65_J1 : Tpl := ⟨[(5, .val I)], [], []⟩
abbrev fn65_E : Ve.End := ⟨[⟨4, .shr, I, none⟩], []⟩
abbrev fn65_a : List ASh := [.val (.list I), .val (.list I)]
abbrev fn65_o : List OSh := []
abbrev fn65_O0 : Out := .one (.ex 0) fn65_J1
noncomputable def fn65_B0 : fn65_J0.P → Option (fn65_J0.P ⊕ fn65_O0.P)
  | ((a, b, count, i, ()), ()) => bif (decide (i < (List.length a : Int))) then (guardB (inb i (List.length a)) (guardB (inb i (List.length b)) (bif ((List.getD a (Int.toNat i) (0 : Int)) != (List.getD b (Int.toNat i) (0 : Int))) then (some (.inl ((a, b, (w64 (count + (1 : Int))), (w64 (i + (1 : Int))), ()), ()))) else (some (.inl ((a, b, count, (w64 (i + (1 : Int))), ()), ())))))) else (some (.inr ((count, ()), ())))
noncomputable def fn65 : argP fn65_a → obP (extObs 0 fn65_o) → Option fn65_E.P
  | (a, b, ()), () => match loopO fn65_B0 ((a, b, (0 : Int), (0 : Int), ()), ()) with | some ((count, ()), ()) => some ((count, ()), ()) | none => none
noncomputable def fn65_x : Cx := ⟨tab, fn71_e, fun _ _ => 0, fun _ => false, [], []⟩
noncomputable def c309 : Code := bodyOf Tryz.f309
noncomputable def fn65_A : Ann := .seq .nil (.seq .nil (.seq (.seq .nil (.loop fn65_J0 fn65_O0 fn65_B0 (.seq .nil (.seq (.seq (.draw [(0, .flo), (1, .flo), (2, .flo), (3, .flo), (4, .flo), (5, .flo), (6, .flo), (7, .flo), (8, .flo)]) .nil) .nil)))) .nil))
theorem fn65_r0 (p : fn65_J0.P) : run fn65_x (subc [1, 1, 0, 1, 0, 0] c309) (.seq .nil (.seq (.seq (.draw [(0, .flo), (1, .flo), (2, .flo), (3, .flo), (4, .flo), (5, .flo), (6, .flo), (7, .flo), (8, .flo)]) .nil) .nil)) (fn65_J0.S p) (leaf fn65_J0 fn65_O0) = fn65_B0 p := by kernel_rfl
noncomputable def fn65_D : Ve.Fn := ⟨309, fn65_a, fn65_o, fn65_E, fn65⟩
theorem fn65_w : Walk Tryz.prog fn65_x fn65_D Tryz.f309 c309 25 fn65_A :=
  ⟨⟨Tryz.func309, by kernel_rfl, by kernel_rfl, by kernel_rfl, by decide, by kernel_rfl, Nat.le_of_ble_eq_true (by kernel_rfl)⟩, by kernel_rfl, by kernel_rfl, by kernel_rfl, kcast (by kernel_rfl) (⟨fn65_r0, trivial⟩ : (∀ p, run fn65_x (subc [1, 1, 0, 1, 0, 0] c309) (.seq .nil (.seq (.seq (.draw [(0, .flo), (1, .flo), (2, .flo), (3, .flo), (4, .flo), (5, .flo), (6, .flo), (7, .flo), (8, .flo)]) .nil) .nil)) (fn65_J0.S p) (leaf fn65_J0 fn65_O0) = fn65_B0 p) ∧ True), by kernel_rfl, fun x y => by kernel_rfl⟩
theorem fn65_s : fn65_D.Says Tryz.prog := fn65_w.says follows tabOk fn71_e_ok
noncomputable def fn65_e : Env := more fn71_e fn65_D
theorem fn65_e_ok : EnvOk Tryz.prog fn65_e := more_ok fn71_e_ok fn65_s
/-! loop.example/g01128/spec.l6Space -/
abbrev fn66_J0 : Tpl := ⟨[(0, .val (.list (.list I))), (2, .ptr (2, 0)), (3, .ptr (3, 0)), (4, .val I), (5, .val I)], [((2, 0), .box (.prod (.own (.own .shr)) (.own .shr)) (.prod (.list (.list I)) (.list (.prod I I)))), ((3, 0), .box (.prod .shr (.own .shr)) (.prod (.list (.list I)) (.list (.prod I I))))], []⟩
abbrev fn66_J1 : Tpl := ⟨[(0, .val (.list (.list I))), (2, .ptr (2, 0)), (3, .ptr (3, 0)), (4, .val I)], [((2, 0), .box (.prod (.own (.own .shr)) (.own .shr)) (.prod (.list (.list I)) (.list (.prod I I)))), ((3, 0), .box (.prod .shr (.own .shr)) (.prod (.list (.list I)) (.list (.prod I I))))], []⟩
abbrev fn66_J2 : Tpl := ⟨[(2, .ptr (2, 0)), (3, .ptr (3, 0))], [((2, 0), .box (.prod (.own (.own .shr)) (.own .shr)) (.prod (.list (.list I)) (.list (.prod I I)))), ((3, 0), .box (.prod .shr (.own .shr)) (.prod (.list (.list I)) (.list (.prod I I))))], []⟩
abbrev fn66_E : Ve.End := ⟨[⟨2, (.prod .shr (.own .shr)), (.prod (.list (.list I)) (.list (.prod I I))), some 49⟩], []⟩
abbrev fn66_a : List ASh := [.val (.list (.list I))]
abbrev fn66_o : List OSh := []
abbrev fn66_O0 : Out := .one (.ex 2) fn66_J1
noncomputable def fn66_B0 : fn66_J0.P → Option (fn66_J0.P ⊕ fn66_O0.P)
  | ((states, i, j, ()), (t2, out, ())) => bif (decide (j < (List.length states : Int))) then (guardB (inb i (List.length states)) (guardB (inb j (List.length states)) (match fn65 ((List.getD states (Int.toNat i) ([] : (List Int))), (List.getD states (Int.toNat j) ([] : (List Int))), ()) () with | some ((r, ()), ()) => (bif (r == (1 : Int)) then (guardB (decide ((List.length out.2 + List.length [(i, j)]) * 16 ≤ 70368744177664)) (some (.inl ((states, i, (w64 (j + (1 : Int))), ()), (t2, (out.1, (out.2 ++ [(i, j)])), ()))))) else (some (.inl ((states, i, (w64 (j + (1 : Int))), ()), (t2, out, ()))))) | none => none))) else (some (.inr ((states, i, ()), (t2, out, ()))))
abbrev fn66_O1 : Out := .one (.ex 0) fn66_J2
noncomputable def fn66_B1 : fn66_J1.P → Option (fn66_J1.P ⊕ fn66_O1.P)
  | ((states, i, ()), (t2, out, ())) => bif (decide (i < (List.length states : Int))) then (match loopO fn66_B0 ((states, i, (w64 (i + (1 : Int))), ()), (t2, out, ())) with | some ((states2, i2, ()), (t2_2, out2, ())) => some (.inl ((states2, (w64 (i2 + (1 : Int))), ()), (t2_2, out2, ()))) | none => none) else (some (.inr ((), (t2, out, ()))))
noncomputable def fn66 : argP fn66_a → obP (extObs 0 fn66_o) → Option fn66_E.P
  | (states, ()), () => match loopO fn66_B1 ((states, (0 : Int), ()), ((([] : (List (List Int))), ([] : (List (Int × Int)))), (states, ([] : (List (Int × Int)))), ())) with | some ((), (t2, out, ())) => some (((out.1, out.2), ()), ()) | none => none
noncomputable def fn66_x : Cx := ⟨tab, fn65_e, fun _ _ => 0, fun _ => false, [(7, 0), (31, 0), (31, 1), (31, 2), (31, 3), (38, 0)], []⟩
noncomputable def c247 : Code := bodyOf Tryz.f247
noncomputable def fn66_A : Ann := .seq .nil (.seq .nil (.seq (.seq .nil (.loop fn66_J1 fn66_O1 fn66_B1 (.seq .nil (.seq (.seq .nil (.loop fn66_J0 fn66_O0 fn66_B0 (.seq .nil (.seq (.seq (.draw [(0, .flo), (1, .flo), (2, .flo), (3, .flo), (4, .flo), (5, .flo), (6, .flo), (7, .flo), (8, .sole), (9, .flo)]) .nil) .nil)))) .nil)))) .nil))
theorem fn66_r0 (p : fn66_J1.P) : run fn66_x (subc [1, 1, 0, 1, 0, 0] c247) (.seq .nil (.seq (.seq .nil (.loop fn66_J0 fn66_O0 fn66_B0 (.seq .nil (.seq (.seq (.draw [(0, .flo), (1, .flo), (2, .flo), (3, .flo), (4, .flo), (5, .flo), (6, .flo), (7, .flo), (8, .sole), (9, .flo)]) .nil) .nil)))) .nil)) (fn66_J1.S p) (leaf fn66_J1 fn66_O1) = fn66_B1 p := by kernel_rfl
theorem fn66_r1 (p : fn66_J0.P) : run fn66_x (subc [1, 1, 0, 1, 0, 0, 1, 0, 0, 1, 0, 0] c247) (.seq .nil (.seq (.seq (.draw [(0, .flo), (1, .flo), (2, .flo), (3, .flo), (4, .flo), (5, .flo), (6, .flo), (7, .flo), (8, .sole), (9, .flo)]) .nil) .nil)) (fn66_J0.S p) (leaf fn66_J0 fn66_O0) = fn66_B0 p := by kernel_rfl
noncomputable def fn66_D : Ve.Fn := ⟨247, fn66_a, fn66_o, fn66_E, fn66⟩
theorem fn66_w : Walk Tryz.prog fn66_x fn66_D Tryz.f247 c247 42 fn66_A :=
  ⟨⟨Tryz.func247, by kernel_rfl, by kernel_rfl, by kernel_rfl, by decide, by kernel_rfl, Nat.le_of_ble_eq_true (by kernel_rfl)⟩, by kernel_rfl, by kernel_rfl, by kernel_rfl, kcast (by kernel_rfl) (⟨fn66_r0, fn66_r1, trivial⟩ : (∀ p, run fn66_x (subc [1, 1, 0, 1, 0, 0] c247) (.seq .nil (.seq (.seq .nil (.loop fn66_J0 fn66_O0 fn66_B0 (.seq .nil (.seq (.seq (.draw [(0, .flo), (1, .flo), (2, .flo), (3, .flo), (4, .flo), (5, .flo), (6, .flo), (7, .flo), (8, .sole), (9, .flo)]) .nil) .nil)))) .nil)) (fn66_J1.S p) (leaf fn66_J1 fn66_O1) = fn66_B1 p) ∧ (∀ p, run fn66_x (subc [1, 1, 0, 1, 0, 0, 1, 0, 0, 1, 0, 0] c247) (.seq .nil (.seq (.seq (.draw [(0, .flo), (1, .flo), (2, .flo), (3, .flo), (4, .flo), (5, .flo), (6, .flo), (7, .flo), (8, .sole), (9, .flo)]) .nil) .nil)) (fn66_J0.S p) (leaf fn66_J0 fn66_O0) = fn66_B0 p) ∧ True), by kernel_rfl, fun x y => by kernel_rfl⟩
theorem fn66_s : fn66_D.Says Tryz.prog := fn66_w.says follows tabOk fn65_e_ok
noncomputable def fn66_e : Env := more fn65_e fn66_D
theorem fn66_e_ok : EnvOk Tryz.prog fn66_e := more_ok fn65_e_ok fn66_s
/-! loop.example/g01128/spec.l10Space -/
abbrev fn49_E : Ve.End := ⟨[⟨6, (.prod .shr (.own .shr)), (.prod (.list (.list I)) (.list (.prod I I))), some 49⟩, ⟨7, .shr, .bool, none⟩], []⟩
abbrev fn49_a : List ASh := [.val (.prod I (.list (.prod I I))), .val (.prod I (.list (.prod I I))), .val .bool]
abbrev fn49_o : List OSh := []
noncomputable def fn49 : argP fn49_a → obP (extObs 0 fn49_o) → Option fn49_E.P
  | (g, h, lazy, ()), () => match fn71 (g, h, lazy, ([] : (List Int)), (300 : Int), ()) () with | some ((r, ()), ()) => (bif (decide ((300 : Int) < (List.length r : Int))) then (some (((([] : (List (List Int))), ([] : (List (Int × Int)))), false, ()), ())) else (match fn66 (r, ()) () with | some ((r2, ()), ()) => some (((r2.1, r2.2), true, ()), ()) | none => none)) | none => none
noncomputable def fn49_x : Cx := ⟨tab, fn66_e, fun _ _ => 0, fun _ => false, [(12, 0), (13, 0), (13, 1), (13, 2), (13, 3), (8, 0)], [(3, 0), (4, 0)]⟩
noncomputable def c127 : Code := bodyOf Tryz.f127
noncomputable def fn49_A : Ann := .nil
noncomputable def fn49_D : Ve.Fn := ⟨127, fn49_a, fn49_o, fn49_E, fn49⟩
theorem fn49_w : Walk Tryz.prog fn49_x fn49_D Tryz.f127 c127 20 fn49_A :=
  ⟨⟨Tryz.func127, by kernel_rfl, by kernel_rfl, by kernel_rfl, by decide, by kernel_rfl, Nat.le_of_ble_eq_true (by kernel_rfl)⟩, by kernel_rfl, by kernel_rfl, by kernel_rfl, kcast (by kernel_rfl) trivial, by kernel_rfl, fun x y => by kernel_rfl⟩
theorem fn49_s : fn49_D.Says Tryz.prog := fn49_w.says follows tabOk fn66_e_ok
noncomputable def fn49_e : Env := more fn66_e fn49_D
theorem fn49_e_ok : EnvOk Tryz.prog fn49_e := more_ok fn66_e_ok fn49_s
/-! loop.example/g01128/spec.MapSpace -/
abbrev fn46_E : Ve.End := ⟨[⟨6, (.prod .shr (.own .shr)), (.prod (.list (.list I)) (.list (.prod I I))), some 49⟩, ⟨7, .shr, .bool, none⟩], []⟩
abbrev fn46_a : List ASh := [.val (.prod I (.list (.prod I I))), .val (.prod I (.list (.prod I I))), .val .bool]
abbrev fn46_o : List OSh := []
noncomputable def fn46 : argP fn46_a → obP (extObs 0 fn46_o) → Option fn46_E.P
  | (g, h, lazy, ()), () => match fn62 (g, h, ()) () with | some ((r, ()), ()) => (bif (!r) then (some (((([] : (List (List Int))), ([] : (List (Int × Int)))), false, ()), ())) else (match fn49 (g, h, lazy, ()) () with | some ((r2, r3, ()), ()) => some (((r2.1, r2.2), r3, ()), ()) | none => none)) | none => none
noncomputable def fn46_x : Cx := ⟨tab, fn49_e, fun _ _ => 0, fun _ => false, [(10, 0), (10, 1), (10, 2), (10, 3)], [(3, 0), (4, 0)]⟩
noncomputable def c30 : Code := bodyOf Tryz.f30
noncomputable def fn46_A : Ann := .nil
noncomputable def fn46_D : Ve.Fn := ⟨30, fn46_a, fn46_o, fn46_E, fn46⟩
theorem fn46_w : Walk Tryz.prog fn46_x fn46_D Tryz.f30 c30 19 fn46_A :=
  ⟨⟨Tryz.func30, by kernel_rfl, by kernel_rfl, by kernel_rfl, by decide, by kernel_rfl, Nat.le_of_ble_eq_true (by kernel_rfl)⟩, by kernel_rfl, by kernel_rfl, by kernel_rfl, kcast (by kernel_rfl) trivial, by kernel_rfl, fun x y => by kernel_rfl⟩
theorem fn46_s : fn46_D.Says Tryz.prog := fn46_w.says follows tabOk fn49_e_ok
noncomputable def fn46_e : Env := more fn49_e fn46_D
theorem fn46_e_ok : EnvOk Tryz.prog fn46_e := more_ok fn49_e_ok fn46_s
/-! loop.example/g01128/laws.rInts -/
abbrev fn79_J0 : Tpl := ⟨[(0, .val (.list I)), (1, .val (.list I)), (5, .val I)], [], []⟩
abbrev fn79_J1 : Tpl := ⟨[(4, .val .bool)], [], []⟩
abbrev fn79_J2 : Tpl := ⟨[], [], []⟩
abbrev fn79_E : Ve.End := ⟨[⟨4, .shr, .bool, none⟩], []⟩
abbrev fn79_a : List ASh := [.val (.list I), .val (.list I)]
abbrev fn79_o : List OSh := []
abbrev fn79_O0 : Out := .or .ret fn79_J1 (.one (.ex 0) fn79_J2)
noncomputable def fn79_B0 : fn79_J0.P → Option (fn79_J0.P ⊕ fn79_O0.P)
  | ((a, b, i, ()), ()) => bif (decide (i < (List.length a : Int))) then (guardB (inb i (List.length a)) (guardB (inb i (List.length b)) (bif ((List.getD a (Int.toNat i) (0 : Int)) != (List.getD b (Int.toNat i) (0 : Int))) then (some (.inr (.inl ((false, ()), ())))) else (some (.inl ((a, b, (w64 (i + (1 : Int))), ()), ())))))) else (some (.inr (.inr ((), ()))))
noncomputable def fn79 : argP fn79_a → obP (extObs 0 fn79_o) → Option fn79_E.P
  | (a, b, ()), () => bif ((List.length a : Int) != (List.length b : Int)) then (some ((false, ()), ())) else (match loopO fn79_B0 ((a, b, (0 : Int), ()), ()) with | some (.inl ((t4, ()), ())) => some ((t4, ()), ()) | some (.inr ((), ())) => some ((true, ()), ()) | none => none)
noncomputable def fn79_x : Cx := ⟨tab, fn46_e, fun _ _ => 0, fun _ => false, [], []⟩
noncomputable def c27 : Code := bodyOf Tryz.f27
noncomputable def fn79_A : Ann := .seq .nil (.seq .nil (.seq (.seq .nil (.loop fn79_J0 fn79_O0 fn79_B0 (.seq .nil (.seq (.seq (.draw [(0, .flo), (1, .flo), (2, .flo), (3, .flo), (4, .flo), (5, .flo), (6, .flo), (7, .flo), (8, .flo)]) .nil) .nil)))) .nil))
theorem fn79_r0 (p : fn79_J0.P) : run fn79_x (subc [1, 1, 0, 1, 0, 0] c27) (.seq .nil (.seq (.seq (.draw [(0, .flo), (1, .flo), (2, .flo), (3, .flo), (4, .flo), (5, .flo), (6, .flo), (7, .flo), (8, .flo)]) .nil) .nil)) (fn79_J0.S p) (leaf fn79_J0 fn79_O0) = fn79_B0 p := by kernel_rfl
noncomputable def fn79_D : Ve.Fn := ⟨27, fn79_a, fn79_o, fn79_E, fn79⟩
theorem fn79_w : Walk Tryz.prog fn79_x fn79_D Tryz.f27 c27 26 fn79_A :=
  ⟨⟨Tryz.func27, by kernel_rfl, by kernel_rfl, by kernel_rfl, by decide, by kernel_rfl, Nat.le_of_ble_eq_true (by kernel_rfl)⟩, by kernel_rfl, by kernel_rfl, by kernel_rfl, kcast (by kernel_rfl) (⟨fn79_r0, trivial⟩ : (∀ p, run fn79_x (subc [1, 1, 0, 1, 0, 0] c27) (.seq .nil (.seq (.seq (.draw [(0, .flo), (1, .flo), (2, .flo), (3, .flo), (4, .flo), (5, .flo), (6, .flo), (7, .flo), (8, .flo)]) .nil) .nil)) (fn79_J0.S p) (leaf fn79_J0 fn79_O0) = fn79_B0 p) ∧ True), by kernel_rfl, fun x y => by kernel_rfl⟩
theorem fn79_s : fn79_D.Says Tryz.prog := fn79_w.says follows tabOk fn46_e_ok
noncomputable def fn79_e : Env := more fn46_e fn79_D
theorem fn79_e_ok : EnvOk Tryz.prog fn79_e := more_ok fn46_e_ok fn79_s
/-! loop.example/g01128/laws.rTable -/
abbrev fn70_J0 : Tpl := ⟨[(0, .val (.list (.list I))), (1, .val (.list (.list I))), (5, .val I)], [], []⟩
abbrev fn70_J1 : Tpl := ⟨[(4, .val .bool)], [], []⟩
abbrev fn70_J2 : Tpl := ⟨[], [], []⟩
abbrev fn70_E : Ve.End := ⟨[⟨4, .shr, .bool, none⟩], []⟩
abbrev fn70_a : List ASh := [.val (.list (.list I)), .val (.list (.list I))]
abbrev fn70_o : List OSh := []
abbrev fn70_O0 : Out := .or .ret fn70_J1 (.one (.ex 0) fn70_J2)
noncomputable def fn70_B0 : fn70_J0.P → Option (fn70_J0.P ⊕ fn70_O0.P)
  | ((a, b, i, ()), ()) => bif (decide (i < (List.length a : Int))) then (guardB (inb i (List.length a)) (guardB (inb i (List.length b)) (match fn79 ((List.getD a (Int.toNat i) ([] : (List Int))), (List.getD b (Int.toNat i) ([] : (List Int))), ()) () with | some ((r, ()), ()) => (bif (!r) then (some (.inr (.inl ((false, ()), ())))) else (some (.inl ((a, b, (w64 (i + (1 : Int))), ()), ())))) | none => none))) else (some (.inr (.inr ((), ()))))
noncomputable def fn70 : argP fn70_a → obP (extObs 0 fn70_o) → Option fn70_E.P
  | (a, b, ()), () => bif ((List.length a : Int) != (List.length b : Int)) then (some ((false, ()), ())) else (match loopO fn70_B0 ((a, b, (0 : Int), ()), ()) with | some (.inl ((t4, ()), ())) => some ((t4, ()), ()) | some (.inr ((), ())) => some ((true, ()), ()) | none => none)
noncomputable def fn70_x : Cx := ⟨tab, fn79_e, fun _ _ => 0, fun _ => false, [(25, 0), (25, 1), (25, 2), (25, 3)], []⟩
noncomputable def c69 : Code := bodyOf Tryz.f69
noncomputable def fn70_A : Ann := .seq .nil (.seq .nil (.seq (.seq .nil (.loop fn70_J0 fn70_O0 fn70_B0 (.seq .nil (.seq (.seq (.draw [(0, .flo), (1, .flo), (2, .flo), (3, .flo), (4, .flo), (5, .flo), (6, .flo), (7, .flo), (8, .sole), (9, .flo)]) .nil) .nil)))) .nil))
theorem fn70_r0 (p : fn70_J0.P) : run fn70_x (subc [1, 1, 0, 1, 0, 0] c69) (.seq .nil (.seq (.seq (.draw [(0, .flo), (1, .flo), (2, .flo), (3, .flo), (4, .flo), (5, .flo), (6, .flo), (7, .flo), (8, .sole), (9, .flo)]) .nil) .nil)) (fn70_J0.S p) (leaf fn70_J0 fn70_O0) = fn70_B0 p := by kernel_rfl
noncomputable def fn70_D : Ve.Fn := ⟨69, fn70_a, fn70_o, fn70_E, fn70⟩
theorem fn70_w : Walk Tryz.prog fn70_x fn70_D Tryz.f69 c69 27 fn70_A :=
  ⟨⟨Tryz.func69, by kernel_rfl, by kernel_rfl, by kernel_rfl, by decide, by kernel_rfl, Nat.le_of_ble_eq_true (by kernel_rfl)⟩, by kernel_rfl, by kernel_rfl, by kernel_rfl, kcast (by kernel_rfl) (⟨fn70_r0, trivial⟩ : (∀ p, run fn70_x (subc [1, 1, 0, 1, 0, 0] c69) (.seq .nil (.seq (.seq (.draw [(0, .flo), (1, .flo), (2, .flo), (3, .flo), (4, .flo), (5, .flo), (6, .flo), (7, .flo), (8, .sole), (9, .flo)]) .nil) .nil)) (fn70_J0.S p) (leaf fn70_J0 fn70_O0) = fn70_B0 p) ∧ True), by kernel_rfl, fun x y => by kernel_rfl⟩
theorem fn70_s : fn70_D.Says Tryz.prog := fn70_w.says follows tabOk fn79_e_ok
noncomputable def fn70_e : Env := more fn79_e fn70_D
theorem fn70_e_ok : EnvOk Tryz.prog fn70_e := more_ok fn79_e_ok fn70_s
/-! loop.example/g01128/laws.rSpace -/
abbrev fn69_E : Ve.End := ⟨[⟨4, .shr, .bool, none⟩], []⟩
abbrev fn69_a : List ASh := [.val (.prod (.list (.list I)) (.list (.prod I I))), .val (.prod (.list (.list I)) (.list (.prod I I)))]
abbrev fn69_o : List OSh := []
noncomputable def fn69 : argP fn69_a → obP (extObs 0 fn69_o) → Option fn69_E.P
  | (a, b, ()), () => match fn70 (a.1, b.1, ()) () with | some ((r, ()), ()) => (bif r then (match fn68 (a.2, b.2, ()) () with | some ((r2, ()), ()) => some ((r2, ()), ()) | none => none) else (some ((false, ()), ()))) | none => none
noncomputable def fn69_x : Cx := ⟨tab, fn70_e, fun _ _ => 0, fun _ => false, [(9, 0), (9, 1), (9, 2), (9, 3), (15, 0), (15, 1), (15, 2), (15, 3)], [(2, 0), (3, 0)]⟩
noncomputable def c31 : Code := bodyOf Tryz.f31
noncomputable def fn69_A : Ann := .nil
noncomputable def fn69_D : Ve.Fn := ⟨31, fn69_a, fn69_o, fn69_E, fn69⟩
theorem fn69_w : Walk Tryz.prog fn69_x fn69_D Tryz.f31 c31 17 fn69_A :=
  ⟨⟨Tryz.func31, by kernel_rfl, by kernel_rfl, by kernel_rfl, by decide, by kernel_rfl, Nat.le_of_ble_eq_true (by kernel_rfl)⟩, by kernel_rfl, by kernel_rfl, by kernel_rfl, kcast (by kernel_rfl) trivial, by kernel_rfl, fun x y => by kernel_rfl⟩
theorem fn69_s : fn69_D.Says Tryz.prog := fn69_w.says follows tabOk fn70_e_ok
noncomputable def fn69_e : Env := more fn70_e fn69_D
theorem fn69_e_ok : EnvOk Tryz.prog fn69_e := more_ok fn70_e_ok fn69_s
/-! loop.example/g01128/impl.isState$1 -/
abbrev fn38_E : Ve.End := ⟨[⟨2, .shr, .bool, none⟩], []⟩
abbrev fn38_a : List ASh := [.val I]
abbrev fn38_o : List OSh := []
noncomputable def fn38 : argP fn38_a → obP (extObs 0 fn38_o) → Option fn38_E.P
  | (n, ()), () => match fn55 (n, (-99 : Int), (99 : Int), ()) () with | some ((r, ()), ()) => some (((!r), ()), ()) | none => none
noncomputable def fn38_x : Cx := ⟨tab, fn69_e, fun _ _ => 0, fun _ => false, [(4, 0), (4, 1), (4, 2), (4, 3)], []⟩
noncomputable def c317 : Code := bodyOf Tryz.f317
noncomputable def fn38_A : Ann := .nil
noncomputable def fn38_D : Ve.Fn := ⟨317, fn38_a, fn38_o, fn38_E, fn38⟩
theorem fn38_w : Walk Tryz.prog fn38_x fn38_D Tryz.f317 c317 6 fn38_A :=
  ⟨⟨Tryz.func317, by kernel_rfl, by kernel_rfl, by kernel_rfl, by decide, by kernel_rfl, Nat.le_of_ble_eq_true (by kernel_rfl)⟩, by kernel_rfl, by kernel_rfl, by kernel_rfl, kcast (by kernel_rfl) trivial, by kernel_rfl, fun x y => by kernel_rfl⟩
theorem fn38_s : fn38_D.Says Tryz.prog := fn38_w.says follows tabOk fn69_e_ok
noncomputable def fn38_e : Env := more fn69_e fn38_D
theorem fn38_e_ok : EnvOk Tryz.prog fn38_e := more_ok fn69_e_ok fn38_s
/-! slices.IndexFunc[[]int,int] -/
abbrev fn4_J0 : Tpl := ⟨[(0, .val (.list I)), (1, .fn ⟨317, []⟩), (7, .val I), (8, .val I)], [], []⟩
abbrev fn4_J1 : Tpl := ⟨[(4, .val I)], [], []⟩
abbrev fn4_J2 : Tpl := ⟨[], [], []⟩
abbrev fn4_E : Ve.End := ⟨[⟨4, .shr, I, none⟩], []⟩
abbrev fn4_a : List ASh := [.val (.list I), .fn 317 []]
abbrev fn4_o : List OSh := []
abbrev fn4_O0 : Out := .or .ret fn4_J1 (.one (.ex 0) fn4_J2)
noncomputable def fn4_B0 : fn4_J0.P → Option (fn4_J0.P ⊕ fn4_O0.P)
  | ((s, t7, t8, ()), ()) => bif (decide (t8 < t7)) then (guardB (inb t8 (List.length s)) (match fn38 ((List.getD s (Int.toNat t8) (0 : Int)), ()) () with | some ((r, ()), ()) => (bif r then (some (.inr (.inl ((t8, ()), ())))) else (some (.inl ((s, t7, (w64 (t8 + (1 : Int))), ()), ())))) | none => none)) else (some (.inr (.inr ((), ()))))
noncomputable def fn4 : argP fn4_a → obP (extObs 0 fn4_o) → Option fn4_E.P
  | (s, ()), () => match loopO fn4_B0 ((s, (List.length s : Int), (0 : Int), ()), ()) with | some (.inl ((t4, ()), ())) => some ((t4, ()), ()) | some (.inr ((), ())) => some (((-1 : Int), ()), ()) | none => none
noncomputable def fn4_x : Cx := ⟨tab, fn38_e, fun _ _ => 0, fun _ => false, [(16, 0), (16, 1), (16, 2), (16, 3)], []⟩
noncomputable def fn4_A : Ann := .seq .nil (.seq (.seq .nil (.loop fn4_J0 fn4_O0 fn4_B0 .nil)) .nil)
theorem fn4_r0 (p : fn4_J0.P) : run fn4_x (subc [1, 0, 1, 0, 0] c310) .nil (fn4_J0.S p) (leaf fn4_J0 fn4_O0) = fn4_B0 p := by kernel_rfl
noncomputable def fn4_D : Ve.Fn := ⟨310, fn4_a, fn4_o, fn4_E, fn4⟩
theorem fn4_w : Walk Tryz.prog fn4_x fn4_D Tryz.f310 c310 19 fn4_A :=
  ⟨⟨Tryz.func310, by kernel_rfl, by kernel_rfl, by kernel_rfl, by decide, by kernel_rfl, Nat.le_of_ble_eq_true (by kernel_rfl)⟩, by kernel_rfl, by kernel_rfl, by kernel_rfl, kcast (by kernel_rfl) (⟨fn4_r0, trivial⟩ : (∀ p, run fn4_x (subc [1, 0, 1, 0, 0] c310) .nil (fn4_J0.S p) (leaf fn4_J0 fn4_O0) = fn4_B0 p) ∧ True), by kernel_rfl, fun x y => by kernel_rfl⟩
theorem fn4_s : fn4_D.Says Tryz.prog := fn4_w.says follows tabOk fn38_e_ok
noncomputable def fn4_e : Env := more fn38_e fn4_D
theorem fn4_e_ok : EnvOk Tryz.prog fn4_e := more_ok fn38_e_ok fn4_s
/-! slices.ContainsFunc[[]int,int] -/
abbrev fn3_E : Ve.End := ⟨[⟨4, .shr, .bool, none⟩], []⟩
abbrev fn3_a : List ASh := [.val (.list I), .fn 317 []]
abbrev fn3_o : List OSh := []
noncomputable def fn3 : argP fn3_a → obP (extObs 0 fn3_o) → Option fn3_E.P
  | (s, ()), () => match fn4 (s, ()) () with | some ((r, ()), ()) => some (((decide ((0 : Int) ≤ r)), ()), ()) | none => none
noncomputable def fn3_x : Cx := ⟨tab, fn4_e, fun _ _ => 0, fun _ => false, [(7, 0), (7, 1), (7, 2), (7, 3)], []⟩
noncomputable def fn3_A : Ann := .nil
noncomputable def fn3_D : Ve.Fn := ⟨249, fn3_a, fn3_o, fn3_E, fn3⟩
theorem fn3_w : Walk Tryz.prog fn3_x fn3_D Tryz.f249 c249 9 fn3_A :=
  ⟨⟨Tryz.func249, by kernel_rfl, by kernel_rfl, by kernel_rfl, by decide, by kernel_rfl, Nat.le_of_ble_eq_true (by kernel_rfl)⟩, by kernel_rfl, by kernel_rfl, by kernel_rfl, kcast (by kernel_rfl) trivial, by kernel_rfl, fun x y => by kernel_rfl⟩
theorem fn3_s : fn3_D.Says Tryz.prog := fn3_w.says follows tabOk fn4_e_ok
noncomputable def fn3_e : Env := more fn4_e fn3_D
theorem fn3_e_ok : EnvOk Tryz.prog fn3_e := more_ok fn4_e_ok fn3_s
/-! loop.example/g01128/impl.isState -/
abbrev fn57_E : Ve.End := ⟨[⟨2, .shr, .bool, none⟩], []⟩
abbrev fn57_a : List ASh := [.val (.list I)]
abbrev fn57_o : List OSh := []
noncomputable def fn57 : argP fn57_a → obP (extObs 0 fn57_o) → Option fn57_E.P
  | (state, ()), () => bif (decide ((List.length state : Int) ≤ (24 : Int))) then (match fn3 (state, ()) () with | some ((r, ()), ()) => some (((!r), ()), ()) | none => none) else (some ((false, ()), ()))
noncomputable def fn57_x : Cx := ⟨tab, fn3_e, fun _ _ => 0, fun _ => false, [(8, 0), (8, 1), (8, 2), (8, 3)], []⟩
noncomputable def c263 : Code := bodyOf Tryz.f263
noncomputable def fn57_A : Ann := .nil
noncomputable def fn57_D : Ve.Fn := ⟨263, fn57_a, fn57_o, fn57_E, fn57⟩
theorem fn57_w : Walk Tryz.prog fn57_x fn57_D Tryz.f263 c263 11 fn57_A :=
  ⟨⟨Tryz.func263, by kernel_rfl, by kernel_rfl, by kernel_rfl, by decide, by kernel_rfl, Nat.le_of_ble_eq_true (by kernel_rfl)⟩, by kernel_rfl, by kernel_rfl, by kernel_rfl, kcast (by kernel_rfl) trivial, by kernel_rfl, fun x y => by kernel_rfl⟩
theorem fn57_s : fn57_D.Says Tryz.prog := fn57_w.says follows tabOk fn3_e_ok
noncomputable def fn57_e : Env := more fn3_e fn57_D
theorem fn57_e_ok : EnvOk Tryz.prog fn57_e := more_ok fn3_e_ok fn57_s
/-! slices.Compare[[]int,int] -/
abbrev fn14_J0 : Tpl := ⟨[(0, .val (.list I)), (1, .val (.list I)), (9, .val (.list I)), (10, .val I), (11, .val I)], [], []⟩
abbrev fn14_J1 : Tpl := ⟨[(4, .val I)], [], []⟩
abbrev fn14_J2 : Tpl := ⟨[(0, .val (.list I)), (1, .val (.list I))], [], []⟩
abbrev fn14_E : Ve.End := ⟨[⟨4, .shr, I, none⟩], []⟩
abbrev fn14_a : List ASh := [.val (.list I), .val (.list I)]
abbrev fn14_o : List OSh := []
abbrev fn14_O0 : Out := .or .ret fn14_J1 (.one (.ex 0) fn14_J2)
noncomputable def fn14_B0 : fn14_J0.P → Option (fn14_J0.P ⊕ fn14_O0.P)
  | ((s1, s2, t9, t10, t11, ()), ()) => bif (decide (t11 < t10)) then (guardB (inb t11 (List.length t9)) (bif (decide ((List.length s2 : Int) ≤ t11)) then (some (.inr (.inl (((1 : Int), ()), ())))) else (guardB (inb t11 (List.length s2)) (match fn33 ((List.getD t9 (Int.toNat t11) (0 : Int)), (List.getD s2 (Int.toNat t11) (0 : Int)), ()) () with | some ((r, ()), ()) => (bif (r != (0 : Int)) then (some (.inr (.inl ((r, ()), ())))) else (some (.inl ((s1, s2, t9, t10, (w64 (t11 + (1 : Int))), ()), ())))) | none => none)))) else (some (.inr (.inr ((s1, s2, ()), ()))))
noncomputable def fn14 : argP fn14_a → obP (extObs 0 fn14_o) → Option fn14_E.P
  | (s1, s2, ()), () => match loopO fn14_B0 ((s1, s2, s1, (List.length s1 : Int), (0 : Int), ()), ()) with | some (.inl ((t4, ()), ())) => some ((t4, ()), ()) | some (.inr ((s1_2, s2_2, ()), ())) => (bif (decide ((List.length s1_2 : Int) < (List.length s2_2 : Int))) then (some (((-1 : Int), ()), ())) else (some (((0 : Int), ()), ()))) | none => none
noncomputable def fn14_x : Cx := ⟨tab, fn57_e, fun _ _ => 0, fun _ => false, [(26, 0), (26, 1), (26, 2), (26, 3)], []⟩
noncomputable def c261 : Code := bodyOf Tryz.f261
noncomputable def fn14_A : Ann := .seq .nil (.seq (.seq .nil (.loop fn14_J0 fn14_O0 fn14_B0 .nil)) .nil)
theorem fn14_r0 (p : fn14_J0.P) : run fn14_x (subc [1, 0, 1, 0, 0] c261) .nil (fn14_J0.S p) (leaf fn14_J0 fn14_O0) = fn14_B0 p := by kernel_rfl
noncomputable def fn14_D : Ve.Fn := ⟨261, fn14_a, fn14_o, fn14_E, fn14⟩
theorem fn14_w : Walk Tryz.prog fn14_x fn14_D Tryz.f261 c261 36 fn14_A :=
  ⟨⟨Tryz.func261, by kernel_rfl, by kernel_rfl, by kernel_rfl, by decide, by kernel_rfl, Nat.le_of_ble_eq_true (by kernel_rfl)⟩, by kernel_rfl, by kernel_rfl, by kernel_rfl, kcast (by kernel_rfl) (⟨fn14_r0, trivial⟩ : (∀ p, run fn14_x (subc [1, 0, 1, 0, 0] c261) .nil (fn14_J0.S p) (leaf fn14_J0 fn14_O0) = fn14_B0 p) ∧ True), by kernel_rfl, fun x y => by kernel_rfl⟩
theorem fn14_s : fn14_D.Says Tryz.prog := fn14_w.says follows tabOk fn57_e_ok
noncomputable def fn14_e : Env := more fn57_e fn14_D
theorem fn14_e_ok : EnvOk Tryz.prog fn14_e := more_ok fn57_e_ok fn14_s
/-! loop.example/g01128/impl.IsSpace -/
abbrev fn52_J0 : Tpl := ⟨[(1, .cst (.prod (.list (.list I)) (.list (.prod I I)))), (16, .val (.list (.list I))), (17, .val I), (18, .val I)], [], []⟩
abbrev fn52_J1 : Tpl := ⟨[(2, .val .bool)], [], []⟩
abbrev fn52_J2 : Tpl := ⟨[(1, .cst (.prod (.list (.list I)) (.list (.prod I I))))], [], []⟩
abbrev fn52_E : Ve.End := ⟨[⟨2, .shr, .bool, none⟩], []⟩
abbrev fn52_a : List ASh := [.val (.prod (.list (.list I)) (.list (.prod I I)))]
abbrev fn52_o : List OSh := []
abbrev fn52_O0 : Out := .or .ret fn52_J1 (.one (.ex 0) fn52_J2)
noncomputable def fn52_B0 : fn52_J0.P → Option (fn52_J0.P ⊕ fn52_O0.P)
  | ((x, t16, t17, t18, ()), ()) => bif (decide (t18 < t17)) then (guardB (inb t18 (List.length t16)) (match fn57 ((List.getD t16 (Int.toNat t18) ([] : (List Int))), ()) () with | some ((r, ()), ()) => (bif (!r) then (some (.inr (.inl ((false, ()), ())))) else (bif (decide ((0 : Int) < t18)) then (guardB (inb (w64 (t18 - (1 : Int))) (List.length x.1)) (match fn14 ((List.getD x.1 (Int.toNat (w64 (t18 - (1 : Int)))) ([] : (List Int))), (List.getD t16 (Int.toNat t18) ([] : (List Int))), ()) () with | some ((r2, ()), ()) => (bif (decide ((0 : Int) ≤ r2)) then (some (.inr (.inl ((false, ()), ())))) else (some (.inl ((x, t16, t17, (w64 (t18 + (1 : Int))), ()), ())))) | none => none)) else (some (.inl ((x, t16, t17, (w64 (t18 + (1 : Int))), ()), ()))))) | none => none)) else (some (.inr (.inr ((x, ()), ()))))
noncomputable def fn52 : argP fn52_a → obP (extObs 0 fn52_o) → Option fn52_E.P
  | (x, ()), () => bif (decide ((300 : Int) < (List.length x.1 : Int))) then (some ((false, ()), ())) else (bif (decide ((6000 : Int) < (List.length x.2 : Int))) then (some ((false, ()), ())) else (match loopO fn52_B0 ((x, x.1, (List.length x.1 : Int), (0 : Int), ()), ()) with | some (.inl ((t2, ()), ())) => some ((t2, ()), ()) | some (.inr ((x2, ()), ())) => (match fn56 (x2.2, (List.length x2.1 : Int), ()) () with | some ((r, ()), ()) => some ((r, ()), ()) | none => none) | none => none))
noncomputable def fn52_x : Cx := ⟨tab, fn14_e, fun _ _ => 0, fun _ => false, [(4, 0), (24, 0), (24, 1), (24, 2), (24, 3), (37, 0), (37, 1), (37, 2), (37, 3), (47, 0), (47, 1), (47, 2), (47, 3)], [(1, 0)]⟩
noncomputable def c152 : Code := bodyOf Tryz.f152
noncomputable def fn52_A : Ann := .seq .nil (.seq .nil (.seq (.seq .nil (.loop fn52_J0 fn52_O0 fn52_B0 .nil)) .nil))
theorem fn52_r0 (p : fn52_J0.P) : run fn52_x (subc [1, 1, 0, 1, 0, 0] c152) .nil (fn52_J0.S p) (leaf fn52_J0 fn52_O0) = fn52_B0 p := by kernel_rfl
noncomputable def fn52_D : Ve.Fn := ⟨152, fn52_a, fn52_o, fn52_E, fn52⟩
theorem fn52_w : Walk Tryz.prog fn52_x fn52_D Tryz.f152 c152 48 fn52_A :=
  ⟨⟨Tryz.func152, by kernel_rfl, by kernel_rfl, by kernel_rfl, by decide, by kernel_rfl, Nat.le_of_ble_eq_true (by kernel_rfl)⟩, by kernel_rfl, by kernel_rfl, by kernel_rfl, kcast (by kernel_rfl) (⟨fn52_r0, trivial⟩ : (∀ p, run fn52_x (subc [1, 1, 0, 1, 0, 0] c152) .nil (fn52_J0.S p) (leaf fn52_J0 fn52_O0) = fn52_B0 p) ∧ True), by kernel_rfl, fun x y => by kernel_rfl⟩
theorem fn52_s : fn52_D.Says Tryz.prog := fn52_w.says follows tabOk fn14_e_ok
noncomputable def fn52_e : Env := more fn14_e fn52_D
theorem fn52_e_ok : EnvOk Tryz.prog fn52_e := more_ok fn14_e_ok fn52_s
noncomputable def slices_Sort_int_int_e : Env := more fn52_e (sortFn 280)
theorem slices_Sort_int_int_e_ok : EnvOk Tryz.prog slices_Sort_int_int_e := more_ok fn52_e_ok sort_s
noncomputable abbrev slices_Sort_int_int := (sortFn 280).F
/-! (loop.example/g01128/impl.Space).roads -/
abbrev fn31_J0 : Tpl := ⟨[(3, .own (.own .shr) (.list I)), (13, .val (.list (.prod I I))), (14, .val I), (15, .val I)], [], []⟩
abbrev fn31_J1 : Tpl := ⟨[(3, .own (.own .shr) (.list I))], [], []⟩
abbrev fn31_J2 : Tpl := ⟨[(3, .own (.own .shr) (.list I)), (46, .same (3, 0) []), (47, .val I), (48, .val I)], [], []⟩
abbrev fn31_E : Ve.End := ⟨[⟨2, (.own (.own .shr)), (.list (.list I)), none⟩], []⟩
abbrev fn31_a : List ASh := [.val (.prod (.list (.list I)) (.list (.prod I I)))]
abbrev fn31_o : List OSh := []
abbrev fn31_O0 : Out := .one (.ex 0) fn31_J1
noncomputable def fn31_B0 : fn31_J0.P → Option (fn31_J0.P ⊕ fn31_O0.P)
  | ((out, t13, t14, t15, ()), ()) => bif (decide (t15 < t14)) then (guardB (inb t15 (List.length t13)) (guardB (inb ((List.getD t13 (Int.toNat t15) ((0 : Int), (0 : Int))).1) (List.length out)) (guardB (decide ((List.length (List.getD out (Int.toNat ((List.getD t13 (Int.toNat t15) ((0 : Int), (0 : Int))).1)) ([] : (List Int))) + List.length [(List.getD t13 (Int.toNat t15) ((0 : Int), (0 : Int))).2]) * 8 ≤ 70368744177664)) (guardB (inb ((List.getD t13 (Int.toNat t15) ((0 : Int), (0 : Int))).1) (List.length out)) (guardB (Nat.beq (Int.toNat ((List.getD t13 (Int.toNat t15) ((0 : Int), (0 : Int))).1)) (Int.toNat ((List.getD t13 (Int.toNat t15) ((0 : Int), (0 : Int))).1)) && true) (guardB (inb ((List.getD t13 (Int.toNat t15) ((0 : Int), (0 : Int))).2) (List.length (List.set out (Int.toNat ((List.getD t13 (Int.toNat t15) ((0 : Int), (0 : Int))).1)) ((List.getD out (Int.toNat ((List.getD t13 (Int.toNat t15) ((0 : Int), (0 : Int))).1)) ([] : (List Int))) ++ [(List.getD t13 (Int.toNat t15) ((0 : Int), (0 : Int))).2])))) (guardB (decide ((List.length (List.getD (List.set out (Int.toNat ((List.getD t13 (Int.toNat t15) ((0 : Int), (0 : Int))).1)) ((List.getD out (Int.toNat ((List.getD t13 (Int.toNat t15) ((0 : Int), (0 : Int))).1)) ([] : (List Int))) ++ [(List.getD t13 (Int.toNat t15) ((0 : Int), (0 : Int))).2])) (Int.toNat ((List.getD t13 (Int.toNat t15) ((0 : Int), (0 : Int))).2)) ([] : (List Int))) + List.length [(List.getD t13 (Int.toNat t15) ((0 : Int), (0 : Int))).1]) * 8 ≤ 70368744177664)) (guardB (inb ((List.getD t13 (Int.toNat t15) ((0 : Int), (0 : Int))).2) (List.length (List.set out (Int.toNat ((List.getD t13 (Int.toNat t15) ((0 : Int), (0 : Int))).1)) ((List.getD out (Int.toNat ((List.getD t13 (Int.toNat t15) ((0 : Int), (0 : Int))).1)) ([] : (List Int))) ++ [(List.getD t13 (Int.toNat t15) ((0 : Int), (0 : Int))).2])))) (guardB (Nat.beq (Int.toNat ((List.getD t13 (Int.toNat t15) ((0 : Int), (0 : Int))).2)) (Int.toNat ((List.getD t13 (Int.toNat t15) ((0 : Int), (0 : Int))).2)) && true) (some (.inl (((List.set (List.set out (Int.toNat ((List.getD t13 (Int.toNat t15) ((0 : Int), (0 : Int))).1)) ((List.getD out (Int.toNat ((List.getD t13 (Int.toNat t15) ((0 : Int), (0 : Int))).1)) ([] : (List Int))) ++ [(List.getD t13 (Int.toNat t15) ((0 : Int), (0 : Int))).2])) (Int.toNat ((List.getD t13 (Int.toNat t15) ((0 : Int), (0 : Int))).2)) ((List.getD (List.set out (Int.toNat ((List.getD t13 (Int.toNat t15) ((0 : Int), (0 : Int))).1)) ((List.getD out (Int.toNat ((List.getD t13 (Int.toNat t15) ((0 : Int), (0 : Int))).1)) ([] : (List Int))) ++ [(List.getD t13 (Int.toNat t15) ((0 : Int), (0 : Int))).2])) (Int.toNat ((List.getD t13 (Int.toNat t15) ((0 : Int), (0 : Int))).2)) ([] : (List Int))) ++ [(List.getD t13 (Int.toNat t15) ((0 : Int), (0 : Int))).1])), t13, t14, (w64 (t15 + (1 : Int))), ()), ())))))))))))) else (some (.inr ((out, ()), ())))
abbrev fn31_O1 : Out := .one (.ex 2) fn31_J1
noncomputable def fn31_B1 : fn31_J2.P → Option (fn31_J2.P ⊕ fn31_O1.P)
  | ((out, t47, t48, ()), ()) => bif (decide (t48 < t47)) then (guardB (inb t48 (List.length out)) (match slices_Sort_int_int () ((List.getD out (Int.toNat t48) ([] : (List Int))), ()) with | some ((), (o, ())) => some (.inl (((List.set out (Int.toNat t48) o), t47, (w64 (t48 + (1 : Int))), ()), ())) | none => none)) else (some (.inr ((out, ()), ())))
noncomputable def fn31 : argP fn31_a → obP (extObs 0 fn31_o) → Option fn31_E.P
  | (x, ()), () => guardB (decide (0 ≤ (List.length x.1 : Int)) && decide ((List.length x.1 : Int) ≤ (List.length x.1 : Int)) && decide ((List.length x.1 : Int) * 24 ≤ 140737488355328)) (match loopO fn31_B0 (((List.replicate (Int.toNat (List.length x.1 : Int)) ([] : (List Int))), x.2, (List.length x.2 : Int), (0 : Int), ()), ()) with | some ((out, ()), ()) => (match loopO fn31_B1 ((out, (List.length out : Int), (0 : Int), ()), ()) with | some ((out2, ()), ()) => some ((out2, ()), ()) | none => none) | none => none)
noncomputable def fn31_x : Cx := ⟨tab, slices_Sort_int_int_e, fun f n => bif Nat.beq f 280 && Nat.beq n 0 then 1 else 0, fun _ => false, [(29, 0), (42, 0), (53, 0), (53, 1), (53, 2), (53, 3)], [(1, 0), (5, 0)]⟩
noncomputable def c175 : Code := bodyOf Tryz.f175
noncomputable def fn31_A : Ann := .seq .nil (.seq .nil (.seq (.seq .nil (.loop fn31_J0 fn31_O0 fn31_B0 (.seq .nil (.seq .nil (.seq (.seq .nil (.seq (.draw [(0, .flo), (1, .flo), (2, .flo), (3, .flo), (4, .flo), (5, .flo), (6, .flo), (8, .flo), (9, .flo), (7, .qui), (10, .sole), (11, .sole), (12, .flo), (13, .sole)]) (.draw [(0, .flo), (1, .flo), (2, .flo), (3, .flo), (4, .flo), (5, .flo), (6, .flo), (8, .flo), (9, .flo), (7, .qui), (10, .sole), (11, .sole), (12, .flo), (13, .sole)]))) .nil))))) (.seq (.seq .nil (.loop fn31_J2 fn31_O1 fn31_B1 .nil)) .nil)))
theorem fn31_r0 (p : fn31_J0.P) : run fn31_x (subc [1, 1, 0, 1, 0, 0] c175) (.seq .nil (.seq .nil (.seq (.seq .nil (.seq (.draw [(0, .flo), (1, .flo), (2, .flo), (3, .flo), (4, .flo), (5, .flo), (6, .flo), (8, .flo), (9, .flo), (7, .qui), (10, .sole), (11, .sole), (12, .flo), (13, .sole)]) (.draw [(0, .flo), (1, .flo), (2, .flo), (3, .flo), (4, .flo), (5, .flo), (6, .flo), (8, .flo), (9, .flo), (7, .qui), (10, .sole), (11, .sole), (12, .flo), (13, .sole)]))) .nil))) (fn31_J0.S p) (leaf fn31_J0 fn31_O0) = fn31_B0 p := by kernel_rfl
theorem fn31_r1 (p : fn31_J2.P) : run fn31_x (subc [1, 1, 1, 0, 1, 0, 0] c175) .nil (fn31_J2.S p) (leaf fn31_J2 fn31_O1) = fn31_B1 p := by kernel_rfl
noncomputable def fn31_D : Ve.Fn := ⟨175, fn31_a, fn31_o, fn31_E, fn31⟩
theorem fn31_w : Walk Tryz.prog fn31_x fn31_D Tryz.f175 c175 56 fn31_A :=
  ⟨⟨Tryz.func175, by kernel_rfl, by kernel_rfl, by kernel_rfl, by decide, by kernel_rfl, Nat.le_of_ble_eq_true (by kernel_rfl)⟩, by kernel_rfl, by kernel_rfl, by kernel_rfl, kcast (by kernel_rfl) (⟨fn31_r0, fn31_r1, trivial⟩ : (∀ p, run fn31_x (subc [1, 1, 0, 1, 0, 0] c175) (.seq .nil (.seq .nil (.seq (.seq .nil (.seq (.draw [(0, .flo), (1, .flo), (2, .flo), (3, .flo), (4, .flo), (5, .flo), (6, .flo), (8, .flo), (9, .flo), (7, .qui), (10, .sole), (11, .sole), (12, .flo), (13, .sole)]) (.draw [(0, .flo), (1, .flo), (2, .flo), (3, .flo), (4, .flo), (5, .flo), (6, .flo), (8, .flo), (9, .flo), (7, .qui), (10, .sole), (11, .sole), (12, .flo), (13, .sole)]))) .nil))) (fn31_J0.S p) (leaf fn31_J0 fn31_O0) = fn31_B0 p) ∧ (∀ p, run fn31_x (subc [1, 1, 1, 0, 1, 0, 0] c175) .nil (fn31_J2.S p) (leaf fn31_J2 fn31_O1) = fn31_B1 p) ∧ True), by kernel_rfl, fun x y => by kernel_rfl⟩
theorem fn31_s : fn31_D.Says Tryz.prog := fn31_w.says follows tabOk slices_Sort_int_int_e_ok
noncomputable def fn31_e : Env := more slices_Sort_int_int_e fn31_D
theorem fn31_e_ok : EnvOk Tryz.prog fn31_e := more_ok slices_Sort_int_int_e_ok fn31_s
/-! loop.example/g01128/impl.parts -/
abbrev fn78_J0 : Tpl := ⟨[(0, .val (.list (.list I))), (5, .own (.own .shr) (.list I)), (6, .own .shr .bool)], [], []⟩
abbrev fn78_J1 : Tpl := ⟨[(0, .val (.list (.list I))), (5, .own (.own .shr) (.list I)), (6, .own .shr .bool), (8, .own .shr I), (9, .val I), (22, .val I), (23, .val I), (47, .val (.list I)), (48, .val I), (49, .val I)], [], []⟩
abbrev fn78_J2 : Tpl := ⟨[(0, .val (.list (.list I))), (5, .own (.own .shr) (.list I)), (6, .own .shr .bool), (8, .own .shr I), (9, .val I), (22, .val I), (23, .val I)], [], []⟩
abbrev fn78_J3 : Tpl := ⟨[(0, .val (.list (.list I))), (5, .own (.own .shr) (.list I)), (6, .own .shr .bool), (8, .own .shr I), (22, .val I), (23, .val I)], [], []⟩
abbrev fn78_J4 : Tpl := ⟨[(0, .val (.list (.list I))), (5, .own (.own .shr) (.list I)), (6, .own .shr .bool), (22, .val I), (23, .val I)], [], []⟩
abbrev fn78_J5 : Tpl := ⟨[(5, .own (.own .shr) (.list I))], [], []⟩
abbrev fn78_J6 : Tpl := ⟨[(0, .val (.list (.list I))), (1, .val I), (5, .own (.own .shr) (.list I)), (6, .own .shr .bool)], [], []⟩
abbrev fn78_J7 : Tpl := ⟨[(0, .val (.list (.list I))), (1, .val I), (14, .val I)], [], []⟩
abbrev fn78_E : Ve.End := ⟨[⟨4, (.own (.own .shr)), (.list (.list I)), none⟩], []⟩
abbrev fn78_a : List ASh := [.val (.list (.list I)), .val I]
abbrev fn78_o : List OSh := []
noncomputable def fn78_D0 : fn78_J7.P → Option fn78_J6.P
  | ((t0, t1, t14, ()), ()) => guardB (decide (0 ≤ t14) && decide (t14 ≤ t14) && decide (t14 * 1 ≤ 140737488355328)) (some ((t0, t1, ([] : (List (List Int))), (List.replicate (Int.toNat t14) false), ()), ()))
noncomputable def fn78_T0 : DT fn78_J6 := .node fn78_J7 fn78_D0 (.br [(0, .sole), (4, .flo), (3, .sole), (5, .flo)] .fin (.br [(3, .sole), (0, .sole), (4, .flo), (5, .flo)] .fin .nobr))
abbrev fn78_O0 : Out := .one (.ex 4) fn78_J2
noncomputable def fn78_B0 : fn78_J1.P → Option (fn78_J1.P ⊕ fn78_O0.P)
  | ((t0, t5, t6, t8, t9, t22, t23, t47, t48, t49, ()), ()) => bif (decide (t49 < t48)) then (guardB (inb t49 (List.length t47)) (guardB (inb (List.getD t47 (Int.toNat t49) (0 : Int)) (List.length t6)) (bif (!(List.getD t6 (Int.toNat (List.getD t47 (Int.toNat t49) (0 : Int))) false)) then (guardB (inb (List.getD t47 (Int.toNat t49) (0 : Int)) (List.length t6)) (guardB (decide ((List.length t8 + List.length [(List.getD t47 (Int.toNat t49) (0 : Int))]) * 8 ≤ 70368744177664)) (some (.inl ((t0, t5, (List.set t6 (Int.toNat (List.getD t47 (Int.toNat t49) (0 : Int))) true), (t8 ++ [(List.getD t47 (Int.toNat t49) (0 : Int))]), t9, t22, t23, t47, t48, (w64 (t49 + (1 : Int))), ()), ()))))) else (some (.inl ((t0, t5, t6, t8, t9, t22, t23, t47, t48, (w64 (t49 + (1 : Int))), ()), ())))))) else (some (.inr ((t0, t5, t6, t8, t9, t22, t23, ()), ())))
abbrev fn78_O1 : Out := .one (.ex 2) fn78_J3
noncomputable def fn78_B1 : fn78_J2.P → Option (fn78_J2.P ⊕ fn78_O1.P)
  | ((t0, t5, t6, t8, t9, t22, t23, ()), ()) => bif (decide (t9 < (List.length t8 : Int))) then (guardB (inb t9 (List.length t8)) (guardB (inb (List.getD t8 (Int.toNat t9) (0 : Int)) (List.length t0)) (match loopO fn78_B0 ((t0, t5, t6, t8, t9, t22, t23, (List.getD t0 (Int.toNat (List.getD t8 (Int.toNat t9) (0 : Int))) ([] : (List Int))), (List.length (List.getD t0 (Int.toNat (List.getD t8 (Int.toNat t9) (0 : Int))) ([] : (List Int))) : Int), (0 : Int), ()), ()) with | some ((t0_2, t5_2, t6_2, t8_2, t9_2, t22_2, t23_2, ()), ()) => some (.inl ((t0_2, t5_2, t6_2, t8_2, (w64 (t9_2 + (1 : Int))), t22_2, t23_2, ()), ())) | none => none))) else (some (.inr ((t0, t5, t6, t8, t22, t23, ()), ())))
abbrev fn78_O2 : Out := .one (.ex 0) fn78_J5
noncomputable def fn78_B2 : fn78_J4.P → Option (fn78_J4.P ⊕ fn78_O2.P)
  | ((t0, t5, t6, t22, t23, ()), ()) => bif (decide (t23 < t22)) then (guardB (inb t23 (List.length t6)) (bif (List.getD t6 (Int.toNat t23) false) then (some (.inl ((t0, t5, t6, t22, (w64 (t23 + (1 : Int))), ()), ()))) else (guardB (inb t23 (List.length t6)) (match loopO fn78_B1 ((t0, t5, (List.set t6 (Int.toNat t23) true), [t23], (0 : Int), t22, t23, ()), ()) with | some ((t0_2, t5_2, t6_2, t8, t22_2, t23_2, ()), ()) => (match slices_Sort_int_int () (t8, ()) with | some ((), (o, ())) => guardB (decide ((List.length t5_2 + List.length [o]) * 24 ≤ 70368744177664)) (some (.inl ((t0_2, (t5_2 ++ [o]), t6_2, t22_2, (w64 (t23_2 + (1 : Int))), ()), ()))) | none => none) | none => none)))) else (some (.inr ((t5, ()), ())))
noncomputable def fn78 : argP fn78_a → obP (extObs 0 fn78_o) → Option fn78_E.P
  | (t0, t1, ()), () => match fn78_D0 ((t0, t1, (List.length t0 : Int), ()), ()) with | some ((t0_2, t1_2, t5, t6, ()), ()) => (match (bif (decide ((0 : Int) ≤ t1_2)) then (guardB (inb t1_2 (List.length t6)) (some (.inl ((t0_2, t5, (List.set t6 (Int.toNat t1_2) true), ()), ())))) else (some (.inl ((t0_2, t5, t6, ()), ()))) : Option (fn78_J0.P ⊕ fn78_E.P)) with | some (.inl ((t0_3, t5_2, t6_2, ()), ())) => (match loopO fn78_B2 ((t0_3, t5_2, t6_2, (List.length t0_3 : Int), (0 : Int), ()), ()) with | some ((t5_3, ()), ()) => some ((t5_3, ()), ()) | none => none) | some (.inr r) => some r | none => none) | none => none
noncomputable def fn78_x : Cx := ⟨tab, fn31_e, fun f n => bif Nat.beq f 280 && Nat.beq n 0 then 1 else 0, fun _ => false, [(63, 0), (67, 0), (67, 1), (67, 2), (67, 3)], []⟩
noncomputable def c174 : Code := bodyOf Tryz.f174
noncomputable def fn78_A : Ann := .seq .nil (.seq (.draws [(1, .flo), (2, .flo)] fn78_J6 fn78_T0) (.cut fn78_J0 .nil (.seq (.seq .nil (.loop fn78_J4 fn78_O2 fn78_B2 (.seq .nil (.seq .nil (.seq (.seq .nil (.seq .nil (.seq .nil (.seq .nil (.seq (.seq .nil (.loop fn78_J2 fn78_O1 fn78_B1 (.seq .nil (.seq (.seq .nil (.loop fn78_J1 fn78_O0 fn78_B0 .nil)) .nil)))) .nil))))) .nil))))) .nil)))
theorem fn78_D0b0 (p : fn78_J7.P) : runDrawn fn78_x (opsOf (subc [1, 0] c174)) [(0, .sole), (4, .flo), (3, .sole), (5, .flo)] (fn78_J7.S p) (endT fn78_x (.fin : DT fn78_J6)) = fn78_D0 p := by kernel_rfl
theorem fn78_D0b1 (p : fn78_J7.P) : runDrawn fn78_x (opsOf (subc [1, 0] c174)) [(3, .sole), (0, .sole), (4, .flo), (5, .flo)] (fn78_J7.S p) (endT fn78_x (.fin : DT fn78_J6)) = fn78_D0 p := by kernel_rfl
theorem fn78_r1 (p : fn78_J4.P) : run fn78_x (subc [1, 1, 1, 0, 1, 0, 0] c174) (.seq .nil (.seq .nil (.seq (.seq .nil (.seq .nil (.seq .nil (.seq .nil (.seq (.seq .nil (.loop fn78_J2 fn78_O1 fn78_B1 (.seq .nil (.seq (.seq .nil (.loop fn78_J1 fn78_O0 fn78_B0 .nil)) .nil)))) .nil))))) .nil))) (fn78_J4.S p) (leaf fn78_J4 fn78_O2) = fn78_B2 p := by kernel_rfl
theorem fn78_r2 (p : fn78_J2.P) : run fn78_x (subc [1, 1, 1, 0, 1, 0, 0, 1, 1, 0, 0, 1, 1, 1, 1, 0, 1, 0, 0] c174) (.seq .nil (.seq (.seq .nil (.loop fn78_J1 fn78_O0 fn78_B0 .nil)) .nil)) (fn78_J2.S p) (leaf fn78_J2 fn78_O1) = fn78_B1 p := by kernel_rfl
theorem fn78_r3 (p : fn78_J1.P) : run fn78_x (subc [1, 1, 1, 0, 1, 0, 0, 1, 1, 0, 0, 1, 1, 1, 1, 0, 1, 0, 0, 1, 0, 0, 1, 0, 0] c174) .nil (fn78_J1.S p) (leaf fn78_J1 fn78_O0) = fn78_B0 p := by kernel_rfl
noncomputable def fn78_D : Ve.Fn := ⟨174, fn78_a, fn78_o, fn78_E, fn78⟩
theorem fn78_w : Walk Tryz.prog fn78_x fn78_D Tryz.f174 c174 74 fn78_A :=
  ⟨⟨Tryz.func174, by kernel_rfl, by kernel_rfl, by kernel_rfl, by decide, by kernel_rfl, Nat.le_of_ble_eq_true (by kernel_rfl)⟩, by kernel_rfl, by kernel_rfl, by kernel_rfl, kcast (by kernel_rfl) (⟨fn78_D0b0, fn78_D0b1, fn78_r1, fn78_r2, fn78_r3, trivial⟩ : (∀ p, runDrawn fn78_x (opsOf (subc [1, 0] c174)) [(0, .sole), (4, .flo), (3, .sole), (5, .flo)] (fn78_J7.S p) (endT fn78_x (.fin : DT fn78_J6)) = fn78_D0 p) ∧ (∀ p, runDrawn fn78_x (opsOf (subc [1, 0] c174)) [(3, .sole), (0, .sole), (4, .flo), (5, .flo)] (fn78_J7.S p) (endT fn78_x (.fin : DT fn78_J6)) = fn78_D0 p) ∧ (∀ p, run fn78_x (subc [1, 1, 1, 0, 1, 0, 0] c174) (.seq .nil (.seq .nil (.seq (.seq .nil (.seq .nil (.seq .nil (.seq .nil (.seq (.seq .nil (.loop fn78_J2 fn78_O1 fn78_B1 (.seq .nil (.seq (.seq .nil (.loop fn78_J1 fn78_O0 fn78_B0 .nil)) .nil)))) .nil))))) .nil))) (fn78_J4.S p) (leaf fn78_J4 fn78_O2) = fn78_B2 p) ∧ (∀ p, run fn78_x (subc [1, 1, 1, 0, 1, 0, 0, 1, 1, 0, 0, 1, 1, 1, 1, 0, 1, 0, 0] c174) (.seq .nil (.seq (.seq .nil (.loop fn78_J1 fn78_O0 fn78_B0 .nil)) .nil)) (fn78_J2.S p) (leaf fn78_J2 fn78_O1) = fn78_B1 p) ∧ (∀ p, run fn78_x (subc [1, 1, 1, 0, 1, 0, 0, 1, 1, 0, 0, 1, 1, 1, 1, 0, 1, 0, 0, 1, 0, 0, 1, 0, 0] c174) .nil (fn78_J1.S p) (leaf fn78_J1 fn78_O0) = fn78_B0 p) ∧ True), by kernel_rfl, fun x y => by kernel_rfl⟩
theorem fn78_s : fn78_D.Says Tryz.prog := fn78_w.says follows tabOk fn31_e_ok
noncomputable def fn78_e : Env := more fn31_e fn78_D
theorem fn78_e_ok : EnvOk Tryz.prog fn78_e := more_ok fn31_e_ok fn78_s
/-! loop.example/g01128/impl.PartsOf -/
abbrev fn53_E : Ve.End := ⟨[⟨2, (.own (.own .shr)), (.list (.list I)), none⟩, ⟨3, .shr, .bool, none⟩], []⟩
abbrev fn53_a : List ASh := [.val (.prod (.list (.list I)) (.list (.prod I I)))]
abbrev fn53_o : List OSh := []
noncomputable def fn53 : argP fn53_a → obP (extObs 0 fn53_o) → Option fn53_E.P
  | (x, ()), () => match fn52 (x, ()) () with | some ((r, ()), ()) => (bif (!r) then (some ((([] : (List (List Int))), false, ()), ())) else (match fn31 (x, ()) () with | some ((r2, ()), ()) => (match fn78 (r2, (-1 : Int), ()) () with | some ((r3, ()), ()) => some ((r3, true, ()), ()) | none => none) | none => none)) | none => none
noncomputable def fn53_x : Cx := ⟨tab, fn78_e, fun _ _ => 0, fun _ => false, [(5, 0), (5, 1), (5, 2), (5, 3), (8, 0), (8, 1), (8, 2), (8, 3)], [(1, 0)]⟩
noncomputable def c57 : Code := bodyOf Tryz.f57
noncomputable def fn53_A : Ann := .nil
noncomputable def fn53_D : Ve.Fn := ⟨57, fn53_a, fn53_o, fn53_E, fn53⟩
theorem fn53_w : Walk Tryz.prog fn53_x fn53_D Tryz.f57 c57 10 fn53_A :=
  ⟨⟨Tryz.func57, by kernel_rfl, by kernel_rfl, by kernel_rfl, by decide, by kernel_rfl, Nat.le_of_ble_eq_true (by kernel_rfl)⟩, by kernel_rfl, by kernel_rfl, by kernel_rfl, kcast (by kernel_rfl) trivial, by kernel_rfl, fun x y => by kernel_rfl⟩
theorem fn53_s : fn53_D.Says Tryz.prog := fn53_w.says follows tabOk fn78_e_ok
noncomputable def fn53_e : Env := more fn78_e fn53_D
theorem fn53_e_ok : EnvOk Tryz.prog fn53_e := more_ok fn78_e_ok fn53_s
/-! loop.example/g01128/laws.FnFolds -/
abbrev fn58_J0 : Tpl := ⟨[(0, .val (.list (.int .u8))), (3, .cst (.prod I (.list (.prod I I)))), (8, .val (.list (.prod I I)))], [], []⟩
abbrev fn58_J1 : Tpl := ⟨[(0, .val (.list (.int .u8))), (3, .cst (.prod I (.list (.prod I I)))), (8, .val (.list (.prod I I))), (12, .val I)], [], []⟩
abbrev fn58_J2 : Tpl := ⟨[(2, .val .bool)], [], []⟩
abbrev fn58_J3 : Tpl := ⟨[(0, .val (.list (.int .u8)))], [], []⟩
abbrev fn58_E : Ve.End := ⟨[⟨2, .shr, .bool, none⟩], []⟩
abbrev fn58_a : List ASh := [.val (.list (.int .u8))]
abbrev fn58_o : List OSh := []
abbrev fn58_O0 : Out := .or .ret fn58_J2 (.one (.ex 0) fn58_J3)
noncomputable def fn58_B0 : fn58_J1.P → Option (fn58_J1.P ⊕ fn58_O0.P)
  | ((t0, t3, t8, t12, ()), ()) => bif (decide (t12 < (List.length t8 : Int))) then (guardB (inb t12 (List.length t8)) (match fn30 (t3, (List.getD t8 (Int.toNat t12) ((0 : Int), (0 : Int))).1, ()) () with | some ((r, r2, ()), ()) => (bif (!r2) then (some (.inr (.inl ((false, ()), ())))) else (guardB (inb t12 (List.length t8)) (match laws_rHas (r, (List.getD t8 (Int.toNat t12) ((0 : Int), (0 : Int))).2, ()) () with | some ((r3, ()), ()) => (bif (!r3) then (some (.inr (.inl ((false, ()), ())))) else (some (.inl ((t0, t3, t8, (w64 (t12 + (1 : Int))), ()), ())))) | none => none))) | none => none)) else (some (.inr (.inr ((t0, ()), ()))))
noncomputable def fn58 : argP fn58_a → obP (extObs 0 fn58_o) → Option fn58_E.P
  | (t0, ()), () => match laws_rBig (t0, ()) () with | some ((r, ()), ()) => (bif r then (some ((true, ()), ())) else (match fn23 (t0, ()) () with | some ((r2, ()), ()) => (match fn50 ((r2.1, r2.2), ()) () with | some ((r3, r4, ()), ()) => (match fn59 ((r2.1, r2.2), ()) () with | some ((r5, r6, ()), ()) => (bif (!(r3 == r5)) then (some ((false, ()), ())) else (bif (!(r4 == r6)) then (some ((false, ()), ())) else (match fn34 ((r2.1, r2.2), ()) () with | some ((r7, r8, ()), ()) => (match fn39 ((r2.1, r2.2), ()) () with | some ((r9, r10, ()), ()) => (bif (!(r8 == r10)) then (some ((false, ()), ())) else (bif (!(r8 == r4)) then (some ((false, ()), ())) else (match fn68 (r7, r9, ()) () with | some ((r11, ()), ()) => (bif (!r11) then (some ((false, ()), ())) else (match (bif r4 then (bif (!(r3 == ((List.length r7 : Int) == (w64 (r2.1 - (1 : Int)))))) then (some (.inr ((false, ()), ()))) else (some (.inl ((t0, (r2.1, r2.2), r7, ()), ())))) else (some (.inl ((t0, (r2.1, r2.2), r7, ()), ()))) : Option (fn58_J0.P ⊕ fn58_E.P)) with | some (.inl ((t0_2, t3, t8, ()), ())) => (match loopO fn58_B0 ((t0_2, t3, t8, (0 : Int), ()), ()) with | some (.inl ((t2, ()), ())) => some ((t2, ()), ()) | some (.inr ((t0_3, ()), ())) => (match fn22 (t0_3, ()) () with | some ((r12, r13, r14, ()), ()) => (match fn50 ((r13.1, r13.2), ()) () with | some ((r15, r16, ()), ()) => (match fn59 ((r13.1, r13.2), ()) () with | some ((r17, r18, ()), ()) => (bif (!(r15 == r17)) then (some ((false, ()), ())) else (bif (!(r16 == r18)) then (some ((false, ()), ())) else (bif (!r16) then (some ((true, ()), ())) else (bif (!r15) then (some ((true, ()), ())) else (match fn43 ((r12.1, r12.2), (r13.1, r13.2), true, ()) () with | some ((r19, r20, ()), ()) => (match fn46 ((r12.1, r12.2), (r13.1, r13.2), true, ()) () with | some ((r21, r22, ()), ()) => (bif (!(r20 == r22)) then (some ((false, ()), ())) else (match fn69 ((r19.1, r19.2), (r21.1, r21.2), ()) () with | some ((r23, ()), ()) => (bif (!r23) then (some ((false, ()), ())) else (bif (!r20) then (some ((true, ()), ())) else (match fn53 ((r19.1, r19.2), ()) () with | some ((r24, r25, ()), ()) => (bif r25 then (some (((decide ((List.length r24 : Int) ≤ (1 : Int))), ()), ())) else (some ((false, ()), ()))) | none => none))) | none => none)) | none => none) | none => none))))) | none => none) | none => none) | none => none) | none => none) | some (.inr r) => some r | none => none)) | none => none))) | none => none) | none => none))) | none => none) | none => none) | none => none)) | none => none
noncomputable def fn58_x : Cx := ⟨tab, fn53_e, fun f n => bif Nat.beq f 48 && Nat.beq n 0 then 2 else bif Nat.beq f 56 && Nat.beq n 0 then 2 else 0, fun _ => false, [(29, 0), (29, 1), (29, 2), (29, 3), (34, 0), (34, 1), (34, 2), (34, 3), (39, 0), (39, 1), (39, 2), (39, 3), (52, 0), (52, 1), (52, 2), (52, 3), (8, 0), (57, 0), (57, 1), (57, 2), (57, 3), (10, 0), (71, 0), (71, 1), (71, 2), (71, 3), (98, 0), (98, 1), (98, 2), (98, 3), (13, 0), (110, 0), (110, 1), (110, 2), (110, 3), (121, 0), (121, 1), (121, 2), (121, 3), (126, 0), (126, 1), (126, 2), (126, 3), (161, 0), (161, 1), (161, 2), (161, 3), (168, 0), (168, 1), (168, 2), (168, 3), (26, 0)], [(3, 0), (15, 0), (16, 0), (22, 0), (24, 0)]⟩
noncomputable def c5 : Code := bodyOf Tryz.f5
noncomputable def fn58_A : Ann := .seq .nil (.seq .nil (.seq .nil (.seq .nil (.seq .nil (.seq .nil (.seq .nil (.cut fn58_J0 .nil (.seq (.seq .nil (.loop fn58_J1 fn58_O0 fn58_B0 (.seq .nil (.seq (.seq (.draw [(0, .flo), (1, .flo), (2, .flo), (3, .flo), (4, .flo), (5, .flo), (6, .sole), (7, .flo), (8, .flo), (9, .flo), (10, .flo), (11, .flo)]) .nil) .nil)))) .nil))))))))
theorem fn58_r0 (p : fn58_J1.P) : run fn58_x (subc [1, 1, 1, 1, 1, 1, 1, 1, 0, 1, 0, 0] c5) (.seq .nil (.seq (.seq (.draw [(0, .flo), (1, .flo), (2, .flo), (3, .flo), (4, .flo), (5, .flo), (6, .sole), (7, .flo), (8, .flo), (9, .flo), (10, .flo), (11, .flo)]) .nil) .nil)) (fn58_J1.S p) (leaf fn58_J1 fn58_O0) = fn58_B0 p := by kernel_rfl
noncomputable def fn58_D : Ve.Fn := ⟨5, fn58_a, fn58_o, fn58_E, fn58⟩
theorem fn58_w : Walk Tryz.prog fn58_x fn58_D Tryz.f5 c5 177 fn58_A :=
  ⟨⟨Tryz.func5, by kernel_rfl, by kernel_rfl, by kernel_rfl, by decide, by kernel_rfl, Nat.le_of_ble_eq_true (by kernel_rfl)⟩, by kernel_rfl, by kernel_rfl, by kernel_rfl, kcast (by kernel_rfl) (⟨fn58_r0, trivial⟩ : (∀ p, run fn58_x (subc [1, 1, 1, 1, 1, 1, 1, 1, 0, 1, 0, 0] c5) (.seq .nil (.seq (.seq (.draw [(0, .flo), (1, .flo), (2, .flo), (3, .flo), (4, .flo), (5, .flo), (6, .sole), (7, .flo), (8, .flo), (9, .flo), (10, .flo), (11, .flo)]) .nil) .nil)) (fn58_J1.S p) (leaf fn58_J1 fn58_O0) = fn58_B0 p) ∧ True), by kernel_rfl, fun x y => by kernel_rfl⟩
theorem fn58_s : fn58_D.Says Tryz.prog := fn58_w.says follows tabOk fn53_e_ok
noncomputable def fn58_e : Env := more fn53_e fn58_D
theorem fn58_e_ok : EnvOk Tryz.prog fn58_e := more_ok fn53_e_ok fn58_s
end Go.Proofs.YtcabghamgilafaaGreat.V
