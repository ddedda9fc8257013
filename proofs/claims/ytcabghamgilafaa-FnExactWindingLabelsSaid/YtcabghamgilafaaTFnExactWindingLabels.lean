/-
  What the functions that the law reaches compute: typed pure functions, checked against the code.
-/
import Derived.Test.YtcabghamgilafaaProg
import Derived.Test.YtcabghamgilafaaE4
import Derived.Test.YtcabghamgilafaaS
namespace Go.Proofs.Ytcabghamgilafaa.V
open Go.Ve Go.Proofs
set_option linter.unusedVariables false
set_option linter.unusedSimpArgs false
set_option maxRecDepth 100000
def tab : Tab := [(3, .data ⟨I, 0, 8, false⟩), (4, .data ⟨.bool, 0, 1, false⟩), (22, .data ⟨(.list I), 0, 8, false⟩), (25, .fn), (28, .data ⟨(.list (.prod I I)), 0, 16, false⟩), (32, .data ⟨(.list (.list I)), 0, 24, false⟩), (34, .data ⟨(.prod (.list (.list I)) (.list (.prod I I))), 2, 48, false⟩), (37, .data ⟨(.prod I (.list (.prod I I))), 2, 32, false⟩), (51, .data ⟨(.prod I I), 2, 16, true⟩), (53, .fn), (60, .fn), (91, .fn), (98, .fn)]
theorem follows : Try.prog.follows .mixedOrders = true := by kernel_rfl
theorem ti3 : TiOk Try.prog tab 3 ⟨I, 0, 8, false⟩ := ti_int (by kernel_rfl) Try.underlying3
theorem ti4 : TiOk Try.prog tab 4 ⟨.bool, 0, 1, false⟩ := ti_bool (by kernel_rfl) Try.underlying4
theorem ti22 : TiOk Try.prog tab 22 ⟨(.list I), 0, 8, false⟩ := ti_list (ie := ⟨I, 0, 8, false⟩) (by kernel_rfl) Try.underlying22 (by kernel_rfl) rfl (by kernel_rfl) (by kernel_rfl)
theorem ti25 : FnOk Try.prog 25 := ti_fn (by kernel_rfl) (Try.underlying25)
theorem ti28 : TiOk Try.prog tab 28 ⟨(.list (.prod I I)), 0, 16, false⟩ := ti_list (ie := ⟨(.prod I I), 2, 16, true⟩) (by kernel_rfl) Try.underlying28 (by kernel_rfl) rfl (by kernel_rfl) (by kernel_rfl)
theorem ti32 : TiOk Try.prog tab 32 ⟨(.list (.list I)), 0, 24, false⟩ := ti_list (ie := ⟨(.list I), 0, 8, false⟩) (by kernel_rfl) Try.underlying32 (by kernel_rfl) rfl (by kernel_rfl) (by kernel_rfl)
theorem ti34 : TiOk Try.prog tab 34 ⟨(.prod (.list (.list I)) (.list (.prod I I))), 2, 48, false⟩ := ti_struct (by kernel_rfl) Try.underlying34 (by kernel_rfl) (by kernel_rfl) (by kernel_rfl) (by kernel_rfl)
theorem ti37 : TiOk Try.prog tab 37 ⟨(.prod I (.list (.prod I I))), 2, 32, false⟩ := ti_struct (by kernel_rfl) Try.underlying37 (by kernel_rfl) (by kernel_rfl) (by kernel_rfl) (by kernel_rfl)
theorem ti51 : TiOk Try.prog tab 51 ⟨(.prod I I), 2, 16, true⟩ := ti_arr (ie := ⟨I, 0, 8, false⟩) (by kernel_rfl) Try.underlying51 (by kernel_rfl) rfl (by kernel_rfl) (by kernel_rfl)
theorem ti53 : FnOk Try.prog 53 := ti_fn (by kernel_rfl) (Try.underlying53)
theorem ti60 : FnOk Try.prog 60 := ti_fn (by kernel_rfl) (Try.underlying60)
theorem ti91 : FnOk Try.prog 91 := ti_fn (by kernel_rfl) (Try.underlying91)
theorem ti98 : FnOk Try.prog 98 := ti_fn (by kernel_rfl) (Try.underlying98)
theorem tabOk : TabOk' Try.prog tab := tabOk_of ⟨ti3, ti4, ti22, ti25, ti28, ti32, ti34, ti37, ti51, ti53, ti60, ti91, ti98, trivial⟩
/-! loop.example/g01128/spec.l1In -/
abbrev spec_l1In_E : Ve.End := ⟨[⟨6, .shr, .bool, none⟩], []⟩
abbrev spec_l1In_a : List ASh := [.val I, .val I, .val I]
abbrev spec_l1In_o : List OSh := []
noncomputable def spec_l1In : argP spec_l1In_a → obP (extObs 0 spec_l1In_o) → Option spec_l1In_E.P
  | (x, a, b, ()), () => bif (decide (a ≤ x)) then (some (((decide (x ≤ b)), ()), ())) else (some ((false, ()), ()))
noncomputable def spec_l1In_x : Cx := ⟨tab, noEnv, fun _ _ => 0, fun _ => false, [], []⟩
noncomputable def c69 : Code := bodyOf Try.f69
noncomputable def spec_l1In_A : Ann := .nil
noncomputable def spec_l1In_D : Ve.Fn := ⟨69, spec_l1In_a, spec_l1In_o, spec_l1In_E, spec_l1In⟩
theorem spec_l1In_w : Walk Try.prog spec_l1In_x spec_l1In_D Try.f69 c69 15 spec_l1In_A :=
  ⟨⟨Try.func69, by kernel_rfl, by kernel_rfl, by kernel_rfl, by decide, by kernel_rfl, Nat.le_of_ble_eq_true (by kernel_rfl)⟩, by kernel_rfl, by kernel_rfl, by kernel_rfl, kcast (by kernel_rfl) trivial, by kernel_rfl, fun x y => by kernel_rfl⟩
theorem spec_l1In_s : spec_l1In_D.Says Try.prog := spec_l1In_w.says follows tabOk noEnv_ok
noncomputable def spec_l1In_e : Env := more noEnv spec_l1In_D
theorem spec_l1In_e_ok : EnvOk Try.prog spec_l1In_e := more_ok noEnv_ok spec_l1In_s
/-! loop.example/g01128/spec.l10N -/
abbrev spec_l10N_E : Ve.End := ⟨[⟨2, .shr, .bool, none⟩], []⟩
abbrev spec_l10N_a : List ASh := [.val I]
abbrev spec_l10N_o : List OSh := []
noncomputable def spec_l10N : argP spec_l10N_a → obP (extObs 0 spec_l10N_o) → Option spec_l10N_E.P
  | (n, ()), () => match spec_l1In (n, (3 : Int), (8 : Int), ()) () with | some ((r, ()), ()) => some ((r, ()), ()) | none => none
noncomputable def spec_l10N_x : Cx := ⟨tab, spec_l1In_e, fun _ _ => 0, fun _ => false, [(4, 0), (4, 1), (4, 2), (4, 3)], []⟩
noncomputable def c28 : Code := bodyOf Try.f28
noncomputable def spec_l10N_A : Ann := .nil
noncomputable def spec_l10N_D : Ve.Fn := ⟨28, spec_l10N_a, spec_l10N_o, spec_l10N_E, spec_l10N⟩
theorem spec_l10N_w : Walk Try.prog spec_l10N_x spec_l10N_D Try.f28 c28 5 spec_l10N_A :=
  ⟨⟨Try.func28, by kernel_rfl, by kernel_rfl, by kernel_rfl, by decide, by kernel_rfl, Nat.le_of_ble_eq_true (by kernel_rfl)⟩, by kernel_rfl, by kernel_rfl, by kernel_rfl, kcast (by kernel_rfl) trivial, by kernel_rfl, fun x y => by kernel_rfl⟩
theorem spec_l10N_s : spec_l10N_D.Says Try.prog := spec_l10N_w.says follows tabOk spec_l1In_e_ok
noncomputable def spec_l10N_e : Env := more spec_l1In_e spec_l10N_D
theorem spec_l10N_e_ok : EnvOk Try.prog spec_l10N_e := more_ok spec_l1In_e_ok spec_l10N_s
/-! loop.example/g01128/spec.l10Cycle -/
abbrev spec_l10Cycle_J0 : Tpl := ⟨[(0, .val I), (2, .ptr (2, 0)), (3, .ptr (3, 0)), (4, .val I)], [((2, 0), .box (.prod .shr (.own .shr)) (.prod I (.list (.prod I I)))), ((3, 0), .box (.prod .shr (.own .shr)) (.prod I (.list (.prod I I))))], []⟩
abbrev spec_l10Cycle_J1 : Tpl := ⟨[(2, .ptr (2, 0)), (3, .ptr (3, 0))], [((2, 0), .box (.prod .shr (.own .shr)) (.prod I (.list (.prod I I)))), ((3, 0), .box (.prod .shr (.own .shr)) (.prod I (.list (.prod I I))))], []⟩
abbrev spec_l10Cycle_E : Ve.End := ⟨[⟨2, (.prod .shr (.own .shr)), (.prod I (.list (.prod I I))), some 37⟩], []⟩
abbrev spec_l10Cycle_a : List ASh := [.val I]
abbrev spec_l10Cycle_o : List OSh := []
abbrev spec_l10Cycle_O0 : Out := .one (.ex 0) spec_l10Cycle_J1
noncomputable def spec_l10Cycle_B0 : spec_l10Cycle_J0.P → Option (spec_l10Cycle_J0.P ⊕ spec_l10Cycle_O0.P)
  | ((n, x, ()), (t2, out, ())) => bif (decide ((w64 (x + (1 : Int))) < n)) then (guardB (decide ((List.length out.2 + List.length [(x, (w64 (x + (1 : Int))))]) * 16 ≤ 70368744177664)) (some (.inl ((n, (w64 (x + (1 : Int))), ()), (t2, (out.1, (out.2 ++ [(x, (w64 (x + (1 : Int))))])), ()))))) else (some (.inr ((), (t2, out, ()))))
noncomputable def spec_l10Cycle : argP spec_l10Cycle_a → obP (extObs 0 spec_l10Cycle_o) → Option spec_l10Cycle_E.P
  | (n, ()), () => match loopO spec_l10Cycle_B0 ((n, (1 : Int), ()), (((0 : Int), ([] : (List (Int × Int)))), (n, [((0 : Int), (1 : Int)), ((0 : Int), (w64 (n - (1 : Int))))]), ())) with | some ((), (t2, out, ())) => some (((out.1, out.2), ()), ()) | none => none
noncomputable def spec_l10Cycle_x : Cx := ⟨tab, spec_l10N_e, fun _ _ => 0, fun _ => false, [(24, 0)], []⟩
noncomputable def c30 : Code := bodyOf Try.f30
noncomputable def spec_l10Cycle_A : Ann := .seq .nil (.seq .nil (.seq (.seq .nil (.loop spec_l10Cycle_J0 spec_l10Cycle_O0 spec_l10Cycle_B0 .nil)) .nil))
theorem spec_l10Cycle_r0 (p : spec_l10Cycle_J0.P) : run spec_l10Cycle_x (subc [1, 1, 0, 1, 0, 0] c30) .nil (spec_l10Cycle_J0.S p) (leaf spec_l10Cycle_J0 spec_l10Cycle_O0) = spec_l10Cycle_B0 p := by kernel_rfl
noncomputable def spec_l10Cycle_D : Ve.Fn := ⟨30, spec_l10Cycle_a, spec_l10Cycle_o, spec_l10Cycle_E, spec_l10Cycle⟩
theorem spec_l10Cycle_w : Walk Try.prog spec_l10Cycle_x spec_l10Cycle_D Try.f30 c30 28 spec_l10Cycle_A :=
  ⟨⟨Try.func30, by kernel_rfl, by kernel_rfl, by kernel_rfl, by decide, by kernel_rfl, Nat.le_of_ble_eq_true (by kernel_rfl)⟩, by kernel_rfl, by kernel_rfl, by kernel_rfl, kcast (by kernel_rfl) (⟨spec_l10Cycle_r0, trivial⟩ : (∀ p, run spec_l10Cycle_x (subc [1, 1, 0, 1, 0, 0] c30) .nil (spec_l10Cycle_J0.S p) (leaf spec_l10Cycle_J0 spec_l10Cycle_O0) = spec_l10Cycle_B0 p) ∧ True), by kernel_rfl, fun x y => by kernel_rfl⟩
theorem spec_l10Cycle_s : spec_l10Cycle_D.Says Try.prog := spec_l10Cycle_w.says follows tabOk spec_l10N_e_ok
noncomputable def spec_l10Cycle_e : Env := more spec_l10N_e spec_l10Cycle_D
theorem spec_l10Cycle_e_ok : EnvOk Try.prog spec_l10Cycle_e := more_ok spec_l10N_e_ok spec_l10Cycle_s
/-! loop.example/g01128/spec.l2Near -/
abbrev spec_l2Near_J0 : Tpl := ⟨[(1, .val I), (2, .val I), (3, .cst (.prod I (.list (.prod I I)))), (7, .val I)], [], []⟩
abbrev spec_l2Near_J1 : Tpl := ⟨[(6, .val .bool)], [], []⟩
abbrev spec_l2Near_J2 : Tpl := ⟨[], [], []⟩
abbrev spec_l2Near_E : Ve.End := ⟨[⟨6, .shr, .bool, none⟩], []⟩
abbrev spec_l2Near_a : List ASh := [.val (.prod I (.list (.prod I I))), .val I, .val I]
abbrev spec_l2Near_o : List OSh := []
abbrev spec_l2Near_O0 : Out := .or .ret spec_l2Near_J1 (.one (.ex 0) spec_l2Near_J2)
noncomputable def spec_l2Near_B0 : spec_l2Near_J0.P → Option (spec_l2Near_J0.P ⊕ spec_l2Near_O0.P)
  | ((a, b, g, i, ()), ()) => bif (decide (i < (List.length g.2 : Int))) then (guardB (inb i (List.length g.2)) (bif (((List.getD g.2 (Int.toNat i) ((0 : Int), (0 : Int))).1) == a) then (bif (((List.getD g.2 (Int.toNat i) ((0 : Int), (0 : Int))).2) == b) then (some (.inr (.inl ((true, ()), ())))) else (bif (((List.getD g.2 (Int.toNat i) ((0 : Int), (0 : Int))).1) == b) then (bif (((List.getD g.2 (Int.toNat i) ((0 : Int), (0 : Int))).2) == a) then (some (.inr (.inl ((true, ()), ())))) else (some (.inl ((a, b, g, (w64 (i + (1 : Int))), ()), ())))) else (some (.inl ((a, b, g, (w64 (i + (1 : Int))), ()), ()))))) else (bif (((List.getD g.2 (Int.toNat i) ((0 : Int), (0 : Int))).1) == b) then (bif (((List.getD g.2 (Int.toNat i) ((0 : Int), (0 : Int))).2) == a) then (some (.inr (.inl ((true, ()), ())))) else (some (.inl ((a, b, g, (w64 (i + (1 : Int))), ()), ())))) else (some (.inl ((a, b, g, (w64 (i + (1 : Int))), ()), ())))))) else (some (.inr (.inr ((), ()))))
noncomputable def spec_l2Near : argP spec_l2Near_a → obP (extObs 0 spec_l2Near_o) → Option spec_l2Near_E.P
  | (g, a, b, ()), () => match loopO spec_l2Near_B0 ((a, b, g, (0 : Int), ()), ()) with | some (.inl ((t6, ()), ())) => some ((t6, ()), ()) | some (.inr ((), ())) => some ((false, ()), ()) | none => none
noncomputable def spec_l2Near_x : Cx := ⟨tab, spec_l10Cycle_e, fun _ _ => 0, fun _ => false, [], [(3, 0), (8, 0)]⟩
noncomputable def c107 : Code := bodyOf Try.f107
noncomputable def spec_l2Near_A : Ann := .seq .nil (.seq (.seq .nil (.loop spec_l2Near_J0 spec_l2Near_O0 spec_l2Near_B0 .nil)) .nil)
theorem spec_l2Near_r0 (p : spec_l2Near_J0.P) : run spec_l2Near_x (subc [1, 0, 1, 0, 0] c107) .nil (spec_l2Near_J0.S p) (leaf spec_l2Near_J0 spec_l2Near_O0) = spec_l2Near_B0 p := by kernel_rfl
noncomputable def spec_l2Near_D : Ve.Fn := ⟨107, spec_l2Near_a, spec_l2Near_o, spec_l2Near_E, spec_l2Near⟩
theorem spec_l2Near_w : Walk Try.prog spec_l2Near_x spec_l2Near_D Try.f107 c107 43 spec_l2Near_A :=
  ⟨⟨Try.func107, by kernel_rfl, by kernel_rfl, by kernel_rfl, by decide, by kernel_rfl, Nat.le_of_ble_eq_true (by kernel_rfl)⟩, by kernel_rfl, by kernel_rfl, by kernel_rfl, kcast (by kernel_rfl) (⟨spec_l2Near_r0, trivial⟩ : (∀ p, run spec_l2Near_x (subc [1, 0, 1, 0, 0] c107) .nil (spec_l2Near_J0.S p) (leaf spec_l2Near_J0 spec_l2Near_O0) = spec_l2Near_B0 p) ∧ True), by kernel_rfl, fun x y => by kernel_rfl⟩
theorem spec_l2Near_s : spec_l2Near_D.Says Try.prog := spec_l2Near_w.says follows tabOk spec_l10Cycle_e_ok
noncomputable def spec_l2Near_e : Env := more spec_l10Cycle_e spec_l2Near_D
theorem spec_l2Near_e_ok : EnvOk Try.prog spec_l2Near_e := more_ok spec_l10Cycle_e_ok spec_l2Near_s
/-! loop.example/g01128/spec.l10Fits -/
abbrev spec_l10Fits_E : Ve.End := ⟨[⟨8, .shr, .bool, none⟩], []⟩
abbrev spec_l10Fits_a : List ASh := [.val (.prod I (.list (.prod I I))), .val I, .val I, .val .bool]
abbrev spec_l10Fits_o : List OSh := []
noncomputable def spec_l10Fits : argP spec_l10Fits_a → obP (extObs 0 spec_l10Fits_o) → Option spec_l10Fits_E.P
  | (h, a, b, lazy, ()), () => match spec_l2Near (h, a, b, ()) () with | some ((r, ()), ()) => (bif r then (some ((true, ()), ())) else (bif lazy then (some (((a == b), ()), ())) else (some ((false, ()), ())))) | none => none
noncomputable def spec_l10Fits_x : Cx := ⟨tab, spec_l2Near_e, fun _ _ => 0, fun _ => false, [(12, 0), (12, 1), (12, 2), (12, 3)], [(4, 0)]⟩
noncomputable def c108 : Code := bodyOf Try.f108
noncomputable def spec_l10Fits_A : Ann := .nil
noncomputable def spec_l10Fits_D : Ve.Fn := ⟨108, spec_l10Fits_a, spec_l10Fits_o, spec_l10Fits_E, spec_l10Fits⟩
theorem spec_l10Fits_w : Walk Try.prog spec_l10Fits_x spec_l10Fits_D Try.f108 c108 21 spec_l10Fits_A :=
  ⟨⟨Try.func108, by kernel_rfl, by kernel_rfl, by kernel_rfl, by decide, by kernel_rfl, Nat.le_of_ble_eq_true (by kernel_rfl)⟩, by kernel_rfl, by kernel_rfl, by kernel_rfl, kcast (by kernel_rfl) trivial, by kernel_rfl, fun x y => by kernel_rfl⟩
theorem spec_l10Fits_s : spec_l10Fits_D.Says Try.prog := spec_l10Fits_w.says follows tabOk spec_l2Near_e_ok
noncomputable def spec_l10Fits_e : Env := more spec_l2Near_e spec_l10Fits_D
theorem spec_l10Fits_e_ok : EnvOk Try.prog spec_l10Fits_e := more_ok spec_l2Near_e_ok spec_l10Fits_s
/-! loop.example/g01128/spec.l1Own -/
abbrev spec_l1Own_E : Ve.End := ⟨[⟨2, (.own .shr), (.list I), none⟩], []⟩
abbrev spec_l1Own_a : List ASh := [.val (.list I)]
abbrev spec_l1Own_o : List OSh := []
noncomputable def spec_l1Own : argP spec_l1Own_a → obP (extObs 0 spec_l1Own_o) → Option spec_l1Own_E.P
  | (l, ()), () => guardB (decide ((List.length ([] : (List Int)) + List.length l) * 8 ≤ 70368744177664)) (some (((([] : (List Int)) ++ l), ()), ()))
noncomputable def spec_l1Own_x : Cx := ⟨tab, spec_l10Fits_e, fun _ _ => 0, fun _ => false, [], []⟩
noncomputable def c109 : Code := bodyOf Try.f109
noncomputable def spec_l1Own_A : Ann := .nil
noncomputable def spec_l1Own_D : Ve.Fn := ⟨109, spec_l1Own_a, spec_l1Own_o, spec_l1Own_E, spec_l1Own⟩
theorem spec_l1Own_w : Walk Try.prog spec_l1Own_x spec_l1Own_D Try.f109 c109 6 spec_l1Own_A :=
  ⟨⟨Try.func109, by kernel_rfl, by kernel_rfl, by kernel_rfl, by decide, by kernel_rfl, Nat.le_of_ble_eq_true (by kernel_rfl)⟩, by kernel_rfl, by kernel_rfl, by kernel_rfl, kcast (by kernel_rfl) trivial, by kernel_rfl, fun x y => by kernel_rfl⟩
theorem spec_l1Own_s : spec_l1Own_D.Says Try.prog := spec_l1Own_w.says follows tabOk spec_l10Fits_e_ok
noncomputable def spec_l1Own_e : Env := more spec_l10Fits_e spec_l1Own_D
theorem spec_l1Own_e_ok : EnvOk Try.prog spec_l1Own_e := more_ok spec_l10Fits_e_ok spec_l1Own_s
/-! loop.example/g01128/spec.l10All -/
abbrev spec_l10All_J0 : Tpl := ⟨[(2, .val .bool), (3, .val (.list I)), (4, .val I), (5, .cst (.prod I (.list (.prod I I)))), (6, .cst (.prod I (.list (.prod I I)))), (11, .val I), (12, .own (.own .shr) (.list I)), (13, .val I), (14, .val .bool), (15, .val I)], [], []⟩
abbrev spec_l10All_J1 : Tpl := ⟨[(2, .val .bool), (3, .val (.list I)), (4, .val I), (5, .cst (.prod I (.list (.prod I I)))), (6, .cst (.prod I (.list (.prod I I)))), (11, .val I), (12, .own (.own .shr) (.list I)), (13, .val I), (14, .val .bool)], [], []⟩
abbrev spec_l10All_J2 : Tpl := ⟨[(2, .val .bool), (3, .val (.list I)), (4, .val I), (5, .cst (.prod I (.list (.prod I I)))), (6, .cst (.prod I (.list (.prod I I)))), (11, .val I), (12, .own .shr (.list I)), (13, .val I), (14, .val .bool), (15, .val I)], [], []⟩
abbrev spec_l10All_J3 : Tpl := ⟨[(2, .val .bool), (3, .val (.list I)), (4, .val I), (5, .cst (.prod I (.list (.prod I I)))), (6, .cst (.prod I (.list (.prod I I)))), (11, .val I), (12, .own .shr (.list I)), (13, .val I), (14, .val .bool)], [], []⟩
abbrev spec_l10All_J4 : Tpl := ⟨[(2, .val .bool), (3, .val (.list I)), (4, .val I), (5, .cst (.prod I (.list (.prod I I)))), (6, .cst (.prod I (.list (.prod I I)))), (11, .val I), (12, .own .shr (.list I)), (13, .val I)], [], []⟩
abbrev spec_l10All_J5 : Tpl := ⟨[(12, .own .shr (.list I))], [], []⟩
abbrev spec_l10All_J6 : Tpl := ⟨[(2, .val .bool), (3, .val (.list I)), (4, .val I), (5, .cst (.prod I (.list (.prod I I)))), (6, .cst (.prod I (.list (.prod I I)))), (11, .val I), (12, .own .shr (.list I)), (13, .val I), (61, .same (12, 0) []), (62, .val (.prod I (.list (.prod I I)))), (63, .val (.prod I (.list (.prod I I)))), (64, .val .bool), (65, .val (.list I)), (67, .val I), (73, .val I)], [], []⟩
abbrev spec_l10All_E : Ve.End := ⟨[⟨10, (.own .shr), (.list (.list I)), none⟩], []⟩
abbrev spec_l10All_a : List ASh := [.val (.prod I (.list (.prod I I))), .val (.prod I (.list (.prod I I))), .val .bool, .val (.list I), .val I]
abbrev spec_l10All_o : List OSh := []
noncomputable def spec_l10All_D0 (rc : argP spec_l10All_a → obP (extObs 0 spec_l10All_o) → Option spec_l10All_E.P) : spec_l10All_J6.P → Option spec_l10All_J4.P
  | ((t2, t3, t4, t5, t6, t11, t12, t13, t62, t63, t64, t65, t67, t73, ()), ()) => match spec_l1Own (t65, ()) () with | some ((r, ()), ()) => guardB (decide ((List.length r + List.length [t67]) * 8 ≤ 70368744177664)) (match rc (t62, t63, t64, (r ++ [t67]), t73, ()) () with | some ((r2, ()), ()) => guardB (decide ((List.length t12 + List.length r2) * 24 ≤ 70368744177664)) (some ((t2, t3, t4, t5, t6, t11, (t12 ++ r2), t13, ()), ())) | none => none) | none => none
noncomputable def spec_l10All_T0 (rc : argP spec_l10All_a → obP (extObs 0 spec_l10All_o) → Option spec_l10All_E.P) : DT spec_l10All_J4 := .node spec_l10All_J6 (spec_l10All_D0 rc) (.br [(5, .sole), (7, .sole), (8, .sole), (13, .sole), (14, .sole), (15, .flo)] .fin (.br [(7, .sole), (5, .sole), (8, .sole), (13, .sole), (14, .sole), (15, .flo)] .fin .nobr))
abbrev spec_l10All_O0 : Out := .one (.ex 2) spec_l10All_J3
noncomputable def spec_l10All_B0 (rc : argP spec_l10All_a → obP (extObs 0 spec_l10All_o) → Option spec_l10All_E.P) : spec_l10All_J2.P → Option (spec_l10All_J2.P ⊕ spec_l10All_O0.P)
  | ((t2, t3, t4, t5, t6, t11, t12, t13, t14, t15, ()), ()) => bif (decide (t15 < t11)) then (bif t14 then (match spec_l2Near (t5, t15, t11, ()) () with | some ((r, ()), ()) => (bif (!r) then (some (.inl ((t2, t3, t4, t5, t6, t11, t12, t13, true, (w64 (t15 + (1 : Int))), ()), ()))) else (guardB (inb t15 (List.length t3)) (match spec_l10Fits (t6, (List.getD t3 (Int.toNat t15) (0 : Int)), t13, t2, ()) () with | some ((r2, ()), ()) => some (.inl ((t2, t3, t4, t5, t6, t11, t12, t13, r2, (w64 (t15 + (1 : Int))), ()), ())) | none => none))) | none => none) else (some (.inr ((t2, t3, t4, t5, t6, t11, t12, t13, t14, ()), ())))) else (some (.inr ((t2, t3, t4, t5, t6, t11, t12, t13, t14, ()), ())))
abbrev spec_l10All_O1 : Out := .one (.ex 0) spec_l10All_J5
noncomputable def spec_l10All_B1 (rc : argP spec_l10All_a → obP (extObs 0 spec_l10All_o) → Option spec_l10All_E.P) : spec_l10All_J4.P → Option (spec_l10All_J4.P ⊕ spec_l10All_O1.P)
  | ((t2, t3, t4, t5, t6, t11, t12, t13, ()), ()) => bif (decide (t13 < t6.1)) then (bif (decide ((List.length t12 : Int) ≤ t4)) then (match loopO (spec_l10All_B0 rc) ((t2, t3, t4, t5, t6, t11, t12, t13, true, (0 : Int), ()), ()) with | some ((t2_2, t3_2, t4_2, t5_2, t6_2, t11_2, t12_2, t13_2, t14, ()), ()) => (bif t14 then (match (spec_l10All_D0 rc) ((t2_2, t3_2, t4_2, t5_2, t6_2, t11_2, t12_2, t13_2, t5_2, t6_2, t2_2, t3_2, t13_2, (w64 (t4_2 - (List.length t12_2 : Int))), ()), ()) with | some ((t2_3, t3_3, t4_3, t5_3, t6_3, t11_3, t12_3, t13_3, ()), ()) => some (.inl ((t2_3, t3_3, t4_3, t5_3, t6_3, t11_3, t12_3, (w64 (t13_3 + (1 : Int))), ()), ())) | none => none) else (some (.inl ((t2_2, t3_2, t4_2, t5_2, t6_2, t11_2, t12_2, (w64 (t13_2 + (1 : Int))), ()), ())))) | none => none) else (some (.inr ((t12, ()), ())))) else (some (.inr ((t12, ()), ())))
noncomputable def spec_l10All_F (rc : argP spec_l10All_a → obP (extObs 0 spec_l10All_o) → Option spec_l10All_E.P) : argP spec_l10All_a → obP (extObs 0 spec_l10All_o) → Option spec_l10All_E.P
  | (t0, t1, t2, t3, t4, ()), () => bif ((List.length t3 : Int) == t0.1) then (some (([t3], ()), ())) else (match loopO (spec_l10All_B1 rc) ((t2, t3, t4, t0, t1, (List.length t3 : Int), ([] : (List (List Int))), (0 : Int), ()), ()) with | some ((t12, ()), ()) => some ((t12, ()), ()) | none => none)
noncomputable def spec_l10All : argP spec_l10All_a → obP (extObs 0 spec_l10All_o) → Option spec_l10All_E.P := fuelF spec_l10All_F 1000
noncomputable def spec_l10All_x (rc : argP spec_l10All_a → obP (extObs 0 spec_l10All_o) → Option spec_l10All_E.P) : Cx := ⟨tab, more spec_l1Own_e ⟨70, spec_l10All_a, spec_l10All_o, spec_l10All_E, rc⟩, fun _ _ => 0, fun _ => false, [(24, 0), (48, 0), (48, 1), (48, 2), (48, 3), (58, 0), (58, 1), (58, 2), (58, 3), (68, 0)], [(5, 0), (6, 0)]⟩
noncomputable def c70 : Code := bodyOf Try.f70
noncomputable def spec_l10All_A (rc : argP spec_l10All_a → obP (extObs 0 spec_l10All_o) → Option spec_l10All_E.P) : Ann := .seq .nil (.seq .nil (.seq .nil (.seq (.seq .nil (.loop spec_l10All_J4 spec_l10All_O1 (spec_l10All_B1 rc) (.seq .nil (.seq (.seq .nil (.seq (.seq .nil (.loop spec_l10All_J2 spec_l10All_O0 (spec_l10All_B0 rc) (.seq .nil (.seq (.draw [(0, .flo), (1, .flo), (2, .flo), (3, .sole), (4, .flo), (5, .flo), (6, .flo), (7, .flo), (8, .flo), (9, .flo), (11, .flo), (12, .flo), (10, .qui), (13, .sole), (14, .flo), (15, .flo)]) .nil)))) (.seq .nil (.seq (.draws [(0, .flo), (1, .flo), (2, .flo), (3, .flo), (4, .flo), (6, .flo), (9, .flo), (10, .flo), (11, .flo), (12, .flo)] spec_l10All_J4 (spec_l10All_T0 rc)) .nil)))) .nil)))) .nil)))
theorem spec_l10All_r0 (rc : argP spec_l10All_a → obP (extObs 0 spec_l10All_o) → Option spec_l10All_E.P) (p : spec_l10All_J4.P) : run (spec_l10All_x rc) (subc [1, 1, 1, 0, 1, 0, 0] c70) (.seq .nil (.seq (.seq .nil (.seq (.seq .nil (.loop spec_l10All_J2 spec_l10All_O0 (spec_l10All_B0 rc) (.seq .nil (.seq (.draw [(0, .flo), (1, .flo), (2, .flo), (3, .sole), (4, .flo), (5, .flo), (6, .flo), (7, .flo), (8, .flo), (9, .flo), (11, .flo), (12, .flo), (10, .qui), (13, .sole), (14, .flo), (15, .flo)]) .nil)))) (.seq .nil (.seq (.draws [(0, .flo), (1, .flo), (2, .flo), (3, .flo), (4, .flo), (6, .flo), (9, .flo), (10, .flo), (11, .flo), (12, .flo)] spec_l10All_J4 (spec_l10All_T0 rc)) .nil)))) .nil)) (spec_l10All_J4.S p) (leaf spec_l10All_J4 spec_l10All_O1) = (spec_l10All_B1 rc) p := by kernel_rfl
theorem spec_l10All_r1 (rc : argP spec_l10All_a → obP (extObs 0 spec_l10All_o) → Option spec_l10All_E.P) (p : spec_l10All_J2.P) : run (spec_l10All_x rc) (subc [1, 1, 1, 0, 1, 0, 0, 1, 0, 0, 1, 0, 1, 0, 0] c70) (.seq .nil (.seq (.draw [(0, .flo), (1, .flo), (2, .flo), (3, .sole), (4, .flo), (5, .flo), (6, .flo), (7, .flo), (8, .flo), (9, .flo), (11, .flo), (12, .flo), (10, .qui), (13, .sole), (14, .flo), (15, .flo)]) .nil)) (spec_l10All_J2.S p) (leaf spec_l10All_J2 spec_l10All_O0) = (spec_l10All_B0 rc) p := by kernel_rfl
theorem spec_l10All_D0b0 (rc : argP spec_l10All_a → obP (extObs 0 spec_l10All_o) → Option spec_l10All_E.P) (p : spec_l10All_J6.P) : runDrawn (spec_l10All_x rc) (opsOf (subc [1, 1, 1, 0, 1, 0, 0, 1, 0, 0, 1, 1, 1, 0] c70)) [(5, .sole), (7, .sole), (8, .sole), (13, .sole), (14, .sole), (15, .flo)] (spec_l10All_J6.S p) (endT (spec_l10All_x rc) (.fin : DT spec_l10All_J4)) = (spec_l10All_D0 rc) p := by kernel_rfl
theorem spec_l10All_D0b1 (rc : argP spec_l10All_a → obP (extObs 0 spec_l10All_o) → Option spec_l10All_E.P) (p : spec_l10All_J6.P) : runDrawn (spec_l10All_x rc) (opsOf (subc [1, 1, 1, 0, 1, 0, 0, 1, 0, 0, 1, 1, 1, 0] c70)) [(7, .sole), (5, .sole), (8, .sole), (13, .sole), (14, .sole), (15, .flo)] (spec_l10All_J6.S p) (endT (spec_l10All_x rc) (.fin : DT spec_l10All_J4)) = (spec_l10All_D0 rc) p := by kernel_rfl
noncomputable def spec_l10All_D : Ve.Fn := ⟨70, spec_l10All_a, spec_l10All_o, spec_l10All_E, spec_l10All⟩
theorem spec_l10All_w (rc : argP spec_l10All_a → obP (extObs 0 spec_l10All_o) → Option spec_l10All_E.P) : Walk Try.prog (spec_l10All_x rc) ⟨70, spec_l10All_a, spec_l10All_o, spec_l10All_E, spec_l10All_F rc⟩ Try.f70 c70 77 (spec_l10All_A rc) :=
  ⟨⟨Try.func70, by kernel_rfl, by kernel_rfl, by kernel_rfl, by decide, by kernel_rfl, Nat.le_of_ble_eq_true (by kernel_rfl)⟩, by kernel_rfl, by kernel_rfl, by kernel_rfl, kcast (by kernel_rfl) (⟨(spec_l10All_r0 rc), (spec_l10All_r1 rc), (spec_l10All_D0b0 rc), (spec_l10All_D0b1 rc), trivial⟩ : (∀ p, run (spec_l10All_x rc) (subc [1, 1, 1, 0, 1, 0, 0] c70) (.seq .nil (.seq (.seq .nil (.seq (.seq .nil (.loop spec_l10All_J2 spec_l10All_O0 (spec_l10All_B0 rc) (.seq .nil (.seq (.draw [(0, .flo), (1, .flo), (2, .flo), (3, .sole), (4, .flo), (5, .flo), (6, .flo), (7, .flo), (8, .flo), (9, .flo), (11, .flo), (12, .flo), (10, .qui), (13, .sole), (14, .flo), (15, .flo)]) .nil)))) (.seq .nil (.seq (.draws [(0, .flo), (1, .flo), (2, .flo), (3, .flo), (4, .flo), (6, .flo), (9, .flo), (10, .flo), (11, .flo), (12, .flo)] spec_l10All_J4 (spec_l10All_T0 rc)) .nil)))) .nil)) (spec_l10All_J4.S p) (leaf spec_l10All_J4 spec_l10All_O1) = (spec_l10All_B1 rc) p) ∧ (∀ p, run (spec_l10All_x rc) (subc [1, 1, 1, 0, 1, 0, 0, 1, 0, 0, 1, 0, 1, 0, 0] c70) (.seq .nil (.seq (.draw [(0, .flo), (1, .flo), (2, .flo), (3, .sole), (4, .flo), (5, .flo), (6, .flo), (7, .flo), (8, .flo), (9, .flo), (11, .flo), (12, .flo), (10, .qui), (13, .sole), (14, .flo), (15, .flo)]) .nil)) (spec_l10All_J2.S p) (leaf spec_l10All_J2 spec_l10All_O0) = (spec_l10All_B0 rc) p) ∧ (∀ p, runDrawn (spec_l10All_x rc) (opsOf (subc [1, 1, 1, 0, 1, 0, 0, 1, 0, 0, 1, 1, 1, 0] c70)) [(5, .sole), (7, .sole), (8, .sole), (13, .sole), (14, .sole), (15, .flo)] (spec_l10All_J6.S p) (endT (spec_l10All_x rc) (.fin : DT spec_l10All_J4)) = (spec_l10All_D0 rc) p) ∧ (∀ p, runDrawn (spec_l10All_x rc) (opsOf (subc [1, 1, 1, 0, 1, 0, 0, 1, 0, 0, 1, 1, 1, 0] c70)) [(7, .sole), (5, .sole), (8, .sole), (13, .sole), (14, .sole), (15, .flo)] (spec_l10All_J6.S p) (endT (spec_l10All_x rc) (.fin : DT spec_l10All_J4)) = (spec_l10All_D0 rc) p) ∧ True), by kernel_rfl, fun x y => by kernel_rfl⟩
theorem spec_l10All_s : spec_l10All_D.Says Try.prog := fuel_says (fun rc h => (spec_l10All_w rc).says follows tabOk (more_ok spec_l1Own_e_ok h)) 1000
noncomputable def spec_l10All_e : Env := more spec_l1Own_e spec_l10All_D
theorem spec_l10All_e_ok : EnvOk Try.prog spec_l10All_e := more_ok spec_l1Own_e_ok spec_l10All_s
/-! loop.example/g01128/spec.l6Apart -/
abbrev spec_l6Apart_J0 : Tpl := ⟨[(0, .val (.list I)), (1, .val (.list I)), (5, .val I), (6, .val I)], [], []⟩
abbrev spec_l6Apart_J1 : Tpl := ⟨[(5, .val I)], [], []⟩
abbrev spec_l6Apart_E : Ve.End := ⟨[⟨4, .shr, I, none⟩], []⟩
abbrev spec_l6Apart_a : List ASh := [.val (.list I), .val (.list I)]
abbrev spec_l6Apart_o : List OSh := []
abbrev spec_l6Apart_O0 : Out := .one (.ex 0) spec_l6Apart_J1
noncomputable def spec_l6Apart_B0 : spec_l6Apart_J0.P → Option (spec_l6Apart_J0.P ⊕ spec_l6Apart_O0.P)
  | ((a, b, count, i, ()), ()) => bif (decide (i < (List.length a : Int))) then (guardB (inb i (List.length a)) (guardB (inb i (List.length b)) (bif ((List.getD a (Int.toNat i) (0 : Int)) != (List.getD b (Int.toNat i) (0 : Int))) then (some (.inl ((a, b, (w64 (count + (1 : Int))), (w64 (i + (1 : Int))), ()), ()))) else (some (.inl ((a, b, count, (w64 (i + (1 : Int))), ()), ())))))) else (some (.inr ((count, ()), ())))
noncomputable def spec_l6Apart : argP spec_l6Apart_a → obP (extObs 0 spec_l6Apart_o) → Option spec_l6Apart_E.P
  | (a, b, ()), () => match loopO spec_l6Apart_B0 ((a, b, (0 : Int), (0 : Int), ()), ()) with | some ((count, ()), ()) => some ((count, ()), ()) | none => none
noncomputable def spec_l6Apart_x : Cx := ⟨tab, spec_l10All_e, fun _ _ => 0, fun _ => false, [], []⟩
noncomputable def c110 : Code := bodyOf Try.f110
noncomputable def spec_l6Apart_A : Ann := .seq .nil (.seq .nil (.seq (.seq .nil (.loop spec_l6Apart_J0 spec_l6Apart_O0 spec_l6Apart_B0 (.seq .nil (.seq (.seq (.draw [(0, .flo), (1, .flo), (2, .flo), (3, .flo), (4, .flo), (5, .flo), (6, .flo), (7, .flo), (8, .flo)]) .nil) .nil)))) .nil))
theorem spec_l6Apart_r0 (p : spec_l6Apart_J0.P) : run spec_l6Apart_x (subc [1, 1, 0, 1, 0, 0] c110) (.seq .nil (.seq (.seq (.draw [(0, .flo), (1, .flo), (2, .flo), (3, .flo), (4, .flo), (5, .flo), (6, .flo), (7, .flo), (8, .flo)]) .nil) .nil)) (spec_l6Apart_J0.S p) (leaf spec_l6Apart_J0 spec_l6Apart_O0) = spec_l6Apart_B0 p := by kernel_rfl
noncomputable def spec_l6Apart_D : Ve.Fn := ⟨110, spec_l6Apart_a, spec_l6Apart_o, spec_l6Apart_E, spec_l6Apart⟩
theorem spec_l6Apart_w : Walk Try.prog spec_l6Apart_x spec_l6Apart_D Try.f110 c110 25 spec_l6Apart_A :=
  ⟨⟨Try.func110, by kernel_rfl, by kernel_rfl, by kernel_rfl, by decide, by kernel_rfl, Nat.le_of_ble_eq_true (by kernel_rfl)⟩, by kernel_rfl, by kernel_rfl, by kernel_rfl, kcast (by kernel_rfl) (⟨spec_l6Apart_r0, trivial⟩ : (∀ p, run spec_l6Apart_x (subc [1, 1, 0, 1, 0, 0] c110) (.seq .nil (.seq (.seq (.draw [(0, .flo), (1, .flo), (2, .flo), (3, .flo), (4, .flo), (5, .flo), (6, .flo), (7, .flo), (8, .flo)]) .nil) .nil)) (spec_l6Apart_J0.S p) (leaf spec_l6Apart_J0 spec_l6Apart_O0) = spec_l6Apart_B0 p) ∧ True), by kernel_rfl, fun x y => by kernel_rfl⟩
theorem spec_l6Apart_s : spec_l6Apart_D.Says Try.prog := spec_l6Apart_w.says follows tabOk spec_l10All_e_ok
noncomputable def spec_l6Apart_e : Env := more spec_l10All_e spec_l6Apart_D
theorem spec_l6Apart_e_ok : EnvOk Try.prog spec_l6Apart_e := more_ok spec_l10All_e_ok spec_l6Apart_s
/-! loop.example/g01128/spec.l6Space -/
abbrev spec_l6Space_J0 : Tpl := ⟨[(0, .val (.list (.list I))), (2, .ptr (2, 0)), (3, .ptr (3, 0)), (4, .val I), (5, .val I)], [((2, 0), .box (.prod (.own (.own .shr)) (.own .shr)) (.prod (.list (.list I)) (.list (.prod I I)))), ((3, 0), .box (.prod .shr (.own .shr)) (.prod (.list (.list I)) (.list (.prod I I))))], []⟩
abbrev spec_l6Space_J1 : Tpl := ⟨[(0, .val (.list (.list I))), (2, .ptr (2, 0)), (3, .ptr (3, 0)), (4, .val I)], [((2, 0), .box (.prod (.own (.own .shr)) (.own .shr)) (.prod (.list (.list I)) (.list (.prod I I)))), ((3, 0), .box (.prod .shr (.own .shr)) (.prod (.list (.list I)) (.list (.prod I I))))], []⟩
abbrev spec_l6Space_J2 : Tpl := ⟨[(2, .ptr (2, 0)), (3, .ptr (3, 0))], [((2, 0), .box (.prod (.own (.own .shr)) (.own .shr)) (.prod (.list (.list I)) (.list (.prod I I)))), ((3, 0), .box (.prod .shr (.own .shr)) (.prod (.list (.list I)) (.list (.prod I I))))], []⟩
abbrev spec_l6Space_E : Ve.End := ⟨[⟨2, (.prod .shr (.own .shr)), (.prod (.list (.list I)) (.list (.prod I I))), some 34⟩], []⟩
abbrev spec_l6Space_a : List ASh := [.val (.list (.list I))]
abbrev spec_l6Space_o : List OSh := []
abbrev spec_l6Space_O0 : Out := .one (.ex 2) spec_l6Space_J1
noncomputable def spec_l6Space_B0 : spec_l6Space_J0.P → Option (spec_l6Space_J0.P ⊕ spec_l6Space_O0.P)
  | ((states, i, j, ()), (t2, out, ())) => bif (decide (j < (List.length states : Int))) then (guardB (inb i (List.length states)) (guardB (inb j (List.length states)) (match spec_l6Apart ((List.getD states (Int.toNat i) ([] : (List Int))), (List.getD states (Int.toNat j) ([] : (List Int))), ()) () with | some ((r, ()), ()) => (bif (r == (1 : Int)) then (guardB (decide ((List.length out.2 + List.length [(i, j)]) * 16 ≤ 70368744177664)) (some (.inl ((states, i, (w64 (j + (1 : Int))), ()), (t2, (out.1, (out.2 ++ [(i, j)])), ()))))) else (some (.inl ((states, i, (w64 (j + (1 : Int))), ()), (t2, out, ()))))) | none => none))) else (some (.inr ((states, i, ()), (t2, out, ()))))
abbrev spec_l6Space_O1 : Out := .one (.ex 0) spec_l6Space_J2
noncomputable def spec_l6Space_B1 : spec_l6Space_J1.P → Option (spec_l6Space_J1.P ⊕ spec_l6Space_O1.P)
  | ((states, i, ()), (t2, out, ())) => bif (decide (i < (List.length states : Int))) then (match loopO spec_l6Space_B0 ((states, i, (w64 (i + (1 : Int))), ()), (t2, out, ())) with | some ((states2, i2, ()), (t2_2, out2, ())) => some (.inl ((states2, (w64 (i2 + (1 : Int))), ()), (t2_2, out2, ()))) | none => none) else (some (.inr ((), (t2, out, ()))))
noncomputable def spec_l6Space : argP spec_l6Space_a → obP (extObs 0 spec_l6Space_o) → Option spec_l6Space_E.P
  | (states, ()), () => match loopO spec_l6Space_B1 ((states, (0 : Int), ()), ((([] : (List (List Int))), ([] : (List (Int × Int)))), (states, ([] : (List (Int × Int)))), ())) with | some ((), (t2, out, ())) => some (((out.1, out.2), ()), ()) | none => none
noncomputable def spec_l6Space_x : Cx := ⟨tab, spec_l6Apart_e, fun _ _ => 0, fun _ => false, [(7, 0), (31, 0), (31, 1), (31, 2), (31, 3), (38, 0)], []⟩
noncomputable def c71 : Code := bodyOf Try.f71
noncomputable def spec_l6Space_A : Ann := .seq .nil (.seq .nil (.seq (.seq .nil (.loop spec_l6Space_J1 spec_l6Space_O1 spec_l6Space_B1 (.seq .nil (.seq (.seq .nil (.loop spec_l6Space_J0 spec_l6Space_O0 spec_l6Space_B0 (.seq .nil (.seq (.seq (.draw [(0, .flo), (1, .flo), (2, .flo), (3, .flo), (4, .flo), (5, .flo), (6, .flo), (7, .flo), (8, .sole), (9, .flo)]) .nil) .nil)))) .nil)))) .nil))
theorem spec_l6Space_r0 (p : spec_l6Space_J1.P) : run spec_l6Space_x (subc [1, 1, 0, 1, 0, 0] c71) (.seq .nil (.seq (.seq .nil (.loop spec_l6Space_J0 spec_l6Space_O0 spec_l6Space_B0 (.seq .nil (.seq (.seq (.draw [(0, .flo), (1, .flo), (2, .flo), (3, .flo), (4, .flo), (5, .flo), (6, .flo), (7, .flo), (8, .sole), (9, .flo)]) .nil) .nil)))) .nil)) (spec_l6Space_J1.S p) (leaf spec_l6Space_J1 spec_l6Space_O1) = spec_l6Space_B1 p := by kernel_rfl
theorem spec_l6Space_r1 (p : spec_l6Space_J0.P) : run spec_l6Space_x (subc [1, 1, 0, 1, 0, 0, 1, 0, 0, 1, 0, 0] c71) (.seq .nil (.seq (.seq (.draw [(0, .flo), (1, .flo), (2, .flo), (3, .flo), (4, .flo), (5, .flo), (6, .flo), (7, .flo), (8, .sole), (9, .flo)]) .nil) .nil)) (spec_l6Space_J0.S p) (leaf spec_l6Space_J0 spec_l6Space_O0) = spec_l6Space_B0 p := by kernel_rfl
noncomputable def spec_l6Space_D : Ve.Fn := ⟨71, spec_l6Space_a, spec_l6Space_o, spec_l6Space_E, spec_l6Space⟩
theorem spec_l6Space_w : Walk Try.prog spec_l6Space_x spec_l6Space_D Try.f71 c71 42 spec_l6Space_A :=
  ⟨⟨Try.func71, by kernel_rfl, by kernel_rfl, by kernel_rfl, by decide, by kernel_rfl, Nat.le_of_ble_eq_true (by kernel_rfl)⟩, by kernel_rfl, by kernel_rfl, by kernel_rfl, kcast (by kernel_rfl) (⟨spec_l6Space_r0, spec_l6Space_r1, trivial⟩ : (∀ p, run spec_l6Space_x (subc [1, 1, 0, 1, 0, 0] c71) (.seq .nil (.seq (.seq .nil (.loop spec_l6Space_J0 spec_l6Space_O0 spec_l6Space_B0 (.seq .nil (.seq (.seq (.draw [(0, .flo), (1, .flo), (2, .flo), (3, .flo), (4, .flo), (5, .flo), (6, .flo), (7, .flo), (8, .sole), (9, .flo)]) .nil) .nil)))) .nil)) (spec_l6Space_J1.S p) (leaf spec_l6Space_J1 spec_l6Space_O1) = spec_l6Space_B1 p) ∧ (∀ p, run spec_l6Space_x (subc [1, 1, 0, 1, 0, 0, 1, 0, 0, 1, 0, 0] c71) (.seq .nil (.seq (.seq (.draw [(0, .flo), (1, .flo), (2, .flo), (3, .flo), (4, .flo), (5, .flo), (6, .flo), (7, .flo), (8, .sole), (9, .flo)]) .nil) .nil)) (spec_l6Space_J0.S p) (leaf spec_l6Space_J0 spec_l6Space_O0) = spec_l6Space_B0 p) ∧ True), by kernel_rfl, fun x y => by kernel_rfl⟩
theorem spec_l6Space_s : spec_l6Space_D.Says Try.prog := spec_l6Space_w.says follows tabOk spec_l6Apart_e_ok
noncomputable def spec_l6Space_e : Env := more spec_l6Apart_e spec_l6Space_D
theorem spec_l6Space_e_ok : EnvOk Try.prog spec_l6Space_e := more_ok spec_l6Apart_e_ok spec_l6Space_s
/-! loop.example/g01128/spec.l10Space -/
abbrev spec_l10Space_E : Ve.End := ⟨[⟨6, (.prod .shr (.own .shr)), (.prod (.list (.list I)) (.list (.prod I I))), some 34⟩, ⟨7, .shr, .bool, none⟩], []⟩
abbrev spec_l10Space_a : List ASh := [.val (.prod I (.list (.prod I I))), .val (.prod I (.list (.prod I I))), .val .bool]
abbrev spec_l10Space_o : List OSh := []
noncomputable def spec_l10Space : argP spec_l10Space_a → obP (extObs 0 spec_l10Space_o) → Option spec_l10Space_E.P
  | (g, h, lazy, ()), () => match spec_l10All (g, h, lazy, ([] : (List Int)), (300 : Int), ()) () with | some ((r, ()), ()) => (bif (decide ((300 : Int) < (List.length r : Int))) then (some (((([] : (List (List Int))), ([] : (List (Int × Int)))), false, ()), ())) else (match spec_l6Space (r, ()) () with | some ((r2, ()), ()) => some (((r2.1, r2.2), true, ()), ()) | none => none)) | none => none
noncomputable def spec_l10Space_x : Cx := ⟨tab, spec_l6Space_e, fun _ _ => 0, fun _ => false, [(12, 0), (13, 0), (13, 1), (13, 2), (13, 3), (8, 0)], [(3, 0), (4, 0)]⟩
noncomputable def c29 : Code := bodyOf Try.f29
noncomputable def spec_l10Space_A : Ann := .nil
noncomputable def spec_l10Space_D : Ve.Fn := ⟨29, spec_l10Space_a, spec_l10Space_o, spec_l10Space_E, spec_l10Space⟩
theorem spec_l10Space_w : Walk Try.prog spec_l10Space_x spec_l10Space_D Try.f29 c29 20 spec_l10Space_A :=
  ⟨⟨Try.func29, by kernel_rfl, by kernel_rfl, by kernel_rfl, by decide, by kernel_rfl, Nat.le_of_ble_eq_true (by kernel_rfl)⟩, by kernel_rfl, by kernel_rfl, by kernel_rfl, kcast (by kernel_rfl) trivial, by kernel_rfl, fun x y => by kernel_rfl⟩
theorem spec_l10Space_s : spec_l10Space_D.Says Try.prog := spec_l10Space_w.says follows tabOk spec_l6Space_e_ok
noncomputable def spec_l10Space_e : Env := more spec_l6Space_e spec_l10Space_D
theorem spec_l10Space_e_ok : EnvOk Try.prog spec_l10Space_e := more_ok spec_l6Space_e_ok spec_l10Space_s
/-! loop.example/g01128/spec.l10Up -/
abbrev spec_l10Up_E : Ve.End := ⟨[⟨6, .shr, I, none⟩], []⟩
abbrev spec_l10Up_a : List ASh := [.val I, .val I, .val I]
abbrev spec_l10Up_o : List OSh := []
noncomputable def spec_l10Up : argP spec_l10Up_a → obP (extObs 0 spec_l10Up_o) → Option spec_l10Up_E.P
  | (n, a, b, ()), () => guardB (!(n == 0)) (bif ((Int.tmod (w64 ((w64 (b - a)) + n)) n) == (w64 (n - (1 : Int)))) then (some (((-1 : Int), ()), ())) else (some (((Int.tmod (w64 ((w64 (b - a)) + n)) n), ()), ())))
noncomputable def spec_l10Up_x : Cx := ⟨tab, spec_l10Space_e, fun _ _ => 0, fun _ => false, [], []⟩
noncomputable def c111 : Code := bodyOf Try.f111
noncomputable def spec_l10Up_A : Ann := .nil
noncomputable def spec_l10Up_D : Ve.Fn := ⟨111, spec_l10Up_a, spec_l10Up_o, spec_l10Up_E, spec_l10Up⟩
theorem spec_l10Up_w : Walk Try.prog spec_l10Up_x spec_l10Up_D Try.f111 c111 20 spec_l10Up_A :=
  ⟨⟨Try.func111, by kernel_rfl, by kernel_rfl, by kernel_rfl, by decide, by kernel_rfl, Nat.le_of_ble_eq_true (by kernel_rfl)⟩, by kernel_rfl, by kernel_rfl, by kernel_rfl, kcast (by kernel_rfl) trivial, by kernel_rfl, fun x y => by kernel_rfl⟩
theorem spec_l10Up_s : spec_l10Up_D.Says Try.prog := spec_l10Up_w.says follows tabOk spec_l10Space_e_ok
noncomputable def spec_l10Up_e : Env := more spec_l10Space_e spec_l10Up_D
theorem spec_l10Up_e_ok : EnvOk Try.prog spec_l10Up_e := more_ok spec_l10Space_e_ok spec_l10Up_s
/-! loop.example/g01128/spec.l10Heights -/
abbrev spec_l10Heights_J0 : Tpl := ⟨[(0, .val I), (1, .val (.list I)), (5, .own .shr I), (6, .val I)], [], []⟩
abbrev spec_l10Heights_J1 : Tpl := ⟨[(5, .own .shr I)], [], []⟩
abbrev spec_l10Heights_J2 : Tpl := ⟨[(0, .val I), (1, .val (.list I)), (5, .same (5, 0) []), (6, .val I), (17, .same (5, 0) []), (20, .adi (5, 0) []), (22, .val I), (26, .val I), (34, .val I)], [((5, 0), .vec .shr I)], []⟩
abbrev spec_l10Heights_E : Ve.End := ⟨[⟨4, (.own .shr), (.list I), none⟩], []⟩
abbrev spec_l10Heights_a : List ASh := [.val I, .val (.list I)]
abbrev spec_l10Heights_o : List OSh := []
noncomputable def spec_l10Heights_D0 : spec_l10Heights_J2.P → Option spec_l10Heights_J0.P
  | ((n, walk, i, t20, t22, t26, t34, ()), (out, ())) => match spec_l10Up (t22, t26, t34, ()) () with | some ((r, ()), ()) => guardB (decide ((List.length out + List.length [(w64 ((List.getD out t20 (0 : Int)) + r))]) * 8 ≤ 70368744177664)) (some ((n, walk, (out ++ [(w64 ((List.getD out t20 (0 : Int)) + r))]), i, ()), ())) | none => none
noncomputable def spec_l10Heights_T0 : DT spec_l10Heights_J0 := .node spec_l10Heights_J2 spec_l10Heights_D0 (.br [(4, .sole), (18, .sole), (19, .flo), (20, .sole), (21, .sole), (22, .flo)] .fin (.br [(18, .sole), (4, .qui), (19, .flo), (20, .sole), (21, .sole), (22, .flo)] .fin .nobr))
abbrev spec_l10Heights_O0 : Out := .one (.ex 0) spec_l10Heights_J1
noncomputable def spec_l10Heights_B0 : spec_l10Heights_J0.P → Option (spec_l10Heights_J0.P ⊕ spec_l10Heights_O0.P)
  | ((n, walk, out, i, ()), ()) => bif (decide (i < (List.length walk : Int))) then (guardB (inb i (List.length out)) (guardB (inb i (List.length walk)) (guardB (!((List.length walk : Int) == 0)) (guardB (inb (Int.tmod (w64 (i + (1 : Int))) (List.length walk : Int)) (List.length walk)) (match spec_l10Heights_D0 ((n, walk, i, (Int.toNat i), n, (List.getD walk (Int.toNat i) (0 : Int)), (List.getD walk (Int.toNat (Int.tmod (w64 (i + (1 : Int))) (List.length walk : Int))) (0 : Int)), ()), (out, ())) with | some ((n2, walk2, out2, i2, ()), ()) => some (.inl ((n2, walk2, out2, (w64 (i2 + (1 : Int))), ()), ())) | none => none))))) else (some (.inr ((out, ()), ())))
noncomputable def spec_l10Heights : argP spec_l10Heights_a → obP (extObs 0 spec_l10Heights_o) → Option spec_l10Heights_E.P
  | (n, walk, ()), () => guardB (inb (0 : Int) (List.length walk)) (match loopO spec_l10Heights_B0 ((n, walk, [(List.getD walk 0 (0 : Int))], (0 : Int), ()), ()) with | some ((out, ()), ()) => some ((out, ()), ()) | none => none)
noncomputable def spec_l10Heights_x : Cx := ⟨tab, spec_l10Up_e, fun _ _ => 0, fun _ => false, [(35, 0), (35, 1), (35, 2), (35, 3), (37, 0)], []⟩
noncomputable def c72 : Code := bodyOf Try.f72
noncomputable def spec_l10Heights_A : Ann := .seq .nil (.seq .nil (.seq (.seq .nil (.loop spec_l10Heights_J0 spec_l10Heights_O0 spec_l10Heights_B0 (.seq .nil (.seq (.draws [(0, .flo), (1, .flo), (2, .flo), (3, .flo), (5, .flo), (6, .flo), (7, .flo), (8, .flo), (9, .flo), (10, .flo), (11, .flo), (12, .flo), (13, .flo), (14, .flo), (15, .flo), (16, .flo), (17, .flo)] spec_l10Heights_J0 spec_l10Heights_T0) .nil)))) .nil))
theorem spec_l10Heights_r0 (p : spec_l10Heights_J0.P) : run spec_l10Heights_x (subc [1, 1, 0, 1, 0, 0] c72) (.seq .nil (.seq (.draws [(0, .flo), (1, .flo), (2, .flo), (3, .flo), (5, .flo), (6, .flo), (7, .flo), (8, .flo), (9, .flo), (10, .flo), (11, .flo), (12, .flo), (13, .flo), (14, .flo), (15, .flo), (16, .flo), (17, .flo)] spec_l10Heights_J0 spec_l10Heights_T0) .nil)) (spec_l10Heights_J0.S p) (leaf spec_l10Heights_J0 spec_l10Heights_O0) = spec_l10Heights_B0 p := by kernel_rfl
theorem spec_l10Heights_D0b0 (p : spec_l10Heights_J2.P) : runDrawn spec_l10Heights_x (opsOf (subc [1, 1, 0, 1, 0, 0, 1, 0, 0] c72)) [(4, .sole), (18, .sole), (19, .flo), (20, .sole), (21, .sole), (22, .flo)] (spec_l10Heights_J2.S p) (endT spec_l10Heights_x (.fin : DT spec_l10Heights_J0)) = spec_l10Heights_D0 p := by kernel_rfl
theorem spec_l10Heights_D0b1 (p : spec_l10Heights_J2.P) : runDrawn spec_l10Heights_x (opsOf (subc [1, 1, 0, 1, 0, 0, 1, 0, 0] c72)) [(18, .sole), (4, .qui), (19, .flo), (20, .sole), (21, .sole), (22, .flo)] (spec_l10Heights_J2.S p) (endT spec_l10Heights_x (.fin : DT spec_l10Heights_J0)) = spec_l10Heights_D0 p := by kernel_rfl
noncomputable def spec_l10Heights_D : Ve.Fn := ⟨72, spec_l10Heights_a, spec_l10Heights_o, spec_l10Heights_E, spec_l10Heights⟩
theorem spec_l10Heights_w : Walk Try.prog spec_l10Heights_x spec_l10Heights_D Try.f72 c72 40 spec_l10Heights_A :=
  ⟨⟨Try.func72, by kernel_rfl, by kernel_rfl, by kernel_rfl, by decide, by kernel_rfl, Nat.le_of_ble_eq_true (by kernel_rfl)⟩, by kernel_rfl, by kernel_rfl, by kernel_rfl, kcast (by kernel_rfl) (⟨spec_l10Heights_r0, spec_l10Heights_D0b0, spec_l10Heights_D0b1, trivial⟩ : (∀ p, run spec_l10Heights_x (subc [1, 1, 0, 1, 0, 0] c72) (.seq .nil (.seq (.draws [(0, .flo), (1, .flo), (2, .flo), (3, .flo), (5, .flo), (6, .flo), (7, .flo), (8, .flo), (9, .flo), (10, .flo), (11, .flo), (12, .flo), (13, .flo), (14, .flo), (15, .flo), (16, .flo), (17, .flo)] spec_l10Heights_J0 spec_l10Heights_T0) .nil)) (spec_l10Heights_J0.S p) (leaf spec_l10Heights_J0 spec_l10Heights_O0) = spec_l10Heights_B0 p) ∧ (∀ p, runDrawn spec_l10Heights_x (opsOf (subc [1, 1, 0, 1, 0, 0, 1, 0, 0] c72)) [(4, .sole), (18, .sole), (19, .flo), (20, .sole), (21, .sole), (22, .flo)] (spec_l10Heights_J2.S p) (endT spec_l10Heights_x (.fin : DT spec_l10Heights_J0)) = spec_l10Heights_D0 p) ∧ (∀ p, runDrawn spec_l10Heights_x (opsOf (subc [1, 1, 0, 1, 0, 0, 1, 0, 0] c72)) [(18, .sole), (4, .qui), (19, .flo), (20, .sole), (21, .sole), (22, .flo)] (spec_l10Heights_J2.S p) (endT spec_l10Heights_x (.fin : DT spec_l10Heights_J0)) = spec_l10Heights_D0 p) ∧ True), by kernel_rfl, fun x y => by kernel_rfl⟩
theorem spec_l10Heights_s : spec_l10Heights_D.Says Try.prog := spec_l10Heights_w.says follows tabOk spec_l10Up_e_ok
noncomputable def spec_l10Heights_e : Env := more spec_l10Up_e spec_l10Heights_D
theorem spec_l10Heights_e_ok : EnvOk Try.prog spec_l10Heights_e := more_ok spec_l10Up_e_ok spec_l10Heights_s
/-! loop.example/g01128/spec.l10Winding -/
abbrev spec_l10Winding_E : Ve.End := ⟨[⟨4, .shr, I, none⟩], []⟩
abbrev spec_l10Winding_a : List ASh := [.val I, .val (.list I)]
abbrev spec_l10Winding_o : List OSh := []
noncomputable def spec_l10Winding : argP spec_l10Winding_a → obP (extObs 0 spec_l10Winding_o) → Option spec_l10Winding_E.P
  | (n, walk, ()), () => guardB (inb (0 : Int) (List.length walk)) (match spec_l10Heights (n, walk, ()) () with | some ((r, ()), ()) => guardB (inb (List.length walk : Int) (List.length r)) (guardB (!(n == 0)) (some (((w64 (Int.tdiv (w64 ((List.getD r (Int.toNat (List.length walk : Int)) (0 : Int)) - (List.getD walk 0 (0 : Int)))) n)), ()), ()))) | none => none)
noncomputable def spec_l10Winding_x : Cx := ⟨tab, spec_l10Heights_e, fun _ _ => 0, fun _ => false, [(7, 0), (7, 1), (7, 2), (7, 3)], []⟩
noncomputable def c31 : Code := bodyOf Try.f31
noncomputable def spec_l10Winding_A : Ann := .seq .nil (.seq (.draw [(0, .flo), (1, .flo), (3, .flo), (4, .flo), (7, .flo), (8, .flo), (9, .flo), (11, .flo), (2, .sole), (5, .flo), (6, .qui), (10, .flo), (12, .flo), (13, .flo)]) .nil)
noncomputable def spec_l10Winding_D : Ve.Fn := ⟨31, spec_l10Winding_a, spec_l10Winding_o, spec_l10Winding_E, spec_l10Winding⟩
theorem spec_l10Winding_w : Walk Try.prog spec_l10Winding_x spec_l10Winding_D Try.f31 c31 18 spec_l10Winding_A :=
  ⟨⟨Try.func31, by kernel_rfl, by kernel_rfl, by kernel_rfl, by decide, by kernel_rfl, Nat.le_of_ble_eq_true (by kernel_rfl)⟩, by kernel_rfl, by kernel_rfl, by kernel_rfl, kcast (by kernel_rfl) trivial, by kernel_rfl, fun x y => by kernel_rfl⟩
theorem spec_l10Winding_s : spec_l10Winding_D.Says Try.prog := spec_l10Winding_w.says follows tabOk spec_l10Heights_e_ok
noncomputable def spec_l10Winding_e : Env := more spec_l10Heights_e spec_l10Winding_D
theorem spec_l10Winding_e_ok : EnvOk Try.prog spec_l10Winding_e := more_ok spec_l10Heights_e_ok spec_l10Winding_s
/-! loop.example/g01128/spec.WindingLabels -/
abbrev spec_WindingLabels_J0 : Tpl := ⟨[(1, .val I), (6, .own .shr I), (7, .cst (.prod (.list (.list I)) (.list (.prod I I)))), (9, .val I)], [], []⟩
abbrev spec_WindingLabels_J1 : Tpl := ⟨[(6, .own .shr I)], [], []⟩
abbrev spec_WindingLabels_E : Ve.End := ⟨[⟨4, (.own .shr), (.list I), none⟩, ⟨5, .shr, .bool, none⟩], []⟩
abbrev spec_WindingLabels_a : List ASh := [.val I, .val I]
abbrev spec_WindingLabels_o : List OSh := []
abbrev spec_WindingLabels_O0 : Out := .one (.ex 0) spec_WindingLabels_J1
noncomputable def spec_WindingLabels_B0 : spec_WindingLabels_J0.P → Option (spec_WindingLabels_J0.P ⊕ spec_WindingLabels_O0.P)
  | ((n, out, x, i, ()), ()) => bif (decide (i < (List.length x.1 : Int))) then (guardB (inb i (List.length x.1)) (match spec_l10Winding (n, (List.getD x.1 (Int.toNat i) ([] : (List Int))), ()) () with | some ((r, ()), ()) => guardB (decide ((List.length out + List.length [r]) * 8 ≤ 70368744177664)) (some (.inl ((n, (out ++ [r]), x, (w64 (i + (1 : Int))), ()), ()))) | none => none)) else (some (.inr ((out, ()), ())))
noncomputable def spec_WindingLabels : argP spec_WindingLabels_a → obP (extObs 0 spec_WindingLabels_o) → Option spec_WindingLabels_E.P
  | (m, n, ()), () => match spec_l10N (m, ()) () with | some ((r, ()), ()) => (bif (!r) then (some ((([] : (List Int)), false, ()), ())) else (match spec_l10N (n, ()) () with | some ((r2, ()), ()) => (bif (!r2) then (some ((([] : (List Int)), false, ()), ())) else (bif (decide ((6 : Int) < m)) then (some ((([] : (List Int)), false, ()), ())) else (match spec_l10Cycle (m, ()) () with | some ((r3, ()), ()) => (match spec_l10Cycle (n, ()) () with | some ((r4, ()), ()) => (match spec_l10Space ((r3.1, r3.2), (r4.1, r4.2), false, ()) () with | some ((r5, r6, ()), ()) => (bif (!r6) then (some ((([] : (List Int)), false, ()), ())) else (match loopO spec_WindingLabels_B0 ((n, ([] : (List Int)), (r5.1, r5.2), (0 : Int), ()), ()) with | some ((out, ()), ()) => some ((out, true, ()), ()) | none => none)) | none => none) | none => none) | none => none))) | none => none)) | none => none
noncomputable def spec_WindingLabels_x : Cx := ⟨tab, spec_l10Winding_e, fun _ _ => 0, fun _ => false, [(12, 0), (12, 1), (12, 2), (12, 3), (16, 0), (16, 1), (16, 2), (16, 3), (26, 0), (26, 1), (26, 2), (26, 3), (28, 0), (28, 1), (28, 2), (28, 3), (49, 0), (49, 1), (49, 2), (49, 3), (50, 0)], [(7, 0)]⟩
noncomputable def c6 : Code := bodyOf Try.f6
noncomputable def spec_WindingLabels_A : Ann := .seq .nil (.seq .nil (.seq .nil (.seq .nil (.seq .nil (.seq (.seq .nil (.loop spec_WindingLabels_J0 spec_WindingLabels_O0 spec_WindingLabels_B0 .nil)) .nil)))))
theorem spec_WindingLabels_r0 (p : spec_WindingLabels_J0.P) : run spec_WindingLabels_x (subc [1, 1, 1, 1, 1, 0, 1, 0, 0] c6) .nil (spec_WindingLabels_J0.S p) (leaf spec_WindingLabels_J0 spec_WindingLabels_O0) = spec_WindingLabels_B0 p := by kernel_rfl
noncomputable def spec_WindingLabels_D : Ve.Fn := ⟨6, spec_WindingLabels_a, spec_WindingLabels_o, spec_WindingLabels_E, spec_WindingLabels⟩
theorem spec_WindingLabels_w : Walk Try.prog spec_WindingLabels_x spec_WindingLabels_D Try.f6 c6 53 spec_WindingLabels_A :=
  ⟨⟨Try.func6, by kernel_rfl, by kernel_rfl, by kernel_rfl, by decide, by kernel_rfl, Nat.le_of_ble_eq_true (by kernel_rfl)⟩, by kernel_rfl, by kernel_rfl, by kernel_rfl, kcast (by kernel_rfl) (⟨spec_WindingLabels_r0, trivial⟩ : (∀ p, run spec_WindingLabels_x (subc [1, 1, 1, 1, 1, 0, 1, 0, 0] c6) .nil (spec_WindingLabels_J0.S p) (leaf spec_WindingLabels_J0 spec_WindingLabels_O0) = spec_WindingLabels_B0 p) ∧ True), by kernel_rfl, fun x y => by kernel_rfl⟩
theorem spec_WindingLabels_s : spec_WindingLabels_D.Says Try.prog := spec_WindingLabels_w.says follows tabOk spec_l10Winding_e_ok
noncomputable def spec_WindingLabels_e : Env := more spec_l10Winding_e spec_WindingLabels_D
theorem spec_WindingLabels_e_ok : EnvOk Try.prog spec_WindingLabels_e := more_ok spec_l10Winding_e_ok spec_WindingLabels_s
/-! loop.example/g01128/impl.between -/
abbrev impl_between_E : Ve.End := ⟨[⟨6, .shr, .bool, none⟩], []⟩
abbrev impl_between_a : List ASh := [.val I, .val I, .val I]
abbrev impl_between_o : List OSh := []
noncomputable def impl_between : argP impl_between_a → obP (extObs 0 impl_between_o) → Option impl_between_E.P
  | (n, low, high, ()), () => bif (decide (low ≤ n)) then (some (((decide (n ≤ high)), ()), ())) else (some ((false, ()), ()))
noncomputable def impl_between_x : Cx := ⟨tab, spec_WindingLabels_e, fun _ _ => 0, fun _ => false, [], []⟩
noncomputable def c73 : Code := bodyOf Try.f73
noncomputable def impl_between_A : Ann := .nil
noncomputable def impl_between_D : Ve.Fn := ⟨73, impl_between_a, impl_between_o, impl_between_E, impl_between⟩
theorem impl_between_w : Walk Try.prog impl_between_x impl_between_D Try.f73 c73 15 impl_between_A :=
  ⟨⟨Try.func73, by kernel_rfl, by kernel_rfl, by kernel_rfl, by decide, by kernel_rfl, Nat.le_of_ble_eq_true (by kernel_rfl)⟩, by kernel_rfl, by kernel_rfl, by kernel_rfl, kcast (by kernel_rfl) trivial, by kernel_rfl, fun x y => by kernel_rfl⟩
theorem impl_between_s : impl_between_D.Says Try.prog := impl_between_w.says follows tabOk spec_WindingLabels_e_ok
noncomputable def impl_between_e : Env := more spec_WindingLabels_e impl_between_D
theorem impl_between_e_ok : EnvOk Try.prog impl_between_e := more_ok spec_WindingLabels_e_ok impl_between_s
/-! loop.example/g01128/impl.isCycle -/
abbrev impl_isCycle_E : Ve.End := ⟨[⟨2, .shr, .bool, none⟩], []⟩
abbrev impl_isCycle_a : List ASh := [.val I]
abbrev impl_isCycle_o : List OSh := []
noncomputable def impl_isCycle : argP impl_isCycle_a → obP (extObs 0 impl_isCycle_o) → Option impl_isCycle_E.P
  | (n, ()), () => match impl_between (n, (3 : Int), (8 : Int), ()) () with | some ((r, ()), ()) => some ((r, ()), ()) | none => none
noncomputable def impl_isCycle_x : Cx := ⟨tab, impl_between_e, fun _ _ => 0, fun _ => false, [(4, 0), (4, 1), (4, 2), (4, 3)], []⟩
noncomputable def c32 : Code := bodyOf Try.f32
noncomputable def impl_isCycle_A : Ann := .nil
noncomputable def impl_isCycle_D : Ve.Fn := ⟨32, impl_isCycle_a, impl_isCycle_o, impl_isCycle_E, impl_isCycle⟩
theorem impl_isCycle_w : Walk Try.prog impl_isCycle_x impl_isCycle_D Try.f32 c32 5 impl_isCycle_A :=
  ⟨⟨Try.func32, by kernel_rfl, by kernel_rfl, by kernel_rfl, by decide, by kernel_rfl, Nat.le_of_ble_eq_true (by kernel_rfl)⟩, by kernel_rfl, by kernel_rfl, by kernel_rfl, kcast (by kernel_rfl) trivial, by kernel_rfl, fun x y => by kernel_rfl⟩
theorem impl_isCycle_s : impl_isCycle_D.Says Try.prog := impl_isCycle_w.says follows tabOk impl_between_e_ok
noncomputable def impl_isCycle_e : Env := more impl_between_e impl_isCycle_D
theorem impl_isCycle_e_ok : EnvOk Try.prog impl_isCycle_e := more_ok impl_between_e_ok impl_isCycle_s
/-! loop.example/g01128/impl.pair -/
abbrev impl_pair_E : Ve.End := ⟨[⟨4, .shr, (.prod I I), some 51⟩], []⟩
abbrev impl_pair_a : List ASh := [.val I, .val I]
abbrev impl_pair_o : List OSh := []
noncomputable def impl_pair : argP impl_pair_a → obP (extObs 0 impl_pair_o) → Option impl_pair_E.P
  | (a, b, ()), () => some ((((bif decide (b < a) then b else a), (bif decide (a < b) then b else a)), ()), ())
noncomputable def impl_pair_x : Cx := ⟨tab, impl_isCycle_e, fun _ _ => 0, fun _ => false, [], []⟩
noncomputable def c74 : Code := bodyOf Try.f74
noncomputable def impl_pair_A : Ann := .nil
noncomputable def impl_pair_D : Ve.Fn := ⟨74, impl_pair_a, impl_pair_o, impl_pair_E, impl_pair⟩
theorem impl_pair_w : Walk Try.prog impl_pair_x impl_pair_D Try.f74 c74 12 impl_pair_A :=
  ⟨⟨Try.func74, by kernel_rfl, by kernel_rfl, by kernel_rfl, by decide, by kernel_rfl, Nat.le_of_ble_eq_true (by kernel_rfl)⟩, by kernel_rfl, by kernel_rfl, by kernel_rfl, kcast (by kernel_rfl) trivial, by kernel_rfl, fun x y => by kernel_rfl⟩
theorem impl_pair_s : impl_pair_D.Says Try.prog := impl_pair_w.says follows tabOk impl_isCycle_e_ok
noncomputable def impl_pair_e : Env := more impl_isCycle_e impl_pair_D
theorem impl_pair_e_ok : EnvOk Try.prog impl_pair_e := more_ok impl_isCycle_e_ok impl_pair_s
noncomputable def slices_SortFunc_2_int_2_int_e : Env := more impl_pair_e (sortPairsFn 75 76)
theorem slices_SortFunc_2_int_2_int_e_ok : EnvOk Try.prog slices_SortFunc_2_int_2_int_e := more_ok impl_pair_e_ok sortPairs_s
noncomputable abbrev slices_SortFunc_2_int_2_int := (sortPairsFn 75 76).F
/-! loop.example/g01128/impl.cycleOf -/
abbrev impl_cycleOf_J0 : Tpl := ⟨[(0, .val I), (2, .ptr (2, 0)), (3, .ptr (3, 0)), (7, .val I), (8, .val I)], [((2, 0), .box (.prod .shr (.own .shr)) (.prod I (.list (.prod I I)))), ((3, 0), .box (.prod .shr (.own .shr)) (.prod I (.list (.prod I I))))], []⟩
abbrev impl_cycleOf_J1 : Tpl := ⟨[(2, .ptr (2, 0)), (3, .ptr (3, 0))], [((2, 0), .box (.prod .shr (.own .shr)) (.prod I (.list (.prod I I)))), ((3, 0), .box (.prod .shr (.own .shr)) (.prod I (.list (.prod I I))))], []⟩
abbrev impl_cycleOf_J2 : Tpl := ⟨[(0, .val I), (2, .ptr (2, 0)), (3, .ptr (3, 0)), (7, .val I), (8, .val I), (11, .adp (3, 0) [.snd]), (13, .val I), (17, .val I)], [((2, 0), .box (.prod .shr (.own .shr)) (.prod I (.list (.prod I I)))), ((3, 0), .box (.prod .shr (.own .shr)) (.prod I (.list (.prod I I))))], []⟩
abbrev impl_cycleOf_E : Ve.End := ⟨[⟨2, (.prod .shr (.own .shr)), (.prod I (.list (.prod I I))), some 37⟩], []⟩
abbrev impl_cycleOf_a : List ASh := [.val I]
abbrev impl_cycleOf_o : List OSh := []
noncomputable def impl_cycleOf_D0 : impl_cycleOf_J2.P → Option impl_cycleOf_J0.P
  | ((n, t7, t8, t13, t17, ()), (t2, out, ())) => match impl_pair (t13, t17, ()) () with | some ((r, ()), ()) => guardB (decide ((List.length out.2 + List.length [r]) * 16 ≤ 70368744177664)) (some ((n, t7, t8, ()), (t2, (out.1, (out.2 ++ [r])), ()))) | none => none
noncomputable def impl_cycleOf_T0 : DT impl_cycleOf_J0 := .node impl_cycleOf_J2 impl_cycleOf_D0 (.br [(1, .sole), (7, .sole), (8, .sole), (9, .sole), (10, .flo), (11, .sole)] .fin (.br [(7, .sole), (1, .qui), (8, .sole), (9, .sole), (10, .flo), (11, .sole)] .fin .nobr))
abbrev impl_cycleOf_O0 : Out := .one (.ex 0) impl_cycleOf_J1
noncomputable def impl_cycleOf_B0 : impl_cycleOf_J0.P → Option (impl_cycleOf_J0.P ⊕ impl_cycleOf_O0.P)
  | ((n, t7, t8, ()), (t2, out, ())) => bif (decide (t8 < t7)) then (guardB (!(n == 0)) (match impl_cycleOf_D0 ((n, t7, t8, t8, (Int.tmod (w64 (t8 + (1 : Int))) n), ()), (t2, out, ())) with | some ((n2, t7_2, t8_2, ()), (t2_2, out2, ())) => some (.inl ((n2, t7_2, (w64 (t8_2 + (1 : Int))), ()), (t2_2, out2, ()))) | none => none)) else (some (.inr ((), (t2, out, ()))))
noncomputable def impl_cycleOf : argP impl_cycleOf_a → obP (extObs 0 impl_cycleOf_o) → Option impl_cycleOf_E.P
  | (n, ()), () => match loopO impl_cycleOf_B0 ((n, n, (0 : Int), ()), (((0 : Int), ([] : (List (Int × Int)))), (n, ([] : (List (Int × Int)))), ())) with | some ((), (t2, out, ())) => (match slices_SortFunc_2_int_2_int () (out.2, ()) with | some ((), (o, ())) => some (((out.1, o), ()), ()) | none => none) | none => none
noncomputable def impl_cycleOf_x : Cx := ⟨tab, slices_SortFunc_2_int_2_int_e, fun f n => bif Nat.beq f 75 && Nat.beq n 0 then 1 else 0, fun _ => false, [(18, 0), (18, 1), (18, 2), (18, 3), (19, 0), (25, 0), (25, 1), (25, 2), (25, 3)], []⟩
noncomputable def c33 : Code := bodyOf Try.f33
noncomputable def impl_cycleOf_A : Ann := .seq .nil (.seq .nil (.seq (.seq .nil (.loop impl_cycleOf_J0 impl_cycleOf_O0 impl_cycleOf_B0 (.seq .nil (.seq .nil (.seq (.seq .nil (.draws [(0, .flo), (2, .flo), (3, .flo), (4, .flo), (5, .flo), (6, .flo)] impl_cycleOf_J0 impl_cycleOf_T0)) .nil))))) .nil))
theorem impl_cycleOf_r0 (p : impl_cycleOf_J0.P) : run impl_cycleOf_x (subc [1, 1, 0, 1, 0, 0] c33) (.seq .nil (.seq .nil (.seq (.seq .nil (.draws [(0, .flo), (2, .flo), (3, .flo), (4, .flo), (5, .flo), (6, .flo)] impl_cycleOf_J0 impl_cycleOf_T0)) .nil))) (impl_cycleOf_J0.S p) (leaf impl_cycleOf_J0 impl_cycleOf_O0) = impl_cycleOf_B0 p := by kernel_rfl
theorem impl_cycleOf_D0b0 (p : impl_cycleOf_J2.P) : runDrawn impl_cycleOf_x (opsOf (subc [1, 1, 0, 1, 0, 0, 1, 1, 0, 0, 1] c33)) [(1, .sole), (7, .sole), (8, .sole), (9, .sole), (10, .flo), (11, .sole)] (impl_cycleOf_J2.S p) (endT impl_cycleOf_x (.fin : DT impl_cycleOf_J0)) = impl_cycleOf_D0 p := by kernel_rfl
theorem impl_cycleOf_D0b1 (p : impl_cycleOf_J2.P) : runDrawn impl_cycleOf_x (opsOf (subc [1, 1, 0, 1, 0, 0, 1, 1, 0, 0, 1] c33)) [(7, .sole), (1, .qui), (8, .sole), (9, .sole), (10, .flo), (11, .sole)] (impl_cycleOf_J2.S p) (endT impl_cycleOf_x (.fin : DT impl_cycleOf_J0)) = impl_cycleOf_D0 p := by kernel_rfl
noncomputable def impl_cycleOf_D : Ve.Fn := ⟨33, impl_cycleOf_a, impl_cycleOf_o, impl_cycleOf_E, impl_cycleOf⟩
theorem impl_cycleOf_w : Walk Try.prog impl_cycleOf_x impl_cycleOf_D Try.f33 c33 27 impl_cycleOf_A :=
  ⟨⟨Try.func33, by kernel_rfl, by kernel_rfl, by kernel_rfl, by decide, by kernel_rfl, Nat.le_of_ble_eq_true (by kernel_rfl)⟩, by kernel_rfl, by kernel_rfl, by kernel_rfl, kcast (by kernel_rfl) (⟨impl_cycleOf_r0, impl_cycleOf_D0b0, impl_cycleOf_D0b1, trivial⟩ : (∀ p, run impl_cycleOf_x (subc [1, 1, 0, 1, 0, 0] c33) (.seq .nil (.seq .nil (.seq (.seq .nil (.draws [(0, .flo), (2, .flo), (3, .flo), (4, .flo), (5, .flo), (6, .flo)] impl_cycleOf_J0 impl_cycleOf_T0)) .nil))) (impl_cycleOf_J0.S p) (leaf impl_cycleOf_J0 impl_cycleOf_O0) = impl_cycleOf_B0 p) ∧ (∀ p, runDrawn impl_cycleOf_x (opsOf (subc [1, 1, 0, 1, 0, 0, 1, 1, 0, 0, 1] c33)) [(1, .sole), (7, .sole), (8, .sole), (9, .sole), (10, .flo), (11, .sole)] (impl_cycleOf_J2.S p) (endT impl_cycleOf_x (.fin : DT impl_cycleOf_J0)) = impl_cycleOf_D0 p) ∧ (∀ p, runDrawn impl_cycleOf_x (opsOf (subc [1, 1, 0, 1, 0, 0, 1, 1, 0, 0, 1] c33)) [(7, .sole), (1, .qui), (8, .sole), (9, .sole), (10, .flo), (11, .sole)] (impl_cycleOf_J2.S p) (endT impl_cycleOf_x (.fin : DT impl_cycleOf_J0)) = impl_cycleOf_D0 p) ∧ True), by kernel_rfl, fun x y => by kernel_rfl⟩
theorem impl_cycleOf_s : impl_cycleOf_D.Says Try.prog := impl_cycleOf_w.says follows tabOk slices_SortFunc_2_int_2_int_e_ok
noncomputable def impl_cycleOf_e : Env := more slices_SortFunc_2_int_2_int_e impl_cycleOf_D
theorem impl_cycleOf_e_ok : EnvOk Try.prog impl_cycleOf_e := more_ok slices_SortFunc_2_int_2_int_e_ok impl_cycleOf_s
/-! cmp.isNaN[int] -/
abbrev cmp_isNaN_int_E : Ve.End := ⟨[⟨2, .shr, .bool, none⟩], []⟩
abbrev cmp_isNaN_int_a : List ASh := [.val I]
abbrev cmp_isNaN_int_o : List OSh := []
noncomputable def cmp_isNaN_int : argP cmp_isNaN_int_a → obP (extObs 0 cmp_isNaN_int_o) → Option cmp_isNaN_int_E.P
  | (x, ()), () => some (((x != x), ()), ())
noncomputable def cmp_isNaN_int_x : Cx := ⟨tab, impl_cycleOf_e, fun _ _ => 0, fun _ => false, [], []⟩
noncomputable def c96 : Code := bodyOf Try.f96
noncomputable def cmp_isNaN_int_A : Ann := .nil
noncomputable def cmp_isNaN_int_D : Ve.Fn := ⟨96, cmp_isNaN_int_a, cmp_isNaN_int_o, cmp_isNaN_int_E, cmp_isNaN_int⟩
theorem cmp_isNaN_int_w : Walk Try.prog cmp_isNaN_int_x cmp_isNaN_int_D Try.f96 c96 6 cmp_isNaN_int_A :=
  ⟨⟨Try.func96, by kernel_rfl, by kernel_rfl, by kernel_rfl, by decide, by kernel_rfl, Nat.le_of_ble_eq_true (by kernel_rfl)⟩, by kernel_rfl, by kernel_rfl, by kernel_rfl, kcast (by kernel_rfl) trivial, by kernel_rfl, fun x y => by kernel_rfl⟩
theorem cmp_isNaN_int_s : cmp_isNaN_int_D.Says Try.prog := cmp_isNaN_int_w.says follows tabOk impl_cycleOf_e_ok
noncomputable def cmp_isNaN_int_e : Env := more impl_cycleOf_e cmp_isNaN_int_D
theorem cmp_isNaN_int_e_ok : EnvOk Try.prog cmp_isNaN_int_e := more_ok impl_cycleOf_e_ok cmp_isNaN_int_s
/-! cmp.Compare[int] -/
abbrev cmp_Compare_int_E : Ve.End := ⟨[⟨4, .shr, I, none⟩], []⟩
abbrev cmp_Compare_int_a : List ASh := [.val I, .val I]
abbrev cmp_Compare_int_o : List OSh := []
noncomputable def cmp_Compare_int : argP cmp_Compare_int_a → obP (extObs 0 cmp_Compare_int_o) → Option cmp_Compare_int_E.P
  | (x, y, ()), () => match cmp_isNaN_int (x, ()) () with | some ((r, ()), ()) => (match cmp_isNaN_int (y, ()) () with | some ((r2, ()), ()) => (bif r then (bif r2 then (some (((0 : Int), ()), ())) else (some (((-1 : Int), ()), ()))) else (bif r2 then (some (((1 : Int), ()), ())) else (bif (decide (x < y)) then (some (((-1 : Int), ()), ())) else (bif (decide (y < x)) then (some (((1 : Int), ()), ())) else (some (((0 : Int), ()), ())))))) | none => none) | none => none
noncomputable def cmp_Compare_int_x : Cx := ⟨tab, cmp_isNaN_int_e, fun _ _ => 0, fun _ => false, [(8, 0), (8, 1), (8, 2), (8, 3), (10, 0), (10, 1), (10, 2), (10, 3)], []⟩
noncomputable def c56 : Code := bodyOf Try.f56
noncomputable def cmp_Compare_int_A : Ann := .nil
noncomputable def cmp_Compare_int_D : Ve.Fn := ⟨56, cmp_Compare_int_a, cmp_Compare_int_o, cmp_Compare_int_E, cmp_Compare_int⟩
theorem cmp_Compare_int_w : Walk Try.prog cmp_Compare_int_x cmp_Compare_int_D Try.f56 c56 20 cmp_Compare_int_A :=
  ⟨⟨Try.func56, by kernel_rfl, by kernel_rfl, by kernel_rfl, by decide, by kernel_rfl, Nat.le_of_ble_eq_true (by kernel_rfl)⟩, by kernel_rfl, by kernel_rfl, by kernel_rfl, kcast (by kernel_rfl) trivial, by kernel_rfl, fun x y => by kernel_rfl⟩
theorem cmp_Compare_int_s : cmp_Compare_int_D.Says Try.prog := cmp_Compare_int_w.says follows tabOk cmp_isNaN_int_e_ok
noncomputable def cmp_Compare_int_e : Env := more cmp_isNaN_int_e cmp_Compare_int_D
theorem cmp_Compare_int_e_ok : EnvOk Try.prog cmp_Compare_int_e := more_ok cmp_isNaN_int_e_ok cmp_Compare_int_s
/-! cmp.Or[int] -/
abbrev cmp_Or_int_J0 : Tpl := ⟨[(3, .val I), (6, .val (.list I)), (7, .val I), (8, .val I)], [], []⟩
abbrev cmp_Or_int_J1 : Tpl := ⟨[(2, .val I)], [], []⟩
abbrev cmp_Or_int_J2 : Tpl := ⟨[(3, .val I)], [], []⟩
abbrev cmp_Or_int_E : Ve.End := ⟨[⟨2, .shr, I, none⟩], []⟩
abbrev cmp_Or_int_a : List ASh := [.val (.list I)]
abbrev cmp_Or_int_o : List OSh := []
abbrev cmp_Or_int_O0 : Out := .or .ret cmp_Or_int_J1 (.one (.ex 0) cmp_Or_int_J2)
noncomputable def cmp_Or_int_B0 : cmp_Or_int_J0.P → Option (cmp_Or_int_J0.P ⊕ cmp_Or_int_O0.P)
  | ((zero_, t6, t7, t8, ()), ()) => bif (decide (t8 < t7)) then (guardB (inb t8 (List.length t6)) (bif ((List.getD t6 (Int.toNat t8) (0 : Int)) != zero_) then (some (.inr (.inl (((List.getD t6 (Int.toNat t8) (0 : Int)), ()), ())))) else (some (.inl ((zero_, t6, t7, (w64 (t8 + (1 : Int))), ()), ()))))) else (some (.inr (.inr ((zero_, ()), ()))))
noncomputable def cmp_Or_int : argP cmp_Or_int_a → obP (extObs 0 cmp_Or_int_o) → Option cmp_Or_int_E.P
  | (vals, ()), () => match loopO cmp_Or_int_B0 (((0 : Int), vals, (List.length vals : Int), (0 : Int), ()), ()) with | some (.inl ((t2, ()), ())) => some ((t2, ()), ()) | some (.inr ((zero_, ()), ())) => some ((zero_, ()), ()) | none => none
noncomputable def cmp_Or_int_x : Cx := ⟨tab, cmp_Compare_int_e, fun _ _ => 0, fun _ => false, [], []⟩
noncomputable def c113 : Code := bodyOf Try.f113
noncomputable def cmp_Or_int_A : Ann := .seq .nil (.seq .nil (.seq (.seq .nil (.loop cmp_Or_int_J0 cmp_Or_int_O0 cmp_Or_int_B0 .nil)) .nil))
theorem cmp_Or_int_r0 (p : cmp_Or_int_J0.P) : run cmp_Or_int_x (subc [1, 1, 0, 1, 0, 0] c113) .nil (cmp_Or_int_J0.S p) (leaf cmp_Or_int_J0 cmp_Or_int_O0) = cmp_Or_int_B0 p := by kernel_rfl
noncomputable def cmp_Or_int_D : Ve.Fn := ⟨113, cmp_Or_int_a, cmp_Or_int_o, cmp_Or_int_E, cmp_Or_int⟩
theorem cmp_Or_int_w : Walk Try.prog cmp_Or_int_x cmp_Or_int_D Try.f113 c113 18 cmp_Or_int_A :=
  ⟨⟨Try.func113, by kernel_rfl, by kernel_rfl, by kernel_rfl, by decide, by kernel_rfl, Nat.le_of_ble_eq_true (by kernel_rfl)⟩, by kernel_rfl, by kernel_rfl, by kernel_rfl, kcast (by kernel_rfl) (⟨cmp_Or_int_r0, trivial⟩ : (∀ p, run cmp_Or_int_x (subc [1, 1, 0, 1, 0, 0] c113) .nil (cmp_Or_int_J0.S p) (leaf cmp_Or_int_J0 cmp_Or_int_O0) = cmp_Or_int_B0 p) ∧ True), by kernel_rfl, fun x y => by kernel_rfl⟩
theorem cmp_Or_int_s : cmp_Or_int_D.Says Try.prog := cmp_Or_int_w.says follows tabOk cmp_Compare_int_e_ok
noncomputable def cmp_Or_int_e : Env := more cmp_Compare_int_e cmp_Or_int_D
theorem cmp_Or_int_e_ok : EnvOk Try.prog cmp_Or_int_e := more_ok cmp_Compare_int_e_ok cmp_Or_int_s
/-! loop.example/g01128/impl.comparePairs -/
abbrev impl_comparePairs_E : Ve.End := ⟨[⟨4, .shr, I, none⟩], []⟩
abbrev impl_comparePairs_a : List ASh := [.val (.prod I I), .val (.prod I I)]
abbrev impl_comparePairs_o : List OSh := []
noncomputable def impl_comparePairs : argP impl_comparePairs_a → obP (extObs 0 impl_comparePairs_o) → Option impl_comparePairs_E.P
  | (a, b, ()), () => match cmp_Compare_int (a.1, b.1, ()) () with | some ((r, ()), ()) => (match cmp_Compare_int (a.2, b.2, ()) () with | some ((r2, ()), ()) => (match cmp_Or_int ([r, r2], ()) () with | some ((r3, ()), ()) => some ((r3, ()), ()) | none => none) | none => none) | none => none
noncomputable def impl_comparePairs_x : Cx := ⟨tab, cmp_Or_int_e, fun _ _ => 0, fun _ => false, [(9, 0), (9, 1), (9, 2), (9, 3), (14, 0), (14, 1), (14, 2), (14, 3), (15, 0), (16, 0), (16, 1), (16, 2), (16, 3)], [(2, 0), (3, 0)]⟩
noncomputable def c76 : Code := bodyOf Try.f76
noncomputable def impl_comparePairs_A : Ann := .seq .nil (.seq (.draw [(0, .flo), (1, .flo), (2, .flo), (3, .flo), (5, .flo), (6, .flo), (7, .flo), (8, .flo), (4, .sole), (9, .sole), (10, .sole), (11, .sole), (12, .flo)]) .nil)
noncomputable def impl_comparePairs_D : Ve.Fn := ⟨76, impl_comparePairs_a, impl_comparePairs_o, impl_comparePairs_E, impl_comparePairs⟩
theorem impl_comparePairs_w : Walk Try.prog impl_comparePairs_x impl_comparePairs_D Try.f76 c76 17 impl_comparePairs_A :=
  ⟨⟨Try.func76, by kernel_rfl, by kernel_rfl, by kernel_rfl, by decide, by kernel_rfl, Nat.le_of_ble_eq_true (by kernel_rfl)⟩, by kernel_rfl, by kernel_rfl, by kernel_rfl, kcast (by kernel_rfl) trivial, by kernel_rfl, fun x y => by kernel_rfl⟩
theorem impl_comparePairs_s : impl_comparePairs_D.Says Try.prog := impl_comparePairs_w.says follows tabOk cmp_Or_int_e_ok
noncomputable def impl_comparePairs_e : Env := more cmp_Or_int_e impl_comparePairs_D
theorem impl_comparePairs_e_ok : EnvOk Try.prog impl_comparePairs_e := more_ok cmp_Or_int_e_ok impl_comparePairs_s
/-! loop.example/g01128/impl.isPairs -/
abbrev impl_isPairs_J0 : Tpl := ⟨[(0, .val (.list (.prod I I))), (1, .val I), (7, .val (.list (.prod I I))), (8, .val I), (9, .val I)], [], []⟩
abbrev impl_isPairs_J1 : Tpl := ⟨[(4, .val .bool)], [], []⟩
abbrev impl_isPairs_J2 : Tpl := ⟨[], [], []⟩
abbrev impl_isPairs_E : Ve.End := ⟨[⟨4, .shr, .bool, none⟩], []⟩
abbrev impl_isPairs_a : List ASh := [.val (.list (.prod I I)), .val I]
abbrev impl_isPairs_o : List OSh := []
abbrev impl_isPairs_O0 : Out := .or .ret impl_isPairs_J1 (.one (.ex 0) impl_isPairs_J2)
noncomputable def impl_isPairs_B0 : impl_isPairs_J0.P → Option (impl_isPairs_J0.P ⊕ impl_isPairs_O0.P)
  | ((list, below, t7, t8, t9, ()), ()) => bif (decide (t9 < t8)) then (guardB (inb t9 (List.length t7)) (bif (decide (((List.getD t7 (Int.toNat t9) ((0 : Int), (0 : Int))).1) < (0 : Int))) then (some (.inr (.inl ((false, ()), ())))) else (bif (decide (((List.getD t7 (Int.toNat t9) ((0 : Int), (0 : Int))).2) ≤ ((List.getD t7 (Int.toNat t9) ((0 : Int), (0 : Int))).1))) then (some (.inr (.inl ((false, ()), ())))) else (bif (decide (below ≤ ((List.getD t7 (Int.toNat t9) ((0 : Int), (0 : Int))).2))) then (some (.inr (.inl ((false, ()), ())))) else (bif (decide ((0 : Int) < t9)) then (guardB (inb (w64 (t9 - (1 : Int))) (List.length list)) (match impl_comparePairs ((List.getD list (Int.toNat (w64 (t9 - (1 : Int)))) ((0 : Int), (0 : Int))), (List.getD t7 (Int.toNat t9) ((0 : Int), (0 : Int))), ()) () with | some ((r, ()), ()) => (bif (decide ((0 : Int) ≤ r)) then (some (.inr (.inl ((false, ()), ())))) else (some (.inl ((list, below, t7, t8, (w64 (t9 + (1 : Int))), ()), ())))) | none => none)) else (some (.inl ((list, below, t7, t8, (w64 (t9 + (1 : Int))), ()), ())))))))) else (some (.inr (.inr ((), ()))))
noncomputable def impl_isPairs : argP impl_isPairs_a → obP (extObs 0 impl_isPairs_o) → Option impl_isPairs_E.P
  | (list, below, ()), () => match loopO impl_isPairs_B0 ((list, below, list, (List.length list : Int), (0 : Int), ()), ()) with | some (.inl ((t4, ()), ())) => some ((t4, ()), ()) | some (.inr ((), ())) => some ((true, ()), ()) | none => none
noncomputable def impl_isPairs_x : Cx := ⟨tab, impl_comparePairs_e, fun _ _ => 0, fun _ => false, [(40, 0), (40, 1), (40, 2), (40, 3)], [(6, 0)]⟩
noncomputable def c103 : Code := bodyOf Try.f103
noncomputable def impl_isPairs_A : Ann := .seq .nil (.seq (.seq .nil (.loop impl_isPairs_J0 impl_isPairs_O0 impl_isPairs_B0 (.seq .nil (.seq .nil (.seq (.seq .nil (.seq (.draw [(0, .flo), (1, .flo), (2, .flo), (3, .flo), (4, .flo), (6, .flo), (5, .qui), (7, .qui), (8, .flo), (9, .flo), (10, .flo), (11, .flo), (13, .flo), (12, .qui), (14, .flo), (15, .flo), (16, .flo), (17, .flo), (18, .flo), (19, .flo), (20, .flo), (21, .flo), (22, .flo), (23, .flo), (24, .qui), (25, .qui), (26, .sole), (27, .flo), (28, .flo), (29, .flo)]) .nil)) .nil))))) .nil)
theorem impl_isPairs_r0 (p : impl_isPairs_J0.P) : run impl_isPairs_x (subc [1, 0, 1, 0, 0] c103) (.seq .nil (.seq .nil (.seq (.seq .nil (.seq (.draw [(0, .flo), (1, .flo), (2, .flo), (3, .flo), (4, .flo), (6, .flo), (5, .qui), (7, .qui), (8, .flo), (9, .flo), (10, .flo), (11, .flo), (13, .flo), (12, .qui), (14, .flo), (15, .flo), (16, .flo), (17, .flo), (18, .flo), (19, .flo), (20, .flo), (21, .flo), (22, .flo), (23, .flo), (24, .qui), (25, .qui), (26, .sole), (27, .flo), (28, .flo), (29, .flo)]) .nil)) .nil))) (impl_isPairs_J0.S p) (leaf impl_isPairs_J0 impl_isPairs_O0) = impl_isPairs_B0 p := by kernel_rfl
noncomputable def impl_isPairs_D : Ve.Fn := ⟨103, impl_isPairs_a, impl_isPairs_o, impl_isPairs_E, impl_isPairs⟩
theorem impl_isPairs_w : Walk Try.prog impl_isPairs_x impl_isPairs_D Try.f103 c103 45 impl_isPairs_A :=
  ⟨⟨Try.func103, by kernel_rfl, by kernel_rfl, by kernel_rfl, by decide, by kernel_rfl, Nat.le_of_ble_eq_true (by kernel_rfl)⟩, by kernel_rfl, by kernel_rfl, by kernel_rfl, kcast (by kernel_rfl) (⟨impl_isPairs_r0, trivial⟩ : (∀ p, run impl_isPairs_x (subc [1, 0, 1, 0, 0] c103) (.seq .nil (.seq .nil (.seq (.seq .nil (.seq (.draw [(0, .flo), (1, .flo), (2, .flo), (3, .flo), (4, .flo), (6, .flo), (5, .qui), (7, .qui), (8, .flo), (9, .flo), (10, .flo), (11, .flo), (13, .flo), (12, .qui), (14, .flo), (15, .flo), (16, .flo), (17, .flo), (18, .flo), (19, .flo), (20, .flo), (21, .flo), (22, .flo), (23, .flo), (24, .qui), (25, .qui), (26, .sole), (27, .flo), (28, .flo), (29, .flo)]) .nil)) .nil))) (impl_isPairs_J0.S p) (leaf impl_isPairs_J0 impl_isPairs_O0) = impl_isPairs_B0 p) ∧ True), by kernel_rfl, fun x y => by kernel_rfl⟩
theorem impl_isPairs_s : impl_isPairs_D.Says Try.prog := impl_isPairs_w.says follows tabOk impl_comparePairs_e_ok
noncomputable def impl_isPairs_e : Env := more impl_comparePairs_e impl_isPairs_D
theorem impl_isPairs_e_ok : EnvOk Try.prog impl_isPairs_e := more_ok impl_comparePairs_e_ok impl_isPairs_s
/-! loop.example/g01128/impl.IsGraph -/
abbrev impl_IsGraph_E : Ve.End := ⟨[⟨2, .shr, .bool, none⟩], []⟩
abbrev impl_IsGraph_a : List ASh := [.val (.prod I (.list (.prod I I)))]
abbrev impl_IsGraph_o : List OSh := []
noncomputable def impl_IsGraph : argP impl_IsGraph_a → obP (extObs 0 impl_IsGraph_o) → Option impl_IsGraph_E.P
  | (g, ()), () => match impl_between (g.1, (0 : Int), (8 : Int), ()) () with | some ((r, ()), ()) => (bif r then (match impl_isPairs (g.2, g.1, ()) () with | some ((r2, ()), ()) => some ((r2, ()), ()) | none => none) else (some ((false, ()), ()))) | none => none
noncomputable def impl_IsGraph_x : Cx := ⟨tab, impl_isPairs_e, fun _ _ => 0, fun _ => false, [(5, 0), (5, 1), (5, 2), (5, 3), (11, 0), (11, 1), (11, 2), (11, 3)], [(1, 0)]⟩
noncomputable def c80 : Code := bodyOf Try.f80
noncomputable def impl_IsGraph_A : Ann := .nil
noncomputable def impl_IsGraph_D : Ve.Fn := ⟨80, impl_IsGraph_a, impl_IsGraph_o, impl_IsGraph_E, impl_IsGraph⟩
theorem impl_IsGraph_w : Walk Try.prog impl_IsGraph_x impl_IsGraph_D Try.f80 c80 13 impl_IsGraph_A :=
  ⟨⟨Try.func80, by kernel_rfl, by kernel_rfl, by kernel_rfl, by decide, by kernel_rfl, Nat.le_of_ble_eq_true (by kernel_rfl)⟩, by kernel_rfl, by kernel_rfl, by kernel_rfl, kcast (by kernel_rfl) trivial, by kernel_rfl, fun x y => by kernel_rfl⟩
theorem impl_IsGraph_s : impl_IsGraph_D.Says Try.prog := impl_IsGraph_w.says follows tabOk impl_isPairs_e_ok
noncomputable def impl_IsGraph_e : Env := more impl_isPairs_e impl_IsGraph_D
theorem impl_IsGraph_e_ok : EnvOk Try.prog impl_IsGraph_e := more_ok impl_isPairs_e_ok impl_IsGraph_s
/-! loop.example/g01128/impl.isMapCase -/
abbrev impl_isMapCase_E : Ve.End := ⟨[⟨4, .shr, .bool, none⟩], []⟩
abbrev impl_isMapCase_a : List ASh := [.val (.prod I (.list (.prod I I))), .val (.prod I (.list (.prod I I)))]
abbrev impl_isMapCase_o : List OSh := []
noncomputable def impl_isMapCase : argP impl_isMapCase_a → obP (extObs 0 impl_isMapCase_o) → Option impl_isMapCase_E.P
  | (g, h, ()), () => match impl_IsGraph (g, ()) () with | some ((r, ()), ()) => (bif r then (match impl_IsGraph (h, ()) () with | some ((r2, ()), ()) => (bif r2 then (some (((decide (g.1 ≤ (6 : Int))), ()), ())) else (some ((false, ()), ()))) | none => none) else (some ((false, ()), ()))) | none => none
noncomputable def impl_isMapCase_x : Cx := ⟨tab, impl_IsGraph_e, fun _ _ => 0, fun _ => false, [(6, 0), (6, 1), (6, 2), (6, 3), (9, 0), (9, 1), (9, 2), (9, 3)], [(2, 0), (3, 0)]⟩
noncomputable def c38 : Code := bodyOf Try.f38
noncomputable def impl_isMapCase_A : Ann := .nil
noncomputable def impl_isMapCase_D : Ve.Fn := ⟨38, impl_isMapCase_a, impl_isMapCase_o, impl_isMapCase_E, impl_isMapCase⟩
theorem impl_isMapCase_w : Walk Try.prog impl_isMapCase_x impl_isMapCase_D Try.f38 c38 16 impl_isMapCase_A :=
  ⟨⟨Try.func38, by kernel_rfl, by kernel_rfl, by kernel_rfl, by decide, by kernel_rfl, Nat.le_of_ble_eq_true (by kernel_rfl)⟩, by kernel_rfl, by kernel_rfl, by kernel_rfl, kcast (by kernel_rfl) trivial, by kernel_rfl, fun x y => by kernel_rfl⟩
theorem impl_isMapCase_s : impl_isMapCase_D.Says Try.prog := impl_isMapCase_w.says follows tabOk impl_IsGraph_e_ok
noncomputable def impl_isMapCase_e : Env := more impl_IsGraph_e impl_isMapCase_D
theorem impl_isMapCase_e_ok : EnvOk Try.prog impl_isMapCase_e := more_ok impl_IsGraph_e_ok impl_isMapCase_s
noncomputable def slices_Clone_int_int_e : Env := more impl_isMapCase_e (cloneFn 41)
theorem slices_Clone_int_int_e_ok : EnvOk Try.prog slices_Clone_int_int_e := more_ok impl_isMapCase_e_ok clone_s
noncomputable abbrev slices_Clone_int_int := (cloneFn 41).F
/-! loop.example/g01128/impl.MapSpace$1 -/
abbrev impl_MapSpace_1_va0_b2_J0 : Tpl := ⟨[(1, .ptr (1000000, 0))], [((1000000, 0), .box (.own (.own .shr)) (.list (.list I)))], []⟩
abbrev impl_MapSpace_1_va0_b2_J1 : Tpl := ⟨[(1, .ptr (1000000, 0)), (5, .val (.list I))], [((1000000, 0), .box (.own (.own .shr)) (.list (.list I)))], []⟩
abbrev impl_MapSpace_1_va0_b2_E : Ve.End := ⟨[⟨3, .shr, .bool, none⟩], [.box (.own (.own .shr)) (.list (.list I))]⟩
abbrev impl_MapSpace_1_va0_b2_a : List ASh := [.val (.list I), .adr 0]
abbrev impl_MapSpace_1_va0_b2_o : List OSh := [.box (.own (.own .shr)) (.list (.list I))]
noncomputable def impl_MapSpace_1_va0_b2_D0 : impl_MapSpace_1_va0_b2_J1.P → Option impl_MapSpace_1_va0_b2_J0.P
  | ((t5, ()), (o0, ())) => match slices_Clone_int_int (t5, ()) () with | some ((r, ()), ()) => guardB (decide ((List.length o0 + List.length [r]) * 24 ≤ 70368744177664)) (some ((), ((o0 ++ [r]), ()))) | none => none
noncomputable def impl_MapSpace_1_va0_b2_T0 : DT impl_MapSpace_1_va0_b2_J0 := .node impl_MapSpace_1_va0_b2_J1 impl_MapSpace_1_va0_b2_D0 (.br [(0, .sole), (2, .sole), (3, .sole), (4, .sole), (5, .sole)] .fin (.br [(2, .sole), (0, .qui), (3, .sole), (4, .sole), (5, .sole)] .fin .nobr))
noncomputable def impl_MapSpace_1_va0_b2 : argP impl_MapSpace_1_va0_b2_a → obP (extObs 0 impl_MapSpace_1_va0_b2_o) → Option impl_MapSpace_1_va0_b2_E.P
  | (m, ()), (o0, ()) => match impl_MapSpace_1_va0_b2_D0 ((m, ()), (o0, ())) with | some ((), (o0_2, ())) => some (((decide ((List.length o0_2 : Int) ≤ (300 : Int))), ()), (o0_2, ())) | none => none
noncomputable def impl_MapSpace_1_va0_b2_x : Cx := ⟨tab, slices_Clone_int_int_e, fun _ _ => 0, fun _ => false, [], []⟩
noncomputable def c40 : Code := bodyOf Try.f40
noncomputable def impl_MapSpace_1_va0_b2_A : Ann := .seq .nil (.seq (.draws [(1, .flo)] impl_MapSpace_1_va0_b2_J0 impl_MapSpace_1_va0_b2_T0) .nil)
theorem impl_MapSpace_1_va0_b2_D0b0 (p : impl_MapSpace_1_va0_b2_J1.P) : runDrawn impl_MapSpace_1_va0_b2_x (opsOf (subc [1, 0] c40)) [(0, .sole), (2, .sole), (3, .sole), (4, .sole), (5, .sole)] (impl_MapSpace_1_va0_b2_J1.S p) (endT impl_MapSpace_1_va0_b2_x (.fin : DT impl_MapSpace_1_va0_b2_J0)) = impl_MapSpace_1_va0_b2_D0 p := by kernel_rfl
theorem impl_MapSpace_1_va0_b2_D0b1 (p : impl_MapSpace_1_va0_b2_J1.P) : runDrawn impl_MapSpace_1_va0_b2_x (opsOf (subc [1, 0] c40)) [(2, .sole), (0, .qui), (3, .sole), (4, .sole), (5, .sole)] (impl_MapSpace_1_va0_b2_J1.S p) (endT impl_MapSpace_1_va0_b2_x (.fin : DT impl_MapSpace_1_va0_b2_J0)) = impl_MapSpace_1_va0_b2_D0 p := by kernel_rfl
noncomputable def impl_MapSpace_1_va0_b2_D : Ve.Fn := ⟨40, impl_MapSpace_1_va0_b2_a, impl_MapSpace_1_va0_b2_o, impl_MapSpace_1_va0_b2_E, impl_MapSpace_1_va0_b2⟩
theorem impl_MapSpace_1_va0_b2_w : Walk Try.prog impl_MapSpace_1_va0_b2_x impl_MapSpace_1_va0_b2_D Try.f40 c40 12 impl_MapSpace_1_va0_b2_A :=
  ⟨⟨Try.func40, by kernel_rfl, by kernel_rfl, by kernel_rfl, by decide, by kernel_rfl, Nat.le_of_ble_eq_true (by kernel_rfl)⟩, by kernel_rfl, by kernel_rfl, by kernel_rfl, kcast (by kernel_rfl) (⟨impl_MapSpace_1_va0_b2_D0b0, impl_MapSpace_1_va0_b2_D0b1, trivial⟩ : (∀ p, runDrawn impl_MapSpace_1_va0_b2_x (opsOf (subc [1, 0] c40)) [(0, .sole), (2, .sole), (3, .sole), (4, .sole), (5, .sole)] (impl_MapSpace_1_va0_b2_J1.S p) (endT impl_MapSpace_1_va0_b2_x (.fin : DT impl_MapSpace_1_va0_b2_J0)) = impl_MapSpace_1_va0_b2_D0 p) ∧ (∀ p, runDrawn impl_MapSpace_1_va0_b2_x (opsOf (subc [1, 0] c40)) [(2, .sole), (0, .qui), (3, .sole), (4, .sole), (5, .sole)] (impl_MapSpace_1_va0_b2_J1.S p) (endT impl_MapSpace_1_va0_b2_x (.fin : DT impl_MapSpace_1_va0_b2_J0)) = impl_MapSpace_1_va0_b2_D0 p) ∧ True), by kernel_rfl, fun x y => by kernel_rfl⟩
theorem impl_MapSpace_1_va0_b2_s : impl_MapSpace_1_va0_b2_D.Says Try.prog := impl_MapSpace_1_va0_b2_w.says follows tabOk slices_Clone_int_int_e_ok
noncomputable def impl_MapSpace_1_va0_b2_e : Env := more slices_Clone_int_int_e impl_MapSpace_1_va0_b2_D
theorem impl_MapSpace_1_va0_b2_e_ok : EnvOk Try.prog impl_MapSpace_1_va0_b2_e := more_ok slices_Clone_int_int_e_ok impl_MapSpace_1_va0_b2_s
/-! slices.Index[[][2]int,[2]int] -/
abbrev slices_Index_2_int_2_int_J0 : Tpl := ⟨[(0, .val (.list (.prod I I))), (3, .cst (.prod I I)), (7, .val I), (8, .val I)], [], []⟩
abbrev slices_Index_2_int_2_int_J1 : Tpl := ⟨[(4, .val I)], [], []⟩
abbrev slices_Index_2_int_2_int_J2 : Tpl := ⟨[], [], []⟩
abbrev slices_Index_2_int_2_int_E : Ve.End := ⟨[⟨4, .shr, I, none⟩], []⟩
abbrev slices_Index_2_int_2_int_a : List ASh := [.val (.list (.prod I I)), .val (.prod I I)]
abbrev slices_Index_2_int_2_int_o : List OSh := []
abbrev slices_Index_2_int_2_int_O0 : Out := .or .ret slices_Index_2_int_2_int_J1 (.one (.ex 0) slices_Index_2_int_2_int_J2)
noncomputable def slices_Index_2_int_2_int_B0 : slices_Index_2_int_2_int_J0.P → Option (slices_Index_2_int_2_int_J0.P ⊕ slices_Index_2_int_2_int_O0.P)
  | ((s, v, t7, t8, ()), ()) => bif (decide (t8 < t7)) then (guardB (inb t8 (List.length s)) (bif ((v.1 == ((List.getD s (Int.toNat t8) ((0 : Int), (0 : Int))).1)) && (v.2 == ((List.getD s (Int.toNat t8) ((0 : Int), (0 : Int))).2))) then (some (.inr (.inl ((t8, ()), ())))) else (some (.inl ((s, v, t7, (w64 (t8 + (1 : Int))), ()), ()))))) else (some (.inr (.inr ((), ()))))
noncomputable def slices_Index_2_int_2_int : argP slices_Index_2_int_2_int_a → obP (extObs 0 slices_Index_2_int_2_int_o) → Option slices_Index_2_int_2_int_E.P
  | (s, v, ()), () => match loopO slices_Index_2_int_2_int_B0 ((s, v, (List.length s : Int), (0 : Int), ()), ()) with | some (.inl ((t4, ()), ())) => some ((t4, ()), ()) | some (.inr ((), ())) => some (((-1 : Int), ()), ()) | none => none
noncomputable def slices_Index_2_int_2_int_x : Cx := ⟨tab, impl_MapSpace_1_va0_b2_e, fun _ _ => 0, fun _ => false, [], [(3, 0)]⟩
noncomputable def c168 : Code := bodyOf Try.f168
noncomputable def slices_Index_2_int_2_int_A : Ann := .seq .nil (.seq (.seq .nil (.loop slices_Index_2_int_2_int_J0 slices_Index_2_int_2_int_O0 slices_Index_2_int_2_int_B0 (.seq .nil (.seq .nil (.seq (.seq .nil (.seq (.draw [(0, .flo), (1, .flo), (2, .flo), (3, .flo), (4, .flo), (5, .flo)]) .nil)) .nil))))) .nil)
theorem slices_Index_2_int_2_int_r0 (p : slices_Index_2_int_2_int_J0.P) : run slices_Index_2_int_2_int_x (subc [1, 0, 1, 0, 0] c168) (.seq .nil (.seq .nil (.seq (.seq .nil (.seq (.draw [(0, .flo), (1, .flo), (2, .flo), (3, .flo), (4, .flo), (5, .flo)]) .nil)) .nil))) (slices_Index_2_int_2_int_J0.S p) (leaf slices_Index_2_int_2_int_J0 slices_Index_2_int_2_int_O0) = slices_Index_2_int_2_int_B0 p := by kernel_rfl
noncomputable def slices_Index_2_int_2_int_D : Ve.Fn := ⟨168, slices_Index_2_int_2_int_a, slices_Index_2_int_2_int_o, slices_Index_2_int_2_int_E, slices_Index_2_int_2_int⟩
theorem slices_Index_2_int_2_int_w : Walk Try.prog slices_Index_2_int_2_int_x slices_Index_2_int_2_int_D Try.f168 c168 19 slices_Index_2_int_2_int_A :=
  ⟨⟨Try.func168, by kernel_rfl, by kernel_rfl, by kernel_rfl, by decide, by kernel_rfl, Nat.le_of_ble_eq_true (by kernel_rfl)⟩, by kernel_rfl, by kernel_rfl, by kernel_rfl, kcast (by kernel_rfl) (⟨slices_Index_2_int_2_int_r0, trivial⟩ : (∀ p, run slices_Index_2_int_2_int_x (subc [1, 0, 1, 0, 0] c168) (.seq .nil (.seq .nil (.seq (.seq .nil (.seq (.draw [(0, .flo), (1, .flo), (2, .flo), (3, .flo), (4, .flo), (5, .flo)]) .nil)) .nil))) (slices_Index_2_int_2_int_J0.S p) (leaf slices_Index_2_int_2_int_J0 slices_Index_2_int_2_int_O0) = slices_Index_2_int_2_int_B0 p) ∧ True), by kernel_rfl, fun x y => by kernel_rfl⟩
theorem slices_Index_2_int_2_int_s : slices_Index_2_int_2_int_D.Says Try.prog := slices_Index_2_int_2_int_w.says follows tabOk impl_MapSpace_1_va0_b2_e_ok
noncomputable def slices_Index_2_int_2_int_e : Env := more impl_MapSpace_1_va0_b2_e slices_Index_2_int_2_int_D
theorem slices_Index_2_int_2_int_e_ok : EnvOk Try.prog slices_Index_2_int_2_int_e := more_ok impl_MapSpace_1_va0_b2_e_ok slices_Index_2_int_2_int_s
/-! slices.Contains[[][2]int,[2]int] -/
abbrev slices_Contains_2_int_2_int_E : Ve.End := ⟨[⟨4, .shr, .bool, none⟩], []⟩
abbrev slices_Contains_2_int_2_int_a : List ASh := [.val (.list (.prod I I)), .val (.prod I I)]
abbrev slices_Contains_2_int_2_int_o : List OSh := []
noncomputable def slices_Contains_2_int_2_int : argP slices_Contains_2_int_2_int_a → obP (extObs 0 slices_Contains_2_int_2_int_o) → Option slices_Contains_2_int_2_int_E.P
  | (s, v, ()), () => match slices_Index_2_int_2_int (s, v, ()) () with | some ((r, ()), ()) => some (((decide ((0 : Int) ≤ r)), ()), ()) | none => none
noncomputable def slices_Contains_2_int_2_int_x : Cx := ⟨tab, slices_Index_2_int_2_int_e, fun _ _ => 0, fun _ => false, [(7, 0), (7, 1), (7, 2), (7, 3)], [(3, 0)]⟩
noncomputable def c147 : Code := bodyOf Try.f147
noncomputable def slices_Contains_2_int_2_int_A : Ann := .nil
noncomputable def slices_Contains_2_int_2_int_D : Ve.Fn := ⟨147, slices_Contains_2_int_2_int_a, slices_Contains_2_int_2_int_o, slices_Contains_2_int_2_int_E, slices_Contains_2_int_2_int⟩
theorem slices_Contains_2_int_2_int_w : Walk Try.prog slices_Contains_2_int_2_int_x slices_Contains_2_int_2_int_D Try.f147 c147 9 slices_Contains_2_int_2_int_A :=
  ⟨⟨Try.func147, by kernel_rfl, by kernel_rfl, by kernel_rfl, by decide, by kernel_rfl, Nat.le_of_ble_eq_true (by kernel_rfl)⟩, by kernel_rfl, by kernel_rfl, by kernel_rfl, kcast (by kernel_rfl) trivial, by kernel_rfl, fun x y => by kernel_rfl⟩
theorem slices_Contains_2_int_2_int_s : slices_Contains_2_int_2_int_D.Says Try.prog := slices_Contains_2_int_2_int_w.says follows tabOk slices_Index_2_int_2_int_e_ok
noncomputable def slices_Contains_2_int_2_int_e : Env := more slices_Index_2_int_2_int_e slices_Contains_2_int_2_int_D
theorem slices_Contains_2_int_2_int_e_ok : EnvOk Try.prog slices_Contains_2_int_2_int_e := more_ok slices_Index_2_int_2_int_e_ok slices_Contains_2_int_2_int_s
/-! (loop.example/g01128/impl.Graph).has -/
abbrev impl_Graph_has_E : Ve.End := ⟨[⟨6, .shr, .bool, none⟩], []⟩
abbrev impl_Graph_has_a : List ASh := [.val (.prod I (.list (.prod I I))), .val I, .val I]
abbrev impl_Graph_has_o : List OSh := []
noncomputable def impl_Graph_has : argP impl_Graph_has_a → obP (extObs 0 impl_Graph_has_o) → Option impl_Graph_has_E.P
  | (g, a, b, ()), () => match impl_pair (a, b, ()) () with | some ((r, ()), ()) => (match slices_Contains_2_int_2_int (g.2, r, ()) () with | some ((r2, ()), ()) => some ((r2, ()), ()) | none => none) | none => none
noncomputable def impl_Graph_has_x : Cx := ⟨tab, slices_Contains_2_int_2_int_e, fun _ _ => 0, fun _ => false, [(11, 0), (11, 1), (11, 2), (11, 3), (12, 0), (12, 1), (12, 2), (12, 3)], [(3, 0)]⟩
noncomputable def c116 : Code := bodyOf Try.f116
noncomputable def impl_Graph_has_A : Ann := .seq .nil (.seq (.draw [(0, .flo), (1, .flo), (2, .flo), (3, .flo), (4, .sole), (5, .sole), (6, .flo)]) .nil)
noncomputable def impl_Graph_has_D : Ve.Fn := ⟨116, impl_Graph_has_a, impl_Graph_has_o, impl_Graph_has_E, impl_Graph_has⟩
theorem impl_Graph_has_w : Walk Try.prog impl_Graph_has_x impl_Graph_has_D Try.f116 c116 13 impl_Graph_has_A :=
  ⟨⟨Try.func116, by kernel_rfl, by kernel_rfl, by kernel_rfl, by decide, by kernel_rfl, Nat.le_of_ble_eq_true (by kernel_rfl)⟩, by kernel_rfl, by kernel_rfl, by kernel_rfl, kcast (by kernel_rfl) trivial, by kernel_rfl, fun x y => by kernel_rfl⟩
theorem impl_Graph_has_s : impl_Graph_has_D.Says Try.prog := impl_Graph_has_w.says follows tabOk slices_Contains_2_int_2_int_e_ok
noncomputable def impl_Graph_has_e : Env := more slices_Contains_2_int_2_int_e impl_Graph_has_D
theorem impl_Graph_has_e_ok : EnvOk Try.prog impl_Graph_has_e := more_ok slices_Contains_2_int_2_int_e_ok impl_Graph_has_s
/-! (loop.example/g01128/impl.Graph).neighbors -/
abbrev impl_Graph_neighbors_J0 : Tpl := ⟨[(1, .val I), (2, .cst (.prod I (.list (.prod I I)))), (5, .own .shr I), (9, .val I), (10, .val I)], [], []⟩
abbrev impl_Graph_neighbors_J1 : Tpl := ⟨[(5, .own .shr I)], [], []⟩
abbrev impl_Graph_neighbors_E : Ve.End := ⟨[⟨4, (.own .shr), (.list I), none⟩], []⟩
abbrev impl_Graph_neighbors_a : List ASh := [.val (.prod I (.list (.prod I I))), .val I]
abbrev impl_Graph_neighbors_o : List OSh := []
abbrev impl_Graph_neighbors_O0 : Out := .one (.ex 0) impl_Graph_neighbors_J1
noncomputable def impl_Graph_neighbors_B0 : impl_Graph_neighbors_J0.P → Option (impl_Graph_neighbors_J0.P ⊕ impl_Graph_neighbors_O0.P)
  | ((x, g, out, t9, t10, ()), ()) => bif (decide (t10 < t9)) then (bif (t10 != x) then (match impl_Graph_has (g, x, t10, ()) () with | some ((r, ()), ()) => (bif r then (guardB (decide ((List.length out + List.length [t10]) * 8 ≤ 70368744177664)) (some (.inl ((x, g, (out ++ [t10]), t9, (w64 (t10 + (1 : Int))), ()), ())))) else (some (.inl ((x, g, out, t9, (w64 (t10 + (1 : Int))), ()), ())))) | none => none) else (some (.inl ((x, g, out, t9, (w64 (t10 + (1 : Int))), ()), ())))) else (some (.inr ((out, ()), ())))
noncomputable def impl_Graph_neighbors : argP impl_Graph_neighbors_a → obP (extObs 0 impl_Graph_neighbors_o) → Option impl_Graph_neighbors_E.P
  | (g, x, ()), () => match loopO impl_Graph_neighbors_B0 ((x, g, ([] : (List Int)), g.1, (0 : Int), ()), ()) with | some ((out, ()), ()) => some ((out, ()), ()) | none => none
noncomputable def impl_Graph_neighbors_x : Cx := ⟨tab, impl_Graph_has_e, fun _ _ => 0, fun _ => false, [(20, 0), (20, 1), (20, 2), (20, 3), (24, 0)], [(2, 0)]⟩
noncomputable def c83 : Code := bodyOf Try.f83
noncomputable def impl_Graph_neighbors_A : Ann := .seq .nil (.seq .nil (.seq (.seq .nil (.loop impl_Graph_neighbors_J0 impl_Graph_neighbors_O0 impl_Graph_neighbors_B0 .nil)) .nil))
theorem impl_Graph_neighbors_r0 (p : impl_Graph_neighbors_J0.P) : run impl_Graph_neighbors_x (subc [1, 1, 0, 1, 0, 0] c83) .nil (impl_Graph_neighbors_J0.S p) (leaf impl_Graph_neighbors_J0 impl_Graph_neighbors_O0) = impl_Graph_neighbors_B0 p := by kernel_rfl
noncomputable def impl_Graph_neighbors_D : Ve.Fn := ⟨83, impl_Graph_neighbors_a, impl_Graph_neighbors_o, impl_Graph_neighbors_E, impl_Graph_neighbors⟩
theorem impl_Graph_neighbors_w : Walk Try.prog impl_Graph_neighbors_x impl_Graph_neighbors_D Try.f83 c83 28 impl_Graph_neighbors_A :=
  ⟨⟨Try.func83, by kernel_rfl, by kernel_rfl, by kernel_rfl, by decide, by kernel_rfl, Nat.le_of_ble_eq_true (by kernel_rfl)⟩, by kernel_rfl, by kernel_rfl, by kernel_rfl, kcast (by kernel_rfl) (⟨impl_Graph_neighbors_r0, trivial⟩ : (∀ p, run impl_Graph_neighbors_x (subc [1, 1, 0, 1, 0, 0] c83) .nil (impl_Graph_neighbors_J0.S p) (leaf impl_Graph_neighbors_J0 impl_Graph_neighbors_O0) = impl_Graph_neighbors_B0 p) ∧ True), by kernel_rfl, fun x y => by kernel_rfl⟩
theorem impl_Graph_neighbors_s : impl_Graph_neighbors_D.Says Try.prog := impl_Graph_neighbors_w.says follows tabOk impl_Graph_has_e_ok
noncomputable def impl_Graph_neighbors_e : Env := more impl_Graph_has_e impl_Graph_neighbors_D
theorem impl_Graph_neighbors_e_ok : EnvOk Try.prog impl_Graph_neighbors_e := more_ok impl_Graph_has_e_ok impl_Graph_neighbors_s
/-! (loop.example/g01128/impl.Graph).isFit -/
abbrev impl_Graph_isFit_E : Ve.End := ⟨[⟨8, .shr, .bool, none⟩], []⟩
abbrev impl_Graph_isFit_a : List ASh := [.val (.prod I (.list (.prod I I))), .val I, .val I, .val .bool]
abbrev impl_Graph_isFit_o : List OSh := []
noncomputable def impl_Graph_isFit : argP impl_Graph_isFit_a → obP (extObs 0 impl_Graph_isFit_o) → Option impl_Graph_isFit_E.P
  | (h, x, y, lazy, ()), () => match impl_Graph_has (h, x, y, ()) () with | some ((r, ()), ()) => (bif r then (some ((true, ()), ())) else (bif lazy then (some (((x == y), ()), ())) else (some ((false, ()), ())))) | none => none
noncomputable def impl_Graph_isFit_x : Cx := ⟨tab, impl_Graph_neighbors_e, fun _ _ => 0, fun _ => false, [(12, 0), (12, 1), (12, 2), (12, 3)], [(4, 0)]⟩
noncomputable def c85 : Code := bodyOf Try.f85
noncomputable def impl_Graph_isFit_A : Ann := .nil
noncomputable def impl_Graph_isFit_D : Ve.Fn := ⟨85, impl_Graph_isFit_a, impl_Graph_isFit_o, impl_Graph_isFit_E, impl_Graph_isFit⟩
theorem impl_Graph_isFit_w : Walk Try.prog impl_Graph_isFit_x impl_Graph_isFit_D Try.f85 c85 21 impl_Graph_isFit_A :=
  ⟨⟨Try.func85, by kernel_rfl, by kernel_rfl, by kernel_rfl, by decide, by kernel_rfl, Nat.le_of_ble_eq_true (by kernel_rfl)⟩, by kernel_rfl, by kernel_rfl, by kernel_rfl, kcast (by kernel_rfl) trivial, by kernel_rfl, fun x y => by kernel_rfl⟩
theorem impl_Graph_isFit_s : impl_Graph_isFit_D.Says Try.prog := impl_Graph_isFit_w.says follows tabOk impl_Graph_neighbors_e_ok
noncomputable def impl_Graph_isFit_e : Env := more impl_Graph_neighbors_e impl_Graph_isFit_D
theorem impl_Graph_isFit_e_ok : EnvOk Try.prog impl_Graph_isFit_e := more_ok impl_Graph_neighbors_e_ok impl_Graph_isFit_s
/-! loop.example/g01128/impl.maps$1$1 -/
abbrev impl_maps_1_1_vccccc_E : Ve.End := ⟨[⟨7, .shr, .bool, none⟩], []⟩
abbrev impl_maps_1_1_vccccc_a : List ASh := [.val I, .cst I, .cst (.prod I (.list (.prod I I))), .cst I, .cst (.list I), .cst .bool]
abbrev impl_maps_1_1_vccccc_o : List OSh := []
noncomputable def impl_maps_1_1_vccccc : argP impl_maps_1_1_vccccc_a → obP (extObs 0 impl_maps_1_1_vccccc_o) → Option impl_maps_1_1_vccccc_E.P
  | (z, t1, t2, t3, t4, t5, ()), () => bif (decide (z < t1)) then (guardB (inb z (List.length t4)) (match impl_Graph_isFit (t2, t3, (List.getD t4 (Int.toNat z) (0 : Int)), t5, ()) () with | some ((r, ()), ()) => some (((!r), ()), ()) | none => none)) else (some ((false, ()), ()))
noncomputable def impl_maps_1_1_vccccc_x : Cx := ⟨tab, impl_Graph_isFit_e, fun _ _ => 0, fun _ => false, [(19, 0), (19, 1), (19, 2), (19, 3)], []⟩
noncomputable def c84 : Code := bodyOf Try.f84
noncomputable def impl_maps_1_1_vccccc_A : Ann := .seq .nil (.seq (.draw [(0, .flo), (1, .flo), (2, .flo), (3, .flo), (4, .flo), (5, .flo), (6, .flo), (7, .flo), (8, .flo), (9, .flo), (10, .flo), (11, .sole), (12, .flo), (13, .flo), (14, .flo)]) .nil)
noncomputable def impl_maps_1_1_vccccc_D : Ve.Fn := ⟨84, impl_maps_1_1_vccccc_a, impl_maps_1_1_vccccc_o, impl_maps_1_1_vccccc_E, impl_maps_1_1_vccccc⟩
theorem impl_maps_1_1_vccccc_w : Walk Try.prog impl_maps_1_1_vccccc_x impl_maps_1_1_vccccc_D Try.f84 c84 22 impl_maps_1_1_vccccc_A :=
  ⟨⟨Try.func84, by kernel_rfl, by kernel_rfl, by kernel_rfl, by decide, by kernel_rfl, Nat.le_of_ble_eq_true (by kernel_rfl)⟩, by kernel_rfl, by kernel_rfl, by kernel_rfl, kcast (by kernel_rfl) trivial, by kernel_rfl, fun x y => by kernel_rfl⟩
theorem impl_maps_1_1_vccccc_s : impl_maps_1_1_vccccc_D.Says Try.prog := impl_maps_1_1_vccccc_w.says follows tabOk impl_Graph_isFit_e_ok
noncomputable def impl_maps_1_1_vccccc_e : Env := more impl_Graph_isFit_e impl_maps_1_1_vccccc_D
theorem impl_maps_1_1_vccccc_e_ok : EnvOk Try.prog impl_maps_1_1_vccccc_e := more_ok impl_Graph_isFit_e_ok impl_maps_1_1_vccccc_s
/-! slices.IndexFunc[[]int,int] -/
abbrev slices_IndexFunc_int_int_vf_impl_maps_1_1_01234__bsbsbsb1bs_J0 : Tpl := ⟨[(0, .val (.list I)), (1, .fn ⟨84, [(1000000, 0), (1000001, 0), (1000002, 0), (1000003, 0), (1000004, 0)]⟩), (7, .val I), (8, .val I)], [((1000000, 0), .box .shr I), ((1000001, 0), .box .shr (.prod I (.list (.prod I I)))), ((1000002, 0), .box .shr I), ((1000003, 0), .box (.own .shr) (.list I)), ((1000004, 0), .box .shr .bool)], []⟩
abbrev slices_IndexFunc_int_int_vf_impl_maps_1_1_01234__bsbsbsb1bs_J1 : Tpl := ⟨[(4, .val I)], [((1000000, 0), .box .shr I), ((1000001, 0), .box .shr (.prod I (.list (.prod I I)))), ((1000002, 0), .box .shr I), ((1000003, 0), .box (.own .shr) (.list I)), ((1000004, 0), .box .shr .bool)], []⟩
abbrev slices_IndexFunc_int_int_vf_impl_maps_1_1_01234__bsbsbsb1bs_J2 : Tpl := ⟨[], [((1000000, 0), .box .shr I), ((1000001, 0), .box .shr (.prod I (.list (.prod I I)))), ((1000002, 0), .box .shr I), ((1000003, 0), .box (.own .shr) (.list I)), ((1000004, 0), .box .shr .bool)], []⟩
abbrev slices_IndexFunc_int_int_vf_impl_maps_1_1_01234__bsbsbsb1bs_E : Ve.End := ⟨[⟨4, .shr, I, none⟩], [.box .shr I, .box .shr (.prod I (.list (.prod I I))), .box .shr I, .box (.own .shr) (.list I), .box .shr .bool]⟩
abbrev slices_IndexFunc_int_int_vf_impl_maps_1_1_01234__bsbsbsb1bs_a : List ASh := [.val (.list I), .fn 84 [0, 1, 2, 3, 4]]
abbrev slices_IndexFunc_int_int_vf_impl_maps_1_1_01234__bsbsbsb1bs_o : List OSh := [.box .shr I, .box .shr (.prod I (.list (.prod I I))), .box .shr I, .box (.own .shr) (.list I), .box .shr .bool]
abbrev slices_IndexFunc_int_int_vf_impl_maps_1_1_01234__bsbsbsb1bs_O0 : Out := .or .ret slices_IndexFunc_int_int_vf_impl_maps_1_1_01234__bsbsbsb1bs_J1 (.one (.ex 0) slices_IndexFunc_int_int_vf_impl_maps_1_1_01234__bsbsbsb1bs_J2)
noncomputable def slices_IndexFunc_int_int_vf_impl_maps_1_1_01234__bsbsbsb1bs_B0 : slices_IndexFunc_int_int_vf_impl_maps_1_1_01234__bsbsbsb1bs_J0.P → Option (slices_IndexFunc_int_int_vf_impl_maps_1_1_01234__bsbsbsb1bs_J0.P ⊕ slices_IndexFunc_int_int_vf_impl_maps_1_1_01234__bsbsbsb1bs_O0.P)
  | ((s, t7, t8, ()), (o0, o1, o2, o3, o4, ())) => bif (decide (t8 < t7)) then (guardB (inb t8 (List.length s)) (match impl_maps_1_1_vccccc ((List.getD s (Int.toNat t8) (0 : Int)), o0, o1, o2, o3, o4, ()) () with | some ((r, ()), ()) => (bif r then (some (.inr (.inl ((t8, ()), (o0, o1, o2, o3, o4, ()))))) else (some (.inl ((s, t7, (w64 (t8 + (1 : Int))), ()), (o0, o1, o2, o3, o4, ()))))) | none => none)) else (some (.inr (.inr ((), (o0, o1, o2, o3, o4, ())))))
noncomputable def slices_IndexFunc_int_int_vf_impl_maps_1_1_01234__bsbsbsb1bs : argP slices_IndexFunc_int_int_vf_impl_maps_1_1_01234__bsbsbsb1bs_a → obP (extObs 0 slices_IndexFunc_int_int_vf_impl_maps_1_1_01234__bsbsbsb1bs_o) → Option slices_IndexFunc_int_int_vf_impl_maps_1_1_01234__bsbsbsb1bs_E.P
  | (s, ()), (o0, o1, o2, o3, o4, ()) => match loopO slices_IndexFunc_int_int_vf_impl_maps_1_1_01234__bsbsbsb1bs_B0 ((s, (List.length s : Int), (0 : Int), ()), (o0, o1, o2, o3, o4, ())) with | some (.inl ((t4, ()), (o0_2, o1_2, o2_2, o3_2, o4_2, ()))) => some ((t4, ()), (o0_2, o1_2, o2_2, o3_2, o4_2, ())) | some (.inr ((), (o0_3, o1_3, o2_3, o3_3, o4_3, ()))) => some (((-1 : Int), ()), (o0_3, o1_3, o2_3, o3_3, o4_3, ())) | none => none
noncomputable def slices_IndexFunc_int_int_vf_impl_maps_1_1_01234__bsbsbsb1bs_x : Cx := ⟨tab, impl_maps_1_1_vccccc_e, fun _ _ => 0, fun _ => false, [(16, 0), (16, 1), (16, 2), (16, 3)], []⟩
noncomputable def c115 : Code := bodyOf Try.f115
noncomputable def slices_IndexFunc_int_int_vf_impl_maps_1_1_01234__bsbsbsb1bs_A : Ann := .seq .nil (.seq (.seq .nil (.loop slices_IndexFunc_int_int_vf_impl_maps_1_1_01234__bsbsbsb1bs_J0 slices_IndexFunc_int_int_vf_impl_maps_1_1_01234__bsbsbsb1bs_O0 slices_IndexFunc_int_int_vf_impl_maps_1_1_01234__bsbsbsb1bs_B0 .nil)) .nil)
theorem slices_IndexFunc_int_int_vf_impl_maps_1_1_01234__bsbsbsb1bs_r0 (p : slices_IndexFunc_int_int_vf_impl_maps_1_1_01234__bsbsbsb1bs_J0.P) : run slices_IndexFunc_int_int_vf_impl_maps_1_1_01234__bsbsbsb1bs_x (subc [1, 0, 1, 0, 0] c115) .nil (slices_IndexFunc_int_int_vf_impl_maps_1_1_01234__bsbsbsb1bs_J0.S p) (leaf slices_IndexFunc_int_int_vf_impl_maps_1_1_01234__bsbsbsb1bs_J0 slices_IndexFunc_int_int_vf_impl_maps_1_1_01234__bsbsbsb1bs_O0) = slices_IndexFunc_int_int_vf_impl_maps_1_1_01234__bsbsbsb1bs_B0 p := by kernel_rfl
noncomputable def slices_IndexFunc_int_int_vf_impl_maps_1_1_01234__bsbsbsb1bs_D : Ve.Fn := ⟨115, slices_IndexFunc_int_int_vf_impl_maps_1_1_01234__bsbsbsb1bs_a, slices_IndexFunc_int_int_vf_impl_maps_1_1_01234__bsbsbsb1bs_o, slices_IndexFunc_int_int_vf_impl_maps_1_1_01234__bsbsbsb1bs_E, slices_IndexFunc_int_int_vf_impl_maps_1_1_01234__bsbsbsb1bs⟩
theorem slices_IndexFunc_int_int_vf_impl_maps_1_1_01234__bsbsbsb1bs_w : Walk Try.prog slices_IndexFunc_int_int_vf_impl_maps_1_1_01234__bsbsbsb1bs_x slices_IndexFunc_int_int_vf_impl_maps_1_1_01234__bsbsbsb1bs_D Try.f115 c115 19 slices_IndexFunc_int_int_vf_impl_maps_1_1_01234__bsbsbsb1bs_A :=
  ⟨⟨Try.func115, by kernel_rfl, by kernel_rfl, by kernel_rfl, by decide, by kernel_rfl, Nat.le_of_ble_eq_true (by kernel_rfl)⟩, by kernel_rfl, by kernel_rfl, by kernel_rfl, kcast (by kernel_rfl) (⟨slices_IndexFunc_int_int_vf_impl_maps_1_1_01234__bsbsbsb1bs_r0, trivial⟩ : (∀ p, run slices_IndexFunc_int_int_vf_impl_maps_1_1_01234__bsbsbsb1bs_x (subc [1, 0, 1, 0, 0] c115) .nil (slices_IndexFunc_int_int_vf_impl_maps_1_1_01234__bsbsbsb1bs_J0.S p) (leaf slices_IndexFunc_int_int_vf_impl_maps_1_1_01234__bsbsbsb1bs_J0 slices_IndexFunc_int_int_vf_impl_maps_1_1_01234__bsbsbsb1bs_O0) = slices_IndexFunc_int_int_vf_impl_maps_1_1_01234__bsbsbsb1bs_B0 p) ∧ True), by kernel_rfl, fun x y => by kernel_rfl⟩
theorem slices_IndexFunc_int_int_vf_impl_maps_1_1_01234__bsbsbsb1bs_s : slices_IndexFunc_int_int_vf_impl_maps_1_1_01234__bsbsbsb1bs_D.Says Try.prog := slices_IndexFunc_int_int_vf_impl_maps_1_1_01234__bsbsbsb1bs_w.says follows tabOk impl_maps_1_1_vccccc_e_ok
noncomputable def slices_IndexFunc_int_int_vf_impl_maps_1_1_01234__bsbsbsb1bs_e : Env := more impl_maps_1_1_vccccc_e slices_IndexFunc_int_int_vf_impl_maps_1_1_01234__bsbsbsb1bs_D
theorem slices_IndexFunc_int_int_vf_impl_maps_1_1_01234__bsbsbsb1bs_e_ok : EnvOk Try.prog slices_IndexFunc_int_int_vf_impl_maps_1_1_01234__bsbsbsb1bs_e := more_ok impl_maps_1_1_vccccc_e_ok slices_IndexFunc_int_int_vf_impl_maps_1_1_01234__bsbsbsb1bs_s
/-! slices.ContainsFunc[[]int,int] -/
abbrev slices_ContainsFunc_int_int_vf_impl_maps_1_1_01234__bsbsbsb1bs_E : Ve.End := ⟨[⟨4, .shr, .bool, none⟩], [.box .shr I, .box .shr (.prod I (.list (.prod I I))), .box .shr I, .box (.own .shr) (.list I), .box .shr .bool]⟩
abbrev slices_ContainsFunc_int_int_vf_impl_maps_1_1_01234__bsbsbsb1bs_a : List ASh := [.val (.list I), .fn 84 [0, 1, 2, 3, 4]]
abbrev slices_ContainsFunc_int_int_vf_impl_maps_1_1_01234__bsbsbsb1bs_o : List OSh := [.box .shr I, .box .shr (.prod I (.list (.prod I I))), .box .shr I, .box (.own .shr) (.list I), .box .shr .bool]
noncomputable def slices_ContainsFunc_int_int_vf_impl_maps_1_1_01234__bsbsbsb1bs : argP slices_ContainsFunc_int_int_vf_impl_maps_1_1_01234__bsbsbsb1bs_a → obP (extObs 0 slices_ContainsFunc_int_int_vf_impl_maps_1_1_01234__bsbsbsb1bs_o) → Option slices_ContainsFunc_int_int_vf_impl_maps_1_1_01234__bsbsbsb1bs_E.P
  | (s, ()), (o0, o1, o2, o3, o4, ()) => match slices_IndexFunc_int_int_vf_impl_maps_1_1_01234__bsbsbsb1bs (s, ()) (o0, o1, o2, o3, o4, ()) with | some ((r, ()), (o, o5, o6, o7, o8, ())) => some (((decide ((0 : Int) ≤ r)), ()), (o, o5, o6, o7, o8, ())) | none => none
noncomputable def slices_ContainsFunc_int_int_vf_impl_maps_1_1_01234__bsbsbsb1bs_x : Cx := ⟨tab, slices_IndexFunc_int_int_vf_impl_maps_1_1_01234__bsbsbsb1bs_e, fun _ _ => 0, fun _ => false, [(7, 0), (7, 1), (7, 2), (7, 3)], []⟩
noncomputable def c82 : Code := bodyOf Try.f82
noncomputable def slices_ContainsFunc_int_int_vf_impl_maps_1_1_01234__bsbsbsb1bs_A : Ann := .nil
noncomputable def slices_ContainsFunc_int_int_vf_impl_maps_1_1_01234__bsbsbsb1bs_D : Ve.Fn := ⟨82, slices_ContainsFunc_int_int_vf_impl_maps_1_1_01234__bsbsbsb1bs_a, slices_ContainsFunc_int_int_vf_impl_maps_1_1_01234__bsbsbsb1bs_o, slices_ContainsFunc_int_int_vf_impl_maps_1_1_01234__bsbsbsb1bs_E, slices_ContainsFunc_int_int_vf_impl_maps_1_1_01234__bsbsbsb1bs⟩
theorem slices_ContainsFunc_int_int_vf_impl_maps_1_1_01234__bsbsbsb1bs_w : Walk Try.prog slices_ContainsFunc_int_int_vf_impl_maps_1_1_01234__bsbsbsb1bs_x slices_ContainsFunc_int_int_vf_impl_maps_1_1_01234__bsbsbsb1bs_D Try.f82 c82 9 slices_ContainsFunc_int_int_vf_impl_maps_1_1_01234__bsbsbsb1bs_A :=
  ⟨⟨Try.func82, by kernel_rfl, by kernel_rfl, by kernel_rfl, by decide, by kernel_rfl, Nat.le_of_ble_eq_true (by kernel_rfl)⟩, by kernel_rfl, by kernel_rfl, by kernel_rfl, kcast (by kernel_rfl) trivial, by kernel_rfl, fun x y => by kernel_rfl⟩
theorem slices_ContainsFunc_int_int_vf_impl_maps_1_1_01234__bsbsbsb1bs_s : slices_ContainsFunc_int_int_vf_impl_maps_1_1_01234__bsbsbsb1bs_D.Says Try.prog := slices_ContainsFunc_int_int_vf_impl_maps_1_1_01234__bsbsbsb1bs_w.says follows tabOk slices_IndexFunc_int_int_vf_impl_maps_1_1_01234__bsbsbsb1bs_e_ok
noncomputable def slices_ContainsFunc_int_int_vf_impl_maps_1_1_01234__bsbsbsb1bs_e : Env := more slices_IndexFunc_int_int_vf_impl_maps_1_1_01234__bsbsbsb1bs_e slices_ContainsFunc_int_int_vf_impl_maps_1_1_01234__bsbsbsb1bs_D
theorem slices_ContainsFunc_int_int_vf_impl_maps_1_1_01234__bsbsbsb1bs_e_ok : EnvOk Try.prog slices_ContainsFunc_int_int_vf_impl_maps_1_1_01234__bsbsbsb1bs_e := more_ok slices_IndexFunc_int_int_vf_impl_maps_1_1_01234__bsbsbsb1bs_e_ok slices_ContainsFunc_int_int_vf_impl_maps_1_1_01234__bsbsbsb1bs_s
/-! loop.example/g01128/impl.maps$1 -/
abbrev impl_maps_1_va0a1a2a3a4a5_bsfimpl_MapSpace_1_6b1bsbsfimpl_maps_1_012345b2_J0 : Tpl := ⟨[(1, .ptr (1000000, 0)), (3, .ptr (1000002, 0)), (4, .ptr (1000003, 0)), (5, .ptr (1000004, 0)), (6, .ptr (1000005, 0)), (7, .ptr (7, 0)), (19, .val I), (20, .val I)], [((1000000, 0), .box .shr (.prod I (.list (.prod I I)))), ((1000002, 0), .box (.own .shr) (.list I)), ((1000003, 0), .box .shr (.prod I (.list (.prod I I)))), ((1000004, 0), .box .shr .bool), ((1000005, 0), .fbox (some ⟨81, [(1000000, 0), (1000001, 0), (1000002, 0), (1000003, 0), (1000004, 0), (1000005, 0)]⟩)), ((7, 0), .box .shr I), ((1000001, 0), .fbox (some ⟨40, [(1000006, 0)]⟩)), ((1000006, 0), .box (.own (.own .shr)) (.list (.list I)))], []⟩
abbrev impl_maps_1_va0a1a2a3a4a5_bsfimpl_MapSpace_1_6b1bsbsfimpl_maps_1_012345b2_J1 : Tpl := ⟨[(8, .val .bool)], [((1000000, 0), .box .shr (.prod I (.list (.prod I I)))), ((1000001, 0), .fbox (some ⟨40, [(1000006, 0)]⟩)), ((1000002, 0), .box (.own .shr) (.list I)), ((1000003, 0), .box .shr (.prod I (.list (.prod I I)))), ((1000004, 0), .box .shr .bool), ((1000005, 0), .fbox (some ⟨81, [(1000000, 0), (1000001, 0), (1000002, 0), (1000003, 0), (1000004, 0), (1000005, 0)]⟩)), ((1000006, 0), .box (.own (.own .shr)) (.list (.list I)))], []⟩
abbrev impl_maps_1_va0a1a2a3a4a5_bsfimpl_MapSpace_1_6b1bsbsfimpl_maps_1_012345b2_J2 : Tpl := ⟨[], [((1000000, 0), .box .shr (.prod I (.list (.prod I I)))), ((1000001, 0), .fbox (some ⟨40, [(1000006, 0)]⟩)), ((1000002, 0), .box (.own .shr) (.list I)), ((1000003, 0), .box .shr (.prod I (.list (.prod I I)))), ((1000004, 0), .box .shr .bool), ((1000005, 0), .fbox (some ⟨81, [(1000000, 0), (1000001, 0), (1000002, 0), (1000003, 0), (1000004, 0), (1000005, 0)]⟩)), ((1000006, 0), .box (.own (.own .shr)) (.list (.list I)))], []⟩
abbrev impl_maps_1_va0a1a2a3a4a5_bsfimpl_MapSpace_1_6b1bsbsfimpl_maps_1_012345b2_E : Ve.End := ⟨[⟨8, .shr, .bool, none⟩], [.box .shr (.prod I (.list (.prod I I))), .fbox (some ⟨40, [(1000006, 0)]⟩), .box (.own .shr) (.list I), .box .shr (.prod I (.list (.prod I I))), .box .shr .bool, .fbox (some ⟨81, [(1000000, 0), (1000001, 0), (1000002, 0), (1000003, 0), (1000004, 0), (1000005, 0)]⟩), .box (.own (.own .shr)) (.list (.list I))]⟩
abbrev impl_maps_1_va0a1a2a3a4a5_bsfimpl_MapSpace_1_6b1bsbsfimpl_maps_1_012345b2_a : List ASh := [.val I, .adr 0, .adr 1, .adr 2, .adr 3, .adr 4, .adr 5]
abbrev impl_maps_1_va0a1a2a3a4a5_bsfimpl_MapSpace_1_6b1bsbsfimpl_maps_1_012345b2_o : List OSh := [.box .shr (.prod I (.list (.prod I I))), .fbox (some ⟨40, [(1000006, 0)]⟩), .box (.own .shr) (.list I), .box .shr (.prod I (.list (.prod I I))), .box .shr .bool, .fbox (some ⟨81, [(1000000, 0), (1000001, 0), (1000002, 0), (1000003, 0), (1000004, 0), (1000005, 0)]⟩), .box (.own (.own .shr)) (.list (.list I))]
abbrev impl_maps_1_va0a1a2a3a4a5_bsfimpl_MapSpace_1_6b1bsbsfimpl_maps_1_012345b2_O0 : Out := .or .ret impl_maps_1_va0a1a2a3a4a5_bsfimpl_MapSpace_1_6b1bsbsfimpl_maps_1_012345b2_J1 (.one (.ex 0) impl_maps_1_va0a1a2a3a4a5_bsfimpl_MapSpace_1_6b1bsbsfimpl_maps_1_012345b2_J2)
noncomputable def impl_maps_1_va0a1a2a3a4a5_bsfimpl_MapSpace_1_6b1bsbsfimpl_maps_1_012345b2_B0 (rc : argP impl_maps_1_va0a1a2a3a4a5_bsfimpl_MapSpace_1_6b1bsbsfimpl_maps_1_012345b2_a → obP (extObs 0 impl_maps_1_va0a1a2a3a4a5_bsfimpl_MapSpace_1_6b1bsbsfimpl_maps_1_012345b2_o) → Option impl_maps_1_va0a1a2a3a4a5_bsfimpl_MapSpace_1_6b1bsbsfimpl_maps_1_012345b2_E.P) : impl_maps_1_va0a1a2a3a4a5_bsfimpl_MapSpace_1_6b1bsbsfimpl_maps_1_012345b2_J0.P → Option (impl_maps_1_va0a1a2a3a4a5_bsfimpl_MapSpace_1_6b1bsbsfimpl_maps_1_012345b2_J0.P ⊕ impl_maps_1_va0a1a2a3a4a5_bsfimpl_MapSpace_1_6b1bsbsfimpl_maps_1_012345b2_O0.P)
  | ((t19, t20, ()), (o0, o2, o3, o4, x, o6, ())) => bif (decide (t20 < t19)) then (guardB (inb x (List.length o2)) (match impl_Graph_neighbors (o0, x, ()) () with | some ((r, ()), ()) => (match slices_ContainsFunc_int_int_vf_impl_maps_1_1_01234__bsbsbsb1bs (r, ()) (x, o3, t20, (List.set o2 (Int.toNat x) t20), o4, ()) with | some ((r2, ()), (o, o5, o7, o8, o9, ())) => (bif (!r2) then (match rc ((w64 (o + (1 : Int))), ()) (o0, o8, o5, o9, o6, ()) with | some ((r3, ()), (o10, o11, o12, o13, o14, ())) => (bif (!r3) then (some (.inr (.inl ((false, ()), (o10, o11, o12, o13, o14, ()))))) else (some (.inl ((t19, (w64 (t20 + (1 : Int))), ()), (o10, o11, o12, o13, o, o14, ()))))) | none => none) else (some (.inl ((t19, (w64 (t20 + (1 : Int))), ()), (o0, o8, o5, o9, o, o6, ()))))) | none => none) | none => none)) else (some (.inr (.inr ((), (o0, o2, o3, o4, o6, ())))))
noncomputable def impl_maps_1_va0a1a2a3a4a5_bsfimpl_MapSpace_1_6b1bsbsfimpl_maps_1_012345b2_F (rc : argP impl_maps_1_va0a1a2a3a4a5_bsfimpl_MapSpace_1_6b1bsbsfimpl_maps_1_012345b2_a → obP (extObs 0 impl_maps_1_va0a1a2a3a4a5_bsfimpl_MapSpace_1_6b1bsbsfimpl_maps_1_012345b2_o) → Option impl_maps_1_va0a1a2a3a4a5_bsfimpl_MapSpace_1_6b1bsbsfimpl_maps_1_012345b2_E.P) : argP impl_maps_1_va0a1a2a3a4a5_bsfimpl_MapSpace_1_6b1bsbsfimpl_maps_1_012345b2_a → obP (extObs 0 impl_maps_1_va0a1a2a3a4a5_bsfimpl_MapSpace_1_6b1bsbsfimpl_maps_1_012345b2_o) → Option impl_maps_1_va0a1a2a3a4a5_bsfimpl_MapSpace_1_6b1bsbsfimpl_maps_1_012345b2_E.P
  | (x, ()), (o0, o2, o3, o4, o6, ()) => bif (x == o0.1) then (match impl_MapSpace_1_va0_b2 (o2, ()) (o6, ()) with | some ((r, ()), (o, ())) => some ((r, ()), (o0, o2, o3, o4, o, ())) | none => none) else (match loopO (impl_maps_1_va0a1a2a3a4a5_bsfimpl_MapSpace_1_6b1bsbsfimpl_maps_1_012345b2_B0 rc) ((o3.1, (0 : Int), ()), (o0, o2, o3, o4, x, o6, ())) with | some (.inl ((t8, ()), (o0_2, o2_2, o3_2, o4_2, o6_2, ()))) => some ((t8, ()), (o0_2, o2_2, o3_2, o4_2, o6_2, ())) | some (.inr ((), (o0_3, o2_3, o3_3, o4_3, o6_3, ()))) => some ((true, ()), (o0_3, o2_3, o3_3, o4_3, o6_3, ())) | none => none)
noncomputable def impl_maps_1_va0a1a2a3a4a5_bsfimpl_MapSpace_1_6b1bsbsfimpl_maps_1_012345b2 : argP impl_maps_1_va0a1a2a3a4a5_bsfimpl_MapSpace_1_6b1bsbsfimpl_maps_1_012345b2_a → obP (extObs 0 impl_maps_1_va0a1a2a3a4a5_bsfimpl_MapSpace_1_6b1bsbsfimpl_maps_1_012345b2_o) → Option impl_maps_1_va0a1a2a3a4a5_bsfimpl_MapSpace_1_6b1bsbsfimpl_maps_1_012345b2_E.P := fuelF impl_maps_1_va0a1a2a3a4a5_bsfimpl_MapSpace_1_6b1bsbsfimpl_maps_1_012345b2_F 1000
noncomputable def impl_maps_1_va0a1a2a3a4a5_bsfimpl_MapSpace_1_6b1bsbsfimpl_maps_1_012345b2_x (rc : argP impl_maps_1_va0a1a2a3a4a5_bsfimpl_MapSpace_1_6b1bsbsfimpl_maps_1_012345b2_a → obP (extObs 0 impl_maps_1_va0a1a2a3a4a5_bsfimpl_MapSpace_1_6b1bsbsfimpl_maps_1_012345b2_o) → Option impl_maps_1_va0a1a2a3a4a5_bsfimpl_MapSpace_1_6b1bsbsfimpl_maps_1_012345b2_E.P) : Cx := ⟨tab, more slices_ContainsFunc_int_int_vf_impl_maps_1_1_01234__bsbsbsb1bs_e ⟨81, impl_maps_1_va0a1a2a3a4a5_bsfimpl_MapSpace_1_6b1bsbsfimpl_maps_1_012345b2_a, impl_maps_1_va0a1a2a3a4a5_bsfimpl_MapSpace_1_6b1bsbsfimpl_maps_1_012345b2_o, impl_maps_1_va0a1a2a3a4a5_bsfimpl_MapSpace_1_6b1bsbsfimpl_maps_1_012345b2_E, rc⟩, fun f n => bif Nat.beq f 40 && Nat.beq n 1 then 1 else bif Nat.beq f 81 && Nat.beq n 1 then 1 else bif Nat.beq f 81 && Nat.beq n 2 then 1 else bif Nat.beq f 81 && Nat.beq n 3 then 1 else bif Nat.beq f 81 && Nat.beq n 4 then 1 else bif Nat.beq f 81 && Nat.beq n 5 then 1 else bif Nat.beq f 81 && Nat.beq n 6 then 1 else 0, fun _ => false, [(17, 0), (17, 1), (17, 2), (17, 3), (29, 0), (29, 1), (29, 2), (29, 3), (31, 0), (31, 1), (31, 2), (31, 3), (38, 0), (38, 1), (38, 2), (38, 3)], []⟩
noncomputable def c81 : Code := bodyOf Try.f81
noncomputable def impl_maps_1_va0a1a2a3a4a5_bsfimpl_MapSpace_1_6b1bsbsfimpl_maps_1_012345b2_A (rc : argP impl_maps_1_va0a1a2a3a4a5_bsfimpl_MapSpace_1_6b1bsbsfimpl_maps_1_012345b2_a → obP (extObs 0 impl_maps_1_va0a1a2a3a4a5_bsfimpl_MapSpace_1_6b1bsbsfimpl_maps_1_012345b2_o) → Option impl_maps_1_va0a1a2a3a4a5_bsfimpl_MapSpace_1_6b1bsbsfimpl_maps_1_012345b2_E.P) : Ann := .seq .nil (.seq .nil (.seq (.seq .nil (.loop impl_maps_1_va0a1a2a3a4a5_bsfimpl_MapSpace_1_6b1bsbsfimpl_maps_1_012345b2_J0 impl_maps_1_va0a1a2a3a4a5_bsfimpl_MapSpace_1_6b1bsbsfimpl_maps_1_012345b2_O0 (impl_maps_1_va0a1a2a3a4a5_bsfimpl_MapSpace_1_6b1bsbsfimpl_maps_1_012345b2_B0 rc) .nil)) .nil))
theorem impl_maps_1_va0a1a2a3a4a5_bsfimpl_MapSpace_1_6b1bsbsfimpl_maps_1_012345b2_r0 (rc : argP impl_maps_1_va0a1a2a3a4a5_bsfimpl_MapSpace_1_6b1bsbsfimpl_maps_1_012345b2_a → obP (extObs 0 impl_maps_1_va0a1a2a3a4a5_bsfimpl_MapSpace_1_6b1bsbsfimpl_maps_1_012345b2_o) → Option impl_maps_1_va0a1a2a3a4a5_bsfimpl_MapSpace_1_6b1bsbsfimpl_maps_1_012345b2_E.P) (p : impl_maps_1_va0a1a2a3a4a5_bsfimpl_MapSpace_1_6b1bsbsfimpl_maps_1_012345b2_J0.P) : run (impl_maps_1_va0a1a2a3a4a5_bsfimpl_MapSpace_1_6b1bsbsfimpl_maps_1_012345b2_x rc) (subc [1, 1, 0, 1, 0, 0] c81) .nil (impl_maps_1_va0a1a2a3a4a5_bsfimpl_MapSpace_1_6b1bsbsfimpl_maps_1_012345b2_J0.S p) (leaf impl_maps_1_va0a1a2a3a4a5_bsfimpl_MapSpace_1_6b1bsbsfimpl_maps_1_012345b2_J0 impl_maps_1_va0a1a2a3a4a5_bsfimpl_MapSpace_1_6b1bsbsfimpl_maps_1_012345b2_O0) = (impl_maps_1_va0a1a2a3a4a5_bsfimpl_MapSpace_1_6b1bsbsfimpl_maps_1_012345b2_B0 rc) p := by kernel_rfl
noncomputable def impl_maps_1_va0a1a2a3a4a5_bsfimpl_MapSpace_1_6b1bsbsfimpl_maps_1_012345b2_D : Ve.Fn := ⟨81, impl_maps_1_va0a1a2a3a4a5_bsfimpl_MapSpace_1_6b1bsbsfimpl_maps_1_012345b2_a, impl_maps_1_va0a1a2a3a4a5_bsfimpl_MapSpace_1_6b1bsbsfimpl_maps_1_012345b2_o, impl_maps_1_va0a1a2a3a4a5_bsfimpl_MapSpace_1_6b1bsbsfimpl_maps_1_012345b2_E, impl_maps_1_va0a1a2a3a4a5_bsfimpl_MapSpace_1_6b1bsbsfimpl_maps_1_012345b2⟩
theorem impl_maps_1_va0a1a2a3a4a5_bsfimpl_MapSpace_1_6b1bsbsfimpl_maps_1_012345b2_w (rc : argP impl_maps_1_va0a1a2a3a4a5_bsfimpl_MapSpace_1_6b1bsbsfimpl_maps_1_012345b2_a → obP (extObs 0 impl_maps_1_va0a1a2a3a4a5_bsfimpl_MapSpace_1_6b1bsbsfimpl_maps_1_012345b2_o) → Option impl_maps_1_va0a1a2a3a4a5_bsfimpl_MapSpace_1_6b1bsbsfimpl_maps_1_012345b2_E.P) : Walk Try.prog (impl_maps_1_va0a1a2a3a4a5_bsfimpl_MapSpace_1_6b1bsbsfimpl_maps_1_012345b2_x rc) ⟨81, impl_maps_1_va0a1a2a3a4a5_bsfimpl_MapSpace_1_6b1bsbsfimpl_maps_1_012345b2_a, impl_maps_1_va0a1a2a3a4a5_bsfimpl_MapSpace_1_6b1bsbsfimpl_maps_1_012345b2_o, impl_maps_1_va0a1a2a3a4a5_bsfimpl_MapSpace_1_6b1bsbsfimpl_maps_1_012345b2_E, impl_maps_1_va0a1a2a3a4a5_bsfimpl_MapSpace_1_6b1bsbsfimpl_maps_1_012345b2_F rc⟩ Try.f81 c81 42 (impl_maps_1_va0a1a2a3a4a5_bsfimpl_MapSpace_1_6b1bsbsfimpl_maps_1_012345b2_A rc) :=
  ⟨⟨Try.func81, by kernel_rfl, by kernel_rfl, by kernel_rfl, by decide, by kernel_rfl, Nat.le_of_ble_eq_true (by kernel_rfl)⟩, by kernel_rfl, by kernel_rfl, by kernel_rfl, kcast (by kernel_rfl) (⟨(impl_maps_1_va0a1a2a3a4a5_bsfimpl_MapSpace_1_6b1bsbsfimpl_maps_1_012345b2_r0 rc), trivial⟩ : (∀ p, run (impl_maps_1_va0a1a2a3a4a5_bsfimpl_MapSpace_1_6b1bsbsfimpl_maps_1_012345b2_x rc) (subc [1, 1, 0, 1, 0, 0] c81) .nil (impl_maps_1_va0a1a2a3a4a5_bsfimpl_MapSpace_1_6b1bsbsfimpl_maps_1_012345b2_J0.S p) (leaf impl_maps_1_va0a1a2a3a4a5_bsfimpl_MapSpace_1_6b1bsbsfimpl_maps_1_012345b2_J0 impl_maps_1_va0a1a2a3a4a5_bsfimpl_MapSpace_1_6b1bsbsfimpl_maps_1_012345b2_O0) = (impl_maps_1_va0a1a2a3a4a5_bsfimpl_MapSpace_1_6b1bsbsfimpl_maps_1_012345b2_B0 rc) p) ∧ True), by kernel_rfl, fun x y => by kernel_rfl⟩
theorem impl_maps_1_va0a1a2a3a4a5_bsfimpl_MapSpace_1_6b1bsbsfimpl_maps_1_012345b2_s : impl_maps_1_va0a1a2a3a4a5_bsfimpl_MapSpace_1_6b1bsbsfimpl_maps_1_012345b2_D.Says Try.prog := fuel_says (fun rc h => (impl_maps_1_va0a1a2a3a4a5_bsfimpl_MapSpace_1_6b1bsbsfimpl_maps_1_012345b2_w rc).says follows tabOk (more_ok slices_ContainsFunc_int_int_vf_impl_maps_1_1_01234__bsbsbsb1bs_e_ok h)) 1000
noncomputable def impl_maps_1_va0a1a2a3a4a5_bsfimpl_MapSpace_1_6b1bsbsfimpl_maps_1_012345b2_e : Env := more slices_ContainsFunc_int_int_vf_impl_maps_1_1_01234__bsbsbsb1bs_e impl_maps_1_va0a1a2a3a4a5_bsfimpl_MapSpace_1_6b1bsbsfimpl_maps_1_012345b2_D
theorem impl_maps_1_va0a1a2a3a4a5_bsfimpl_MapSpace_1_6b1bsbsfimpl_maps_1_012345b2_e_ok : EnvOk Try.prog impl_maps_1_va0a1a2a3a4a5_bsfimpl_MapSpace_1_6b1bsbsfimpl_maps_1_012345b2_e := more_ok slices_ContainsFunc_int_int_vf_impl_maps_1_1_01234__bsbsbsb1bs_e_ok impl_maps_1_va0a1a2a3a4a5_bsfimpl_MapSpace_1_6b1bsbsfimpl_maps_1_012345b2_s
/-! loop.example/g01128/impl.maps -/
abbrev impl_maps_vvvf_impl_MapSpace_1_0__b2_E : Ve.End := ⟨[], [.box (.own (.own .shr)) (.list (.list I))]⟩
abbrev impl_maps_vvvf_impl_MapSpace_1_0__b2_a : List ASh := [.val (.prod I (.list (.prod I I))), .val (.prod I (.list (.prod I I))), .val .bool, .fn 40 [0]]
abbrev impl_maps_vvvf_impl_MapSpace_1_0__b2_o : List OSh := [.box (.own (.own .shr)) (.list (.list I))]
noncomputable def impl_maps_vvvf_impl_MapSpace_1_0__b2 : argP impl_maps_vvvf_impl_MapSpace_1_0__b2_a → obP (extObs 0 impl_maps_vvvf_impl_MapSpace_1_0__b2_o) → Option impl_maps_vvvf_impl_MapSpace_1_0__b2_E.P
  | (g, h, lazy, ()), (o0, ()) => guardB (decide (0 ≤ g.1) && decide (g.1 ≤ g.1) && decide (g.1 * 8 ≤ 140737488355328)) (match impl_maps_1_va0a1a2a3a4a5_bsfimpl_MapSpace_1_6b1bsbsfimpl_maps_1_012345b2 ((0 : Int), ()) (g, (List.replicate (Int.toNat g.1) (0 : Int)), h, lazy, o0, ()) with | some ((r, ()), (o, o2, o3, o4, o5, ())) => some ((), (o5, ())) | none => none)
noncomputable def impl_maps_vvvf_impl_MapSpace_1_0__b2_x : Cx := ⟨tab, impl_maps_1_va0a1a2a3a4a5_bsfimpl_MapSpace_1_6b1bsbsfimpl_maps_1_012345b2_e, fun f n => bif Nat.beq f 81 && Nat.beq n 1 then 1 else bif Nat.beq f 81 && Nat.beq n 2 then 1 else bif Nat.beq f 81 && Nat.beq n 3 then 1 else bif Nat.beq f 81 && Nat.beq n 4 then 1 else bif Nat.beq f 81 && Nat.beq n 5 then 1 else bif Nat.beq f 81 && Nat.beq n 6 then 1 else 0, fun _ => false, [(15, 0), (15, 1), (15, 2), (15, 3)], []⟩
noncomputable def c39 : Code := bodyOf Try.f39
noncomputable def impl_maps_vvvf_impl_MapSpace_1_0__b2_A : Ann := .nil
noncomputable def impl_maps_vvvf_impl_MapSpace_1_0__b2_D : Ve.Fn := ⟨39, impl_maps_vvvf_impl_MapSpace_1_0__b2_a, impl_maps_vvvf_impl_MapSpace_1_0__b2_o, impl_maps_vvvf_impl_MapSpace_1_0__b2_E, impl_maps_vvvf_impl_MapSpace_1_0__b2⟩
theorem impl_maps_vvvf_impl_MapSpace_1_0__b2_w : Walk Try.prog impl_maps_vvvf_impl_MapSpace_1_0__b2_x impl_maps_vvvf_impl_MapSpace_1_0__b2_D Try.f39 c39 16 impl_maps_vvvf_impl_MapSpace_1_0__b2_A :=
  ⟨⟨Try.func39, by kernel_rfl, by kernel_rfl, by kernel_rfl, by decide, by kernel_rfl, Nat.le_of_ble_eq_true (by kernel_rfl)⟩, by kernel_rfl, by kernel_rfl, by kernel_rfl, kcast (by kernel_rfl) trivial, by kernel_rfl, fun x y => by kernel_rfl⟩
theorem impl_maps_vvvf_impl_MapSpace_1_0__b2_s : impl_maps_vvvf_impl_MapSpace_1_0__b2_D.Says Try.prog := impl_maps_vvvf_impl_MapSpace_1_0__b2_w.says follows tabOk impl_maps_1_va0a1a2a3a4a5_bsfimpl_MapSpace_1_6b1bsbsfimpl_maps_1_012345b2_e_ok
noncomputable def impl_maps_vvvf_impl_MapSpace_1_0__b2_e : Env := more impl_maps_1_va0a1a2a3a4a5_bsfimpl_MapSpace_1_6b1bsbsfimpl_maps_1_012345b2_e impl_maps_vvvf_impl_MapSpace_1_0__b2_D
theorem impl_maps_vvvf_impl_MapSpace_1_0__b2_e_ok : EnvOk Try.prog impl_maps_vvvf_impl_MapSpace_1_0__b2_e := more_ok impl_maps_1_va0a1a2a3a4a5_bsfimpl_MapSpace_1_6b1bsbsfimpl_maps_1_012345b2_e_ok impl_maps_vvvf_impl_MapSpace_1_0__b2_s
noncomputable def slices_SortFunc_int_int_own_e : Env := more impl_maps_vvvf_impl_MapSpace_1_0__b2_e (sortRowsFn 86 87 (.own .shr))
theorem slices_SortFunc_int_int_own_e_ok : EnvOk Try.prog slices_SortFunc_int_int_own_e := more_ok impl_maps_vvvf_impl_MapSpace_1_0__b2_e_ok (sortRows_s (.own .shr))
noncomputable abbrev slices_SortFunc_int_int_own := (sortRowsFn 86 87 (.own .shr)).F
/-! loop.example/g01128/impl.places -/
abbrev impl_places_J0 : Tpl := ⟨[(1, .val (.list I)), (5, .own .shr I), (9, .val (.list I)), (10, .val I), (11, .val I)], [], []⟩
abbrev impl_places_J1 : Tpl := ⟨[(5, .own .shr I)], [], []⟩
abbrev impl_places_E : Ve.End := ⟨[⟨4, (.own .shr), (.list I), none⟩], []⟩
abbrev impl_places_a : List ASh := [.val (.list I), .val (.list I)]
abbrev impl_places_o : List OSh := []
abbrev impl_places_O0 : Out := .one (.ex 0) impl_places_J1
noncomputable def impl_places_B0 : impl_places_J0.P → Option (impl_places_J0.P ⊕ impl_places_O0.P)
  | ((b, out, t9, t10, t11, ()), ()) => bif (decide (t11 < t10)) then (guardB (inb t11 (List.length t9)) (guardB (inb t11 (List.length b)) (bif ((List.getD b (Int.toNat t11) (0 : Int)) != (List.getD t9 (Int.toNat t11) (0 : Int))) then (guardB (decide ((List.length out + List.length [t11]) * 8 ≤ 70368744177664)) (some (.inl ((b, (out ++ [t11]), t9, t10, (w64 (t11 + (1 : Int))), ()), ())))) else (some (.inl ((b, out, t9, t10, (w64 (t11 + (1 : Int))), ()), ())))))) else (some (.inr ((out, ()), ())))
noncomputable def impl_places : argP impl_places_a → obP (extObs 0 impl_places_o) → Option impl_places_E.P
  | (a, b, ()), () => match loopO impl_places_B0 ((b, ([] : (List Int)), a, (List.length a : Int), (0 : Int), ()), ()) with | some ((out, ()), ()) => some ((out, ()), ()) | none => none
noncomputable def impl_places_x : Cx := ⟨tab, slices_SortFunc_int_int_own_e, fun _ _ => 0, fun _ => false, [(24, 0)], []⟩
noncomputable def c88 : Code := bodyOf Try.f88
noncomputable def impl_places_A : Ann := .seq .nil (.seq .nil (.seq (.seq .nil (.loop impl_places_J0 impl_places_O0 impl_places_B0 .nil)) .nil))
theorem impl_places_r0 (p : impl_places_J0.P) : run impl_places_x (subc [1, 1, 0, 1, 0, 0] c88) .nil (impl_places_J0.S p) (leaf impl_places_J0 impl_places_O0) = impl_places_B0 p := by kernel_rfl
noncomputable def impl_places_D : Ve.Fn := ⟨88, impl_places_a, impl_places_o, impl_places_E, impl_places⟩
theorem impl_places_w : Walk Try.prog impl_places_x impl_places_D Try.f88 c88 28 impl_places_A :=
  ⟨⟨Try.func88, by kernel_rfl, by kernel_rfl, by kernel_rfl, by decide, by kernel_rfl, Nat.le_of_ble_eq_true (by kernel_rfl)⟩, by kernel_rfl, by kernel_rfl, by kernel_rfl, kcast (by kernel_rfl) (⟨impl_places_r0, trivial⟩ : (∀ p, run impl_places_x (subc [1, 1, 0, 1, 0, 0] c88) .nil (impl_places_J0.S p) (leaf impl_places_J0 impl_places_O0) = impl_places_B0 p) ∧ True), by kernel_rfl, fun x y => by kernel_rfl⟩
theorem impl_places_s : impl_places_D.Says Try.prog := impl_places_w.says follows tabOk slices_SortFunc_int_int_own_e_ok
noncomputable def impl_places_e : Env := more slices_SortFunc_int_int_own_e impl_places_D
theorem impl_places_e_ok : EnvOk Try.prog impl_places_e := more_ok slices_SortFunc_int_int_own_e_ok impl_places_s
/-! loop.example/g01128/impl.isChange -/
abbrev impl_isChange_E : Ve.End := ⟨[⟨4, .shr, .bool, none⟩], []⟩
abbrev impl_isChange_a : List ASh := [.val (.list I), .val (.list I)]
abbrev impl_isChange_o : List OSh := []
noncomputable def impl_isChange : argP impl_isChange_a → obP (extObs 0 impl_isChange_o) → Option impl_isChange_E.P
  | (a, b, ()), () => match impl_places (a, b, ()) () with | some ((r, ()), ()) => some ((((List.length r : Int) == (1 : Int)), ()), ()) | none => none
noncomputable def impl_isChange_x : Cx := ⟨tab, impl_places_e, fun _ _ => 0, fun _ => false, [(7, 0), (7, 1), (7, 2), (7, 3)], []⟩
noncomputable def c44 : Code := bodyOf Try.f44
noncomputable def impl_isChange_A : Ann := .nil
noncomputable def impl_isChange_D : Ve.Fn := ⟨44, impl_isChange_a, impl_isChange_o, impl_isChange_E, impl_isChange⟩
theorem impl_isChange_w : Walk Try.prog impl_isChange_x impl_isChange_D Try.f44 c44 10 impl_isChange_A :=
  ⟨⟨Try.func44, by kernel_rfl, by kernel_rfl, by kernel_rfl, by decide, by kernel_rfl, Nat.le_of_ble_eq_true (by kernel_rfl)⟩, by kernel_rfl, by kernel_rfl, by kernel_rfl, kcast (by kernel_rfl) trivial, by kernel_rfl, fun x y => by kernel_rfl⟩
theorem impl_isChange_s : impl_isChange_D.Says Try.prog := impl_isChange_w.says follows tabOk impl_places_e_ok
noncomputable def impl_isChange_e : Env := more impl_places_e impl_isChange_D
theorem impl_isChange_e_ok : EnvOk Try.prog impl_isChange_e := more_ok impl_places_e_ok impl_isChange_s
/-! loop.example/g01128/impl.spaceOf -/
abbrev impl_spaceOf_o2f_impl_isChange_J0 : Tpl := ⟨[(1, .fn ⟨44, []⟩), (4, .ptr (4, 0)), (5, .ptr (5, 0)), (6, .val I), (7, .str (.rix (5, 0) [.fst] [])), (16, .same (5, 0) [.fst]), (17, .val I), (18, .val I), (27, .str (.sub (5, 0) [.fst])), (28, .val I), (29, .val I)], [((4, 0), .box (.prod (.own (.own .shr)) (.own .shr)) (.prod (.list (.list I)) (.list (.prod I I)))), ((5, 0), .box (.prod (.own (.own .shr)) (.own .shr)) (.prod (.list (.list I)) (.list (.prod I I))))], []⟩
abbrev impl_spaceOf_o2f_impl_isChange_J1 : Tpl := ⟨[(1, .fn ⟨44, []⟩), (4, .ptr (4, 0)), (5, .ptr (5, 0)), (16, .same (5, 0) [.fst]), (17, .val I), (18, .val I)], [((4, 0), .box (.prod (.own (.own .shr)) (.own .shr)) (.prod (.list (.list I)) (.list (.prod I I)))), ((5, 0), .box (.prod (.own (.own .shr)) (.own .shr)) (.prod (.list (.list I)) (.list (.prod I I))))], []⟩
abbrev impl_spaceOf_o2f_impl_isChange_J2 : Tpl := ⟨[(4, .ptr (4, 0)), (5, .ptr (5, 0))], [((4, 0), .box (.prod (.own (.own .shr)) (.own .shr)) (.prod (.list (.list I)) (.list (.prod I I)))), ((5, 0), .box (.prod (.own (.own .shr)) (.own .shr)) (.prod (.list (.list I)) (.list (.prod I I))))], []⟩
abbrev impl_spaceOf_o2f_impl_isChange_E : Ve.End := ⟨[⟨4, (.prod (.own (.own .shr)) (.own .shr)), (.prod (.list (.list I)) (.list (.prod I I))), some 34⟩], []⟩
abbrev impl_spaceOf_o2f_impl_isChange_a : List ASh := [.own (.own (.own .shr)) (.list (.list I)), .fn 44 []]
abbrev impl_spaceOf_o2f_impl_isChange_o : List OSh := []
abbrev impl_spaceOf_o2f_impl_isChange_O0 : Out := .one (.ex 2) impl_spaceOf_o2f_impl_isChange_J1
noncomputable def impl_spaceOf_o2f_impl_isChange_B0 : impl_spaceOf_o2f_impl_isChange_J0.P → Option (impl_spaceOf_o2f_impl_isChange_J0.P ⊕ impl_spaceOf_o2f_impl_isChange_O0.P)
  | ((i, i2, t17, t18, (lo, hi), t28, t29, ()), (t4, out, ())) => bif (decide (t29 < t28)) then (guardB (decide (0 ≤ t29) && decide (t29 < (((hi : Nat) : Int) - ((lo : Nat) : Int)))) (match impl_isChange ((List.getD out.1 i2 ([] : (List Int))), (List.getD out.1 (lo + (Int.toNat t29)) ([] : (List Int))), ()) () with | some ((r, ()), ()) => (bif r then (guardB (decide ((List.length out.2 + List.length [(i, (w64 ((w64 (i + (1 : Int))) + t29)))]) * 16 ≤ 70368744177664)) (some (.inl ((i, i2, t17, t18, (lo, hi), t28, (w64 (t29 + (1 : Int))), ()), (t4, (out.1, (out.2 ++ [(i, (w64 ((w64 (i + (1 : Int))) + t29)))])), ()))))) else (some (.inl ((i, i2, t17, t18, (lo, hi), t28, (w64 (t29 + (1 : Int))), ()), (t4, out, ()))))) | none => none)) else (some (.inr ((t17, t18, ()), (t4, out, ()))))
abbrev impl_spaceOf_o2f_impl_isChange_O1 : Out := .one (.ex 0) impl_spaceOf_o2f_impl_isChange_J2
noncomputable def impl_spaceOf_o2f_impl_isChange_B1 : impl_spaceOf_o2f_impl_isChange_J1.P → Option (impl_spaceOf_o2f_impl_isChange_J1.P ⊕ impl_spaceOf_o2f_impl_isChange_O1.P)
  | ((t17, t18, ()), (t4, out, ())) => bif (decide (t18 < t17)) then (guardB (inb t18 (List.length out.1)) (guardB (decide (0 ≤ (w64 (t18 + (1 : Int)))) && decide ((w64 (t18 + (1 : Int))) ≤ (List.length out.1 : Int)) && decide ((List.length out.1 : Int) ≤ (List.length out.1 : Int))) (match loopO impl_spaceOf_o2f_impl_isChange_B0 ((t18, (Int.toNat t18), t17, t18, ((Int.toNat (w64 (t18 + (1 : Int)))), (Int.toNat (List.length out.1 : Int))), ((((Int.toNat (List.length out.1 : Int)) - (Int.toNat (w64 (t18 + (1 : Int))))) : Nat) : Int), (0 : Int), ()), (t4, out, ())) with | some ((t17_2, t18_2, ()), (t4_2, out2, ())) => some (.inl ((t17_2, (w64 (t18_2 + (1 : Int))), ()), (t4_2, out2, ()))) | none => none))) else (some (.inr ((), (t4, out, ()))))
noncomputable def impl_spaceOf_o2f_impl_isChange : argP impl_spaceOf_o2f_impl_isChange_a → obP (extObs 0 impl_spaceOf_o2f_impl_isChange_o) → Option impl_spaceOf_o2f_impl_isChange_E.P
  | (states, ()), () => match slices_SortFunc_int_int_own () (states, ()) with | some ((), (o, ())) => (match loopO impl_spaceOf_o2f_impl_isChange_B1 (((List.length o : Int), (0 : Int), ()), ((([] : (List (List Int))), ([] : (List (Int × Int)))), (o, ([] : (List (Int × Int)))), ())) with | some ((), (t4, out, ())) => some (((out.1, out.2), ()), ()) | none => none) | none => none
noncomputable def impl_spaceOf_o2f_impl_isChange_x : Cx := ⟨tab, impl_isChange_e, fun f n => bif Nat.beq f 86 && Nat.beq n 0 then 1 else 0, fun _ => false, [(14, 0), (14, 1), (14, 2), (14, 3), (7, 0), (9, 0), (37, 0), (37, 1), (37, 2), (37, 3), (46, 0)], []⟩
noncomputable def c43 : Code := bodyOf Try.f43
noncomputable def impl_spaceOf_o2f_impl_isChange_A : Ann := .seq .nil (.seq .nil (.seq .nil (.seq (.seq .nil (.loop impl_spaceOf_o2f_impl_isChange_J1 impl_spaceOf_o2f_impl_isChange_O1 impl_spaceOf_o2f_impl_isChange_B1 (.seq .nil (.seq .nil (.seq (.seq .nil (.seq .nil (.loop impl_spaceOf_o2f_impl_isChange_J0 impl_spaceOf_o2f_impl_isChange_O0 impl_spaceOf_o2f_impl_isChange_B0 .nil))) .nil))))) .nil)))
theorem impl_spaceOf_o2f_impl_isChange_r0 (p : impl_spaceOf_o2f_impl_isChange_J1.P) : run impl_spaceOf_o2f_impl_isChange_x (subc [1, 1, 1, 0, 1, 0, 0] c43) (.seq .nil (.seq .nil (.seq (.seq .nil (.seq .nil (.loop impl_spaceOf_o2f_impl_isChange_J0 impl_spaceOf_o2f_impl_isChange_O0 impl_spaceOf_o2f_impl_isChange_B0 .nil))) .nil))) (impl_spaceOf_o2f_impl_isChange_J1.S p) (leaf impl_spaceOf_o2f_impl_isChange_J1 impl_spaceOf_o2f_impl_isChange_O1) = impl_spaceOf_o2f_impl_isChange_B1 p := by kernel_rfl
theorem impl_spaceOf_o2f_impl_isChange_r1 (p : impl_spaceOf_o2f_impl_isChange_J0.P) : run impl_spaceOf_o2f_impl_isChange_x (subc [1, 1, 1, 0, 1, 0, 0, 1, 1, 0, 0, 1, 1, 0, 0] c43) .nil (impl_spaceOf_o2f_impl_isChange_J0.S p) (leaf impl_spaceOf_o2f_impl_isChange_J0 impl_spaceOf_o2f_impl_isChange_O0) = impl_spaceOf_o2f_impl_isChange_B0 p := by kernel_rfl
noncomputable def impl_spaceOf_o2f_impl_isChange_D : Ve.Fn := ⟨43, impl_spaceOf_o2f_impl_isChange_a, impl_spaceOf_o2f_impl_isChange_o, impl_spaceOf_o2f_impl_isChange_E, impl_spaceOf_o2f_impl_isChange⟩
theorem impl_spaceOf_o2f_impl_isChange_w : Walk Try.prog impl_spaceOf_o2f_impl_isChange_x impl_spaceOf_o2f_impl_isChange_D Try.f43 c43 52 impl_spaceOf_o2f_impl_isChange_A :=
  ⟨⟨Try.func43, by kernel_rfl, by kernel_rfl, by kernel_rfl, by decide, by kernel_rfl, Nat.le_of_ble_eq_true (by kernel_rfl)⟩, by kernel_rfl, by kernel_rfl, by kernel_rfl, kcast (by kernel_rfl) (⟨impl_spaceOf_o2f_impl_isChange_r0, impl_spaceOf_o2f_impl_isChange_r1, trivial⟩ : (∀ p, run impl_spaceOf_o2f_impl_isChange_x (subc [1, 1, 1, 0, 1, 0, 0] c43) (.seq .nil (.seq .nil (.seq (.seq .nil (.seq .nil (.loop impl_spaceOf_o2f_impl_isChange_J0 impl_spaceOf_o2f_impl_isChange_O0 impl_spaceOf_o2f_impl_isChange_B0 .nil))) .nil))) (impl_spaceOf_o2f_impl_isChange_J1.S p) (leaf impl_spaceOf_o2f_impl_isChange_J1 impl_spaceOf_o2f_impl_isChange_O1) = impl_spaceOf_o2f_impl_isChange_B1 p) ∧ (∀ p, run impl_spaceOf_o2f_impl_isChange_x (subc [1, 1, 1, 0, 1, 0, 0, 1, 1, 0, 0, 1, 1, 0, 0] c43) .nil (impl_spaceOf_o2f_impl_isChange_J0.S p) (leaf impl_spaceOf_o2f_impl_isChange_J0 impl_spaceOf_o2f_impl_isChange_O0) = impl_spaceOf_o2f_impl_isChange_B0 p) ∧ True), by kernel_rfl, fun x y => by kernel_rfl⟩
theorem impl_spaceOf_o2f_impl_isChange_s : impl_spaceOf_o2f_impl_isChange_D.Says Try.prog := impl_spaceOf_o2f_impl_isChange_w.says follows tabOk impl_isChange_e_ok
noncomputable def impl_spaceOf_o2f_impl_isChange_e : Env := more impl_isChange_e impl_spaceOf_o2f_impl_isChange_D
theorem impl_spaceOf_o2f_impl_isChange_e_ok : EnvOk Try.prog impl_spaceOf_o2f_impl_isChange_e := more_ok impl_isChange_e_ok impl_spaceOf_o2f_impl_isChange_s
/-! loop.example/g01128/impl.orNone -/
abbrev impl_orNone_op21_E : Ve.End := ⟨[⟨2, (.prod (.own (.own .shr)) (.own .shr)), (.prod (.list (.list I)) (.list (.prod I I))), some 34⟩, ⟨3, .shr, .bool, none⟩], []⟩
abbrev impl_orNone_op21_a : List ASh := [.own (.prod (.own (.own .shr)) (.own .shr)) (.prod (.list (.list I)) (.list (.prod I I)))]
abbrev impl_orNone_op21_o : List OSh := []
noncomputable def impl_orNone_op21 : argP impl_orNone_op21_a → obP (extObs 0 impl_orNone_op21_o) → Option impl_orNone_op21_E.P
  | (x, ()), () => bif (decide ((300 : Int) < (List.length x.1 : Int))) then (some (((([] : (List (List Int))), ([] : (List (Int × Int)))), false, ()), ())) else (bif (decide ((6000 : Int) < (List.length x.2 : Int))) then (some (((([] : (List (List Int))), ([] : (List (Int × Int)))), false, ()), ())) else (some (((x.1, x.2), true, ()), ())))
noncomputable def impl_orNone_op21_x : Cx := ⟨tab, impl_spaceOf_o2f_impl_isChange_e, fun _ _ => 0, fun _ => false, [], []⟩
noncomputable def c42 : Code := bodyOf Try.f42
noncomputable def impl_orNone_op21_A : Ann := .nil
noncomputable def impl_orNone_op21_D : Ve.Fn := ⟨42, impl_orNone_op21_a, impl_orNone_op21_o, impl_orNone_op21_E, impl_orNone_op21⟩
theorem impl_orNone_op21_w : Walk Try.prog impl_orNone_op21_x impl_orNone_op21_D Try.f42 c42 16 impl_orNone_op21_A :=
  ⟨⟨Try.func42, by kernel_rfl, by kernel_rfl, by kernel_rfl, by decide, by kernel_rfl, Nat.le_of_ble_eq_true (by kernel_rfl)⟩, by kernel_rfl, by kernel_rfl, by kernel_rfl, kcast (by kernel_rfl) trivial, by kernel_rfl, fun x y => by kernel_rfl⟩
theorem impl_orNone_op21_s : impl_orNone_op21_D.Says Try.prog := impl_orNone_op21_w.says follows tabOk impl_spaceOf_o2f_impl_isChange_e_ok
noncomputable def impl_orNone_op21_e : Env := more impl_spaceOf_o2f_impl_isChange_e impl_orNone_op21_D
theorem impl_orNone_op21_e_ok : EnvOk Try.prog impl_orNone_op21_e := more_ok impl_spaceOf_o2f_impl_isChange_e_ok impl_orNone_op21_s
/-! loop.example/g01128/impl.MapSpace -/
abbrev impl_MapSpace_E : Ve.End := ⟨[⟨6, (.prod (.own (.own .shr)) (.own .shr)), (.prod (.list (.list I)) (.list (.prod I I))), some 34⟩, ⟨7, .shr, .bool, none⟩], []⟩
abbrev impl_MapSpace_a : List ASh := [.val (.prod I (.list (.prod I I))), .val (.prod I (.list (.prod I I))), .val .bool]
abbrev impl_MapSpace_o : List OSh := []
noncomputable def impl_MapSpace : argP impl_MapSpace_a → obP (extObs 0 impl_MapSpace_o) → Option impl_MapSpace_E.P
  | (g, h, lazy, ()), () => match impl_isMapCase (g, h, ()) () with | some ((r, ()), ()) => (bif (!r) then (some (((([] : (List (List Int))), ([] : (List (Int × Int)))), false, ()), ())) else (match impl_maps_vvvf_impl_MapSpace_1_0__b2 (g, h, lazy, ()) (([] : (List (List Int))), ()) with | some ((), (o, ())) => (bif (decide ((300 : Int) < (List.length o : Int))) then (some (((([] : (List (List Int))), ([] : (List (Int × Int)))), false, ()), ())) else (match impl_spaceOf_o2f_impl_isChange (o, ()) () with | some ((r2, ()), ()) => (match impl_orNone_op21 ((r2.1, r2.2), ()) () with | some ((r3, r4, ()), ()) => some (((r3.1, r3.2), r4, ()), ()) | none => none) | none => none)) | none => none)) | none => none
noncomputable def impl_MapSpace_x : Cx := ⟨tab, impl_orNone_op21_e, fun f n => bif Nat.beq f 42 && Nat.beq n 0 then 2 else bif Nat.beq f 43 && Nat.beq n 0 then 2 else 0, fun _ => false, [(11, 0), (11, 1), (11, 2), (11, 3), (19, 0), (19, 1), (19, 2), (19, 3)], [(3, 0), (4, 0)]⟩
noncomputable def c14 : Code := bodyOf Try.f14
noncomputable def impl_MapSpace_A : Ann := .nil
noncomputable def impl_MapSpace_D : Ve.Fn := ⟨14, impl_MapSpace_a, impl_MapSpace_o, impl_MapSpace_E, impl_MapSpace⟩
theorem impl_MapSpace_w : Walk Try.prog impl_MapSpace_x impl_MapSpace_D Try.f14 c14 29 impl_MapSpace_A :=
  ⟨⟨Try.func14, by kernel_rfl, by kernel_rfl, by kernel_rfl, by decide, by kernel_rfl, Nat.le_of_ble_eq_true (by kernel_rfl)⟩, by kernel_rfl, by kernel_rfl, by kernel_rfl, kcast (by kernel_rfl) trivial, by kernel_rfl, fun x y => by kernel_rfl⟩
theorem impl_MapSpace_s : impl_MapSpace_D.Says Try.prog := impl_MapSpace_w.says follows tabOk impl_orNone_op21_e_ok
noncomputable def impl_MapSpace_e : Env := more impl_orNone_op21_e impl_MapSpace_D
theorem impl_MapSpace_e_ok : EnvOk Try.prog impl_MapSpace_e := more_ok impl_orNone_op21_e_ok impl_MapSpace_s
/-! loop.example/g01128/impl.rises -/
abbrev impl_rises_J0 : Tpl := ⟨[(0, .val I), (1, .val (.list I)), (2, .val .bool), (8, .own .shr I), (14, .val (.list I)), (15, .val I), (16, .val I)], [], []⟩
abbrev impl_rises_J1 : Tpl := ⟨[(6, .own .shr I), (7, .val .bool)], [], []⟩
abbrev impl_rises_J2 : Tpl := ⟨[(0, .val I), (1, .val (.list I)), (8, .own .shr I)], [], []⟩
abbrev impl_rises_E : Ve.End := ⟨[⟨6, (.own .shr), (.list I), none⟩, ⟨7, .shr, .bool, none⟩], []⟩
abbrev impl_rises_a : List ASh := [.val I, .val (.list I), .val .bool]
abbrev impl_rises_o : List OSh := []
abbrev impl_rises_O0 : Out := .or .ret impl_rises_J1 (.one (.ex 0) impl_rises_J2)
noncomputable def impl_rises_B0 : impl_rises_J0.P → Option (impl_rises_J0.P ⊕ impl_rises_O0.P)
  | ((t0, t1, t2, t8, t14, t15, t16, ()), ()) => bif (decide (t16 < t15)) then (guardB (inb t16 (List.length t14)) (guardB (!((List.length t1 : Int) == 0)) (guardB (inb (Int.tmod (w64 (t16 + (1 : Int))) (List.length t1 : Int)) (List.length t1)) (match impl_between ((List.getD t14 (Int.toNat t16) (0 : Int)), (0 : Int), (w64 (t0 - (1 : Int))), ()) () with | some ((r, ()), ()) => (bif (!r) then (some (.inr (.inl ((([] : (List Int)), false, ()), ())))) else (match impl_between ((List.getD t1 (Int.toNat (Int.tmod (w64 (t16 + (1 : Int))) (List.length t1 : Int))) (0 : Int)), (0 : Int), (w64 (t0 - (1 : Int))), ()) () with | some ((r2, ()), ()) => (bif (!r2) then (some (.inr (.inl ((([] : (List Int)), false, ()), ())))) else (guardB (!(t0 == 0)) (bif ((Int.tmod (w64 ((w64 ((List.getD t1 (Int.toNat (Int.tmod (w64 (t16 + (1 : Int))) (List.length t1 : Int))) (0 : Int)) - (List.getD t14 (Int.toNat t16) (0 : Int)))) + t0)) t0) == (0 : Int)) then (bif t2 then (guardB (decide ((List.length t8 + List.length [(0 : Int)]) * 8 ≤ 70368744177664)) (some (.inl ((t0, t1, t2, (t8 ++ [(0 : Int)]), t14, t15, (w64 (t16 + (1 : Int))), ()), ())))) else (bif ((Int.tmod (w64 ((w64 ((List.getD t1 (Int.toNat (Int.tmod (w64 (t16 + (1 : Int))) (List.length t1 : Int))) (0 : Int)) - (List.getD t14 (Int.toNat t16) (0 : Int)))) + t0)) t0) == (1 : Int)) then (guardB (decide ((List.length t8 + List.length [(1 : Int)]) * 8 ≤ 70368744177664)) (some (.inl ((t0, t1, t2, (t8 ++ [(1 : Int)]), t14, t15, (w64 (t16 + (1 : Int))), ()), ())))) else (bif ((Int.tmod (w64 ((w64 ((List.getD t1 (Int.toNat (Int.tmod (w64 (t16 + (1 : Int))) (List.length t1 : Int))) (0 : Int)) - (List.getD t14 (Int.toNat t16) (0 : Int)))) + t0)) t0) == (w64 (t0 - (1 : Int)))) then (guardB (decide ((List.length t8 + List.length [(-1 : Int)]) * 8 ≤ 70368744177664)) (some (.inl ((t0, t1, t2, (t8 ++ [(-1 : Int)]), t14, t15, (w64 (t16 + (1 : Int))), ()), ())))) else (some (.inr (.inl ((([] : (List Int)), false, ()), ()))))))) else (bif ((Int.tmod (w64 ((w64 ((List.getD t1 (Int.toNat (Int.tmod (w64 (t16 + (1 : Int))) (List.length t1 : Int))) (0 : Int)) - (List.getD t14 (Int.toNat t16) (0 : Int)))) + t0)) t0) == (1 : Int)) then (guardB (decide ((List.length t8 + List.length [(1 : Int)]) * 8 ≤ 70368744177664)) (some (.inl ((t0, t1, t2, (t8 ++ [(1 : Int)]), t14, t15, (w64 (t16 + (1 : Int))), ()), ())))) else (bif ((Int.tmod (w64 ((w64 ((List.getD t1 (Int.toNat (Int.tmod (w64 (t16 + (1 : Int))) (List.length t1 : Int))) (0 : Int)) - (List.getD t14 (Int.toNat t16) (0 : Int)))) + t0)) t0) == (w64 (t0 - (1 : Int)))) then (guardB (decide ((List.length t8 + List.length [(-1 : Int)]) * 8 ≤ 70368744177664)) (some (.inl ((t0, t1, t2, (t8 ++ [(-1 : Int)]), t14, t15, (w64 (t16 + (1 : Int))), ()), ())))) else (some (.inr (.inl ((([] : (List Int)), false, ()), ()))))))))) | none => none)) | none => none)))) else (some (.inr (.inr ((t0, t1, t8, ()), ()))))
noncomputable def impl_rises : argP impl_rises_a → obP (extObs 0 impl_rises_o) → Option impl_rises_E.P
  | (t0, t1, t2, ()), () => match loopO impl_rises_B0 ((t0, t1, t2, ([] : (List Int)), t1, (List.length t1 : Int), (0 : Int), ()), ()) with | some (.inl ((t6, t7, ()), ())) => some ((t6, t7, ()), ()) | some (.inr ((t0_2, t1_2, t8, ()), ())) => (match impl_isCycle (t0_2, ()) () with | some ((r, ()), ()) => (bif r then (match impl_between ((List.length t1_2 : Int), (3 : Int), (24 : Int), ()) () with | some ((r2, ()), ()) => some ((t8, r2, ()), ()) | none => none) else (some ((t8, false, ()), ()))) | none => none) | none => none
noncomputable def impl_rises_x : Cx := ⟨tab, impl_MapSpace_e, fun _ _ => 0, fun _ => false, [(32, 0), (32, 1), (32, 2), (32, 3), (38, 0), (38, 1), (38, 2), (38, 3), (55, 0), (61, 0), (69, 0), (74, 0), (74, 1), (74, 2), (74, 3), (78, 0), (78, 1), (78, 2), (78, 3)], []⟩
noncomputable def c77 : Code := bodyOf Try.f77
noncomputable def impl_rises_A : Ann := .seq .nil (.seq .nil (.seq (.seq .nil (.loop impl_rises_J0 impl_rises_O0 impl_rises_B0 .nil)) .nil))
theorem impl_rises_r0 (p : impl_rises_J0.P) : run impl_rises_x (subc [1, 1, 0, 1, 0, 0] c77) .nil (impl_rises_J0.S p) (leaf impl_rises_J0 impl_rises_O0) = impl_rises_B0 p := by kernel_rfl
noncomputable def impl_rises_D : Ve.Fn := ⟨77, impl_rises_a, impl_rises_o, impl_rises_E, impl_rises⟩
theorem impl_rises_w : Walk Try.prog impl_rises_x impl_rises_D Try.f77 c77 80 impl_rises_A :=
  ⟨⟨Try.func77, by kernel_rfl, by kernel_rfl, by kernel_rfl, by decide, by kernel_rfl, Nat.le_of_ble_eq_true (by kernel_rfl)⟩, by kernel_rfl, by kernel_rfl, by kernel_rfl, kcast (by kernel_rfl) (⟨impl_rises_r0, trivial⟩ : (∀ p, run impl_rises_x (subc [1, 1, 0, 1, 0, 0] c77) .nil (impl_rises_J0.S p) (leaf impl_rises_J0 impl_rises_O0) = impl_rises_B0 p) ∧ True), by kernel_rfl, fun x y => by kernel_rfl⟩
theorem impl_rises_s : impl_rises_D.Says Try.prog := impl_rises_w.says follows tabOk impl_MapSpace_e_ok
noncomputable def impl_rises_e : Env := more impl_MapSpace_e impl_rises_D
theorem impl_rises_e_ok : EnvOk Try.prog impl_rises_e := more_ok impl_MapSpace_e_ok impl_rises_s
/-! loop.example/g01128/impl.winding -/
abbrev impl_winding_J0 : Tpl := ⟨[(0, .val I), (7, .val I), (16, .val (.list I)), (17, .val I), (18, .val I)], [], []⟩
abbrev impl_winding_J1 : Tpl := ⟨[(0, .val I), (7, .val I)], [], []⟩
abbrev impl_winding_E : Ve.End := ⟨[⟨4, .shr, I, none⟩], []⟩
abbrev impl_winding_a : List ASh := [.val I, .val (.list I)]
abbrev impl_winding_o : List OSh := []
abbrev impl_winding_O0 : Out := .one (.ex 0) impl_winding_J1
noncomputable def impl_winding_B0 : impl_winding_J0.P → Option (impl_winding_J0.P ⊕ impl_winding_O0.P)
  | ((n, sum, t16, t17, t18, ()), ()) => bif (decide (t18 < t17)) then (guardB (inb t18 (List.length t16)) (some (.inl ((n, (w64 (sum + (List.getD t16 (Int.toNat t18) (0 : Int)))), t16, t17, (w64 (t18 + (1 : Int))), ()), ())))) else (some (.inr ((n, sum, ()), ())))
noncomputable def impl_winding : argP impl_winding_a → obP (extObs 0 impl_winding_o) → Option impl_winding_E.P
  | (n, walk, ()), () => match impl_rises (n, walk, true, ()) () with | some ((r, r2, ()), ()) => (match loopO impl_winding_B0 ((n, (0 : Int), r, (List.length r : Int), (0 : Int), ()), ()) with | some ((n2, sum, ()), ()) => guardB (!(n2 == 0)) (some (((w64 (Int.tdiv sum n2)), ()), ())) | none => none) | none => none
noncomputable def impl_winding_x : Cx := ⟨tab, impl_rises_e, fun _ _ => 0, fun _ => false, [(13, 0), (13, 1), (13, 2), (13, 3), (5, 0)], []⟩
noncomputable def c34 : Code := bodyOf Try.f34
noncomputable def impl_winding_A : Ann := .seq .nil (.seq .nil (.seq .nil (.seq (.seq .nil (.loop impl_winding_J0 impl_winding_O0 impl_winding_B0 .nil)) .nil)))
theorem impl_winding_r0 (p : impl_winding_J0.P) : run impl_winding_x (subc [1, 1, 1, 0, 1, 0, 0] c34) .nil (impl_winding_J0.S p) (leaf impl_winding_J0 impl_winding_O0) = impl_winding_B0 p := by kernel_rfl
noncomputable def impl_winding_D : Ve.Fn := ⟨34, impl_winding_a, impl_winding_o, impl_winding_E, impl_winding⟩
theorem impl_winding_w : Walk Try.prog impl_winding_x impl_winding_D Try.f34 c34 29 impl_winding_A :=
  ⟨⟨Try.func34, by kernel_rfl, by kernel_rfl, by kernel_rfl, by decide, by kernel_rfl, Nat.le_of_ble_eq_true (by kernel_rfl)⟩, by kernel_rfl, by kernel_rfl, by kernel_rfl, kcast (by kernel_rfl) (⟨impl_winding_r0, trivial⟩ : (∀ p, run impl_winding_x (subc [1, 1, 1, 0, 1, 0, 0] c34) .nil (impl_winding_J0.S p) (leaf impl_winding_J0 impl_winding_O0) = impl_winding_B0 p) ∧ True), by kernel_rfl, fun x y => by kernel_rfl⟩
theorem impl_winding_s : impl_winding_D.Says Try.prog := impl_winding_w.says follows tabOk impl_rises_e_ok
noncomputable def impl_winding_e : Env := more impl_rises_e impl_winding_D
theorem impl_winding_e_ok : EnvOk Try.prog impl_winding_e := more_ok impl_rises_e_ok impl_winding_s
/-! loop.example/g01128/impl.WindingLabels -/
abbrev impl_WindingLabels_J0 : Tpl := ⟨[(1, .val I), (8, .own .shr I), (35, .val (.list (.list I))), (36, .val I), (37, .val I)], [], []⟩
abbrev impl_WindingLabels_J1 : Tpl := ⟨[(8, .own .shr I)], [], []⟩
abbrev impl_WindingLabels_E : Ve.End := ⟨[⟨4, (.own .shr), (.list I), none⟩, ⟨5, .shr, .bool, none⟩], []⟩
abbrev impl_WindingLabels_a : List ASh := [.val I, .val I]
abbrev impl_WindingLabels_o : List OSh := []
abbrev impl_WindingLabels_O0 : Out := .one (.ex 0) impl_WindingLabels_J1
noncomputable def impl_WindingLabels_B0 : impl_WindingLabels_J0.P → Option (impl_WindingLabels_J0.P ⊕ impl_WindingLabels_O0.P)
  | ((n, out, t35, t36, t37, ()), ()) => bif (decide (t37 < t36)) then (guardB (inb t37 (List.length t35)) (match impl_winding (n, (List.getD t35 (Int.toNat t37) ([] : (List Int))), ()) () with | some ((r, ()), ()) => guardB (decide ((List.length out + List.length [r]) * 8 ≤ 70368744177664)) (some (.inl ((n, (out ++ [r]), t35, t36, (w64 (t37 + (1 : Int))), ()), ()))) | none => none)) else (some (.inr ((out, ()), ())))
noncomputable def impl_WindingLabels : argP impl_WindingLabels_a → obP (extObs 0 impl_WindingLabels_o) → Option impl_WindingLabels_E.P
  | (m, n, ()), () => match impl_isCycle (m, ()) () with | some ((r, ()), ()) => (bif (!r) then (some ((([] : (List Int)), false, ()), ())) else (bif (decide ((6 : Int) < m)) then (some ((([] : (List Int)), false, ()), ())) else (match impl_isCycle (n, ()) () with | some ((r2, ()), ()) => (bif (!r2) then (some ((([] : (List Int)), false, ()), ())) else (match impl_cycleOf (m, ()) () with | some ((r3, ()), ()) => (match impl_cycleOf (n, ()) () with | some ((r4, ()), ()) => (match impl_MapSpace ((r3.1, r3.2), (r4.1, r4.2), false, ()) () with | some ((r5, r6, ()), ()) => (bif (!r6) then (some ((([] : (List Int)), false, ()), ())) else (match loopO impl_WindingLabels_B0 ((n, ([] : (List Int)), r5.1, (List.length r5.1 : Int), (0 : Int), ()), ()) with | some ((out, ()), ()) => some ((out, true, ()), ()) | none => none)) | none => none) | none => none) | none => none)) | none => none))) | none => none
noncomputable def impl_WindingLabels_x : Cx := ⟨tab, impl_winding_e, fun _ _ => 0, fun _ => false, [(12, 0), (12, 1), (12, 2), (12, 3), (20, 0), (20, 1), (20, 2), (20, 3), (25, 0), (25, 1), (25, 2), (25, 3), (27, 0), (27, 1), (27, 2), (27, 3), (10, 0), (44, 0), (44, 1), (44, 2), (44, 3), (45, 0)], [(6, 0)]⟩
noncomputable def c7 : Code := bodyOf Try.f7
noncomputable def impl_WindingLabels_A : Ann := .seq .nil (.seq .nil (.seq .nil (.seq .nil (.seq .nil (.seq (.seq .nil (.loop impl_WindingLabels_J0 impl_WindingLabels_O0 impl_WindingLabels_B0 .nil)) .nil)))))
theorem impl_WindingLabels_r0 (p : impl_WindingLabels_J0.P) : run impl_WindingLabels_x (subc [1, 1, 1, 1, 1, 0, 1, 0, 0] c7) .nil (impl_WindingLabels_J0.S p) (leaf impl_WindingLabels_J0 impl_WindingLabels_O0) = impl_WindingLabels_B0 p := by kernel_rfl
noncomputable def impl_WindingLabels_D : Ve.Fn := ⟨7, impl_WindingLabels_a, impl_WindingLabels_o, impl_WindingLabels_E, impl_WindingLabels⟩
theorem impl_WindingLabels_w : Walk Try.prog impl_WindingLabels_x impl_WindingLabels_D Try.f7 c7 49 impl_WindingLabels_A :=
  ⟨⟨Try.func7, by kernel_rfl, by kernel_rfl, by kernel_rfl, by decide, by kernel_rfl, Nat.le_of_ble_eq_true (by kernel_rfl)⟩, by kernel_rfl, by kernel_rfl, by kernel_rfl, kcast (by kernel_rfl) (⟨impl_WindingLabels_r0, trivial⟩ : (∀ p, run impl_WindingLabels_x (subc [1, 1, 1, 1, 1, 0, 1, 0, 0] c7) .nil (impl_WindingLabels_J0.S p) (leaf impl_WindingLabels_J0 impl_WindingLabels_O0) = impl_WindingLabels_B0 p) ∧ True), by kernel_rfl, fun x y => by kernel_rfl⟩
theorem impl_WindingLabels_s : impl_WindingLabels_D.Says Try.prog := impl_WindingLabels_w.says follows tabOk impl_winding_e_ok
noncomputable def impl_WindingLabels_e : Env := more impl_winding_e impl_WindingLabels_D
theorem impl_WindingLabels_e_ok : EnvOk Try.prog impl_WindingLabels_e := more_ok impl_winding_e_ok impl_WindingLabels_s
/-! loop.example/g01128/laws.eqIntS -/
abbrev laws_eqIntS_J0 : Tpl := ⟨[(0, .val (.list I)), (1, .val (.list I)), (5, .val I)], [], []⟩
abbrev laws_eqIntS_J1 : Tpl := ⟨[(4, .val .bool)], [], []⟩
abbrev laws_eqIntS_J2 : Tpl := ⟨[], [], []⟩
abbrev laws_eqIntS_E : Ve.End := ⟨[⟨4, .shr, .bool, none⟩], []⟩
abbrev laws_eqIntS_a : List ASh := [.val (.list I), .val (.list I)]
abbrev laws_eqIntS_o : List OSh := []
abbrev laws_eqIntS_O0 : Out := .or .ret laws_eqIntS_J1 (.one (.ex 0) laws_eqIntS_J2)
noncomputable def laws_eqIntS_B0 : laws_eqIntS_J0.P → Option (laws_eqIntS_J0.P ⊕ laws_eqIntS_O0.P)
  | ((a, b, i, ()), ()) => bif (decide (i < (List.length a : Int))) then (guardB (inb i (List.length a)) (guardB (inb i (List.length b)) (bif ((List.getD a (Int.toNat i) (0 : Int)) != (List.getD b (Int.toNat i) (0 : Int))) then (some (.inr (.inl ((false, ()), ())))) else (some (.inl ((a, b, (w64 (i + (1 : Int))), ()), ())))))) else (some (.inr (.inr ((), ()))))
noncomputable def laws_eqIntS : argP laws_eqIntS_a → obP (extObs 0 laws_eqIntS_o) → Option laws_eqIntS_E.P
  | (a, b, ()), () => bif ((List.length a : Int) != (List.length b : Int)) then (some ((false, ()), ())) else (match loopO laws_eqIntS_B0 ((a, b, (0 : Int), ()), ()) with | some (.inl ((t4, ()), ())) => some ((t4, ()), ()) | some (.inr ((), ())) => some ((true, ()), ()) | none => none)
noncomputable def laws_eqIntS_x : Cx := ⟨tab, impl_WindingLabels_e, fun _ _ => 0, fun _ => false, [], []⟩
noncomputable def c8 : Code := bodyOf Try.f8
noncomputable def laws_eqIntS_A : Ann := .seq .nil (.seq .nil (.seq (.seq .nil (.loop laws_eqIntS_J0 laws_eqIntS_O0 laws_eqIntS_B0 (.seq .nil (.seq (.seq (.draw [(0, .flo), (1, .flo), (2, .flo), (3, .flo), (4, .flo), (5, .flo), (6, .flo), (7, .flo), (8, .flo)]) .nil) .nil)))) .nil))
theorem laws_eqIntS_r0 (p : laws_eqIntS_J0.P) : run laws_eqIntS_x (subc [1, 1, 0, 1, 0, 0] c8) (.seq .nil (.seq (.seq (.draw [(0, .flo), (1, .flo), (2, .flo), (3, .flo), (4, .flo), (5, .flo), (6, .flo), (7, .flo), (8, .flo)]) .nil) .nil)) (laws_eqIntS_J0.S p) (leaf laws_eqIntS_J0 laws_eqIntS_O0) = laws_eqIntS_B0 p := by kernel_rfl
noncomputable def laws_eqIntS_D : Ve.Fn := ⟨8, laws_eqIntS_a, laws_eqIntS_o, laws_eqIntS_E, laws_eqIntS⟩
theorem laws_eqIntS_w : Walk Try.prog laws_eqIntS_x laws_eqIntS_D Try.f8 c8 26 laws_eqIntS_A :=
  ⟨⟨Try.func8, by kernel_rfl, by kernel_rfl, by kernel_rfl, by decide, by kernel_rfl, Nat.le_of_ble_eq_true (by kernel_rfl)⟩, by kernel_rfl, by kernel_rfl, by kernel_rfl, kcast (by kernel_rfl) (⟨laws_eqIntS_r0, trivial⟩ : (∀ p, run laws_eqIntS_x (subc [1, 1, 0, 1, 0, 0] c8) (.seq .nil (.seq (.seq (.draw [(0, .flo), (1, .flo), (2, .flo), (3, .flo), (4, .flo), (5, .flo), (6, .flo), (7, .flo), (8, .flo)]) .nil) .nil)) (laws_eqIntS_J0.S p) (leaf laws_eqIntS_J0 laws_eqIntS_O0) = laws_eqIntS_B0 p) ∧ True), by kernel_rfl, fun x y => by kernel_rfl⟩
theorem laws_eqIntS_s : laws_eqIntS_D.Says Try.prog := laws_eqIntS_w.says follows tabOk impl_WindingLabels_e_ok
noncomputable def laws_eqIntS_e : Env := more impl_WindingLabels_e laws_eqIntS_D
theorem laws_eqIntS_e_ok : EnvOk Try.prog laws_eqIntS_e := more_ok impl_WindingLabels_e_ok laws_eqIntS_s
/-! loop.example/g01128/laws.markIntS -/
abbrev laws_markIntS_e0v_ls_J0 : Tpl := ⟨[(0, .same (1000000, 0) []), (1, .val I), (5, .val I)], [((1000000, 0), .vec .shr I)], []⟩
abbrev laws_markIntS_e0v_ls_J1 : Tpl := ⟨[(1, .val I)], [((1000000, 0), .vec .shr I)], []⟩
abbrev laws_markIntS_e0v_ls_E : Ve.End := ⟨[⟨4, .shr, I, none⟩], [.vec .shr I]⟩
abbrev laws_markIntS_e0v_ls_a : List ASh := [.ext 0, .val I]
abbrev laws_markIntS_e0v_ls_o : List OSh := [.vec .shr I]
abbrev laws_markIntS_e0v_ls_O0 : Out := .one (.ex 0) laws_markIntS_e0v_ls_J1
noncomputable def laws_markIntS_e0v_ls_B0 : laws_markIntS_e0v_ls_J0.P → Option (laws_markIntS_e0v_ls_J0.P ⊕ laws_markIntS_e0v_ls_O0.P)
  | ((k, i, ()), (o0, ())) => bif (decide (i < (List.length o0 : Int))) then (guardB (inb i (List.length o0)) (some (.inl (((w64 (k + (1 : Int))), (w64 (i + (1 : Int))), ()), ((List.set o0 (Int.toNat i) k), ()))))) else (some (.inr ((k, ()), (o0, ()))))
noncomputable def laws_markIntS_e0v_ls : argP laws_markIntS_e0v_ls_a → obP (extObs 0 laws_markIntS_e0v_ls_o) → Option laws_markIntS_e0v_ls_E.P
  | (k, ()), (o0, ()) => match loopO laws_markIntS_e0v_ls_B0 ((k, (0 : Int), ()), (o0, ())) with | some ((k2, ()), (o0_2, ())) => some ((k2, ()), (o0_2, ())) | none => none
noncomputable def laws_markIntS_e0v_ls_x : Cx := ⟨tab, laws_eqIntS_e, fun _ _ => 0, fun _ => false, [], []⟩
noncomputable def c9 : Code := bodyOf Try.f9
noncomputable def laws_markIntS_e0v_ls_A : Ann := .seq .nil (.seq (.seq .nil (.loop laws_markIntS_e0v_ls_J0 laws_markIntS_e0v_ls_O0 laws_markIntS_e0v_ls_B0 .nil)) .nil)
theorem laws_markIntS_e0v_ls_r0 (p : laws_markIntS_e0v_ls_J0.P) : run laws_markIntS_e0v_ls_x (subc [1, 0, 1, 0, 0] c9) .nil (laws_markIntS_e0v_ls_J0.S p) (leaf laws_markIntS_e0v_ls_J0 laws_markIntS_e0v_ls_O0) = laws_markIntS_e0v_ls_B0 p := by kernel_rfl
noncomputable def laws_markIntS_e0v_ls_D : Ve.Fn := ⟨9, laws_markIntS_e0v_ls_a, laws_markIntS_e0v_ls_o, laws_markIntS_e0v_ls_E, laws_markIntS_e0v_ls⟩
theorem laws_markIntS_e0v_ls_w : Walk Try.prog laws_markIntS_e0v_ls_x laws_markIntS_e0v_ls_D Try.f9 c9 19 laws_markIntS_e0v_ls_A :=
  ⟨⟨Try.func9, by kernel_rfl, by kernel_rfl, by kernel_rfl, by decide, by kernel_rfl, Nat.le_of_ble_eq_true (by kernel_rfl)⟩, by kernel_rfl, by kernel_rfl, by kernel_rfl, kcast (by kernel_rfl) (⟨laws_markIntS_e0v_ls_r0, trivial⟩ : (∀ p, run laws_markIntS_e0v_ls_x (subc [1, 0, 1, 0, 0] c9) .nil (laws_markIntS_e0v_ls_J0.S p) (leaf laws_markIntS_e0v_ls_J0 laws_markIntS_e0v_ls_O0) = laws_markIntS_e0v_ls_B0 p) ∧ True), by kernel_rfl, fun x y => by kernel_rfl⟩
theorem laws_markIntS_e0v_ls_s : laws_markIntS_e0v_ls_D.Says Try.prog := laws_markIntS_e0v_ls_w.says follows tabOk laws_eqIntS_e_ok
noncomputable def laws_markIntS_e0v_ls_e : Env := more laws_eqIntS_e laws_markIntS_e0v_ls_D
theorem laws_markIntS_e0v_ls_e_ok : EnvOk Try.prog laws_markIntS_e0v_ls_e := more_ok laws_eqIntS_e_ok laws_markIntS_e0v_ls_s
/-! loop.example/g01128/laws.heldIntS -/
abbrev laws_heldIntS_J0 : Tpl := ⟨[(0, .val (.list I)), (1, .val I), (5, .val I)], [], []⟩
abbrev laws_heldIntS_J1 : Tpl := ⟨[(4, .val I)], [], []⟩
abbrev laws_heldIntS_J2 : Tpl := ⟨[(1, .val I)], [], []⟩
abbrev laws_heldIntS_E : Ve.End := ⟨[⟨4, .shr, I, none⟩], []⟩
abbrev laws_heldIntS_a : List ASh := [.val (.list I), .val I]
abbrev laws_heldIntS_o : List OSh := []
abbrev laws_heldIntS_O0 : Out := .or .ret laws_heldIntS_J1 (.one (.ex 0) laws_heldIntS_J2)
noncomputable def laws_heldIntS_B0 : laws_heldIntS_J0.P → Option (laws_heldIntS_J0.P ⊕ laws_heldIntS_O0.P)
  | ((a, k, i, ()), ()) => bif (decide (i < (List.length a : Int))) then (guardB (inb i (List.length a)) (bif ((List.getD a (Int.toNat i) (0 : Int)) != k) then (some (.inr (.inl (((-1 : Int), ()), ())))) else (some (.inl ((a, (w64 (k + (1 : Int))), (w64 (i + (1 : Int))), ()), ()))))) else (some (.inr (.inr ((k, ()), ()))))
noncomputable def laws_heldIntS : argP laws_heldIntS_a → obP (extObs 0 laws_heldIntS_o) → Option laws_heldIntS_E.P
  | (a, k, ()), () => match loopO laws_heldIntS_B0 ((a, k, (0 : Int), ()), ()) with | some (.inl ((t4, ()), ())) => some ((t4, ()), ()) | some (.inr ((k2, ()), ())) => some ((k2, ()), ()) | none => none
noncomputable def laws_heldIntS_x : Cx := ⟨tab, laws_markIntS_e0v_ls_e, fun _ _ => 0, fun _ => false, [], []⟩
noncomputable def c10 : Code := bodyOf Try.f10
noncomputable def laws_heldIntS_A : Ann := .seq .nil (.seq (.seq .nil (.loop laws_heldIntS_J0 laws_heldIntS_O0 laws_heldIntS_B0 .nil)) .nil)
theorem laws_heldIntS_r0 (p : laws_heldIntS_J0.P) : run laws_heldIntS_x (subc [1, 0, 1, 0, 0] c10) .nil (laws_heldIntS_J0.S p) (leaf laws_heldIntS_J0 laws_heldIntS_O0) = laws_heldIntS_B0 p := by kernel_rfl
noncomputable def laws_heldIntS_D : Ve.Fn := ⟨10, laws_heldIntS_a, laws_heldIntS_o, laws_heldIntS_E, laws_heldIntS⟩
theorem laws_heldIntS_w : Walk Try.prog laws_heldIntS_x laws_heldIntS_D Try.f10 c10 21 laws_heldIntS_A :=
  ⟨⟨Try.func10, by kernel_rfl, by kernel_rfl, by kernel_rfl, by decide, by kernel_rfl, Nat.le_of_ble_eq_true (by kernel_rfl)⟩, by kernel_rfl, by kernel_rfl, by kernel_rfl, kcast (by kernel_rfl) (⟨laws_heldIntS_r0, trivial⟩ : (∀ p, run laws_heldIntS_x (subc [1, 0, 1, 0, 0] c10) .nil (laws_heldIntS_J0.S p) (leaf laws_heldIntS_J0 laws_heldIntS_O0) = laws_heldIntS_B0 p) ∧ True), by kernel_rfl, fun x y => by kernel_rfl⟩
theorem laws_heldIntS_s : laws_heldIntS_D.Says Try.prog := laws_heldIntS_w.says follows tabOk laws_markIntS_e0v_ls_e_ok
noncomputable def laws_heldIntS_e : Env := more laws_markIntS_e0v_ls_e laws_heldIntS_D
theorem laws_heldIntS_e_ok : EnvOk Try.prog laws_heldIntS_e := more_ok laws_markIntS_e0v_ls_e_ok laws_heldIntS_s
/-! loop.example/g01128/laws.FnExactWindingLabels -/
abbrev laws_FnExactWindingLabels_E : Ve.End := ⟨[⟨4, .shr, .bool, none⟩], []⟩
abbrev laws_FnExactWindingLabels_a : List ASh := [.val I, .val I]
abbrev laws_FnExactWindingLabels_o : List OSh := []
noncomputable def laws_FnExactWindingLabels : argP laws_FnExactWindingLabels_a → obP (extObs 0 laws_FnExactWindingLabels_o) → Option laws_FnExactWindingLabels_E.P
  | (t0, t1, ()), () => match spec_WindingLabels (t0, t1, ()) () with | some ((r, r2, ()), ()) => (match impl_WindingLabels (t0, t1, ()) () with | some ((r3, r4, ()), ()) => (match laws_eqIntS (r3, r, ()) () with | some ((r5, ()), ()) => (bif (!r5) then (some ((false, ()), ())) else (bif (!(r4 == r2)) then (some ((false, ()), ())) else (match laws_markIntS_e0v_ls ((1 : Int), ()) (r3, ()) with | some ((r6, ()), (o, ())) => (match laws_heldIntS (o, (1 : Int), ()) () with | some ((r7, ()), ()) => (bif (decide (r7 < (0 : Int))) then (some ((false, ()), ())) else (bif (r7 != r6) then (some ((false, ()), ())) else (match impl_WindingLabels (t0, t1, ()) () with | some ((r8, r9, ()), ()) => (match laws_eqIntS (r8, r, ()) () with | some ((r10, ()), ()) => (bif (!r10) then (some ((false, ()), ())) else (bif (!(r9 == r2)) then (some ((false, ()), ())) else (match laws_heldIntS (o, (1 : Int), ()) () with | some ((r11, ()), ()) => (bif (decide (r11 < (0 : Int))) then (some ((false, ()), ())) else (bif (r11 != r6) then (some ((false, ()), ())) else (some ((true, ()), ())))) | none => none))) | none => none) | none => none))) | none => none) | none => none))) | none => none) | none => none) | none => none
noncomputable def laws_FnExactWindingLabels_x : Cx := ⟨tab, laws_heldIntS_e, fun f n => bif Nat.beq f 9 && Nat.beq n 0 then 1 else 0, fun _ => false, [(16, 0), (16, 1), (16, 2), (16, 3), (5, 0), (27, 0), (27, 1), (27, 2), (27, 3), (36, 0), (36, 1), (36, 2), (36, 3), (39, 0), (39, 1), (39, 2), (39, 3), (48, 0), (48, 1), (48, 2), (48, 3), (11, 0), (53, 0), (53, 1), (53, 2), (53, 3), (62, 0), (62, 1), (62, 2), (62, 3)], []⟩
noncomputable def c3 : Code := bodyOf Try.f3
noncomputable def laws_FnExactWindingLabels_A : Ann := .nil
noncomputable def laws_FnExactWindingLabels_D : Ve.Fn := ⟨3, laws_FnExactWindingLabels_a, laws_FnExactWindingLabels_o, laws_FnExactWindingLabels_E, laws_FnExactWindingLabels⟩
theorem laws_FnExactWindingLabels_w : Walk Try.prog laws_FnExactWindingLabels_x laws_FnExactWindingLabels_D Try.f3 c3 68 laws_FnExactWindingLabels_A :=
  ⟨⟨Try.func3, by kernel_rfl, by kernel_rfl, by kernel_rfl, by decide, by kernel_rfl, Nat.le_of_ble_eq_true (by kernel_rfl)⟩, by kernel_rfl, by kernel_rfl, by kernel_rfl, kcast (by kernel_rfl) trivial, by kernel_rfl, fun x y => by kernel_rfl⟩
theorem laws_FnExactWindingLabels_s : laws_FnExactWindingLabels_D.Says Try.prog := laws_FnExactWindingLabels_w.says follows tabOk laws_heldIntS_e_ok
noncomputable def laws_FnExactWindingLabels_e : Env := more laws_heldIntS_e laws_FnExactWindingLabels_D
theorem laws_FnExactWindingLabels_e_ok : EnvOk Try.prog laws_FnExactWindingLabels_e := more_ok laws_heldIntS_e_ok laws_FnExactWindingLabels_s
end Go.Proofs.Ytcabghamgilafaa.V
