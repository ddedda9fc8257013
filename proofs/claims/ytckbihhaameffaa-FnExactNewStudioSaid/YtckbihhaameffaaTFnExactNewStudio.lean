/-
  What the functions that the law reaches compute: typed pure functions, checked against the code.
-/
import Derived.Test.YtckbihhaameffaaProg
import Derived.Test.YtckbihhaameffaaE4
import Derived.Test.YtckbihhaameffaaS
namespace Go.Proofs.Ytckbihhaameffaa.V
open Go.Ve Go.Proofs
set_option linter.unusedVariables false
set_option linter.unusedSimpArgs false
set_option maxRecDepth 100000
def tab : Tab := [(3, .data ⟨I, 0, 8, false⟩), (4, .data ⟨.bool, 0, 1, false⟩), (22, .data ⟨(.list (.prod I I)), 0, 16, false⟩), (24, .data ⟨(.prod I (.list (.prod I I))), 2, 32, false⟩), (25, .data ⟨(.list I), 0, 8, false⟩), (30, .data ⟨(.prod I (.list (.prod I I))), 2, 32, false⟩), (32, .data ⟨(.prod (.prod I (.list (.prod I I))) (.prod I (.prod (.list I) (.prod (.list I) (.prod (.list I) I))))), 6, 120, false⟩), (64, .data ⟨(.int .u64), 0, 8, false⟩), (67, .fn), (69, .data ⟨(.prod I I), 2, 16, true⟩), (70, .fn), (84, .fn)]
theorem follows : Try.prog.follows .mixedOrders = true := by kernel_rfl
theorem ti3 : TiOk Try.prog tab 3 ⟨I, 0, 8, false⟩ := ti_int (by kernel_rfl) Try.underlying3
theorem ti4 : TiOk Try.prog tab 4 ⟨.bool, 0, 1, false⟩ := ti_bool (by kernel_rfl) Try.underlying4
theorem ti22 : TiOk Try.prog tab 22 ⟨(.list (.prod I I)), 0, 16, false⟩ := ti_list (ie := ⟨(.prod I I), 2, 16, true⟩) (by kernel_rfl) Try.underlying22 (by kernel_rfl) rfl (by kernel_rfl) (by kernel_rfl)
theorem ti24 : TiOk Try.prog tab 24 ⟨(.prod I (.list (.prod I I))), 2, 32, false⟩ := ti_struct (by kernel_rfl) Try.underlying24 (by kernel_rfl) (by kernel_rfl) (by kernel_rfl) (by kernel_rfl)
theorem ti25 : TiOk Try.prog tab 25 ⟨(.list I), 0, 8, false⟩ := ti_list (ie := ⟨I, 0, 8, false⟩) (by kernel_rfl) Try.underlying25 (by kernel_rfl) rfl (by kernel_rfl) (by kernel_rfl)
theorem ti30 : TiOk Try.prog tab 30 ⟨(.prod I (.list (.prod I I))), 2, 32, false⟩ := ti_struct (by kernel_rfl) Try.underlying30 (by kernel_rfl) (by kernel_rfl) (by kernel_rfl) (by kernel_rfl)
theorem ti32 : TiOk Try.prog tab 32 ⟨(.prod (.prod I (.list (.prod I I))) (.prod I (.prod (.list I) (.prod (.list I) (.prod (.list I) I))))), 6, 120, false⟩ := ti_struct (by kernel_rfl) Try.underlying32 (by kernel_rfl) (by kernel_rfl) (by kernel_rfl) (by kernel_rfl)
theorem ti64 : TiOk Try.prog tab 64 ⟨(.int .u64), 0, 8, false⟩ := ti_int (by kernel_rfl) Try.underlying64
theorem ti67 : FnOk Try.prog 67 := ti_fn (by kernel_rfl) (Try.underlying67)
theorem ti69 : TiOk Try.prog tab 69 ⟨(.prod I I), 2, 16, true⟩ := ti_arr (ie := ⟨I, 0, 8, false⟩) (by kernel_rfl) Try.underlying69 (by kernel_rfl) rfl (by kernel_rfl) (by kernel_rfl)
theorem ti70 : FnOk Try.prog 70 := ti_fn (by kernel_rfl) (Try.underlying70)
theorem ti84 : FnOk Try.prog 84 := ti_fn (by kernel_rfl) (Try.underlying84)
theorem tabOk : TabOk' Try.prog tab := tabOk_of ⟨ti3, ti4, ti22, ti24, ti25, ti30, ti32, ti64, ti67, ti69, ti70, ti84, trivial⟩
noncomputable def M81_e : Env := moreMk noEnv 81 85 25
theorem M81_e_ok : EnvOk Try.prog M81_e := moreMk_ok noEnv_ok (mk_ok Try.func81 (by kernel_rfl) rfl (by kernel_rfl) (by kernel_rfl))
/-! loop.example/g01128/laws.szIntA2S -/
abbrev laws_szIntA2S_E : Ve.End := ⟨[⟨4, .shr, I, none⟩], []⟩
abbrev laws_szIntA2S_a : List ASh := [.val (.list (.prod I I)), .val I]
abbrev laws_szIntA2S_o : List OSh := []
noncomputable def laws_szIntA2S : argP laws_szIntA2S_a → obP (extObs 0 laws_szIntA2S_o) → Option laws_szIntA2S_E.P
  | (a, left, ()), () => bif (decide ((w64 (left - (List.length a : Int))) < (0 : Int))) then (some (((-1 : Int), ()), ())) else (some (((w64 (left - (List.length a : Int))), ()), ()))
noncomputable def laws_szIntA2S_x : Cx := ⟨tab, M81_e, fun _ _ => 0, fun _ => false, [], []⟩
noncomputable def c27 : Code := bodyOf Try.f27
noncomputable def laws_szIntA2S_A : Ann := .nil
noncomputable def laws_szIntA2S_D : Ve.Fn := ⟨27, laws_szIntA2S_a, laws_szIntA2S_o, laws_szIntA2S_E, laws_szIntA2S⟩
theorem laws_szIntA2S_w : Walk Try.prog laws_szIntA2S_x laws_szIntA2S_D Try.f27 c27 12 laws_szIntA2S_A :=
  ⟨⟨Try.func27, by kernel_rfl, by kernel_rfl, by kernel_rfl, by decide, by kernel_rfl, Nat.le_of_ble_eq_true (by kernel_rfl)⟩, by kernel_rfl, by kernel_rfl, by kernel_rfl, kcast (by kernel_rfl) trivial, by kernel_rfl, fun x y => by kernel_rfl⟩
theorem laws_szIntA2S_s : laws_szIntA2S_D.Says Try.prog := laws_szIntA2S_w.says follows tabOk M81_e_ok
noncomputable def laws_szIntA2S_e : Env := more M81_e laws_szIntA2S_D
theorem laws_szIntA2S_e_ok : EnvOk Try.prog laws_szIntA2S_e := more_ok M81_e_ok laws_szIntA2S_s
/-! loop.example/g01128/laws.szGraph -/
abbrev laws_szGraph_E : Ve.End := ⟨[⟨4, .shr, I, none⟩], []⟩
abbrev laws_szGraph_a : List ASh := [.val (.prod I (.list (.prod I I))), .val I]
abbrev laws_szGraph_o : List OSh := []
noncomputable def laws_szGraph : argP laws_szGraph_a → obP (extObs 0 laws_szGraph_o) → Option laws_szGraph_E.P
  | (a, left, ()), () => match laws_szIntA2S (a.2, left, ()) () with | some ((r, ()), ()) => (bif (decide (r < (0 : Int))) then (some (((-1 : Int), ()), ())) else (some ((r, ()), ()))) | none => none
noncomputable def laws_szGraph_x : Cx := ⟨tab, laws_szIntA2S_e, fun _ _ => 0, fun _ => false, [(8, 0), (8, 1), (8, 2), (8, 3)], [(2, 0)]⟩
noncomputable def c10 : Code := bodyOf Try.f10
noncomputable def laws_szGraph_A : Ann := .nil
noncomputable def laws_szGraph_D : Ve.Fn := ⟨10, laws_szGraph_a, laws_szGraph_o, laws_szGraph_E, laws_szGraph⟩
theorem laws_szGraph_w : Walk Try.prog laws_szGraph_x laws_szGraph_D Try.f10 c10 12 laws_szGraph_A :=
  ⟨⟨Try.func10, by kernel_rfl, by kernel_rfl, by kernel_rfl, by decide, by kernel_rfl, Nat.le_of_ble_eq_true (by kernel_rfl)⟩, by kernel_rfl, by kernel_rfl, by kernel_rfl, kcast (by kernel_rfl) trivial, by kernel_rfl, fun x y => by kernel_rfl⟩
theorem laws_szGraph_s : laws_szGraph_D.Says Try.prog := laws_szGraph_w.says follows tabOk laws_szIntA2S_e_ok
noncomputable def laws_szGraph_e : Env := more laws_szIntA2S_e laws_szGraph_D
theorem laws_szGraph_e_ok : EnvOk Try.prog laws_szGraph_e := more_ok laws_szIntA2S_e_ok laws_szGraph_s
/-! loop.example/g01128/laws.toIntA2 -/
abbrev laws_toIntA2_J0 : Tpl := ⟨[(1, .cst (.prod I I)), (2, .ptr (2, 0)), (3, .ptr (3, 0)), (4, .val I)], [((2, 0), .box .shr (.prod I I)), ((3, 0), .box .shr (.prod I I))], []⟩
abbrev laws_toIntA2_J1 : Tpl := ⟨[(2, .ptr (2, 0)), (3, .ptr (3, 0))], [((2, 0), .box .shr (.prod I I)), ((3, 0), .box .shr (.prod I I))], []⟩
abbrev laws_toIntA2_E : Ve.End := ⟨[⟨2, .shr, (.prod I I), some 69⟩], []⟩
abbrev laws_toIntA2_a : List ASh := [.val (.prod I I)]
abbrev laws_toIntA2_o : List OSh := []
abbrev laws_toIntA2_O0 : Out := .one (.ex 0) laws_toIntA2_J1
noncomputable def laws_toIntA2_B0 : laws_toIntA2_J0.P → Option (laws_toIntA2_J0.P ⊕ laws_toIntA2_O0.P)
  | ((a, i, ()), (t2, out, ())) => bif (decide (i < (2 : Int))) then (guardB (decide (0 ≤ i) && decide (i < 2)) (guardB (decide (0 ≤ i) && decide (i < 2)) (some (.inl ((a, (w64 (i + (1 : Int))), ()), (t2, (bif Nat.beq (Int.toNat i) 0 then ((bif Nat.beq (Int.toNat i) 0 then a.1 else a.2), out.2) else (out.1, (bif Nat.beq (Int.toNat i) 0 then a.1 else a.2))), ())))))) else (some (.inr ((), (t2, out, ()))))
noncomputable def laws_toIntA2 : argP laws_toIntA2_a → obP (extObs 0 laws_toIntA2_o) → Option laws_toIntA2_E.P
  | (a, ()), () => match loopO laws_toIntA2_B0 ((a, (0 : Int), ()), (((0 : Int), (0 : Int)), ((0 : Int), (0 : Int)), ())) with | some ((), (t2, out, ())) => some ((out, ()), ()) | none => none
noncomputable def laws_toIntA2_x : Cx := ⟨tab, laws_szGraph_e, fun _ _ => 0, fun _ => false, [], [(1, 0)]⟩
noncomputable def c57 : Code := bodyOf Try.f57
noncomputable def laws_toIntA2_A : Ann := .seq .nil (.seq .nil (.seq (.seq .nil (.loop laws_toIntA2_J0 laws_toIntA2_O0 laws_toIntA2_B0 .nil)) .nil))
theorem laws_toIntA2_r0 (p : laws_toIntA2_J0.P) : run laws_toIntA2_x (subc [1, 1, 0, 1, 0, 0] c57) .nil (laws_toIntA2_J0.S p) (leaf laws_toIntA2_J0 laws_toIntA2_O0) = laws_toIntA2_B0 p := by kernel_rfl
noncomputable def laws_toIntA2_D : Ve.Fn := ⟨57, laws_toIntA2_a, laws_toIntA2_o, laws_toIntA2_E, laws_toIntA2⟩
theorem laws_toIntA2_w : Walk Try.prog laws_toIntA2_x laws_toIntA2_D Try.f57 c57 15 laws_toIntA2_A :=
  ⟨⟨Try.func57, by kernel_rfl, by kernel_rfl, by kernel_rfl, by decide, by kernel_rfl, Nat.le_of_ble_eq_true (by kernel_rfl)⟩, by kernel_rfl, by kernel_rfl, by kernel_rfl, kcast (by kernel_rfl) (⟨laws_toIntA2_r0, trivial⟩ : (∀ p, run laws_toIntA2_x (subc [1, 1, 0, 1, 0, 0] c57) .nil (laws_toIntA2_J0.S p) (leaf laws_toIntA2_J0 laws_toIntA2_O0) = laws_toIntA2_B0 p) ∧ True), by kernel_rfl, fun x y => by kernel_rfl⟩
theorem laws_toIntA2_s : laws_toIntA2_D.Says Try.prog := laws_toIntA2_w.says follows tabOk laws_szGraph_e_ok
noncomputable def laws_toIntA2_e : Env := more laws_szGraph_e laws_toIntA2_D
theorem laws_toIntA2_e_ok : EnvOk Try.prog laws_toIntA2_e := more_ok laws_szGraph_e_ok laws_toIntA2_s
/-! loop.example/g01128/laws.toIntA2S -/
abbrev laws_toIntA2S_J0 : Tpl := ⟨[(0, .val (.list (.prod I I))), (3, .own .shr (.prod I I)), (4, .val I)], [], []⟩
abbrev laws_toIntA2S_J1 : Tpl := ⟨[(3, .own .shr (.prod I I))], [], []⟩
abbrev laws_toIntA2S_E : Ve.End := ⟨[⟨2, (.own .shr), (.list (.prod I I)), none⟩], []⟩
abbrev laws_toIntA2S_a : List ASh := [.val (.list (.prod I I))]
abbrev laws_toIntA2S_o : List OSh := []
abbrev laws_toIntA2S_O0 : Out := .one (.ex 0) laws_toIntA2S_J1
noncomputable def laws_toIntA2S_B0 : laws_toIntA2S_J0.P → Option (laws_toIntA2S_J0.P ⊕ laws_toIntA2S_O0.P)
  | ((a, out, i, ()), ()) => bif (decide (i < (List.length a : Int))) then (guardB (inb i (List.length a)) (match laws_toIntA2 ((List.getD a (Int.toNat i) ((0 : Int), (0 : Int))), ()) () with | some ((r, ()), ()) => guardB (inb i (List.length out)) (some (.inl ((a, (List.set out (Int.toNat i) r), (w64 (i + (1 : Int))), ()), ()))) | none => none)) else (some (.inr ((out, ()), ())))
noncomputable def laws_toIntA2S : argP laws_toIntA2S_a → obP (extObs 0 laws_toIntA2S_o) → Option laws_toIntA2S_E.P
  | (a, ()), () => guardB (decide (0 ≤ (List.length a : Int)) && decide ((List.length a : Int) ≤ (List.length a : Int)) && decide ((List.length a : Int) * 16 ≤ 140737488355328)) (match loopO laws_toIntA2S_B0 ((a, (List.replicate (Int.toNat (List.length a : Int)) ((0 : Int), (0 : Int))), (0 : Int), ()), ()) with | some ((out, ()), ()) => some ((out, ()), ()) | none => none)
noncomputable def laws_toIntA2S_x : Cx := ⟨tab, laws_toIntA2_e, fun _ _ => 0, fun _ => false, [(20, 0), (20, 1), (20, 2), (20, 3)], []⟩
noncomputable def c32 : Code := bodyOf Try.f32
noncomputable def laws_toIntA2S_A : Ann := .seq .nil (.seq .nil (.seq (.seq .nil (.loop laws_toIntA2S_J0 laws_toIntA2S_O0 laws_toIntA2S_B0 .nil)) .nil))
theorem laws_toIntA2S_r0 (p : laws_toIntA2S_J0.P) : run laws_toIntA2S_x (subc [1, 1, 0, 1, 0, 0] c32) .nil (laws_toIntA2S_J0.S p) (leaf laws_toIntA2S_J0 laws_toIntA2S_O0) = laws_toIntA2S_B0 p := by kernel_rfl
noncomputable def laws_toIntA2S_D : Ve.Fn := ⟨32, laws_toIntA2S_a, laws_toIntA2S_o, laws_toIntA2S_E, laws_toIntA2S⟩
theorem laws_toIntA2S_w : Walk Try.prog laws_toIntA2S_x laws_toIntA2S_D Try.f32 c32 23 laws_toIntA2S_A :=
  ⟨⟨Try.func32, by kernel_rfl, by kernel_rfl, by kernel_rfl, by decide, by kernel_rfl, Nat.le_of_ble_eq_true (by kernel_rfl)⟩, by kernel_rfl, by kernel_rfl, by kernel_rfl, kcast (by kernel_rfl) (⟨laws_toIntA2S_r0, trivial⟩ : (∀ p, run laws_toIntA2S_x (subc [1, 1, 0, 1, 0, 0] c32) .nil (laws_toIntA2S_J0.S p) (leaf laws_toIntA2S_J0 laws_toIntA2S_O0) = laws_toIntA2S_B0 p) ∧ True), by kernel_rfl, fun x y => by kernel_rfl⟩
theorem laws_toIntA2S_s : laws_toIntA2S_D.Says Try.prog := laws_toIntA2S_w.says follows tabOk laws_toIntA2_e_ok
noncomputable def laws_toIntA2S_e : Env := more laws_toIntA2_e laws_toIntA2S_D
theorem laws_toIntA2S_e_ok : EnvOk Try.prog laws_toIntA2S_e := more_ok laws_toIntA2_e_ok laws_toIntA2S_s
/-! loop.example/g01128/laws.toGraph -/
abbrev laws_toGraph_E : Ve.End := ⟨[⟨2, (.prod .shr (.own .shr)), (.prod I (.list (.prod I I))), some 30⟩], []⟩
abbrev laws_toGraph_a : List ASh := [.val (.prod I (.list (.prod I I)))]
abbrev laws_toGraph_o : List OSh := []
noncomputable def laws_toGraph : argP laws_toGraph_a → obP (extObs 0 laws_toGraph_o) → Option laws_toGraph_E.P
  | (a, ()), () => match laws_toIntA2S (a.2, ()) () with | some ((r, ()), ()) => some (((a.1, r), ()), ()) | none => none
noncomputable def laws_toGraph_x : Cx := ⟨tab, laws_toIntA2S_e, fun _ _ => 0, fun _ => false, [], [(1, 0)]⟩
noncomputable def c12 : Code := bodyOf Try.f12
noncomputable def laws_toGraph_A : Ann := .nil
noncomputable def laws_toGraph_D : Ve.Fn := ⟨12, laws_toGraph_a, laws_toGraph_o, laws_toGraph_E, laws_toGraph⟩
theorem laws_toGraph_w : Walk Try.prog laws_toGraph_x laws_toGraph_D Try.f12 c12 12 laws_toGraph_A :=
  ⟨⟨Try.func12, by kernel_rfl, by kernel_rfl, by kernel_rfl, by decide, by kernel_rfl, Nat.le_of_ble_eq_true (by kernel_rfl)⟩, by kernel_rfl, by kernel_rfl, by kernel_rfl, kcast (by kernel_rfl) trivial, by kernel_rfl, fun x y => by kernel_rfl⟩
theorem laws_toGraph_s : laws_toGraph_D.Says Try.prog := laws_toGraph_w.says follows tabOk laws_toIntA2S_e_ok
noncomputable def laws_toGraph_e : Env := more laws_toIntA2S_e laws_toGraph_D
theorem laws_toGraph_e_ok : EnvOk Try.prog laws_toGraph_e := more_ok laws_toIntA2S_e_ok laws_toGraph_s
/-! loop.example/g01128/spec.l1In -/
abbrev spec_l1In_E : Ve.End := ⟨[⟨6, .shr, .bool, none⟩], []⟩
abbrev spec_l1In_a : List ASh := [.val I, .val I, .val I]
abbrev spec_l1In_o : List OSh := []
noncomputable def spec_l1In : argP spec_l1In_a → obP (extObs 0 spec_l1In_o) → Option spec_l1In_E.P
  | (x, a, b, ()), () => bif (decide (a ≤ x)) then (some (((decide (x ≤ b)), ()), ())) else (some ((false, ()), ()))
noncomputable def spec_l1In_x : Cx := ⟨tab, laws_toGraph_e, fun _ _ => 0, fun _ => false, [], []⟩
noncomputable def c44 : Code := bodyOf Try.f44
noncomputable def spec_l1In_A : Ann := .nil
noncomputable def spec_l1In_D : Ve.Fn := ⟨44, spec_l1In_a, spec_l1In_o, spec_l1In_E, spec_l1In⟩
theorem spec_l1In_w : Walk Try.prog spec_l1In_x spec_l1In_D Try.f44 c44 15 spec_l1In_A :=
  ⟨⟨Try.func44, by kernel_rfl, by kernel_rfl, by kernel_rfl, by decide, by kernel_rfl, Nat.le_of_ble_eq_true (by kernel_rfl)⟩, by kernel_rfl, by kernel_rfl, by kernel_rfl, kcast (by kernel_rfl) trivial, by kernel_rfl, fun x y => by kernel_rfl⟩
theorem spec_l1In_s : spec_l1In_D.Says Try.prog := spec_l1In_w.says follows tabOk laws_toGraph_e_ok
noncomputable def spec_l1In_e : Env := more laws_toGraph_e spec_l1In_D
theorem spec_l1In_e_ok : EnvOk Try.prog spec_l1In_e := more_ok laws_toGraph_e_ok spec_l1In_s
/-! loop.example/g01128/spec.l2Edge -/
abbrev spec_l2Edge_E : Ve.End := ⟨[⟨4, .shr, .bool, none⟩], []⟩
abbrev spec_l2Edge_a : List ASh := [.val (.prod I I), .val (.prod I I)]
abbrev spec_l2Edge_o : List OSh := []
noncomputable def spec_l2Edge : argP spec_l2Edge_a → obP (extObs 0 spec_l2Edge_o) → Option spec_l2Edge_E.P
  | (a, b, ()), () => bif (decide (a.1 < b.1)) then (some ((true, ()), ())) else (bif (a.1 == b.1) then (some (((decide (a.2 < b.2)), ()), ())) else (some ((false, ()), ())))
noncomputable def spec_l2Edge_x : Cx := ⟨tab, spec_l1In_e, fun _ _ => 0, fun _ => false, [], [(2, 0), (3, 0)]⟩
noncomputable def c76 : Code := bodyOf Try.f76
noncomputable def spec_l2Edge_A : Ann := .nil
noncomputable def spec_l2Edge_D : Ve.Fn := ⟨76, spec_l2Edge_a, spec_l2Edge_o, spec_l2Edge_E, spec_l2Edge⟩
theorem spec_l2Edge_w : Walk Try.prog spec_l2Edge_x spec_l2Edge_D Try.f76 c76 24 spec_l2Edge_A :=
  ⟨⟨Try.func76, by kernel_rfl, by kernel_rfl, by kernel_rfl, by decide, by kernel_rfl, Nat.le_of_ble_eq_true (by kernel_rfl)⟩, by kernel_rfl, by kernel_rfl, by kernel_rfl, kcast (by kernel_rfl) trivial, by kernel_rfl, fun x y => by kernel_rfl⟩
theorem spec_l2Edge_s : spec_l2Edge_D.Says Try.prog := spec_l2Edge_w.says follows tabOk spec_l1In_e_ok
noncomputable def spec_l2Edge_e : Env := more spec_l1In_e spec_l2Edge_D
theorem spec_l2Edge_e_ok : EnvOk Try.prog spec_l2Edge_e := more_ok spec_l1In_e_ok spec_l2Edge_s
/-! loop.example/g01128/spec.l2Pairs -/
abbrev spec_l2Pairs_J0 : Tpl := ⟨[(0, .val (.list (.prod I I))), (1, .val I), (5, .val I)], [], []⟩
abbrev spec_l2Pairs_J1 : Tpl := ⟨[(4, .val .bool)], [], []⟩
abbrev spec_l2Pairs_J2 : Tpl := ⟨[], [], []⟩
abbrev spec_l2Pairs_E : Ve.End := ⟨[⟨4, .shr, .bool, none⟩], []⟩
abbrev spec_l2Pairs_a : List ASh := [.val (.list (.prod I I)), .val I]
abbrev spec_l2Pairs_o : List OSh := []
abbrev spec_l2Pairs_O0 : Out := .or .ret spec_l2Pairs_J1 (.one (.ex 0) spec_l2Pairs_J2)
noncomputable def spec_l2Pairs_B0 : spec_l2Pairs_J0.P → Option (spec_l2Pairs_J0.P ⊕ spec_l2Pairs_O0.P)
  | ((pairs, n, i, ()), ()) => bif (decide (i < (List.length pairs : Int))) then (guardB (inb i (List.length pairs)) (match spec_l1In ((List.getD pairs (Int.toNat i) ((0 : Int), (0 : Int))).1, (0 : Int), (w64 (n - (1 : Int))), ()) () with | some ((r, ()), ()) => (bif (!r) then (some (.inr (.inl ((false, ()), ())))) else (match spec_l1In ((List.getD pairs (Int.toNat i) ((0 : Int), (0 : Int))).2, (0 : Int), (w64 (n - (1 : Int))), ()) () with | some ((r2, ()), ()) => (bif (!r2) then (some (.inr (.inl ((false, ()), ())))) else (bif (decide (((List.getD pairs (Int.toNat i) ((0 : Int), (0 : Int))).2) ≤ ((List.getD pairs (Int.toNat i) ((0 : Int), (0 : Int))).1))) then (some (.inr (.inl ((false, ()), ())))) else (bif (decide ((0 : Int) < i)) then (guardB (inb (w64 (i - (1 : Int))) (List.length pairs)) (match spec_l2Edge ((List.getD pairs (Int.toNat (w64 (i - (1 : Int)))) ((0 : Int), (0 : Int))), (List.getD pairs (Int.toNat i) ((0 : Int), (0 : Int))), ()) () with | some ((r3, ()), ()) => (bif (!r3) then (some (.inr (.inl ((false, ()), ())))) else (some (.inl ((pairs, n, (w64 (i + (1 : Int))), ()), ())))) | none => none)) else (some (.inl ((pairs, n, (w64 (i + (1 : Int))), ()), ())))))) | none => none)) | none => none)) else (some (.inr (.inr ((), ()))))
noncomputable def spec_l2Pairs : argP spec_l2Pairs_a → obP (extObs 0 spec_l2Pairs_o) → Option spec_l2Pairs_E.P
  | (pairs, n, ()), () => match loopO spec_l2Pairs_B0 ((pairs, n, (0 : Int), ()), ()) with | some (.inl ((t4, ()), ())) => some ((t4, ()), ()) | some (.inr ((), ())) => some ((true, ()), ()) | none => none
noncomputable def spec_l2Pairs_x : Cx := ⟨tab, spec_l2Edge_e, fun _ _ => 0, fun _ => false, [(21, 0), (21, 1), (21, 2), (21, 3), (28, 0), (28, 1), (28, 2), (28, 3), (48, 0), (48, 1), (48, 2), (48, 3)], [(6, 0)]⟩
noncomputable def c71 : Code := bodyOf Try.f71
noncomputable def spec_l2Pairs_A : Ann := .seq .nil (.seq (.seq .nil (.loop spec_l2Pairs_J0 spec_l2Pairs_O0 spec_l2Pairs_B0 (.seq .nil (.seq (.seq .nil (.seq (.draw [(0, .flo), (1, .flo), (2, .flo), (3, .flo), (4, .sole), (5, .flo), (6, .flo), (7, .flo), (9, .flo), (10, .flo), (8, .qui), (11, .sole), (12, .flo), (13, .flo), (14, .flo), (15, .flo), (17, .flo), (16, .qui), (18, .qui), (19, .flo), (20, .flo), (21, .flo), (22, .flo), (23, .flo), (24, .flo), (25, .flo), (26, .flo), (27, .flo), (28, .flo), (29, .qui), (30, .qui), (31, .sole), (32, .flo), (33, .flo), (34, .flo)]) .nil)) .nil)))) .nil)
theorem spec_l2Pairs_r0 (p : spec_l2Pairs_J0.P) : run spec_l2Pairs_x (subc [1, 0, 1, 0, 0] c71) (.seq .nil (.seq (.seq .nil (.seq (.draw [(0, .flo), (1, .flo), (2, .flo), (3, .flo), (4, .sole), (5, .flo), (6, .flo), (7, .flo), (9, .flo), (10, .flo), (8, .qui), (11, .sole), (12, .flo), (13, .flo), (14, .flo), (15, .flo), (17, .flo), (16, .qui), (18, .qui), (19, .flo), (20, .flo), (21, .flo), (22, .flo), (23, .flo), (24, .flo), (25, .flo), (26, .flo), (27, .flo), (28, .flo), (29, .qui), (30, .qui), (31, .sole), (32, .flo), (33, .flo), (34, .flo)]) .nil)) .nil)) (spec_l2Pairs_J0.S p) (leaf spec_l2Pairs_J0 spec_l2Pairs_O0) = spec_l2Pairs_B0 p := by kernel_rfl
noncomputable def spec_l2Pairs_D : Ve.Fn := ⟨71, spec_l2Pairs_a, spec_l2Pairs_o, spec_l2Pairs_E, spec_l2Pairs⟩
theorem spec_l2Pairs_w : Walk Try.prog spec_l2Pairs_x spec_l2Pairs_D Try.f71 c71 52 spec_l2Pairs_A :=
  ⟨⟨Try.func71, by kernel_rfl, by kernel_rfl, by kernel_rfl, by decide, by kernel_rfl, Nat.le_of_ble_eq_true (by kernel_rfl)⟩, by kernel_rfl, by kernel_rfl, by kernel_rfl, kcast (by kernel_rfl) (⟨spec_l2Pairs_r0, trivial⟩ : (∀ p, run spec_l2Pairs_x (subc [1, 0, 1, 0, 0] c71) (.seq .nil (.seq (.seq .nil (.seq (.draw [(0, .flo), (1, .flo), (2, .flo), (3, .flo), (4, .sole), (5, .flo), (6, .flo), (7, .flo), (9, .flo), (10, .flo), (8, .qui), (11, .sole), (12, .flo), (13, .flo), (14, .flo), (15, .flo), (17, .flo), (16, .qui), (18, .qui), (19, .flo), (20, .flo), (21, .flo), (22, .flo), (23, .flo), (24, .flo), (25, .flo), (26, .flo), (27, .flo), (28, .flo), (29, .qui), (30, .qui), (31, .sole), (32, .flo), (33, .flo), (34, .flo)]) .nil)) .nil)) (spec_l2Pairs_J0.S p) (leaf spec_l2Pairs_J0 spec_l2Pairs_O0) = spec_l2Pairs_B0 p) ∧ True), by kernel_rfl, fun x y => by kernel_rfl⟩
theorem spec_l2Pairs_s : spec_l2Pairs_D.Says Try.prog := spec_l2Pairs_w.says follows tabOk spec_l2Edge_e_ok
noncomputable def spec_l2Pairs_e : Env := more spec_l2Edge_e spec_l2Pairs_D
theorem spec_l2Pairs_e_ok : EnvOk Try.prog spec_l2Pairs_e := more_ok spec_l2Edge_e_ok spec_l2Pairs_s
/-! loop.example/g01128/spec.l2Good -/
abbrev spec_l2Good_E : Ve.End := ⟨[⟨2, .shr, .bool, none⟩], []⟩
abbrev spec_l2Good_a : List ASh := [.val (.prod I (.list (.prod I I)))]
abbrev spec_l2Good_o : List OSh := []
noncomputable def spec_l2Good : argP spec_l2Good_a → obP (extObs 0 spec_l2Good_o) → Option spec_l2Good_E.P
  | (g, ()), () => match spec_l1In (g.1, (0 : Int), (8 : Int), ()) () with | some ((r, ()), ()) => (bif r then (match spec_l2Pairs (g.2, g.1, ()) () with | some ((r2, ()), ()) => some ((r2, ()), ()) | none => none) else (some ((false, ()), ()))) | none => none
noncomputable def spec_l2Good_x : Cx := ⟨tab, spec_l2Pairs_e, fun _ _ => 0, fun _ => false, [(5, 0), (5, 1), (5, 2), (5, 3), (11, 0), (11, 1), (11, 2), (11, 3)], [(1, 0)]⟩
noncomputable def c54 : Code := bodyOf Try.f54
noncomputable def spec_l2Good_A : Ann := .nil
noncomputable def spec_l2Good_D : Ve.Fn := ⟨54, spec_l2Good_a, spec_l2Good_o, spec_l2Good_E, spec_l2Good⟩
theorem spec_l2Good_w : Walk Try.prog spec_l2Good_x spec_l2Good_D Try.f54 c54 13 spec_l2Good_A :=
  ⟨⟨Try.func54, by kernel_rfl, by kernel_rfl, by kernel_rfl, by decide, by kernel_rfl, Nat.le_of_ble_eq_true (by kernel_rfl)⟩, by kernel_rfl, by kernel_rfl, by kernel_rfl, kcast (by kernel_rfl) trivial, by kernel_rfl, fun x y => by kernel_rfl⟩
theorem spec_l2Good_s : spec_l2Good_D.Says Try.prog := spec_l2Good_w.says follows tabOk spec_l2Pairs_e_ok
noncomputable def spec_l2Good_e : Env := more spec_l2Pairs_e spec_l2Good_D
theorem spec_l2Good_e_ok : EnvOk Try.prog spec_l2Good_e := more_ok spec_l2Pairs_e_ok spec_l2Good_s
/-! loop.example/g01128/spec.l7Some -/
abbrev spec_l7Some_E : Ve.End := ⟨[⟨2, .shr, .bool, none⟩], []⟩
abbrev spec_l7Some_a : List ASh := [.val (.prod I (.list (.prod I I)))]
abbrev spec_l7Some_o : List OSh := []
noncomputable def spec_l7Some : argP spec_l7Some_a → obP (extObs 0 spec_l7Some_o) → Option spec_l7Some_E.P
  | (g, ()), () => match spec_l2Good (g, ()) () with | some ((r, ()), ()) => (bif r then (some (((decide ((0 : Int) < g.1)), ()), ())) else (some ((false, ()), ()))) | none => none
noncomputable def spec_l7Some_x : Cx := ⟨tab, spec_l2Good_e, fun _ _ => 0, fun _ => false, [(4, 0), (4, 1), (4, 2), (4, 3)], [(1, 0)]⟩
noncomputable def c28 : Code := bodyOf Try.f28
noncomputable def spec_l7Some_A : Ann := .nil
noncomputable def spec_l7Some_D : Ve.Fn := ⟨28, spec_l7Some_a, spec_l7Some_o, spec_l7Some_E, spec_l7Some⟩
theorem spec_l7Some_w : Walk Try.prog spec_l7Some_x spec_l7Some_D Try.f28 c28 10 spec_l7Some_A :=
  ⟨⟨Try.func28, by kernel_rfl, by kernel_rfl, by kernel_rfl, by decide, by kernel_rfl, Nat.le_of_ble_eq_true (by kernel_rfl)⟩, by kernel_rfl, by kernel_rfl, by kernel_rfl, kcast (by kernel_rfl) trivial, by kernel_rfl, fun x y => by kernel_rfl⟩
theorem spec_l7Some_s : spec_l7Some_D.Says Try.prog := spec_l7Some_w.says follows tabOk spec_l2Good_e_ok
noncomputable def spec_l7Some_e : Env := more spec_l2Good_e spec_l7Some_D
theorem spec_l7Some_e_ok : EnvOk Try.prog spec_l7Some_e := more_ok spec_l2Good_e_ok spec_l7Some_s
/-! loop.example/g01128/spec.l5Ask -/
abbrev spec_l5Ask_E : Ve.End := ⟨[⟨4, .shr, .bool, none⟩], []⟩
abbrev spec_l5Ask_a : List ASh := [.val (.prod I (.list (.prod I I))), .val I]
abbrev spec_l5Ask_o : List OSh := []
noncomputable def spec_l5Ask : argP spec_l5Ask_a → obP (extObs 0 spec_l5Ask_o) → Option spec_l5Ask_E.P
  | (g, k, ()), () => match spec_l2Good (g, ()) () with | some ((r, ()), ()) => (bif r then (match spec_l1In (k, (1 : Int), (5 : Int), ()) () with | some ((r2, ()), ()) => some ((r2, ()), ()) | none => none) else (some ((false, ()), ()))) | none => none
noncomputable def spec_l5Ask_x : Cx := ⟨tab, spec_l7Some_e, fun _ _ => 0, fun _ => false, [(6, 0), (6, 1), (6, 2), (6, 3), (9, 0), (9, 1), (9, 2), (9, 3)], [(2, 0)]⟩
noncomputable def c29 : Code := bodyOf Try.f29
noncomputable def spec_l5Ask_A : Ann := .nil
noncomputable def spec_l5Ask_D : Ve.Fn := ⟨29, spec_l5Ask_a, spec_l5Ask_o, spec_l5Ask_E, spec_l5Ask⟩
theorem spec_l5Ask_w : Walk Try.prog spec_l5Ask_x spec_l5Ask_D Try.f29 c29 11 spec_l5Ask_A :=
  ⟨⟨Try.func29, by kernel_rfl, by kernel_rfl, by kernel_rfl, by decide, by kernel_rfl, Nat.le_of_ble_eq_true (by kernel_rfl)⟩, by kernel_rfl, by kernel_rfl, by kernel_rfl, kcast (by kernel_rfl) trivial, by kernel_rfl, fun x y => by kernel_rfl⟩
theorem spec_l5Ask_s : spec_l5Ask_D.Says Try.prog := spec_l5Ask_w.says follows tabOk spec_l7Some_e_ok
noncomputable def spec_l5Ask_e : Env := more spec_l7Some_e spec_l5Ask_D
theorem spec_l5Ask_e_ok : EnvOk Try.prog spec_l5Ask_e := more_ok spec_l7Some_e_ok spec_l5Ask_s
/-! loop.example/g01128/spec.l2Bits -/
abbrev spec_l2Bits_J0 : Tpl := ⟨[(0, .val I), (1, .val I), (5, .own .shr I), (6, .val I)], [], []⟩
abbrev spec_l2Bits_J1 : Tpl := ⟨[(5, .own .shr I)], [], []⟩
abbrev spec_l2Bits_E : Ve.End := ⟨[⟨4, (.own .shr), (.list I), none⟩], []⟩
abbrev spec_l2Bits_a : List ASh := [.val I, .val I]
abbrev spec_l2Bits_o : List OSh := []
abbrev spec_l2Bits_O0 : Out := .one (.ex 0) spec_l2Bits_J1
noncomputable def spec_l2Bits_B0 : spec_l2Bits_J0.P → Option (spec_l2Bits_J0.P ⊕ spec_l2Bits_O0.P)
  | ((n, code, out, x, ()), ()) => bif (decide (x < n)) then (guardB (decide (0 ≤ x)) (bif ((IntKind.wrap .i64 (BitVec.ofInt 64 (Int.fdiv code (2 ^ (min (Int.toNat x) 64))) &&& BitVec.ofInt 64 (1 : Int)).toNat) == (1 : Int)) then (guardB (decide ((List.length out + List.length [x]) * 8 ≤ 70368744177664)) (some (.inl ((n, code, (out ++ [x]), (w64 (x + (1 : Int))), ()), ())))) else (some (.inl ((n, code, out, (w64 (x + (1 : Int))), ()), ()))))) else (some (.inr ((out, ()), ())))
noncomputable def spec_l2Bits : argP spec_l2Bits_a → obP (extObs 0 spec_l2Bits_o) → Option spec_l2Bits_E.P
  | (n, code, ()), () => match loopO spec_l2Bits_B0 ((n, code, ([] : (List Int)), (0 : Int), ()), ()) with | some ((out, ()), ()) => some ((out, ()), ()) | none => none
noncomputable def spec_l2Bits_x : Cx := ⟨tab, spec_l5Ask_e, fun _ _ => 0, fun _ => false, [(20, 0)], []⟩
noncomputable def c56 : Code := bodyOf Try.f56
noncomputable def spec_l2Bits_A : Ann := .seq .nil (.seq .nil (.seq (.seq .nil (.loop spec_l2Bits_J0 spec_l2Bits_O0 spec_l2Bits_B0 .nil)) .nil))
theorem spec_l2Bits_r0 (p : spec_l2Bits_J0.P) : run spec_l2Bits_x (subc [1, 1, 0, 1, 0, 0] c56) .nil (spec_l2Bits_J0.S p) (leaf spec_l2Bits_J0 spec_l2Bits_O0) = spec_l2Bits_B0 p := by kernel_rfl
noncomputable def spec_l2Bits_D : Ve.Fn := ⟨56, spec_l2Bits_a, spec_l2Bits_o, spec_l2Bits_E, spec_l2Bits⟩
theorem spec_l2Bits_w : Walk Try.prog spec_l2Bits_x spec_l2Bits_D Try.f56 c56 23 spec_l2Bits_A :=
  ⟨⟨Try.func56, by kernel_rfl, by kernel_rfl, by kernel_rfl, by decide, by kernel_rfl, Nat.le_of_ble_eq_true (by kernel_rfl)⟩, by kernel_rfl, by kernel_rfl, by kernel_rfl, kcast (by kernel_rfl) (⟨spec_l2Bits_r0, trivial⟩ : (∀ p, run spec_l2Bits_x (subc [1, 1, 0, 1, 0, 0] c56) .nil (spec_l2Bits_J0.S p) (leaf spec_l2Bits_J0 spec_l2Bits_O0) = spec_l2Bits_B0 p) ∧ True), by kernel_rfl, fun x y => by kernel_rfl⟩
theorem spec_l2Bits_s : spec_l2Bits_D.Says Try.prog := spec_l2Bits_w.says follows tabOk spec_l5Ask_e_ok
noncomputable def spec_l2Bits_e : Env := more spec_l5Ask_e spec_l2Bits_D
theorem spec_l2Bits_e_ok : EnvOk Try.prog spec_l2Bits_e := more_ok spec_l5Ask_e_ok spec_l2Bits_s
/-! loop.example/g01128/spec.l9Home -/
abbrev spec_l9Home_E : Ve.End := ⟨[⟨2, (.own .shr), (.list I), none⟩], []⟩
abbrev spec_l9Home_a : List ASh := [.val I]
abbrev spec_l9Home_o : List OSh := []
noncomputable def spec_l9Home : argP spec_l9Home_a → obP (extObs 0 spec_l9Home_o) → Option spec_l9Home_E.P
  | (n, ()), () => guardB (decide (0 ≤ n)) (match spec_l2Bits (n, (w64 ((w64 ((1 : Int) * 2 ^ (min (Int.toNat n) 64))) - (1 : Int))), ()) () with | some ((r, ()), ()) => some ((r, ()), ()) | none => none)
noncomputable def spec_l9Home_x : Cx := ⟨tab, spec_l2Bits_e, fun _ _ => 0, fun _ => false, [(7, 0), (7, 1), (7, 2), (7, 3)], []⟩
noncomputable def c31 : Code := bodyOf Try.f31
noncomputable def spec_l9Home_A : Ann := .nil
noncomputable def spec_l9Home_D : Ve.Fn := ⟨31, spec_l9Home_a, spec_l9Home_o, spec_l9Home_E, spec_l9Home⟩
theorem spec_l9Home_w : Walk Try.prog spec_l9Home_x spec_l9Home_D Try.f31 c31 8 spec_l9Home_A :=
  ⟨⟨Try.func31, by kernel_rfl, by kernel_rfl, by kernel_rfl, by decide, by kernel_rfl, Nat.le_of_ble_eq_true (by kernel_rfl)⟩, by kernel_rfl, by kernel_rfl, by kernel_rfl, kcast (by kernel_rfl) trivial, by kernel_rfl, fun x y => by kernel_rfl⟩
theorem spec_l9Home_s : spec_l9Home_D.Says Try.prog := spec_l9Home_w.says follows tabOk spec_l2Bits_e_ok
noncomputable def spec_l9Home_e : Env := more spec_l2Bits_e spec_l9Home_D
theorem spec_l9Home_e_ok : EnvOk Try.prog spec_l9Home_e := more_ok spec_l2Bits_e_ok spec_l9Home_s
/-! loop.example/g01128/spec.l1Own -/
abbrev spec_l1Own_E : Ve.End := ⟨[⟨2, (.own .shr), (.list I), none⟩], []⟩
abbrev spec_l1Own_a : List ASh := [.val (.list I)]
abbrev spec_l1Own_o : List OSh := []
noncomputable def spec_l1Own : argP spec_l1Own_a → obP (extObs 0 spec_l1Own_o) → Option spec_l1Own_E.P
  | (l, ()), () => guardB (decide ((List.length ([] : (List Int)) + List.length l) * 8 ≤ 70368744177664)) (some (((([] : (List Int)) ++ l), ()), ()))
noncomputable def spec_l1Own_x : Cx := ⟨tab, spec_l9Home_e, fun _ _ => 0, fun _ => false, [], []⟩
noncomputable def c55 : Code := bodyOf Try.f55
noncomputable def spec_l1Own_A : Ann := .nil
noncomputable def spec_l1Own_D : Ve.Fn := ⟨55, spec_l1Own_a, spec_l1Own_o, spec_l1Own_E, spec_l1Own⟩
theorem spec_l1Own_w : Walk Try.prog spec_l1Own_x spec_l1Own_D Try.f55 c55 6 spec_l1Own_A :=
  ⟨⟨Try.func55, by kernel_rfl, by kernel_rfl, by kernel_rfl, by decide, by kernel_rfl, Nat.le_of_ble_eq_true (by kernel_rfl)⟩, by kernel_rfl, by kernel_rfl, by kernel_rfl, kcast (by kernel_rfl) trivial, by kernel_rfl, fun x y => by kernel_rfl⟩
theorem spec_l1Own_s : spec_l1Own_D.Says Try.prog := spec_l1Own_w.says follows tabOk spec_l9Home_e_ok
noncomputable def spec_l1Own_e : Env := more spec_l9Home_e spec_l1Own_D
theorem spec_l1Own_e_ok : EnvOk Try.prog spec_l1Own_e := more_ok spec_l9Home_e_ok spec_l1Own_s
/-! loop.example/g01128/spec.l12Own -/
abbrev spec_l12Own_E : Ve.End := ⟨[⟨2, (.prod (.prod .shr (.own .shr)) (.prod .shr (.prod (.own .shr) (.prod (.own .shr) (.prod (.own .shr) .shr))))), (.prod (.prod I (.list (.prod I I))) (.prod I (.prod (.list I) (.prod (.list I) (.prod (.list I) I))))), some 32⟩], []⟩
abbrev spec_l12Own_a : List ASh := [.val (.prod (.prod I (.list (.prod I I))) (.prod I (.prod (.list I) (.prod (.list I) (.prod (.list I) I)))))]
abbrev spec_l12Own_o : List OSh := []
noncomputable def spec_l12Own : argP spec_l12Own_a → obP (extObs 0 spec_l12Own_o) → Option spec_l12Own_E.P
  | (s, ()), () => guardB (decide ((List.length ([] : (List (Int × Int))) + List.length s.1.2) * 16 ≤ 70368744177664)) (match spec_l1Own (s.2.2.1, ()) () with | some ((r, ()), ()) => (match spec_l1Own (s.2.2.2.1, ()) () with | some ((r2, ()), ()) => (match spec_l1Own (s.2.2.2.2.1, ()) () with | some ((r3, ()), ()) => some ((((s.1.1, (([] : (List (Int × Int))) ++ s.1.2)), (s.2.1, (r, (r2, (r3, s.2.2.2.2.2))))), ()), ()) | none => none) | none => none) | none => none)
noncomputable def spec_l12Own_x : Cx := ⟨tab, spec_l1Own_e, fun _ _ => 0, fun _ => false, [(8, 0), (17, 0), (17, 1), (17, 2), (17, 3), (21, 0), (21, 1), (21, 2), (21, 3), (25, 0), (25, 1), (25, 2), (25, 3)], [(1, 0)]⟩
noncomputable def c30 : Code := bodyOf Try.f30
noncomputable def spec_l12Own_A : Ann := .seq .nil (.seq .nil (.seq (.draw [(0, .flo), (1, .flo), (2, .flo), (4, .flo), (5, .flo), (6, .flo), (3, .sole), (7, .sole), (8, .flo), (9, .flo), (10, .sole)]) .nil))
noncomputable def spec_l12Own_D : Ve.Fn := ⟨30, spec_l12Own_a, spec_l12Own_o, spec_l12Own_E, spec_l12Own⟩
theorem spec_l12Own_w : Walk Try.prog spec_l12Own_x spec_l12Own_D Try.f30 c30 28 spec_l12Own_A :=
  ⟨⟨Try.func30, by kernel_rfl, by kernel_rfl, by kernel_rfl, by decide, by kernel_rfl, Nat.le_of_ble_eq_true (by kernel_rfl)⟩, by kernel_rfl, by kernel_rfl, by kernel_rfl, kcast (by kernel_rfl) trivial, by kernel_rfl, fun x y => by kernel_rfl⟩
theorem spec_l12Own_s : spec_l12Own_D.Says Try.prog := spec_l12Own_w.says follows tabOk spec_l1Own_e_ok
noncomputable def spec_l12Own_e : Env := more spec_l1Own_e spec_l12Own_D
theorem spec_l12Own_e_ok : EnvOk Try.prog spec_l12Own_e := more_ok spec_l1Own_e_ok spec_l12Own_s
/-! loop.example/g01128/spec.NewStudio -/
abbrev spec_NewStudio_E : Ve.End := ⟨[⟨4, (.prod (.prod .shr (.own .shr)) (.prod .shr (.prod (.own .shr) (.prod (.own .shr) (.prod (.own .shr) .shr))))), (.prod (.prod I (.list (.prod I I))) (.prod I (.prod (.list I) (.prod (.list I) (.prod (.list I) I))))), some 32⟩, ⟨5, .shr, .bool, none⟩], []⟩
abbrev spec_NewStudio_a : List ASh := [.val (.prod I (.list (.prod I I))), .val I]
abbrev spec_NewStudio_o : List OSh := []
noncomputable def spec_NewStudio : argP spec_NewStudio_a → obP (extObs 0 spec_NewStudio_o) → Option spec_NewStudio_E.P
  | (g, kinds, ()), () => match spec_l7Some (g, ()) () with | some ((r, ()), ()) => (bif (!r) then (some (((((0 : Int), ([] : (List (Int × Int)))), ((0 : Int), (([] : (List Int)), (([] : (List Int)), (([] : (List Int)), (0 : Int)))))), false, ()), ())) else (bif (decide ((6 : Int) < g.1)) then (some (((((0 : Int), ([] : (List (Int × Int)))), ((0 : Int), (([] : (List Int)), (([] : (List Int)), (([] : (List Int)), (0 : Int)))))), false, ()), ())) else (match spec_l5Ask (g, kinds, ()) () with | some ((r2, ()), ()) => (bif (!r2) then (some (((((0 : Int), ([] : (List (Int × Int)))), ((0 : Int), (([] : (List Int)), (([] : (List Int)), (([] : (List Int)), (0 : Int)))))), false, ()), ())) else (match spec_l9Home (g.1, ()) () with | some ((r3, ()), ()) => (match spec_l12Own ((g, (kinds, (([] : (List Int)), (([] : (List Int)), (r3, (0 : Int)))))), ()) () with | some ((r4, ()), ()) => some ((((r4.1.1, r4.1.2), (r4.2.1, (r4.2.2.1, (r4.2.2.2.1, (r4.2.2.2.2.1, r4.2.2.2.2.2))))), true, ()), ()) | none => none) | none => none)) | none => none))) | none => none
noncomputable def spec_NewStudio_x : Cx := ⟨tab, spec_l12Own_e, fun _ _ => 0, fun _ => false, [(7, 0), (7, 1), (7, 2), (7, 3), (17, 0), (17, 1), (17, 2), (17, 3), (25, 0), (25, 1), (25, 2), (25, 3)], [(2, 0)]⟩
noncomputable def c11 : Code := bodyOf Try.f11
noncomputable def spec_NewStudio_A : Ann := .seq .nil (.seq .nil (.seq (.draw [(0, .flo), (1, .flo), (2, .flo), (3, .flo), (4, .sole), (5, .flo), (6, .sole), (7, .sole), (8, .flo)]) .nil))
noncomputable def spec_NewStudio_D : Ve.Fn := ⟨11, spec_NewStudio_a, spec_NewStudio_o, spec_NewStudio_E, spec_NewStudio⟩
theorem spec_NewStudio_w : Walk Try.prog spec_NewStudio_x spec_NewStudio_D Try.f11 c11 28 spec_NewStudio_A :=
  ⟨⟨Try.func11, by kernel_rfl, by kernel_rfl, by kernel_rfl, by decide, by kernel_rfl, Nat.le_of_ble_eq_true (by kernel_rfl)⟩, by kernel_rfl, by kernel_rfl, by kernel_rfl, kcast (by kernel_rfl) trivial, by kernel_rfl, fun x y => by kernel_rfl⟩
theorem spec_NewStudio_s : spec_NewStudio_D.Says Try.prog := spec_NewStudio_w.says follows tabOk spec_l12Own_e_ok
noncomputable def spec_NewStudio_e : Env := more spec_l12Own_e spec_NewStudio_D
theorem spec_NewStudio_e_ok : EnvOk Try.prog spec_NewStudio_e := more_ok spec_l12Own_e_ok spec_NewStudio_s
/-! loop.example/g01128/impl.between -/
abbrev impl_between_E : Ve.End := ⟨[⟨6, .shr, .bool, none⟩], []⟩
abbrev impl_between_a : List ASh := [.val I, .val I, .val I]
abbrev impl_between_o : List OSh := []
noncomputable def impl_between : argP impl_between_a → obP (extObs 0 impl_between_o) → Option impl_between_E.P
  | (n, low, high, ()), () => bif (decide (low ≤ n)) then (some (((decide (n ≤ high)), ()), ())) else (some ((false, ()), ()))
noncomputable def impl_between_x : Cx := ⟨tab, spec_NewStudio_e, fun _ _ => 0, fun _ => false, [], []⟩
noncomputable def c21 : Code := bodyOf Try.f21
noncomputable def impl_between_A : Ann := .nil
noncomputable def impl_between_D : Ve.Fn := ⟨21, impl_between_a, impl_between_o, impl_between_E, impl_between⟩
theorem impl_between_w : Walk Try.prog impl_between_x impl_between_D Try.f21 c21 15 impl_between_A :=
  ⟨⟨Try.func21, by kernel_rfl, by kernel_rfl, by kernel_rfl, by decide, by kernel_rfl, Nat.le_of_ble_eq_true (by kernel_rfl)⟩, by kernel_rfl, by kernel_rfl, by kernel_rfl, kcast (by kernel_rfl) trivial, by kernel_rfl, fun x y => by kernel_rfl⟩
theorem impl_between_s : impl_between_D.Says Try.prog := impl_between_w.says follows tabOk spec_NewStudio_e_ok
noncomputable def impl_between_e : Env := more spec_NewStudio_e impl_between_D
theorem impl_between_e_ok : EnvOk Try.prog impl_between_e := more_ok spec_NewStudio_e_ok impl_between_s
/-! cmp.isNaN[int] -/
abbrev cmp_isNaN_int_E : Ve.End := ⟨[⟨2, .shr, .bool, none⟩], []⟩
abbrev cmp_isNaN_int_a : List ASh := [.val I]
abbrev cmp_isNaN_int_o : List OSh := []
noncomputable def cmp_isNaN_int : argP cmp_isNaN_int_a → obP (extObs 0 cmp_isNaN_int_o) → Option cmp_isNaN_int_E.P
  | (x, ()), () => some (((x != x), ()), ())
noncomputable def cmp_isNaN_int_x : Cx := ⟨tab, impl_between_e, fun _ _ => 0, fun _ => false, [], []⟩
noncomputable def c82 : Code := bodyOf Try.f82
noncomputable def cmp_isNaN_int_A : Ann := .nil
noncomputable def cmp_isNaN_int_D : Ve.Fn := ⟨82, cmp_isNaN_int_a, cmp_isNaN_int_o, cmp_isNaN_int_E, cmp_isNaN_int⟩
theorem cmp_isNaN_int_w : Walk Try.prog cmp_isNaN_int_x cmp_isNaN_int_D Try.f82 c82 6 cmp_isNaN_int_A :=
  ⟨⟨Try.func82, by kernel_rfl, by kernel_rfl, by kernel_rfl, by decide, by kernel_rfl, Nat.le_of_ble_eq_true (by kernel_rfl)⟩, by kernel_rfl, by kernel_rfl, by kernel_rfl, kcast (by kernel_rfl) trivial, by kernel_rfl, fun x y => by kernel_rfl⟩
theorem cmp_isNaN_int_s : cmp_isNaN_int_D.Says Try.prog := cmp_isNaN_int_w.says follows tabOk impl_between_e_ok
noncomputable def cmp_isNaN_int_e : Env := more impl_between_e cmp_isNaN_int_D
theorem cmp_isNaN_int_e_ok : EnvOk Try.prog cmp_isNaN_int_e := more_ok impl_between_e_ok cmp_isNaN_int_s
/-! cmp.Compare[int] -/
abbrev cmp_Compare_int_E : Ve.End := ⟨[⟨4, .shr, I, none⟩], []⟩
abbrev cmp_Compare_int_a : List ASh := [.val I, .val I]
abbrev cmp_Compare_int_o : List OSh := []
noncomputable def cmp_Compare_int : argP cmp_Compare_int_a → obP (extObs 0 cmp_Compare_int_o) → Option cmp_Compare_int_E.P
  | (x, y, ()), () => match cmp_isNaN_int (x, ()) () with | some ((r, ()), ()) => (match cmp_isNaN_int (y, ()) () with | some ((r2, ()), ()) => (bif r then (bif r2 then (some (((0 : Int), ()), ())) else (some (((-1 : Int), ()), ()))) else (bif r2 then (some (((1 : Int), ()), ())) else (bif (decide (x < y)) then (some (((-1 : Int), ()), ())) else (bif (decide (y < x)) then (some (((1 : Int), ()), ())) else (some (((0 : Int), ()), ())))))) | none => none) | none => none
noncomputable def cmp_Compare_int_x : Cx := ⟨tab, cmp_isNaN_int_e, fun _ _ => 0, fun _ => false, [(8, 0), (8, 1), (8, 2), (8, 3), (10, 0), (10, 1), (10, 2), (10, 3)], []⟩
noncomputable def c78 : Code := bodyOf Try.f78
noncomputable def cmp_Compare_int_A : Ann := .nil
noncomputable def cmp_Compare_int_D : Ve.Fn := ⟨78, cmp_Compare_int_a, cmp_Compare_int_o, cmp_Compare_int_E, cmp_Compare_int⟩
theorem cmp_Compare_int_w : Walk Try.prog cmp_Compare_int_x cmp_Compare_int_D Try.f78 c78 20 cmp_Compare_int_A :=
  ⟨⟨Try.func78, by kernel_rfl, by kernel_rfl, by kernel_rfl, by decide, by kernel_rfl, Nat.le_of_ble_eq_true (by kernel_rfl)⟩, by kernel_rfl, by kernel_rfl, by kernel_rfl, kcast (by kernel_rfl) trivial, by kernel_rfl, fun x y => by kernel_rfl⟩
theorem cmp_Compare_int_s : cmp_Compare_int_D.Says Try.prog := cmp_Compare_int_w.says follows tabOk cmp_isNaN_int_e_ok
noncomputable def cmp_Compare_int_e : Env := more cmp_isNaN_int_e cmp_Compare_int_D
theorem cmp_Compare_int_e_ok : EnvOk Try.prog cmp_Compare_int_e := more_ok cmp_isNaN_int_e_ok cmp_Compare_int_s
/-! cmp.Or[int] -/
abbrev cmp_Or_int_J0 : Tpl := ⟨[(3, .val I), (6, .val (.list I)), (7, .val I), (8, .val I)], [], []⟩
abbrev cmp_Or_int_J1 : Tpl := ⟨[(2, .val I)], [], []⟩
abbrev cmp_Or_int_J2 : Tpl := ⟨[(3, .val I)], [], []⟩
abbrev cmp_Or_int_E : Ve.End := ⟨[⟨2, .shr, I, none⟩], []⟩
abbrev cmp_Or_int_a : List ASh := [.val (.list I)]
abbrev cmp_Or_int_o : List OSh := []
abbrev cmp_Or_int_O0 : Out := .or .ret cmp_Or_int_J1 (.one (.ex 0) cmp_Or_int_J2)
noncomputable def cmp_Or_int_B0 : cmp_Or_int_J0.P → Option (cmp_Or_int_J0.P ⊕ cmp_Or_int_O0.P)
  | ((zero_, t6, t7, t8, ()), ()) => bif (decide (t8 < t7)) then (guardB (inb t8 (List.length t6)) (bif ((List.getD t6 (Int.toNat t8) (0 : Int)) != zero_) then (some (.inr (.inl (((List.getD t6 (Int.toNat t8) (0 : Int)), ()), ())))) else (some (.inl ((zero_, t6, t7, (w64 (t8 + (1 : Int))), ()), ()))))) else (some (.inr (.inr ((zero_, ()), ()))))
noncomputable def cmp_Or_int : argP cmp_Or_int_a → obP (extObs 0 cmp_Or_int_o) → Option cmp_Or_int_E.P
  | (vals, ()), () => match loopO cmp_Or_int_B0 (((0 : Int), vals, (List.length vals : Int), (0 : Int), ()), ()) with | some (.inl ((t2, ()), ())) => some ((t2, ()), ()) | some (.inr ((zero_, ()), ())) => some ((zero_, ()), ()) | none => none
noncomputable def cmp_Or_int_x : Cx := ⟨tab, cmp_Compare_int_e, fun _ _ => 0, fun _ => false, [], []⟩
noncomputable def c77 : Code := bodyOf Try.f77
noncomputable def cmp_Or_int_A : Ann := .seq .nil (.seq .nil (.seq (.seq .nil (.loop cmp_Or_int_J0 cmp_Or_int_O0 cmp_Or_int_B0 .nil)) .nil))
theorem cmp_Or_int_r0 (p : cmp_Or_int_J0.P) : run cmp_Or_int_x (subc [1, 1, 0, 1, 0, 0] c77) .nil (cmp_Or_int_J0.S p) (leaf cmp_Or_int_J0 cmp_Or_int_O0) = cmp_Or_int_B0 p := by kernel_rfl
noncomputable def cmp_Or_int_D : Ve.Fn := ⟨77, cmp_Or_int_a, cmp_Or_int_o, cmp_Or_int_E, cmp_Or_int⟩
theorem cmp_Or_int_w : Walk Try.prog cmp_Or_int_x cmp_Or_int_D Try.f77 c77 18 cmp_Or_int_A :=
  ⟨⟨Try.func77, by kernel_rfl, by kernel_rfl, by kernel_rfl, by decide, by kernel_rfl, Nat.le_of_ble_eq_true (by kernel_rfl)⟩, by kernel_rfl, by kernel_rfl, by kernel_rfl, kcast (by kernel_rfl) (⟨cmp_Or_int_r0, trivial⟩ : (∀ p, run cmp_Or_int_x (subc [1, 1, 0, 1, 0, 0] c77) .nil (cmp_Or_int_J0.S p) (leaf cmp_Or_int_J0 cmp_Or_int_O0) = cmp_Or_int_B0 p) ∧ True), by kernel_rfl, fun x y => by kernel_rfl⟩
theorem cmp_Or_int_s : cmp_Or_int_D.Says Try.prog := cmp_Or_int_w.says follows tabOk cmp_Compare_int_e_ok
noncomputable def cmp_Or_int_e : Env := more cmp_Compare_int_e cmp_Or_int_D
theorem cmp_Or_int_e_ok : EnvOk Try.prog cmp_Or_int_e := more_ok cmp_Compare_int_e_ok cmp_Or_int_s
/-! loop.example/g01128/impl.comparePairs -/
abbrev impl_comparePairs_E : Ve.End := ⟨[⟨4, .shr, I, none⟩], []⟩
abbrev impl_comparePairs_a : List ASh := [.val (.prod I I), .val (.prod I I)]
abbrev impl_comparePairs_o : List OSh := []
noncomputable def impl_comparePairs : argP impl_comparePairs_a → obP (extObs 0 impl_comparePairs_o) → Option impl_comparePairs_E.P
  | (a, b, ()), () => match cmp_Compare_int (a.1, b.1, ()) () with | some ((r, ()), ()) => (match cmp_Compare_int (a.2, b.2, ()) () with | some ((r2, ()), ()) => (match cmp_Or_int ([r, r2], ()) () with | some ((r3, ()), ()) => some ((r3, ()), ()) | none => none) | none => none) | none => none
noncomputable def impl_comparePairs_x : Cx := ⟨tab, cmp_Or_int_e, fun _ _ => 0, fun _ => false, [(9, 0), (9, 1), (9, 2), (9, 3), (14, 0), (14, 1), (14, 2), (14, 3), (15, 0), (16, 0), (16, 1), (16, 2), (16, 3)], [(2, 0), (3, 0)]⟩
noncomputable def c72 : Code := bodyOf Try.f72
noncomputable def impl_comparePairs_A : Ann := .seq .nil (.seq (.draw [(0, .flo), (1, .flo), (2, .flo), (3, .flo), (5, .flo), (6, .flo), (7, .flo), (8, .flo), (4, .sole), (9, .sole), (10, .sole), (11, .sole), (12, .flo)]) .nil)
noncomputable def impl_comparePairs_D : Ve.Fn := ⟨72, impl_comparePairs_a, impl_comparePairs_o, impl_comparePairs_E, impl_comparePairs⟩
theorem impl_comparePairs_w : Walk Try.prog impl_comparePairs_x impl_comparePairs_D Try.f72 c72 17 impl_comparePairs_A :=
  ⟨⟨Try.func72, by kernel_rfl, by kernel_rfl, by kernel_rfl, by decide, by kernel_rfl, Nat.le_of_ble_eq_true (by kernel_rfl)⟩, by kernel_rfl, by kernel_rfl, by kernel_rfl, kcast (by kernel_rfl) trivial, by kernel_rfl, fun x y => by kernel_rfl⟩
theorem impl_comparePairs_s : impl_comparePairs_D.Says Try.prog := impl_comparePairs_w.says follows tabOk cmp_Or_int_e_ok
noncomputable def impl_comparePairs_e : Env := more cmp_Or_int_e impl_comparePairs_D
theorem impl_comparePairs_e_ok : EnvOk Try.prog impl_comparePairs_e := more_ok cmp_Or_int_e_ok impl_comparePairs_s
/-! loop.example/g01128/impl.isPairs -/
abbrev impl_isPairs_J0 : Tpl := ⟨[(0, .val (.list (.prod I I))), (1, .val I), (7, .val (.list (.prod I I))), (8, .val I), (9, .val I)], [], []⟩
abbrev impl_isPairs_J1 : Tpl := ⟨[(4, .val .bool)], [], []⟩
abbrev impl_isPairs_J2 : Tpl := ⟨[], [], []⟩
abbrev impl_isPairs_E : Ve.End := ⟨[⟨4, .shr, .bool, none⟩], []⟩
abbrev impl_isPairs_a : List ASh := [.val (.list (.prod I I)), .val I]
abbrev impl_isPairs_o : List OSh := []
abbrev impl_isPairs_O0 : Out := .or .ret impl_isPairs_J1 (.one (.ex 0) impl_isPairs_J2)
noncomputable def impl_isPairs_B0 : impl_isPairs_J0.P → Option (impl_isPairs_J0.P ⊕ impl_isPairs_O0.P)
  | ((list, below, t7, t8, t9, ()), ()) => bif (decide (t9 < t8)) then (guardB (inb t9 (List.length t7)) (bif (decide (((List.getD t7 (Int.toNat t9) ((0 : Int), (0 : Int))).1) < (0 : Int))) then (some (.inr (.inl ((false, ()), ())))) else (bif (decide (((List.getD t7 (Int.toNat t9) ((0 : Int), (0 : Int))).2) ≤ ((List.getD t7 (Int.toNat t9) ((0 : Int), (0 : Int))).1))) then (some (.inr (.inl ((false, ()), ())))) else (bif (decide (below ≤ ((List.getD t7 (Int.toNat t9) ((0 : Int), (0 : Int))).2))) then (some (.inr (.inl ((false, ()), ())))) else (bif (decide ((0 : Int) < t9)) then (guardB (inb (w64 (t9 - (1 : Int))) (List.length list)) (match impl_comparePairs ((List.getD list (Int.toNat (w64 (t9 - (1 : Int)))) ((0 : Int), (0 : Int))), (List.getD t7 (Int.toNat t9) ((0 : Int), (0 : Int))), ()) () with | some ((r, ()), ()) => (bif (decide ((0 : Int) ≤ r)) then (some (.inr (.inl ((false, ()), ())))) else (some (.inl ((list, below, t7, t8, (w64 (t9 + (1 : Int))), ()), ())))) | none => none)) else (some (.inl ((list, below, t7, t8, (w64 (t9 + (1 : Int))), ()), ())))))))) else (some (.inr (.inr ((), ()))))
noncomputable def impl_isPairs : argP impl_isPairs_a → obP (extObs 0 impl_isPairs_o) → Option impl_isPairs_E.P
  | (list, below, ()), () => match loopO impl_isPairs_B0 ((list, below, list, (List.length list : Int), (0 : Int), ()), ()) with | some (.inl ((t4, ()), ())) => some ((t4, ()), ()) | some (.inr ((), ())) => some ((true, ()), ()) | none => none
noncomputable def impl_isPairs_x : Cx := ⟨tab, impl_comparePairs_e, fun _ _ => 0, fun _ => false, [(40, 0), (40, 1), (40, 2), (40, 3)], [(6, 0)]⟩
noncomputable def c58 : Code := bodyOf Try.f58
noncomputable def impl_isPairs_A : Ann := .seq .nil (.seq (.seq .nil (.loop impl_isPairs_J0 impl_isPairs_O0 impl_isPairs_B0 (.seq .nil (.seq .nil (.seq (.seq .nil (.seq (.draw [(0, .flo), (1, .flo), (2, .flo), (3, .flo), (4, .flo), (6, .flo), (5, .qui), (7, .qui), (8, .flo), (9, .flo), (10, .flo), (11, .flo), (13, .flo), (12, .qui), (14, .flo), (15, .flo), (16, .flo), (17, .flo), (18, .flo), (19, .flo), (20, .flo), (21, .flo), (22, .flo), (23, .flo), (24, .qui), (25, .qui), (26, .sole), (27, .flo), (28, .flo), (29, .flo)]) .nil)) .nil))))) .nil)
theorem impl_isPairs_r0 (p : impl_isPairs_J0.P) : run impl_isPairs_x (subc [1, 0, 1, 0, 0] c58) (.seq .nil (.seq .nil (.seq (.seq .nil (.seq (.draw [(0, .flo), (1, .flo), (2, .flo), (3, .flo), (4, .flo), (6, .flo), (5, .qui), (7, .qui), (8, .flo), (9, .flo), (10, .flo), (11, .flo), (13, .flo), (12, .qui), (14, .flo), (15, .flo), (16, .flo), (17, .flo), (18, .flo), (19, .flo), (20, .flo), (21, .flo), (22, .flo), (23, .flo), (24, .qui), (25, .qui), (26, .sole), (27, .flo), (28, .flo), (29, .flo)]) .nil)) .nil))) (impl_isPairs_J0.S p) (leaf impl_isPairs_J0 impl_isPairs_O0) = impl_isPairs_B0 p := by kernel_rfl
noncomputable def impl_isPairs_D : Ve.Fn := ⟨58, impl_isPairs_a, impl_isPairs_o, impl_isPairs_E, impl_isPairs⟩
theorem impl_isPairs_w : Walk Try.prog impl_isPairs_x impl_isPairs_D Try.f58 c58 45 impl_isPairs_A :=
  ⟨⟨Try.func58, by kernel_rfl, by kernel_rfl, by kernel_rfl, by decide, by kernel_rfl, Nat.le_of_ble_eq_true (by kernel_rfl)⟩, by kernel_rfl, by kernel_rfl, by kernel_rfl, kcast (by kernel_rfl) (⟨impl_isPairs_r0, trivial⟩ : (∀ p, run impl_isPairs_x (subc [1, 0, 1, 0, 0] c58) (.seq .nil (.seq .nil (.seq (.seq .nil (.seq (.draw [(0, .flo), (1, .flo), (2, .flo), (3, .flo), (4, .flo), (6, .flo), (5, .qui), (7, .qui), (8, .flo), (9, .flo), (10, .flo), (11, .flo), (13, .flo), (12, .qui), (14, .flo), (15, .flo), (16, .flo), (17, .flo), (18, .flo), (19, .flo), (20, .flo), (21, .flo), (22, .flo), (23, .flo), (24, .qui), (25, .qui), (26, .sole), (27, .flo), (28, .flo), (29, .flo)]) .nil)) .nil))) (impl_isPairs_J0.S p) (leaf impl_isPairs_J0 impl_isPairs_O0) = impl_isPairs_B0 p) ∧ True), by kernel_rfl, fun x y => by kernel_rfl⟩
theorem impl_isPairs_s : impl_isPairs_D.Says Try.prog := impl_isPairs_w.says follows tabOk impl_comparePairs_e_ok
noncomputable def impl_isPairs_e : Env := more impl_comparePairs_e impl_isPairs_D
theorem impl_isPairs_e_ok : EnvOk Try.prog impl_isPairs_e := more_ok impl_comparePairs_e_ok impl_isPairs_s
/-! loop.example/g01128/impl.IsGraph -/
abbrev impl_IsGraph_E : Ve.End := ⟨[⟨2, .shr, .bool, none⟩], []⟩
abbrev impl_IsGraph_a : List ASh := [.val (.prod I (.list (.prod I I)))]
abbrev impl_IsGraph_o : List OSh := []
noncomputable def impl_IsGraph : argP impl_IsGraph_a → obP (extObs 0 impl_IsGraph_o) → Option impl_IsGraph_E.P
  | (g, ()), () => match impl_between (g.1, (0 : Int), (8 : Int), ()) () with | some ((r, ()), ()) => (bif r then (match impl_isPairs (g.2, g.1, ()) () with | some ((r2, ()), ()) => some ((r2, ()), ()) | none => none) else (some ((false, ()), ()))) | none => none
noncomputable def impl_IsGraph_x : Cx := ⟨tab, impl_isPairs_e, fun _ _ => 0, fun _ => false, [(5, 0), (5, 1), (5, 2), (5, 3), (11, 0), (11, 1), (11, 2), (11, 3)], [(1, 0)]⟩
noncomputable def c33 : Code := bodyOf Try.f33
noncomputable def impl_IsGraph_A : Ann := .nil
noncomputable def impl_IsGraph_D : Ve.Fn := ⟨33, impl_IsGraph_a, impl_IsGraph_o, impl_IsGraph_E, impl_IsGraph⟩
theorem impl_IsGraph_w : Walk Try.prog impl_IsGraph_x impl_IsGraph_D Try.f33 c33 13 impl_IsGraph_A :=
  ⟨⟨Try.func33, by kernel_rfl, by kernel_rfl, by kernel_rfl, by decide, by kernel_rfl, Nat.le_of_ble_eq_true (by kernel_rfl)⟩, by kernel_rfl, by kernel_rfl, by kernel_rfl, kcast (by kernel_rfl) trivial, by kernel_rfl, fun x y => by kernel_rfl⟩
theorem impl_IsGraph_s : impl_IsGraph_D.Says Try.prog := impl_IsGraph_w.says follows tabOk impl_isPairs_e_ok
noncomputable def impl_IsGraph_e : Env := more impl_isPairs_e impl_IsGraph_D
theorem impl_IsGraph_e_ok : EnvOk Try.prog impl_IsGraph_e := more_ok impl_isPairs_e_ok impl_IsGraph_s
/-! loop.example/g01128/impl.home -/
abbrev impl_home_J0 : Tpl := ⟨[(3, .own .shr I), (6, .val I), (7, .val I)], [], []⟩
abbrev impl_home_J1 : Tpl := ⟨[(3, .own .shr I)], [], []⟩
abbrev impl_home_E : Ve.End := ⟨[⟨2, (.own .shr), (.list I), none⟩], []⟩
abbrev impl_home_a : List ASh := [.val I]
abbrev impl_home_o : List OSh := []
abbrev impl_home_O0 : Out := .one (.ex 0) impl_home_J1
noncomputable def impl_home_B0 : impl_home_J0.P → Option (impl_home_J0.P ⊕ impl_home_O0.P)
  | ((out, t6, t7, ()), ()) => bif (decide (t7 < t6)) then (guardB (decide ((List.length out + List.length [t7]) * 8 ≤ 70368744177664)) (some (.inl (((out ++ [t7]), t6, (w64 (t7 + (1 : Int))), ()), ())))) else (some (.inr ((out, ()), ())))
noncomputable def impl_home : argP impl_home_a → obP (extObs 0 impl_home_o) → Option impl_home_E.P
  | (n, ()), () => match loopO impl_home_B0 ((([] : (List Int)), n, (0 : Int), ()), ()) with | some ((out, ()), ()) => some ((out, ()), ()) | none => none
noncomputable def impl_home_x : Cx := ⟨tab, impl_IsGraph_e, fun _ _ => 0, fun _ => false, [(12, 0)], []⟩
noncomputable def c35 : Code := bodyOf Try.f35
noncomputable def impl_home_A : Ann := .seq .nil (.seq .nil (.seq (.seq .nil (.loop impl_home_J0 impl_home_O0 impl_home_B0 .nil)) .nil))
theorem impl_home_r0 (p : impl_home_J0.P) : run impl_home_x (subc [1, 1, 0, 1, 0, 0] c35) .nil (impl_home_J0.S p) (leaf impl_home_J0 impl_home_O0) = impl_home_B0 p := by kernel_rfl
noncomputable def impl_home_D : Ve.Fn := ⟨35, impl_home_a, impl_home_o, impl_home_E, impl_home⟩
theorem impl_home_w : Walk Try.prog impl_home_x impl_home_D Try.f35 c35 16 impl_home_A :=
  ⟨⟨Try.func35, by kernel_rfl, by kernel_rfl, by kernel_rfl, by decide, by kernel_rfl, Nat.le_of_ble_eq_true (by kernel_rfl)⟩, by kernel_rfl, by kernel_rfl, by kernel_rfl, kcast (by kernel_rfl) (⟨impl_home_r0, trivial⟩ : (∀ p, run impl_home_x (subc [1, 1, 0, 1, 0, 0] c35) .nil (impl_home_J0.S p) (leaf impl_home_J0 impl_home_O0) = impl_home_B0 p) ∧ True), by kernel_rfl, fun x y => by kernel_rfl⟩
theorem impl_home_s : impl_home_D.Says Try.prog := impl_home_w.says follows tabOk impl_IsGraph_e_ok
noncomputable def impl_home_e : Env := more impl_IsGraph_e impl_home_D
theorem impl_home_e_ok : EnvOk Try.prog impl_home_e := more_ok impl_IsGraph_e_ok impl_home_s
noncomputable def slices_Clone_2_int_2_int_e : Env := more impl_home_e (clone2Fn 59)
theorem slices_Clone_2_int_2_int_e_ok : EnvOk Try.prog slices_Clone_2_int_2_int_e := more_ok impl_home_e_ok clone2_s
noncomputable abbrev slices_Clone_2_int_2_int := (clone2Fn 59).F
noncomputable def slices_Clone_int_int_e : Env := more slices_Clone_2_int_2_int_e (cloneFn 60)
theorem slices_Clone_int_int_e_ok : EnvOk Try.prog slices_Clone_int_int_e := more_ok slices_Clone_2_int_2_int_e_ok clone_s
noncomputable abbrev slices_Clone_int_int := (cloneFn 60).F
/-! (loop.example/g01128/impl.Studio).copied -/
abbrev impl_Studio_copied_opspsp1p1p1s_J0 : Tpl := ⟨[(1, .ptr (1, 0)), (2, .ptr (2, 0))], [((1, 0), .box (.prod (.prod .shr (.own .shr)) (.prod .shr (.prod (.own .shr) (.prod (.own .shr) (.prod (.own .shr) .shr))))) (.prod (.prod I (.list (.prod I I))) (.prod I (.prod (.list I) (.prod (.list I) (.prod (.list I) I)))))), ((2, 0), .box (.prod (.prod .shr (.own .shr)) (.prod .shr (.prod (.own .shr) (.prod (.own .shr) (.prod (.own .shr) .shr))))) (.prod (.prod I (.list (.prod I I))) (.prod I (.prod (.list I) (.prod (.list I) (.prod (.list I) I))))))], []⟩
abbrev impl_Studio_copied_opspsp1p1p1s_J1 : Tpl := ⟨[(1, .ptr (1, 0)), (2, .ptr (2, 0)), (10, .same (1, 0) [.snd, .snd, .fst]), (12, .adp (1, 0) [.snd, .snd, .snd, .fst]), (15, .adp (1, 0) [.snd, .snd, .snd, .snd, .fst])], [((1, 0), .box (.prod (.prod .shr (.own .shr)) (.prod .shr (.prod (.own .shr) (.prod (.own .shr) (.prod (.own .shr) .shr))))) (.prod (.prod I (.list (.prod I I))) (.prod I (.prod (.list I) (.prod (.list I) (.prod (.list I) I)))))), ((2, 0), .box (.prod (.prod .shr (.own .shr)) (.prod .shr (.prod (.own .shr) (.prod (.own .shr) (.prod (.own .shr) .shr))))) (.prod (.prod I (.list (.prod I I))) (.prod I (.prod (.list I) (.prod (.list I) (.prod (.list I) I))))))], []⟩
abbrev impl_Studio_copied_opspsp1p1p1s_J2 : Tpl := ⟨[(1, .ptr (1, 0)), (2, .ptr (2, 0)), (11, .own .shr I), (13, .same (1, 0) [.snd, .snd, .snd, .fst]), (15, .adp (1, 0) [.snd, .snd, .snd, .snd, .fst])], [((1, 0), .box (.prod (.prod .shr (.own .shr)) (.prod .shr (.prod (.own .shr) (.prod (.own .shr) (.prod (.own .shr) .shr))))) (.prod (.prod I (.list (.prod I I))) (.prod I (.prod (.list I) (.prod (.list I) (.prod (.list I) I)))))), ((2, 0), .box (.prod (.prod .shr (.own .shr)) (.prod .shr (.prod (.own .shr) (.prod (.own .shr) (.prod (.own .shr) .shr))))) (.prod (.prod I (.list (.prod I I))) (.prod I (.prod (.list I) (.prod (.list I) (.prod (.list I) I))))))], []⟩
abbrev impl_Studio_copied_opspsp1p1p1s_J3 : Tpl := ⟨[(1, .ptr (1, 0)), (2, .ptr (2, 0)), (10, .same (1, 0) [.snd, .snd, .fst]), (13, .same (1, 0) [.snd, .snd, .snd, .fst]), (15, .adp (1, 0) [.snd, .snd, .snd, .snd, .fst])], [((1, 0), .box (.prod (.prod .shr (.own .shr)) (.prod .shr (.prod (.own .shr) (.prod (.own .shr) (.prod (.own .shr) .shr))))) (.prod (.prod I (.list (.prod I I))) (.prod I (.prod (.list I) (.prod (.list I) (.prod (.list I) I)))))), ((2, 0), .box (.prod (.prod .shr (.own .shr)) (.prod .shr (.prod (.own .shr) (.prod (.own .shr) (.prod (.own .shr) .shr))))) (.prod (.prod I (.list (.prod I I))) (.prod I (.prod (.list I) (.prod (.list I) (.prod (.list I) I))))))], []⟩
abbrev impl_Studio_copied_opspsp1p1p1s_J4 : Tpl := ⟨[(1, .ptr (1, 0)), (2, .ptr (2, 0)), (10, .same (1, 0) [.snd, .snd, .fst]), (12, .adp (1, 0) [.snd, .snd, .snd, .fst]), (16, .same (1, 0) [.snd, .snd, .snd, .snd, .fst])], [((1, 0), .box (.prod (.prod .shr (.own .shr)) (.prod .shr (.prod (.own .shr) (.prod (.own .shr) (.prod (.own .shr) .shr))))) (.prod (.prod I (.list (.prod I I))) (.prod I (.prod (.list I) (.prod (.list I) (.prod (.list I) I)))))), ((2, 0), .box (.prod (.prod .shr (.own .shr)) (.prod .shr (.prod (.own .shr) (.prod (.own .shr) (.prod (.own .shr) .shr))))) (.prod (.prod I (.list (.prod I I))) (.prod I (.prod (.list I) (.prod (.list I) (.prod (.list I) I))))))], []⟩
abbrev impl_Studio_copied_opspsp1p1p1s_E : Ve.End := ⟨[⟨2, (.prod (.prod .shr (.own .shr)) (.prod .shr (.prod (.own .shr) (.prod (.own .shr) (.prod (.own .shr) .shr))))), (.prod (.prod I (.list (.prod I I))) (.prod I (.prod (.list I) (.prod (.list I) (.prod (.list I) I))))), some 32⟩], []⟩
abbrev impl_Studio_copied_opspsp1p1p1s_a : List ASh := [.own (.prod .shr (.prod .shr (.prod (.own .shr) (.prod (.own .shr) (.prod (.own .shr) .shr))))) (.prod (.prod I (.list (.prod I I))) (.prod I (.prod (.list I) (.prod (.list I) (.prod (.list I) I)))))]
abbrev impl_Studio_copied_opspsp1p1p1s_o : List OSh := []
noncomputable def impl_Studio_copied_opspsp1p1p1s_D1 : impl_Studio_copied_opspsp1p1p1s_J2.P → Option impl_Studio_copied_opspsp1p1p1s_J0.P
  | ((t11, ()), (s, t2, ())) => match slices_Clone_int_int (s.2.2.2.1, ()) () with | some ((r, ()), ()) => (match slices_Clone_int_int (s.2.2.2.2.1, ()) () with | some ((r2, ()), ()) => some ((), ((s.1, (s.2.1, (t11, (r, (r2, s.2.2.2.2.2))))), t2, ())) | none => none) | none => none
noncomputable def impl_Studio_copied_opspsp1p1p1s_T1 : DT impl_Studio_copied_opspsp1p1p1s_J0 := .node impl_Studio_copied_opspsp1p1p1s_J2 impl_Studio_copied_opspsp1p1p1s_D1 (.br [(5, .sole), (7, .qui), (9, .flo), (8, .sole), (10, .sole), (11, .flo), (12, .sole), (13, .flo), (14, .sole)] .fin (.br [(7, .sole), (9, .flo), (5, .sole), (8, .sole), (10, .sole), (11, .flo), (12, .sole), (13, .flo), (14, .sole)] .fin .nobr))
noncomputable def impl_Studio_copied_opspsp1p1p1s_D2 : impl_Studio_copied_opspsp1p1p1s_J3.P → Option impl_Studio_copied_opspsp1p1p1s_J0.P
  | ((), (s, t2, ())) => match slices_Clone_int_int (s.2.2.1, ()) () with | some ((r, ()), ()) => impl_Studio_copied_opspsp1p1p1s_D1 ((r, ()), (s, t2, ())) | none => none
noncomputable def impl_Studio_copied_opspsp1p1p1s_T2 : DT impl_Studio_copied_opspsp1p1p1s_J0 := .node impl_Studio_copied_opspsp1p1p1s_J3 impl_Studio_copied_opspsp1p1p1s_D2 (.br [(2, .sole)] impl_Studio_copied_opspsp1p1p1s_T1 (.br [(7, .sole), (2, .sole), (9, .flo), (5, .sole), (8, .sole), (10, .sole), (11, .flo), (12, .sole), (13, .flo), (14, .sole)] .fin .nobr))
noncomputable def impl_Studio_copied_opspsp1p1p1s_D3 : impl_Studio_copied_opspsp1p1p1s_J4.P → Option impl_Studio_copied_opspsp1p1p1s_J0.P
  | ((), (s, t2, ())) => match slices_Clone_int_int (s.2.2.1, ()) () with | some ((r, ()), ()) => (match slices_Clone_int_int (s.2.2.2.1, ()) () with | some ((r2, ()), ()) => (match slices_Clone_int_int (s.2.2.2.2.1, ()) () with | some ((r3, ()), ()) => some ((), ((s.1, (s.2.1, (r, (r2, (r3, s.2.2.2.2.2))))), t2, ())) | none => none) | none => none) | none => none
noncomputable def impl_Studio_copied_opspsp1p1p1s_T3 : DT impl_Studio_copied_opspsp1p1p1s_J0 := .node impl_Studio_copied_opspsp1p1p1s_J4 impl_Studio_copied_opspsp1p1p1s_D3 (.br [(2, .sole), (4, .qui), (9, .flo), (5, .sole), (8, .sole), (10, .sole), (11, .flo), (12, .sole), (13, .flo), (14, .sole)] .fin (.br [(4, .sole), (2, .sole), (9, .flo), (5, .sole), (8, .sole), (10, .sole), (11, .flo), (12, .sole), (13, .flo), (14, .sole)] .fin .nobr))
noncomputable def impl_Studio_copied_opspsp1p1p1s_D0 : impl_Studio_copied_opspsp1p1p1s_J1.P → Option impl_Studio_copied_opspsp1p1p1s_J0.P
  | ((), (s, t2, ())) => match slices_Clone_int_int (s.2.2.1, ()) () with | some ((r, ()), ()) => impl_Studio_copied_opspsp1p1p1s_D1 ((r, ()), (s, t2, ())) | none => none
noncomputable def impl_Studio_copied_opspsp1p1p1s_T0 : DT impl_Studio_copied_opspsp1p1p1s_J0 := .node impl_Studio_copied_opspsp1p1p1s_J1 impl_Studio_copied_opspsp1p1p1s_D0 (.br [(2, .sole), (4, .qui)] impl_Studio_copied_opspsp1p1p1s_T1 (.br [(4, .sole)] impl_Studio_copied_opspsp1p1p1s_T2 (.br [(7, .sole)] impl_Studio_copied_opspsp1p1p1s_T3 .nobr)))
noncomputable def impl_Studio_copied_opspsp1p1p1s : argP impl_Studio_copied_opspsp1p1p1s_a → obP (extObs 0 impl_Studio_copied_opspsp1p1p1s_o) → Option impl_Studio_copied_opspsp1p1p1s_E.P
  | (s, ()), () => match slices_Clone_2_int_2_int (s.1.2, ()) () with | some ((r, ()), ()) => (match impl_Studio_copied_opspsp1p1p1s_D0 ((), (((s.1.1, r), (s.2.1, (s.2.2.1, (s.2.2.2.1, (s.2.2.2.2.1, s.2.2.2.2.2))))), (((0 : Int), ([] : (List (Int × Int)))), ((0 : Int), (([] : (List Int)), (([] : (List Int)), (([] : (List Int)), (0 : Int)))))), ())) with | some ((), (s2, t2, ())) => some ((((s2.1.1, s2.1.2), (s2.2.1, (s2.2.2.1, (s2.2.2.2.1, (s2.2.2.2.2.1, s2.2.2.2.2.2))))), ()), ()) | none => none) | none => none
noncomputable def impl_Studio_copied_opspsp1p1p1s_x : Cx := ⟨tab, slices_Clone_int_int_e, fun _ _ => 0, fun _ => false, [], []⟩
noncomputable def c36 : Code := bodyOf Try.f36
noncomputable def impl_Studio_copied_opspsp1p1p1s_A : Ann := .seq .nil (.seq .nil (.seq (.draws [(0, .flo), (3, .flo), (6, .flo), (1, .qui)] impl_Studio_copied_opspsp1p1p1s_J0 impl_Studio_copied_opspsp1p1p1s_T0) .nil))
theorem impl_Studio_copied_opspsp1p1p1s_D0b0 (p : impl_Studio_copied_opspsp1p1p1s_J1.P) : runDrawn impl_Studio_copied_opspsp1p1p1s_x (opsOf (subc [1, 1, 0] c36)) [(2, .sole), (4, .qui)] (impl_Studio_copied_opspsp1p1p1s_J1.S p) (endT impl_Studio_copied_opspsp1p1p1s_x impl_Studio_copied_opspsp1p1p1s_T1) = impl_Studio_copied_opspsp1p1p1s_D0 p := by kernel_rfl
theorem impl_Studio_copied_opspsp1p1p1s_D1b0 (p : impl_Studio_copied_opspsp1p1p1s_J2.P) : runDrawn impl_Studio_copied_opspsp1p1p1s_x (opsOf (subc [1, 1, 0] c36)) [(5, .sole), (7, .qui), (9, .flo), (8, .sole), (10, .sole), (11, .flo), (12, .sole), (13, .flo), (14, .sole)] (impl_Studio_copied_opspsp1p1p1s_J2.S p) (endT impl_Studio_copied_opspsp1p1p1s_x (.fin : DT impl_Studio_copied_opspsp1p1p1s_J0)) = impl_Studio_copied_opspsp1p1p1s_D1 p := by kernel_rfl
theorem impl_Studio_copied_opspsp1p1p1s_D1b1 (p : impl_Studio_copied_opspsp1p1p1s_J2.P) : runDrawn impl_Studio_copied_opspsp1p1p1s_x (opsOf (subc [1, 1, 0] c36)) [(7, .sole), (9, .flo), (5, .sole), (8, .sole), (10, .sole), (11, .flo), (12, .sole), (13, .flo), (14, .sole)] (impl_Studio_copied_opspsp1p1p1s_J2.S p) (endT impl_Studio_copied_opspsp1p1p1s_x (.fin : DT impl_Studio_copied_opspsp1p1p1s_J0)) = impl_Studio_copied_opspsp1p1p1s_D1 p := by kernel_rfl
theorem impl_Studio_copied_opspsp1p1p1s_D0b1 (p : impl_Studio_copied_opspsp1p1p1s_J1.P) : runDrawn impl_Studio_copied_opspsp1p1p1s_x (opsOf (subc [1, 1, 0] c36)) [(4, .sole)] (impl_Studio_copied_opspsp1p1p1s_J1.S p) (endT impl_Studio_copied_opspsp1p1p1s_x impl_Studio_copied_opspsp1p1p1s_T2) = impl_Studio_copied_opspsp1p1p1s_D0 p := by kernel_rfl
theorem impl_Studio_copied_opspsp1p1p1s_D2b0 (p : impl_Studio_copied_opspsp1p1p1s_J3.P) : runDrawn impl_Studio_copied_opspsp1p1p1s_x (opsOf (subc [1, 1, 0] c36)) [(2, .sole)] (impl_Studio_copied_opspsp1p1p1s_J3.S p) (endT impl_Studio_copied_opspsp1p1p1s_x impl_Studio_copied_opspsp1p1p1s_T1) = impl_Studio_copied_opspsp1p1p1s_D2 p := by kernel_rfl
theorem impl_Studio_copied_opspsp1p1p1s_D2b1 (p : impl_Studio_copied_opspsp1p1p1s_J3.P) : runDrawn impl_Studio_copied_opspsp1p1p1s_x (opsOf (subc [1, 1, 0] c36)) [(7, .sole), (2, .sole), (9, .flo), (5, .sole), (8, .sole), (10, .sole), (11, .flo), (12, .sole), (13, .flo), (14, .sole)] (impl_Studio_copied_opspsp1p1p1s_J3.S p) (endT impl_Studio_copied_opspsp1p1p1s_x (.fin : DT impl_Studio_copied_opspsp1p1p1s_J0)) = impl_Studio_copied_opspsp1p1p1s_D2 p := by kernel_rfl
theorem impl_Studio_copied_opspsp1p1p1s_D0b2 (p : impl_Studio_copied_opspsp1p1p1s_J1.P) : runDrawn impl_Studio_copied_opspsp1p1p1s_x (opsOf (subc [1, 1, 0] c36)) [(7, .sole)] (impl_Studio_copied_opspsp1p1p1s_J1.S p) (endT impl_Studio_copied_opspsp1p1p1s_x impl_Studio_copied_opspsp1p1p1s_T3) = impl_Studio_copied_opspsp1p1p1s_D0 p := by kernel_rfl
theorem impl_Studio_copied_opspsp1p1p1s_D3b0 (p : impl_Studio_copied_opspsp1p1p1s_J4.P) : runDrawn impl_Studio_copied_opspsp1p1p1s_x (opsOf (subc [1, 1, 0] c36)) [(2, .sole), (4, .qui), (9, .flo), (5, .sole), (8, .sole), (10, .sole), (11, .flo), (12, .sole), (13, .flo), (14, .sole)] (impl_Studio_copied_opspsp1p1p1s_J4.S p) (endT impl_Studio_copied_opspsp1p1p1s_x (.fin : DT impl_Studio_copied_opspsp1p1p1s_J0)) = impl_Studio_copied_opspsp1p1p1s_D3 p := by kernel_rfl
theorem impl_Studio_copied_opspsp1p1p1s_D3b1 (p : impl_Studio_copied_opspsp1p1p1s_J4.P) : runDrawn impl_Studio_copied_opspsp1p1p1s_x (opsOf (subc [1, 1, 0] c36)) [(4, .sole), (2, .sole), (9, .flo), (5, .sole), (8, .sole), (10, .sole), (11, .flo), (12, .sole), (13, .flo), (14, .sole)] (impl_Studio_copied_opspsp1p1p1s_J4.S p) (endT impl_Studio_copied_opspsp1p1p1s_x (.fin : DT impl_Studio_copied_opspsp1p1p1s_J0)) = impl_Studio_copied_opspsp1p1p1s_D3 p := by kernel_rfl
noncomputable def impl_Studio_copied_opspsp1p1p1s_D : Ve.Fn := ⟨36, impl_Studio_copied_opspsp1p1p1s_a, impl_Studio_copied_opspsp1p1p1s_o, impl_Studio_copied_opspsp1p1p1s_E, impl_Studio_copied_opspsp1p1p1s⟩
theorem impl_Studio_copied_opspsp1p1p1s_w : Walk Try.prog impl_Studio_copied_opspsp1p1p1s_x impl_Studio_copied_opspsp1p1p1s_D Try.f36 c36 22 impl_Studio_copied_opspsp1p1p1s_A :=
  ⟨⟨Try.func36, by kernel_rfl, by kernel_rfl, by kernel_rfl, by decide, by kernel_rfl, Nat.le_of_ble_eq_true (by kernel_rfl)⟩, by kernel_rfl, by kernel_rfl, by kernel_rfl, kcast (by kernel_rfl) (⟨impl_Studio_copied_opspsp1p1p1s_D0b0, impl_Studio_copied_opspsp1p1p1s_D1b0, impl_Studio_copied_opspsp1p1p1s_D1b1, impl_Studio_copied_opspsp1p1p1s_D0b1, impl_Studio_copied_opspsp1p1p1s_D2b0, impl_Studio_copied_opspsp1p1p1s_D1b0, impl_Studio_copied_opspsp1p1p1s_D1b1, impl_Studio_copied_opspsp1p1p1s_D2b1, impl_Studio_copied_opspsp1p1p1s_D0b2, impl_Studio_copied_opspsp1p1p1s_D3b0, impl_Studio_copied_opspsp1p1p1s_D3b1, trivial⟩ : (∀ p, runDrawn impl_Studio_copied_opspsp1p1p1s_x (opsOf (subc [1, 1, 0] c36)) [(2, .sole), (4, .qui)] (impl_Studio_copied_opspsp1p1p1s_J1.S p) (endT impl_Studio_copied_opspsp1p1p1s_x impl_Studio_copied_opspsp1p1p1s_T1) = impl_Studio_copied_opspsp1p1p1s_D0 p) ∧ (∀ p, runDrawn impl_Studio_copied_opspsp1p1p1s_x (opsOf (subc [1, 1, 0] c36)) [(5, .sole), (7, .qui), (9, .flo), (8, .sole), (10, .sole), (11, .flo), (12, .sole), (13, .flo), (14, .sole)] (impl_Studio_copied_opspsp1p1p1s_J2.S p) (endT impl_Studio_copied_opspsp1p1p1s_x (.fin : DT impl_Studio_copied_opspsp1p1p1s_J0)) = impl_Studio_copied_opspsp1p1p1s_D1 p) ∧ (∀ p, runDrawn impl_Studio_copied_opspsp1p1p1s_x (opsOf (subc [1, 1, 0] c36)) [(7, .sole), (9, .flo), (5, .sole), (8, .sole), (10, .sole), (11, .flo), (12, .sole), (13, .flo), (14, .sole)] (impl_Studio_copied_opspsp1p1p1s_J2.S p) (endT impl_Studio_copied_opspsp1p1p1s_x (.fin : DT impl_Studio_copied_opspsp1p1p1s_J0)) = impl_Studio_copied_opspsp1p1p1s_D1 p) ∧ (∀ p, runDrawn impl_Studio_copied_opspsp1p1p1s_x (opsOf (subc [1, 1, 0] c36)) [(4, .sole)] (impl_Studio_copied_opspsp1p1p1s_J1.S p) (endT impl_Studio_copied_opspsp1p1p1s_x impl_Studio_copied_opspsp1p1p1s_T2) = impl_Studio_copied_opspsp1p1p1s_D0 p) ∧ (∀ p, runDrawn impl_Studio_copied_opspsp1p1p1s_x (opsOf (subc [1, 1, 0] c36)) [(2, .sole)] (impl_Studio_copied_opspsp1p1p1s_J3.S p) (endT impl_Studio_copied_opspsp1p1p1s_x impl_Studio_copied_opspsp1p1p1s_T1) = impl_Studio_copied_opspsp1p1p1s_D2 p) ∧ (∀ p, runDrawn impl_Studio_copied_opspsp1p1p1s_x (opsOf (subc [1, 1, 0] c36)) [(5, .sole), (7, .qui), (9, .flo), (8, .sole), (10, .sole), (11, .flo), (12, .sole), (13, .flo), (14, .sole)] (impl_Studio_copied_opspsp1p1p1s_J2.S p) (endT impl_Studio_copied_opspsp1p1p1s_x (.fin : DT impl_Studio_copied_opspsp1p1p1s_J0)) = impl_Studio_copied_opspsp1p1p1s_D1 p) ∧ (∀ p, runDrawn impl_Studio_copied_opspsp1p1p1s_x (opsOf (subc [1, 1, 0] c36)) [(7, .sole), (9, .flo), (5, .sole), (8, .sole), (10, .sole), (11, .flo), (12, .sole), (13, .flo), (14, .sole)] (impl_Studio_copied_opspsp1p1p1s_J2.S p) (endT impl_Studio_copied_opspsp1p1p1s_x (.fin : DT impl_Studio_copied_opspsp1p1p1s_J0)) = impl_Studio_copied_opspsp1p1p1s_D1 p) ∧ (∀ p, runDrawn impl_Studio_copied_opspsp1p1p1s_x (opsOf (subc [1, 1, 0] c36)) [(7, .sole), (2, .sole), (9, .flo), (5, .sole), (8, .sole), (10, .sole), (11, .flo), (12, .sole), (13, .flo), (14, .sole)] (impl_Studio_copied_opspsp1p1p1s_J3.S p) (endT impl_Studio_copied_opspsp1p1p1s_x (.fin : DT impl_Studio_copied_opspsp1p1p1s_J0)) = impl_Studio_copied_opspsp1p1p1s_D2 p) ∧ (∀ p, runDrawn impl_Studio_copied_opspsp1p1p1s_x (opsOf (subc [1, 1, 0] c36)) [(7, .sole)] (impl_Studio_copied_opspsp1p1p1s_J1.S p) (endT impl_Studio_copied_opspsp1p1p1s_x impl_Studio_copied_opspsp1p1p1s_T3) = impl_Studio_copied_opspsp1p1p1s_D0 p) ∧ (∀ p, runDrawn impl_Studio_copied_opspsp1p1p1s_x (opsOf (subc [1, 1, 0] c36)) [(2, .sole), (4, .qui), (9, .flo), (5, .sole), (8, .sole), (10, .sole), (11, .flo), (12, .sole), (13, .flo), (14, .sole)] (impl_Studio_copied_opspsp1p1p1s_J4.S p) (endT impl_Studio_copied_opspsp1p1p1s_x (.fin : DT impl_Studio_copied_opspsp1p1p1s_J0)) = impl_Studio_copied_opspsp1p1p1s_D3 p) ∧ (∀ p, runDrawn impl_Studio_copied_opspsp1p1p1s_x (opsOf (subc [1, 1, 0] c36)) [(4, .sole), (2, .sole), (9, .flo), (5, .sole), (8, .sole), (10, .sole), (11, .flo), (12, .sole), (13, .flo), (14, .sole)] (impl_Studio_copied_opspsp1p1p1s_J4.S p) (endT impl_Studio_copied_opspsp1p1p1s_x (.fin : DT impl_Studio_copied_opspsp1p1p1s_J0)) = impl_Studio_copied_opspsp1p1p1s_D3 p) ∧ True), by kernel_rfl, fun x y => by kernel_rfl⟩
theorem impl_Studio_copied_opspsp1p1p1s_s : impl_Studio_copied_opspsp1p1p1s_D.Says Try.prog := impl_Studio_copied_opspsp1p1p1s_w.says follows tabOk slices_Clone_int_int_e_ok
noncomputable def impl_Studio_copied_opspsp1p1p1s_e : Env := more slices_Clone_int_int_e impl_Studio_copied_opspsp1p1p1s_D
theorem impl_Studio_copied_opspsp1p1p1s_e_ok : EnvOk Try.prog impl_Studio_copied_opspsp1p1p1s_e := more_ok slices_Clone_int_int_e_ok impl_Studio_copied_opspsp1p1p1s_s
/-! loop.example/g01128/impl.isColourCase -/
abbrev impl_isColourCase_E : Ve.End := ⟨[⟨4, .shr, .bool, none⟩], []⟩
abbrev impl_isColourCase_a : List ASh := [.val (.prod I (.list (.prod I I))), .val I]
abbrev impl_isColourCase_o : List OSh := []
noncomputable def impl_isColourCase : argP impl_isColourCase_a → obP (extObs 0 impl_isColourCase_o) → Option impl_isColourCase_E.P
  | (g, k, ()), () => match impl_IsGraph (g, ()) () with | some ((r, ()), ()) => (bif r then (match impl_between (k, (1 : Int), (5 : Int), ()) () with | some ((r2, ()), ()) => some ((r2, ()), ()) | none => none) else (some ((false, ()), ()))) | none => none
noncomputable def impl_isColourCase_x : Cx := ⟨tab, impl_Studio_copied_opspsp1p1p1s_e, fun _ _ => 0, fun _ => false, [(6, 0), (6, 1), (6, 2), (6, 3), (9, 0), (9, 1), (9, 2), (9, 3)], [(2, 0)]⟩
noncomputable def c22 : Code := bodyOf Try.f22
noncomputable def impl_isColourCase_A : Ann := .nil
noncomputable def impl_isColourCase_D : Ve.Fn := ⟨22, impl_isColourCase_a, impl_isColourCase_o, impl_isColourCase_E, impl_isColourCase⟩
theorem impl_isColourCase_w : Walk Try.prog impl_isColourCase_x impl_isColourCase_D Try.f22 c22 11 impl_isColourCase_A :=
  ⟨⟨Try.func22, by kernel_rfl, by kernel_rfl, by kernel_rfl, by decide, by kernel_rfl, Nat.le_of_ble_eq_true (by kernel_rfl)⟩, by kernel_rfl, by kernel_rfl, by kernel_rfl, kcast (by kernel_rfl) trivial, by kernel_rfl, fun x y => by kernel_rfl⟩
theorem impl_isColourCase_s : impl_isColourCase_D.Says Try.prog := impl_isColourCase_w.says follows tabOk impl_Studio_copied_opspsp1p1p1s_e_ok
noncomputable def impl_isColourCase_e : Env := more impl_Studio_copied_opspsp1p1p1s_e impl_isColourCase_D
theorem impl_isColourCase_e_ok : EnvOk Try.prog impl_isColourCase_e := more_ok impl_Studio_copied_opspsp1p1p1s_e_ok impl_isColourCase_s
/-! loop.example/g01128/impl.isRising -/
abbrev impl_isRising_J0 : Tpl := ⟨[(0, .val (.list I)), (1, .val I), (7, .val (.list I)), (8, .val I), (9, .val I)], [], []⟩
abbrev impl_isRising_J1 : Tpl := ⟨[(4, .val .bool)], [], []⟩
abbrev impl_isRising_J2 : Tpl := ⟨[], [], []⟩
abbrev impl_isRising_E : Ve.End := ⟨[⟨4, .shr, .bool, none⟩], []⟩
abbrev impl_isRising_a : List ASh := [.val (.list I), .val I]
abbrev impl_isRising_o : List OSh := []
abbrev impl_isRising_O0 : Out := .or .ret impl_isRising_J1 (.one (.ex 0) impl_isRising_J2)
noncomputable def impl_isRising_B0 : impl_isRising_J0.P → Option (impl_isRising_J0.P ⊕ impl_isRising_O0.P)
  | ((list, below, t7, t8, t9, ()), ()) => bif (decide (t9 < t8)) then (guardB (inb t9 (List.length t7)) (match impl_between ((List.getD t7 (Int.toNat t9) (0 : Int)), (0 : Int), (w64 (below - (1 : Int))), ()) () with | some ((r, ()), ()) => (bif (!r) then (some (.inr (.inl ((false, ()), ())))) else (bif (decide ((0 : Int) < t9)) then (guardB (inb (w64 (t9 - (1 : Int))) (List.length list)) (bif (decide ((List.getD t7 (Int.toNat t9) (0 : Int)) ≤ (List.getD list (Int.toNat (w64 (t9 - (1 : Int)))) (0 : Int)))) then (some (.inr (.inl ((false, ()), ())))) else (some (.inl ((list, below, t7, t8, (w64 (t9 + (1 : Int))), ()), ()))))) else (some (.inl ((list, below, t7, t8, (w64 (t9 + (1 : Int))), ()), ()))))) | none => none)) else (some (.inr (.inr ((), ()))))
noncomputable def impl_isRising : argP impl_isRising_a → obP (extObs 0 impl_isRising_o) → Option impl_isRising_E.P
  | (list, below, ()), () => match loopO impl_isRising_B0 ((list, below, list, (List.length list : Int), (0 : Int), ()), ()) with | some (.inl ((t4, ()), ())) => some ((t4, ()), ()) | some (.inr ((), ())) => some ((true, ()), ()) | none => none
noncomputable def impl_isRising_x : Cx := ⟨tab, impl_isColourCase_e, fun _ _ => 0, fun _ => false, [(17, 0), (17, 1), (17, 2), (17, 3)], []⟩
noncomputable def c46 : Code := bodyOf Try.f46
noncomputable def impl_isRising_A : Ann := .seq .nil (.seq (.seq .nil (.loop impl_isRising_J0 impl_isRising_O0 impl_isRising_B0 .nil)) .nil)
theorem impl_isRising_r0 (p : impl_isRising_J0.P) : run impl_isRising_x (subc [1, 0, 1, 0, 0] c46) .nil (impl_isRising_J0.S p) (leaf impl_isRising_J0 impl_isRising_O0) = impl_isRising_B0 p := by kernel_rfl
noncomputable def impl_isRising_D : Ve.Fn := ⟨46, impl_isRising_a, impl_isRising_o, impl_isRising_E, impl_isRising⟩
theorem impl_isRising_w : Walk Try.prog impl_isRising_x impl_isRising_D Try.f46 c46 33 impl_isRising_A :=
  ⟨⟨Try.func46, by kernel_rfl, by kernel_rfl, by kernel_rfl, by decide, by kernel_rfl, Nat.le_of_ble_eq_true (by kernel_rfl)⟩, by kernel_rfl, by kernel_rfl, by kernel_rfl, kcast (by kernel_rfl) (⟨impl_isRising_r0, trivial⟩ : (∀ p, run impl_isRising_x (subc [1, 0, 1, 0, 0] c46) .nil (impl_isRising_J0.S p) (leaf impl_isRising_J0 impl_isRising_O0) = impl_isRising_B0 p) ∧ True), by kernel_rfl, fun x y => by kernel_rfl⟩
theorem impl_isRising_s : impl_isRising_D.Says Try.prog := impl_isRising_w.says follows tabOk impl_isColourCase_e_ok
noncomputable def impl_isRising_e : Env := more impl_isColourCase_e impl_isRising_D
theorem impl_isRising_e_ok : EnvOk Try.prog impl_isRising_e := more_ok impl_isColourCase_e_ok impl_isRising_s
/-! loop.example/g01128/impl.bagOf -/
abbrev impl_bagOf_J0 : Tpl := ⟨[(3, .val (.int .u64)), (6, .val (.list I)), (7, .val I), (8, .val I)], [], []⟩
abbrev impl_bagOf_J1 : Tpl := ⟨[(3, .val (.int .u64))], [], []⟩
abbrev impl_bagOf_E : Ve.End := ⟨[⟨2, .shr, (.int .u64), none⟩], []⟩
abbrev impl_bagOf_a : List ASh := [.val (.list I)]
abbrev impl_bagOf_o : List OSh := []
abbrev impl_bagOf_O0 : Out := .one (.ex 0) impl_bagOf_J1
noncomputable def impl_bagOf_B0 : impl_bagOf_J0.P → Option (impl_bagOf_J0.P ⊕ impl_bagOf_O0.P)
  | ((out, t6, t7, t8, ()), ()) => bif (decide (t8 < t7)) then (guardB (inb t8 (List.length t6)) (guardB (decide (0 ≤ (List.getD t6 (Int.toNat t8) (0 : Int)))) (some (.inl (((IntKind.wrap .u64 (BitVec.ofInt 64 out ||| BitVec.ofInt 64 (IntKind.wrap .u64 ((1 : Int) * 2 ^ (min (Int.toNat (List.getD t6 (Int.toNat t8) (0 : Int))) 64)))).toNat), t6, t7, (w64 (t8 + (1 : Int))), ()), ()))))) else (some (.inr ((out, ()), ())))
noncomputable def impl_bagOf : argP impl_bagOf_a → obP (extObs 0 impl_bagOf_o) → Option impl_bagOf_E.P
  | (list, ()), () => match loopO impl_bagOf_B0 (((0 : Int), list, (List.length list : Int), (0 : Int), ()), ()) with | some ((out, ()), ()) => some ((out, ()), ()) | none => none
noncomputable def impl_bagOf_x : Cx := ⟨tab, impl_isRising_e, fun _ _ => 0, fun _ => false, [], []⟩
noncomputable def c48 : Code := bodyOf Try.f48
noncomputable def impl_bagOf_A : Ann := .seq .nil (.seq .nil (.seq (.seq .nil (.loop impl_bagOf_J0 impl_bagOf_O0 impl_bagOf_B0 .nil)) .nil))
theorem impl_bagOf_r0 (p : impl_bagOf_J0.P) : run impl_bagOf_x (subc [1, 1, 0, 1, 0, 0] c48) .nil (impl_bagOf_J0.S p) (leaf impl_bagOf_J0 impl_bagOf_O0) = impl_bagOf_B0 p := by kernel_rfl
noncomputable def impl_bagOf_D : Ve.Fn := ⟨48, impl_bagOf_a, impl_bagOf_o, impl_bagOf_E, impl_bagOf⟩
theorem impl_bagOf_w : Walk Try.prog impl_bagOf_x impl_bagOf_D Try.f48 c48 18 impl_bagOf_A :=
  ⟨⟨Try.func48, by kernel_rfl, by kernel_rfl, by kernel_rfl, by decide, by kernel_rfl, Nat.le_of_ble_eq_true (by kernel_rfl)⟩, by kernel_rfl, by kernel_rfl, by kernel_rfl, kcast (by kernel_rfl) (⟨impl_bagOf_r0, trivial⟩ : (∀ p, run impl_bagOf_x (subc [1, 1, 0, 1, 0, 0] c48) .nil (impl_bagOf_J0.S p) (leaf impl_bagOf_J0 impl_bagOf_O0) = impl_bagOf_B0 p) ∧ True), by kernel_rfl, fun x y => by kernel_rfl⟩
theorem impl_bagOf_s : impl_bagOf_D.Says Try.prog := impl_bagOf_w.says follows tabOk impl_isRising_e_ok
noncomputable def impl_bagOf_e : Env := more impl_isRising_e impl_bagOf_D
theorem impl_bagOf_e_ok : EnvOk Try.prog impl_bagOf_e := more_ok impl_isRising_e_ok impl_bagOf_s
/-! (loop.example/g01128/impl.bag).has -/
abbrev impl_bag_has_E : Ve.End := ⟨[⟨4, .shr, .bool, none⟩], []⟩
abbrev impl_bag_has_a : List ASh := [.val (.int .u64), .val I]
abbrev impl_bag_has_o : List OSh := []
noncomputable def impl_bag_has : argP impl_bag_has_a → obP (extObs 0 impl_bag_has_o) → Option impl_bag_has_E.P
  | (b, x, ()), () => guardB (decide (0 ≤ x)) (some ((((IntKind.wrap .u64 (BitVec.ofInt 64 (Int.fdiv b (2 ^ (min (Int.toNat x) 64))) &&& BitVec.ofInt 64 (1 : Int)).toNat) == (1 : Int)), ()), ()))
noncomputable def impl_bag_has_x : Cx := ⟨tab, impl_bagOf_e, fun _ _ => 0, fun _ => false, [], []⟩
noncomputable def c67 : Code := bodyOf Try.f67
noncomputable def impl_bag_has_A : Ann := .nil
noncomputable def impl_bag_has_D : Ve.Fn := ⟨67, impl_bag_has_a, impl_bag_has_o, impl_bag_has_E, impl_bag_has⟩
theorem impl_bag_has_w : Walk Try.prog impl_bag_has_x impl_bag_has_D Try.f67 c67 10 impl_bag_has_A :=
  ⟨⟨Try.func67, by kernel_rfl, by kernel_rfl, by kernel_rfl, by decide, by kernel_rfl, Nat.le_of_ble_eq_true (by kernel_rfl)⟩, by kernel_rfl, by kernel_rfl, by kernel_rfl, kcast (by kernel_rfl) trivial, by kernel_rfl, fun x y => by kernel_rfl⟩
theorem impl_bag_has_s : impl_bag_has_D.Says Try.prog := impl_bag_has_w.says follows tabOk impl_bagOf_e_ok
noncomputable def impl_bag_has_e : Env := more impl_bagOf_e impl_bag_has_D
theorem impl_bag_has_e_ok : EnvOk Try.prog impl_bag_has_e := more_ok impl_bagOf_e_ok impl_bag_has_s
/-! (loop.example/g01128/impl.Graph).isFree$1 -/
abbrev impl_Graph_isFree_1_vc_E : Ve.End := ⟨[⟨3, .shr, .bool, none⟩], []⟩
abbrev impl_Graph_isFree_1_vc_a : List ASh := [.val (.prod I I), .cst (.int .u64)]
abbrev impl_Graph_isFree_1_vc_o : List OSh := []
noncomputable def impl_Graph_isFree_1_vc : argP impl_Graph_isFree_1_vc_a → obP (extObs 0 impl_Graph_isFree_1_vc_o) → Option impl_Graph_isFree_1_vc_E.P
  | (e, t1, ()), () => match impl_bag_has (t1, e.1, ()) () with | some ((r, ()), ()) => (bif r then (match impl_bag_has (t1, e.2, ()) () with | some ((r2, ()), ()) => some ((r2, ()), ()) | none => none) else (some ((false, ()), ()))) | none => none
noncomputable def impl_Graph_isFree_1_vc_x : Cx := ⟨tab, impl_bag_has_e, fun _ _ => 0, fun _ => false, [(7, 0), (7, 1), (7, 2), (7, 3), (12, 0), (12, 1), (12, 2), (12, 3)], [(2, 0)]⟩
noncomputable def c66 : Code := bodyOf Try.f66
noncomputable def impl_Graph_isFree_1_vc_A : Ann := .nil
noncomputable def impl_Graph_isFree_1_vc_D : Ve.Fn := ⟨66, impl_Graph_isFree_1_vc_a, impl_Graph_isFree_1_vc_o, impl_Graph_isFree_1_vc_E, impl_Graph_isFree_1_vc⟩
theorem impl_Graph_isFree_1_vc_w : Walk Try.prog impl_Graph_isFree_1_vc_x impl_Graph_isFree_1_vc_D Try.f66 c66 14 impl_Graph_isFree_1_vc_A :=
  ⟨⟨Try.func66, by kernel_rfl, by kernel_rfl, by kernel_rfl, by decide, by kernel_rfl, Nat.le_of_ble_eq_true (by kernel_rfl)⟩, by kernel_rfl, by kernel_rfl, by kernel_rfl, kcast (by kernel_rfl) trivial, by kernel_rfl, fun x y => by kernel_rfl⟩
theorem impl_Graph_isFree_1_vc_s : impl_Graph_isFree_1_vc_D.Says Try.prog := impl_Graph_isFree_1_vc_w.says follows tabOk impl_bag_has_e_ok
noncomputable def impl_Graph_isFree_1_vc_e : Env := more impl_bag_has_e impl_Graph_isFree_1_vc_D
theorem impl_Graph_isFree_1_vc_e_ok : EnvOk Try.prog impl_Graph_isFree_1_vc_e := more_ok impl_bag_has_e_ok impl_Graph_isFree_1_vc_s
/-! slices.IndexFunc[[][2]int,[2]int] -/
abbrev slices_IndexFunc_2_int_2_int_vf_impl_Graph_isFree_1_0__bs_J0 : Tpl := ⟨[(0, .val (.list (.prod I I))), (1, .fn ⟨66, [(1000000, 0)]⟩), (7, .val I), (8, .val I)], [((1000000, 0), .box .shr (.int .u64))], []⟩
abbrev slices_IndexFunc_2_int_2_int_vf_impl_Graph_isFree_1_0__bs_J1 : Tpl := ⟨[(4, .val I)], [((1000000, 0), .box .shr (.int .u64))], []⟩
abbrev slices_IndexFunc_2_int_2_int_vf_impl_Graph_isFree_1_0__bs_J2 : Tpl := ⟨[], [((1000000, 0), .box .shr (.int .u64))], []⟩
abbrev slices_IndexFunc_2_int_2_int_vf_impl_Graph_isFree_1_0__bs_E : Ve.End := ⟨[⟨4, .shr, I, none⟩], [.box .shr (.int .u64)]⟩
abbrev slices_IndexFunc_2_int_2_int_vf_impl_Graph_isFree_1_0__bs_a : List ASh := [.val (.list (.prod I I)), .fn 66 [0]]
abbrev slices_IndexFunc_2_int_2_int_vf_impl_Graph_isFree_1_0__bs_o : List OSh := [.box .shr (.int .u64)]
abbrev slices_IndexFunc_2_int_2_int_vf_impl_Graph_isFree_1_0__bs_O0 : Out := .or .ret slices_IndexFunc_2_int_2_int_vf_impl_Graph_isFree_1_0__bs_J1 (.one (.ex 0) slices_IndexFunc_2_int_2_int_vf_impl_Graph_isFree_1_0__bs_J2)
noncomputable def slices_IndexFunc_2_int_2_int_vf_impl_Graph_isFree_1_0__bs_B0 : slices_IndexFunc_2_int_2_int_vf_impl_Graph_isFree_1_0__bs_J0.P → Option (slices_IndexFunc_2_int_2_int_vf_impl_Graph_isFree_1_0__bs_J0.P ⊕ slices_IndexFunc_2_int_2_int_vf_impl_Graph_isFree_1_0__bs_O0.P)
  | ((s, t7, t8, ()), (o0, ())) => bif (decide (t8 < t7)) then (guardB (inb t8 (List.length s)) (match impl_Graph_isFree_1_vc ((List.getD s (Int.toNat t8) ((0 : Int), (0 : Int))), o0, ()) () with | some ((r, ()), ()) => (bif r then (some (.inr (.inl ((t8, ()), (o0, ()))))) else (some (.inl ((s, t7, (w64 (t8 + (1 : Int))), ()), (o0, ()))))) | none => none)) else (some (.inr (.inr ((), (o0, ())))))
noncomputable def slices_IndexFunc_2_int_2_int_vf_impl_Graph_isFree_1_0__bs : argP slices_IndexFunc_2_int_2_int_vf_impl_Graph_isFree_1_0__bs_a → obP (extObs 0 slices_IndexFunc_2_int_2_int_vf_impl_Graph_isFree_1_0__bs_o) → Option slices_IndexFunc_2_int_2_int_vf_impl_Graph_isFree_1_0__bs_E.P
  | (s, ()), (o0, ()) => match loopO slices_IndexFunc_2_int_2_int_vf_impl_Graph_isFree_1_0__bs_B0 ((s, (List.length s : Int), (0 : Int), ()), (o0, ())) with | some (.inl ((t4, ()), (o0_2, ()))) => some ((t4, ()), (o0_2, ())) | some (.inr ((), (o0_3, ()))) => some (((-1 : Int), ()), (o0_3, ())) | none => none
noncomputable def slices_IndexFunc_2_int_2_int_vf_impl_Graph_isFree_1_0__bs_x : Cx := ⟨tab, impl_Graph_isFree_1_vc_e, fun _ _ => 0, fun _ => false, [(16, 0), (16, 1), (16, 2), (16, 3)], []⟩
noncomputable def c69 : Code := bodyOf Try.f69
noncomputable def slices_IndexFunc_2_int_2_int_vf_impl_Graph_isFree_1_0__bs_A : Ann := .seq .nil (.seq (.seq .nil (.loop slices_IndexFunc_2_int_2_int_vf_impl_Graph_isFree_1_0__bs_J0 slices_IndexFunc_2_int_2_int_vf_impl_Graph_isFree_1_0__bs_O0 slices_IndexFunc_2_int_2_int_vf_impl_Graph_isFree_1_0__bs_B0 .nil)) .nil)
theorem slices_IndexFunc_2_int_2_int_vf_impl_Graph_isFree_1_0__bs_r0 (p : slices_IndexFunc_2_int_2_int_vf_impl_Graph_isFree_1_0__bs_J0.P) : run slices_IndexFunc_2_int_2_int_vf_impl_Graph_isFree_1_0__bs_x (subc [1, 0, 1, 0, 0] c69) .nil (slices_IndexFunc_2_int_2_int_vf_impl_Graph_isFree_1_0__bs_J0.S p) (leaf slices_IndexFunc_2_int_2_int_vf_impl_Graph_isFree_1_0__bs_J0 slices_IndexFunc_2_int_2_int_vf_impl_Graph_isFree_1_0__bs_O0) = slices_IndexFunc_2_int_2_int_vf_impl_Graph_isFree_1_0__bs_B0 p := by kernel_rfl
noncomputable def slices_IndexFunc_2_int_2_int_vf_impl_Graph_isFree_1_0__bs_D : Ve.Fn := ⟨69, slices_IndexFunc_2_int_2_int_vf_impl_Graph_isFree_1_0__bs_a, slices_IndexFunc_2_int_2_int_vf_impl_Graph_isFree_1_0__bs_o, slices_IndexFunc_2_int_2_int_vf_impl_Graph_isFree_1_0__bs_E, slices_IndexFunc_2_int_2_int_vf_impl_Graph_isFree_1_0__bs⟩
theorem slices_IndexFunc_2_int_2_int_vf_impl_Graph_isFree_1_0__bs_w : Walk Try.prog slices_IndexFunc_2_int_2_int_vf_impl_Graph_isFree_1_0__bs_x slices_IndexFunc_2_int_2_int_vf_impl_Graph_isFree_1_0__bs_D Try.f69 c69 19 slices_IndexFunc_2_int_2_int_vf_impl_Graph_isFree_1_0__bs_A :=
  ⟨⟨Try.func69, by kernel_rfl, by kernel_rfl, by kernel_rfl, by decide, by kernel_rfl, Nat.le_of_ble_eq_true (by kernel_rfl)⟩, by kernel_rfl, by kernel_rfl, by kernel_rfl, kcast (by kernel_rfl) (⟨slices_IndexFunc_2_int_2_int_vf_impl_Graph_isFree_1_0__bs_r0, trivial⟩ : (∀ p, run slices_IndexFunc_2_int_2_int_vf_impl_Graph_isFree_1_0__bs_x (subc [1, 0, 1, 0, 0] c69) .nil (slices_IndexFunc_2_int_2_int_vf_impl_Graph_isFree_1_0__bs_J0.S p) (leaf slices_IndexFunc_2_int_2_int_vf_impl_Graph_isFree_1_0__bs_J0 slices_IndexFunc_2_int_2_int_vf_impl_Graph_isFree_1_0__bs_O0) = slices_IndexFunc_2_int_2_int_vf_impl_Graph_isFree_1_0__bs_B0 p) ∧ True), by kernel_rfl, fun x y => by kernel_rfl⟩
theorem slices_IndexFunc_2_int_2_int_vf_impl_Graph_isFree_1_0__bs_s : slices_IndexFunc_2_int_2_int_vf_impl_Graph_isFree_1_0__bs_D.Says Try.prog := slices_IndexFunc_2_int_2_int_vf_impl_Graph_isFree_1_0__bs_w.says follows tabOk impl_Graph_isFree_1_vc_e_ok
noncomputable def slices_IndexFunc_2_int_2_int_vf_impl_Graph_isFree_1_0__bs_e : Env := more impl_Graph_isFree_1_vc_e slices_IndexFunc_2_int_2_int_vf_impl_Graph_isFree_1_0__bs_D
theorem slices_IndexFunc_2_int_2_int_vf_impl_Graph_isFree_1_0__bs_e_ok : EnvOk Try.prog slices_IndexFunc_2_int_2_int_vf_impl_Graph_isFree_1_0__bs_e := more_ok impl_Graph_isFree_1_vc_e_ok slices_IndexFunc_2_int_2_int_vf_impl_Graph_isFree_1_0__bs_s
/-! slices.ContainsFunc[[][2]int,[2]int] -/
abbrev slices_ContainsFunc_2_int_2_int_vf_impl_Graph_isFree_1_0__bs_E : Ve.End := ⟨[⟨4, .shr, .bool, none⟩], [.box .shr (.int .u64)]⟩
abbrev slices_ContainsFunc_2_int_2_int_vf_impl_Graph_isFree_1_0__bs_a : List ASh := [.val (.list (.prod I I)), .fn 66 [0]]
abbrev slices_ContainsFunc_2_int_2_int_vf_impl_Graph_isFree_1_0__bs_o : List OSh := [.box .shr (.int .u64)]
noncomputable def slices_ContainsFunc_2_int_2_int_vf_impl_Graph_isFree_1_0__bs : argP slices_ContainsFunc_2_int_2_int_vf_impl_Graph_isFree_1_0__bs_a → obP (extObs 0 slices_ContainsFunc_2_int_2_int_vf_impl_Graph_isFree_1_0__bs_o) → Option slices_ContainsFunc_2_int_2_int_vf_impl_Graph_isFree_1_0__bs_E.P
  | (s, ()), (o0, ()) => match slices_IndexFunc_2_int_2_int_vf_impl_Graph_isFree_1_0__bs (s, ()) (o0, ()) with | some ((r, ()), (o, ())) => some (((decide ((0 : Int) ≤ r)), ()), (o, ())) | none => none
noncomputable def slices_ContainsFunc_2_int_2_int_vf_impl_Graph_isFree_1_0__bs_x : Cx := ⟨tab, slices_IndexFunc_2_int_2_int_vf_impl_Graph_isFree_1_0__bs_e, fun _ _ => 0, fun _ => false, [(7, 0), (7, 1), (7, 2), (7, 3)], []⟩
noncomputable def c51 : Code := bodyOf Try.f51
noncomputable def slices_ContainsFunc_2_int_2_int_vf_impl_Graph_isFree_1_0__bs_A : Ann := .nil
noncomputable def slices_ContainsFunc_2_int_2_int_vf_impl_Graph_isFree_1_0__bs_D : Ve.Fn := ⟨51, slices_ContainsFunc_2_int_2_int_vf_impl_Graph_isFree_1_0__bs_a, slices_ContainsFunc_2_int_2_int_vf_impl_Graph_isFree_1_0__bs_o, slices_ContainsFunc_2_int_2_int_vf_impl_Graph_isFree_1_0__bs_E, slices_ContainsFunc_2_int_2_int_vf_impl_Graph_isFree_1_0__bs⟩
theorem slices_ContainsFunc_2_int_2_int_vf_impl_Graph_isFree_1_0__bs_w : Walk Try.prog slices_ContainsFunc_2_int_2_int_vf_impl_Graph_isFree_1_0__bs_x slices_ContainsFunc_2_int_2_int_vf_impl_Graph_isFree_1_0__bs_D Try.f51 c51 9 slices_ContainsFunc_2_int_2_int_vf_impl_Graph_isFree_1_0__bs_A :=
  ⟨⟨Try.func51, by kernel_rfl, by kernel_rfl, by kernel_rfl, by decide, by kernel_rfl, Nat.le_of_ble_eq_true (by kernel_rfl)⟩, by kernel_rfl, by kernel_rfl, by kernel_rfl, kcast (by kernel_rfl) trivial, by kernel_rfl, fun x y => by kernel_rfl⟩
theorem slices_ContainsFunc_2_int_2_int_vf_impl_Graph_isFree_1_0__bs_s : slices_ContainsFunc_2_int_2_int_vf_impl_Graph_isFree_1_0__bs_D.Says Try.prog := slices_ContainsFunc_2_int_2_int_vf_impl_Graph_isFree_1_0__bs_w.says follows tabOk slices_IndexFunc_2_int_2_int_vf_impl_Graph_isFree_1_0__bs_e_ok
noncomputable def slices_ContainsFunc_2_int_2_int_vf_impl_Graph_isFree_1_0__bs_e : Env := more slices_IndexFunc_2_int_2_int_vf_impl_Graph_isFree_1_0__bs_e slices_ContainsFunc_2_int_2_int_vf_impl_Graph_isFree_1_0__bs_D
theorem slices_ContainsFunc_2_int_2_int_vf_impl_Graph_isFree_1_0__bs_e_ok : EnvOk Try.prog slices_ContainsFunc_2_int_2_int_vf_impl_Graph_isFree_1_0__bs_e := more_ok slices_IndexFunc_2_int_2_int_vf_impl_Graph_isFree_1_0__bs_e_ok slices_ContainsFunc_2_int_2_int_vf_impl_Graph_isFree_1_0__bs_s
/-! (loop.example/g01128/impl.Graph).isFree -/
abbrev impl_Graph_isFree_E : Ve.End := ⟨[⟨4, .shr, .bool, none⟩], []⟩
abbrev impl_Graph_isFree_a : List ASh := [.val (.prod I (.list (.prod I I))), .val (.int .u64)]
abbrev impl_Graph_isFree_o : List OSh := []
noncomputable def impl_Graph_isFree : argP impl_Graph_isFree_a → obP (extObs 0 impl_Graph_isFree_o) → Option impl_Graph_isFree_E.P
  | (g, b, ()), () => match slices_ContainsFunc_2_int_2_int_vf_impl_Graph_isFree_1_0__bs (g.2, ()) (b, ()) with | some ((r, ()), (o, ())) => some (((!r), ()), ()) | none => none
noncomputable def impl_Graph_isFree_x : Cx := ⟨tab, slices_ContainsFunc_2_int_2_int_vf_impl_Graph_isFree_1_0__bs_e, fun _ _ => 0, fun _ => false, [(8, 0), (8, 1), (8, 2), (8, 3)], [(2, 0)]⟩
noncomputable def c47 : Code := bodyOf Try.f47
noncomputable def impl_Graph_isFree_A : Ann := .nil
noncomputable def impl_Graph_isFree_D : Ve.Fn := ⟨47, impl_Graph_isFree_a, impl_Graph_isFree_o, impl_Graph_isFree_E, impl_Graph_isFree⟩
theorem impl_Graph_isFree_w : Walk Try.prog impl_Graph_isFree_x impl_Graph_isFree_D Try.f47 c47 10 impl_Graph_isFree_A :=
  ⟨⟨Try.func47, by kernel_rfl, by kernel_rfl, by kernel_rfl, by decide, by kernel_rfl, Nat.le_of_ble_eq_true (by kernel_rfl)⟩, by kernel_rfl, by kernel_rfl, by kernel_rfl, kcast (by kernel_rfl) trivial, by kernel_rfl, fun x y => by kernel_rfl⟩
theorem impl_Graph_isFree_s : impl_Graph_isFree_D.Says Try.prog := impl_Graph_isFree_w.says follows tabOk slices_ContainsFunc_2_int_2_int_vf_impl_Graph_isFree_1_0__bs_e_ok
noncomputable def impl_Graph_isFree_e : Env := more slices_ContainsFunc_2_int_2_int_vf_impl_Graph_isFree_1_0__bs_e impl_Graph_isFree_D
theorem impl_Graph_isFree_e_ok : EnvOk Try.prog impl_Graph_isFree_e := more_ok slices_ContainsFunc_2_int_2_int_vf_impl_Graph_isFree_1_0__bs_e_ok impl_Graph_isFree_s
/-! (loop.example/g01128/impl.Graph).isIndependent -/
abbrev impl_Graph_isIndependent_E : Ve.End := ⟨[⟨4, .shr, .bool, none⟩], []⟩
abbrev impl_Graph_isIndependent_a : List ASh := [.val (.prod I (.list (.prod I I))), .val (.list I)]
abbrev impl_Graph_isIndependent_o : List OSh := []
noncomputable def impl_Graph_isIndependent : argP impl_Graph_isIndependent_a → obP (extObs 0 impl_Graph_isIndependent_o) → Option impl_Graph_isIndependent_E.P
  | (g, set, ()), () => match impl_isRising (set, g.1, ()) () with | some ((r, ()), ()) => (bif r then (match impl_bagOf (set, ()) () with | some ((r2, ()), ()) => (match impl_Graph_isFree (g, r2, ()) () with | some ((r3, ()), ()) => some ((r3, ()), ()) | none => none) | none => none) else (some ((false, ()), ()))) | none => none
noncomputable def impl_Graph_isIndependent_x : Cx := ⟨tab, impl_Graph_isFree_e, fun _ _ => 0, fun _ => false, [(8, 0), (8, 1), (8, 2), (8, 3), (12, 0), (12, 1), (12, 2), (12, 3), (13, 0), (13, 1), (13, 2), (13, 3)], [(2, 0)]⟩
noncomputable def c23 : Code := bodyOf Try.f23
noncomputable def impl_Graph_isIndependent_A : Ann := .seq .nil (.seq (.draw [(0, .flo), (1, .flo), (2, .flo), (3, .sole), (4, .flo), (5, .flo), (6, .flo), (7, .sole), (8, .sole), (9, .flo), (10, .flo)]) .nil)
noncomputable def impl_Graph_isIndependent_D : Ve.Fn := ⟨23, impl_Graph_isIndependent_a, impl_Graph_isIndependent_o, impl_Graph_isIndependent_E, impl_Graph_isIndependent⟩
theorem impl_Graph_isIndependent_w : Walk Try.prog impl_Graph_isIndependent_x impl_Graph_isIndependent_D Try.f23 c23 15 impl_Graph_isIndependent_A :=
  ⟨⟨Try.func23, by kernel_rfl, by kernel_rfl, by kernel_rfl, by decide, by kernel_rfl, Nat.le_of_ble_eq_true (by kernel_rfl)⟩, by kernel_rfl, by kernel_rfl, by kernel_rfl, kcast (by kernel_rfl) trivial, by kernel_rfl, fun x y => by kernel_rfl⟩
theorem impl_Graph_isIndependent_s : impl_Graph_isIndependent_D.Says Try.prog := impl_Graph_isIndependent_w.says follows tabOk impl_Graph_isFree_e_ok
noncomputable def impl_Graph_isIndependent_e : Env := more impl_Graph_isFree_e impl_Graph_isIndependent_D
theorem impl_Graph_isIndependent_e_ok : EnvOk Try.prog impl_Graph_isIndependent_e := more_ok impl_Graph_isFree_e_ok impl_Graph_isIndependent_s
noncomputable def slices_Sorted_int_e : Env := more impl_Graph_isIndependent_e (sortedFn 80 85 .shr)
theorem slices_Sorted_int_e_ok : EnvOk Try.prog slices_Sorted_int_e := more_ok impl_Graph_isIndependent_e_ok (Sorted_s _ (.inl rfl))
noncomputable abbrev slices_Sorted_int := (sortedFn 80 85 .shr).F
/-! loop.example/g01128/impl.isOrder -/
abbrev impl_isOrder_E : Ve.End := ⟨[⟨4, .shr, .bool, none⟩], []⟩
abbrev impl_isOrder_a : List ASh := [.val (.list I), .val I]
abbrev impl_isOrder_o : List OSh := []
noncomputable def impl_isOrder : argP impl_isOrder_a → obP (extObs 0 impl_isOrder_o) → Option impl_isOrder_E.P
  | (list, below, ()), () => bif ((List.length list : Int) == below) then (match slices_Sorted_int () (list, ()) with | some ((r, ()), (o, ())) => (match impl_isRising (r, below, ()) () with | some ((r2, ()), ()) => some ((r2, ()), ()) | none => none) | none => none) else (some ((false, ()), ()))
noncomputable def impl_isOrder_x : Cx := ⟨tab, slices_Sorted_int_e, fun _ _ => 0, fun _ => false, [(11, 0), (11, 1), (11, 2), (11, 3), (12, 0), (12, 1), (12, 2), (12, 3), (14, 0), (14, 1), (14, 2), (14, 3)], []⟩
noncomputable def c75 : Code := bodyOf Try.f75
noncomputable def impl_isOrder_A : Ann := .nil
noncomputable def impl_isOrder_D : Ve.Fn := ⟨75, impl_isOrder_a, impl_isOrder_o, impl_isOrder_E, impl_isOrder⟩
theorem impl_isOrder_w : Walk Try.prog impl_isOrder_x impl_isOrder_D Try.f75 c75 16 impl_isOrder_A :=
  ⟨⟨Try.func75, by kernel_rfl, by kernel_rfl, by kernel_rfl, by decide, by kernel_rfl, Nat.le_of_ble_eq_true (by kernel_rfl)⟩, by kernel_rfl, by kernel_rfl, by kernel_rfl, kcast (by kernel_rfl) trivial, by kernel_rfl, fun x y => by kernel_rfl⟩
theorem impl_isOrder_s : impl_isOrder_D.Says Try.prog := impl_isOrder_w.says follows tabOk slices_Sorted_int_e_ok
noncomputable def impl_isOrder_e : Env := more slices_Sorted_int_e impl_isOrder_D
theorem impl_isOrder_e_ok : EnvOk Try.prog impl_isOrder_e := more_ok slices_Sorted_int_e_ok impl_isOrder_s
/-! loop.example/g01128/impl.IsPermutation -/
abbrev impl_IsPermutation_E : Ve.End := ⟨[⟨2, .shr, .bool, none⟩], []⟩
abbrev impl_IsPermutation_a : List ASh := [.val (.list I)]
abbrev impl_IsPermutation_o : List OSh := []
noncomputable def impl_IsPermutation : argP impl_IsPermutation_a → obP (extObs 0 impl_IsPermutation_o) → Option impl_IsPermutation_E.P
  | (p, ()), () => bif (decide ((List.length p : Int) ≤ (8 : Int))) then (match impl_isOrder (p, (List.length p : Int), ()) () with | some ((r, ()), ()) => some ((r, ()), ()) | none => none) else (some ((false, ()), ()))
noncomputable def impl_IsPermutation_x : Cx := ⟨tab, impl_isOrder_e, fun _ _ => 0, fun _ => false, [(10, 0), (10, 1), (10, 2), (10, 3)], []⟩
noncomputable def c70 : Code := bodyOf Try.f70
noncomputable def impl_IsPermutation_A : Ann := .nil
noncomputable def impl_IsPermutation_D : Ve.Fn := ⟨70, impl_IsPermutation_a, impl_IsPermutation_o, impl_IsPermutation_E, impl_IsPermutation⟩
theorem impl_IsPermutation_w : Walk Try.prog impl_IsPermutation_x impl_IsPermutation_D Try.f70 c70 12 impl_IsPermutation_A :=
  ⟨⟨Try.func70, by kernel_rfl, by kernel_rfl, by kernel_rfl, by decide, by kernel_rfl, Nat.le_of_ble_eq_true (by kernel_rfl)⟩, by kernel_rfl, by kernel_rfl, by kernel_rfl, kcast (by kernel_rfl) trivial, by kernel_rfl, fun x y => by kernel_rfl⟩
theorem impl_IsPermutation_s : impl_IsPermutation_D.Says Try.prog := impl_IsPermutation_w.says follows tabOk impl_isOrder_e_ok
noncomputable def impl_IsPermutation_e : Env := more impl_isOrder_e impl_IsPermutation_D
theorem impl_IsPermutation_e_ok : EnvOk Try.prog impl_IsPermutation_e := more_ok impl_isOrder_e_ok impl_IsPermutation_s
/-! loop.example/g01128/impl.isTokens -/
abbrev impl_isTokens_E : Ve.End := ⟨[⟨4, .shr, .bool, none⟩], []⟩
abbrev impl_isTokens_a : List ASh := [.val (.prod I (.list (.prod I I))), .val (.list I)]
abbrev impl_isTokens_o : List OSh := []
noncomputable def impl_isTokens : argP impl_isTokens_a → obP (extObs 0 impl_isTokens_o) → Option impl_isTokens_E.P
  | (g, p, ()), () => match impl_IsGraph (g, ()) () with | some ((r, ()), ()) => (bif r then (match impl_IsPermutation (p, ()) () with | some ((r2, ()), ()) => (bif r2 then (some ((((List.length p : Int) == g.1), ()), ())) else (some ((false, ()), ()))) | none => none) else (some ((false, ()), ()))) | none => none
noncomputable def impl_isTokens_x : Cx := ⟨tab, impl_IsPermutation_e, fun _ _ => 0, fun _ => false, [(6, 0), (6, 1), (6, 2), (6, 3), (9, 0), (9, 1), (9, 2), (9, 3)], [(2, 0)]⟩
noncomputable def c53 : Code := bodyOf Try.f53
noncomputable def impl_isTokens_A : Ann := .nil
noncomputable def impl_isTokens_D : Ve.Fn := ⟨53, impl_isTokens_a, impl_isTokens_o, impl_isTokens_E, impl_isTokens⟩
theorem impl_isTokens_w : Walk Try.prog impl_isTokens_x impl_isTokens_D Try.f53 c53 18 impl_isTokens_A :=
  ⟨⟨Try.func53, by kernel_rfl, by kernel_rfl, by kernel_rfl, by decide, by kernel_rfl, Nat.le_of_ble_eq_true (by kernel_rfl)⟩, by kernel_rfl, by kernel_rfl, by kernel_rfl, kcast (by kernel_rfl) trivial, by kernel_rfl, fun x y => by kernel_rfl⟩
theorem impl_isTokens_s : impl_isTokens_D.Says Try.prog := impl_isTokens_w.says follows tabOk impl_IsPermutation_e_ok
noncomputable def impl_isTokens_e : Env := more impl_IsPermutation_e impl_isTokens_D
theorem impl_isTokens_e_ok : EnvOk Try.prog impl_isTokens_e := more_ok impl_IsPermutation_e_ok impl_isTokens_s
/-! loop.example/g01128/impl.isBoard -/
abbrev impl_isBoard_E : Ve.End := ⟨[⟨4, .shr, .bool, none⟩], []⟩
abbrev impl_isBoard_a : List ASh := [.val (.prod I (.list (.prod I I))), .val (.list I)]
abbrev impl_isBoard_o : List OSh := []
noncomputable def impl_isBoard : argP impl_isBoard_a → obP (extObs 0 impl_isBoard_o) → Option impl_isBoard_E.P
  | (g, board, ()), () => match impl_isTokens (g, board, ()) () with | some ((r, ()), ()) => (bif r then (match impl_between (g.1, (1 : Int), (6 : Int), ()) () with | some ((r2, ()), ()) => some ((r2, ()), ()) | none => none) else (some ((false, ()), ()))) | none => none
noncomputable def impl_isBoard_x : Cx := ⟨tab, impl_isTokens_e, fun _ _ => 0, fun _ => false, [(7, 0), (7, 1), (7, 2), (7, 3), (11, 0), (11, 1), (11, 2), (11, 3)], [(2, 0)]⟩
noncomputable def c25 : Code := bodyOf Try.f25
noncomputable def impl_isBoard_A : Ann := .nil
noncomputable def impl_isBoard_D : Ve.Fn := ⟨25, impl_isBoard_a, impl_isBoard_o, impl_isBoard_E, impl_isBoard⟩
theorem impl_isBoard_w : Walk Try.prog impl_isBoard_x impl_isBoard_D Try.f25 c25 13 impl_isBoard_A :=
  ⟨⟨Try.func25, by kernel_rfl, by kernel_rfl, by kernel_rfl, by decide, by kernel_rfl, Nat.le_of_ble_eq_true (by kernel_rfl)⟩, by kernel_rfl, by kernel_rfl, by kernel_rfl, kcast (by kernel_rfl) trivial, by kernel_rfl, fun x y => by kernel_rfl⟩
theorem impl_isBoard_s : impl_isBoard_D.Says Try.prog := impl_isBoard_w.says follows tabOk impl_isTokens_e_ok
noncomputable def impl_isBoard_e : Env := more impl_isTokens_e impl_isBoard_D
theorem impl_isBoard_e_ok : EnvOk Try.prog impl_isBoard_e := more_ok impl_isTokens_e_ok impl_isBoard_s
/-! (loop.example/g01128/impl.Graph).isColouring$1 -/
abbrev impl_Graph_isColouring_1_vc_E : Ve.End := ⟨[⟨3, .shr, .bool, none⟩], []⟩
abbrev impl_Graph_isColouring_1_vc_a : List ASh := [.val I, .cst I]
abbrev impl_Graph_isColouring_1_vc_o : List OSh := []
noncomputable def impl_Graph_isColouring_1_vc : argP impl_Graph_isColouring_1_vc_a → obP (extObs 0 impl_Graph_isColouring_1_vc_o) → Option impl_Graph_isColouring_1_vc_E.P
  | (c, t1, ()), () => match impl_between (c, (0 : Int), (w64 (t1 - (1 : Int))), ()) () with | some ((r, ()), ()) => some (((!r), ()), ()) | none => none
noncomputable def impl_Graph_isColouring_1_vc_x : Cx := ⟨tab, impl_isBoard_e, fun _ _ => 0, fun _ => false, [(7, 0), (7, 1), (7, 2), (7, 3)], []⟩
noncomputable def c50 : Code := bodyOf Try.f50
noncomputable def impl_Graph_isColouring_1_vc_A : Ann := .nil
noncomputable def impl_Graph_isColouring_1_vc_D : Ve.Fn := ⟨50, impl_Graph_isColouring_1_vc_a, impl_Graph_isColouring_1_vc_o, impl_Graph_isColouring_1_vc_E, impl_Graph_isColouring_1_vc⟩
theorem impl_Graph_isColouring_1_vc_w : Walk Try.prog impl_Graph_isColouring_1_vc_x impl_Graph_isColouring_1_vc_D Try.f50 c50 9 impl_Graph_isColouring_1_vc_A :=
  ⟨⟨Try.func50, by kernel_rfl, by kernel_rfl, by kernel_rfl, by decide, by kernel_rfl, Nat.le_of_ble_eq_true (by kernel_rfl)⟩, by kernel_rfl, by kernel_rfl, by kernel_rfl, kcast (by kernel_rfl) trivial, by kernel_rfl, fun x y => by kernel_rfl⟩
theorem impl_Graph_isColouring_1_vc_s : impl_Graph_isColouring_1_vc_D.Says Try.prog := impl_Graph_isColouring_1_vc_w.says follows tabOk impl_isBoard_e_ok
noncomputable def impl_Graph_isColouring_1_vc_e : Env := more impl_isBoard_e impl_Graph_isColouring_1_vc_D
theorem impl_Graph_isColouring_1_vc_e_ok : EnvOk Try.prog impl_Graph_isColouring_1_vc_e := more_ok impl_isBoard_e_ok impl_Graph_isColouring_1_vc_s
/-! slices.IndexFunc[[]int,int] -/
abbrev slices_IndexFunc_int_int_vf_impl_Graph_isColouring_1_0__bs_J0 : Tpl := ⟨[(0, .val (.list I)), (1, .fn ⟨50, [(1000000, 0)]⟩), (7, .val I), (8, .val I)], [((1000000, 0), .box .shr I)], []⟩
abbrev slices_IndexFunc_int_int_vf_impl_Graph_isColouring_1_0__bs_J1 : Tpl := ⟨[(4, .val I)], [((1000000, 0), .box .shr I)], []⟩
abbrev slices_IndexFunc_int_int_vf_impl_Graph_isColouring_1_0__bs_J2 : Tpl := ⟨[], [((1000000, 0), .box .shr I)], []⟩
abbrev slices_IndexFunc_int_int_vf_impl_Graph_isColouring_1_0__bs_E : Ve.End := ⟨[⟨4, .shr, I, none⟩], [.box .shr I]⟩
abbrev slices_IndexFunc_int_int_vf_impl_Graph_isColouring_1_0__bs_a : List ASh := [.val (.list I), .fn 50 [0]]
abbrev slices_IndexFunc_int_int_vf_impl_Graph_isColouring_1_0__bs_o : List OSh := [.box .shr I]
abbrev slices_IndexFunc_int_int_vf_impl_Graph_isColouring_1_0__bs_O0 : Out := .or .ret slices_IndexFunc_int_int_vf_impl_Graph_isColouring_1_0__bs_J1 (.one (.ex 0) slices_IndexFunc_int_int_vf_impl_Graph_isColouring_1_0__bs_J2)
noncomputable def slices_IndexFunc_int_int_vf_impl_Graph_isColouring_1_0__bs_B0 : slices_IndexFunc_int_int_vf_impl_Graph_isColouring_1_0__bs_J0.P → Option (slices_IndexFunc_int_int_vf_impl_Graph_isColouring_1_0__bs_J0.P ⊕ slices_IndexFunc_int_int_vf_impl_Graph_isColouring_1_0__bs_O0.P)
  | ((s, t7, t8, ()), (o0, ())) => bif (decide (t8 < t7)) then (guardB (inb t8 (List.length s)) (match impl_Graph_isColouring_1_vc ((List.getD s (Int.toNat t8) (0 : Int)), o0, ()) () with | some ((r, ()), ()) => (bif r then (some (.inr (.inl ((t8, ()), (o0, ()))))) else (some (.inl ((s, t7, (w64 (t8 + (1 : Int))), ()), (o0, ()))))) | none => none)) else (some (.inr (.inr ((), (o0, ())))))
noncomputable def slices_IndexFunc_int_int_vf_impl_Graph_isColouring_1_0__bs : argP slices_IndexFunc_int_int_vf_impl_Graph_isColouring_1_0__bs_a → obP (extObs 0 slices_IndexFunc_int_int_vf_impl_Graph_isColouring_1_0__bs_o) → Option slices_IndexFunc_int_int_vf_impl_Graph_isColouring_1_0__bs_E.P
  | (s, ()), (o0, ()) => match loopO slices_IndexFunc_int_int_vf_impl_Graph_isColouring_1_0__bs_B0 ((s, (List.length s : Int), (0 : Int), ()), (o0, ())) with | some (.inl ((t4, ()), (o0_2, ()))) => some ((t4, ()), (o0_2, ())) | some (.inr ((), (o0_3, ()))) => some (((-1 : Int), ()), (o0_3, ())) | none => none
noncomputable def slices_IndexFunc_int_int_vf_impl_Graph_isColouring_1_0__bs_x : Cx := ⟨tab, impl_Graph_isColouring_1_vc_e, fun _ _ => 0, fun _ => false, [(16, 0), (16, 1), (16, 2), (16, 3)], []⟩
noncomputable def c68 : Code := bodyOf Try.f68
noncomputable def slices_IndexFunc_int_int_vf_impl_Graph_isColouring_1_0__bs_A : Ann := .seq .nil (.seq (.seq .nil (.loop slices_IndexFunc_int_int_vf_impl_Graph_isColouring_1_0__bs_J0 slices_IndexFunc_int_int_vf_impl_Graph_isColouring_1_0__bs_O0 slices_IndexFunc_int_int_vf_impl_Graph_isColouring_1_0__bs_B0 .nil)) .nil)
theorem slices_IndexFunc_int_int_vf_impl_Graph_isColouring_1_0__bs_r0 (p : slices_IndexFunc_int_int_vf_impl_Graph_isColouring_1_0__bs_J0.P) : run slices_IndexFunc_int_int_vf_impl_Graph_isColouring_1_0__bs_x (subc [1, 0, 1, 0, 0] c68) .nil (slices_IndexFunc_int_int_vf_impl_Graph_isColouring_1_0__bs_J0.S p) (leaf slices_IndexFunc_int_int_vf_impl_Graph_isColouring_1_0__bs_J0 slices_IndexFunc_int_int_vf_impl_Graph_isColouring_1_0__bs_O0) = slices_IndexFunc_int_int_vf_impl_Graph_isColouring_1_0__bs_B0 p := by kernel_rfl
noncomputable def slices_IndexFunc_int_int_vf_impl_Graph_isColouring_1_0__bs_D : Ve.Fn := ⟨68, slices_IndexFunc_int_int_vf_impl_Graph_isColouring_1_0__bs_a, slices_IndexFunc_int_int_vf_impl_Graph_isColouring_1_0__bs_o, slices_IndexFunc_int_int_vf_impl_Graph_isColouring_1_0__bs_E, slices_IndexFunc_int_int_vf_impl_Graph_isColouring_1_0__bs⟩
theorem slices_IndexFunc_int_int_vf_impl_Graph_isColouring_1_0__bs_w : Walk Try.prog slices_IndexFunc_int_int_vf_impl_Graph_isColouring_1_0__bs_x slices_IndexFunc_int_int_vf_impl_Graph_isColouring_1_0__bs_D Try.f68 c68 19 slices_IndexFunc_int_int_vf_impl_Graph_isColouring_1_0__bs_A :=
  ⟨⟨Try.func68, by kernel_rfl, by kernel_rfl, by kernel_rfl, by decide, by kernel_rfl, Nat.le_of_ble_eq_true (by kernel_rfl)⟩, by kernel_rfl, by kernel_rfl, by kernel_rfl, kcast (by kernel_rfl) (⟨slices_IndexFunc_int_int_vf_impl_Graph_isColouring_1_0__bs_r0, trivial⟩ : (∀ p, run slices_IndexFunc_int_int_vf_impl_Graph_isColouring_1_0__bs_x (subc [1, 0, 1, 0, 0] c68) .nil (slices_IndexFunc_int_int_vf_impl_Graph_isColouring_1_0__bs_J0.S p) (leaf slices_IndexFunc_int_int_vf_impl_Graph_isColouring_1_0__bs_J0 slices_IndexFunc_int_int_vf_impl_Graph_isColouring_1_0__bs_O0) = slices_IndexFunc_int_int_vf_impl_Graph_isColouring_1_0__bs_B0 p) ∧ True), by kernel_rfl, fun x y => by kernel_rfl⟩
theorem slices_IndexFunc_int_int_vf_impl_Graph_isColouring_1_0__bs_s : slices_IndexFunc_int_int_vf_impl_Graph_isColouring_1_0__bs_D.Says Try.prog := slices_IndexFunc_int_int_vf_impl_Graph_isColouring_1_0__bs_w.says follows tabOk impl_Graph_isColouring_1_vc_e_ok
noncomputable def slices_IndexFunc_int_int_vf_impl_Graph_isColouring_1_0__bs_e : Env := more impl_Graph_isColouring_1_vc_e slices_IndexFunc_int_int_vf_impl_Graph_isColouring_1_0__bs_D
theorem slices_IndexFunc_int_int_vf_impl_Graph_isColouring_1_0__bs_e_ok : EnvOk Try.prog slices_IndexFunc_int_int_vf_impl_Graph_isColouring_1_0__bs_e := more_ok impl_Graph_isColouring_1_vc_e_ok slices_IndexFunc_int_int_vf_impl_Graph_isColouring_1_0__bs_s
/-! slices.ContainsFunc[[]int,int] -/
abbrev slices_ContainsFunc_int_int_vf_impl_Graph_isColouring_1_0__bs_E : Ve.End := ⟨[⟨4, .shr, .bool, none⟩], [.box .shr I]⟩
abbrev slices_ContainsFunc_int_int_vf_impl_Graph_isColouring_1_0__bs_a : List ASh := [.val (.list I), .fn 50 [0]]
abbrev slices_ContainsFunc_int_int_vf_impl_Graph_isColouring_1_0__bs_o : List OSh := [.box .shr I]
noncomputable def slices_ContainsFunc_int_int_vf_impl_Graph_isColouring_1_0__bs : argP slices_ContainsFunc_int_int_vf_impl_Graph_isColouring_1_0__bs_a → obP (extObs 0 slices_ContainsFunc_int_int_vf_impl_Graph_isColouring_1_0__bs_o) → Option slices_ContainsFunc_int_int_vf_impl_Graph_isColouring_1_0__bs_E.P
  | (s, ()), (o0, ()) => match slices_IndexFunc_int_int_vf_impl_Graph_isColouring_1_0__bs (s, ()) (o0, ()) with | some ((r, ()), (o, ())) => some (((decide ((0 : Int) ≤ r)), ()), (o, ())) | none => none
noncomputable def slices_ContainsFunc_int_int_vf_impl_Graph_isColouring_1_0__bs_x : Cx := ⟨tab, slices_IndexFunc_int_int_vf_impl_Graph_isColouring_1_0__bs_e, fun _ _ => 0, fun _ => false, [(7, 0), (7, 1), (7, 2), (7, 3)], []⟩
noncomputable def c49 : Code := bodyOf Try.f49
noncomputable def slices_ContainsFunc_int_int_vf_impl_Graph_isColouring_1_0__bs_A : Ann := .nil
noncomputable def slices_ContainsFunc_int_int_vf_impl_Graph_isColouring_1_0__bs_D : Ve.Fn := ⟨49, slices_ContainsFunc_int_int_vf_impl_Graph_isColouring_1_0__bs_a, slices_ContainsFunc_int_int_vf_impl_Graph_isColouring_1_0__bs_o, slices_ContainsFunc_int_int_vf_impl_Graph_isColouring_1_0__bs_E, slices_ContainsFunc_int_int_vf_impl_Graph_isColouring_1_0__bs⟩
theorem slices_ContainsFunc_int_int_vf_impl_Graph_isColouring_1_0__bs_w : Walk Try.prog slices_ContainsFunc_int_int_vf_impl_Graph_isColouring_1_0__bs_x slices_ContainsFunc_int_int_vf_impl_Graph_isColouring_1_0__bs_D Try.f49 c49 9 slices_ContainsFunc_int_int_vf_impl_Graph_isColouring_1_0__bs_A :=
  ⟨⟨Try.func49, by kernel_rfl, by kernel_rfl, by kernel_rfl, by decide, by kernel_rfl, Nat.le_of_ble_eq_true (by kernel_rfl)⟩, by kernel_rfl, by kernel_rfl, by kernel_rfl, kcast (by kernel_rfl) trivial, by kernel_rfl, fun x y => by kernel_rfl⟩
theorem slices_ContainsFunc_int_int_vf_impl_Graph_isColouring_1_0__bs_s : slices_ContainsFunc_int_int_vf_impl_Graph_isColouring_1_0__bs_D.Says Try.prog := slices_ContainsFunc_int_int_vf_impl_Graph_isColouring_1_0__bs_w.says follows tabOk slices_IndexFunc_int_int_vf_impl_Graph_isColouring_1_0__bs_e_ok
noncomputable def slices_ContainsFunc_int_int_vf_impl_Graph_isColouring_1_0__bs_e : Env := more slices_IndexFunc_int_int_vf_impl_Graph_isColouring_1_0__bs_e slices_ContainsFunc_int_int_vf_impl_Graph_isColouring_1_0__bs_D
theorem slices_ContainsFunc_int_int_vf_impl_Graph_isColouring_1_0__bs_e_ok : EnvOk Try.prog slices_ContainsFunc_int_int_vf_impl_Graph_isColouring_1_0__bs_e := more_ok slices_IndexFunc_int_int_vf_impl_Graph_isColouring_1_0__bs_e_ok slices_ContainsFunc_int_int_vf_impl_Graph_isColouring_1_0__bs_s
/-! (loop.example/g01128/impl.Graph).isColouring$2 -/
abbrev impl_Graph_isColouring_2_vc_E : Ve.End := ⟨[⟨3, .shr, .bool, none⟩], []⟩
abbrev impl_Graph_isColouring_2_vc_a : List ASh := [.val (.prod I I), .cst (.list I)]
abbrev impl_Graph_isColouring_2_vc_o : List OSh := []
noncomputable def impl_Graph_isColouring_2_vc : argP impl_Graph_isColouring_2_vc_a → obP (extObs 0 impl_Graph_isColouring_2_vc_o) → Option impl_Graph_isColouring_2_vc_E.P
  | (e, t1, ()), () => guardB (inb e.1 (List.length t1)) (guardB (inb e.2 (List.length t1)) (some ((((List.getD t1 (Int.toNat e.1) (0 : Int)) == (List.getD t1 (Int.toNat e.2) (0 : Int))), ()), ())))
noncomputable def impl_Graph_isColouring_2_vc_x : Cx := ⟨tab, slices_ContainsFunc_int_int_vf_impl_Graph_isColouring_1_0__bs_e, fun _ _ => 0, fun _ => false, [], [(2, 0)]⟩
noncomputable def c52 : Code := bodyOf Try.f52
noncomputable def impl_Graph_isColouring_2_vc_A : Ann := .seq .nil (.seq (.draw [(0, .flo), (1, .flo), (2, .flo), (3, .flo), (4, .flo), (5, .flo), (6, .flo), (7, .flo), (8, .flo), (9, .flo), (10, .flo), (11, .flo)]) .nil)
noncomputable def impl_Graph_isColouring_2_vc_D : Ve.Fn := ⟨52, impl_Graph_isColouring_2_vc_a, impl_Graph_isColouring_2_vc_o, impl_Graph_isColouring_2_vc_E, impl_Graph_isColouring_2_vc⟩
theorem impl_Graph_isColouring_2_vc_w : Walk Try.prog impl_Graph_isColouring_2_vc_x impl_Graph_isColouring_2_vc_D Try.f52 c52 15 impl_Graph_isColouring_2_vc_A :=
  ⟨⟨Try.func52, by kernel_rfl, by kernel_rfl, by kernel_rfl, by decide, by kernel_rfl, Nat.le_of_ble_eq_true (by kernel_rfl)⟩, by kernel_rfl, by kernel_rfl, by kernel_rfl, kcast (by kernel_rfl) trivial, by kernel_rfl, fun x y => by kernel_rfl⟩
theorem impl_Graph_isColouring_2_vc_s : impl_Graph_isColouring_2_vc_D.Says Try.prog := impl_Graph_isColouring_2_vc_w.says follows tabOk slices_ContainsFunc_int_int_vf_impl_Graph_isColouring_1_0__bs_e_ok
noncomputable def impl_Graph_isColouring_2_vc_e : Env := more slices_ContainsFunc_int_int_vf_impl_Graph_isColouring_1_0__bs_e impl_Graph_isColouring_2_vc_D
theorem impl_Graph_isColouring_2_vc_e_ok : EnvOk Try.prog impl_Graph_isColouring_2_vc_e := more_ok slices_ContainsFunc_int_int_vf_impl_Graph_isColouring_1_0__bs_e_ok impl_Graph_isColouring_2_vc_s
/-! slices.IndexFunc[[][2]int,[2]int] -/
abbrev slices_IndexFunc_2_int_2_int_vf_impl_Graph_isColouring_2_0__bs_J0 : Tpl := ⟨[(0, .val (.list (.prod I I))), (1, .fn ⟨52, [(1000000, 0)]⟩), (7, .val I), (8, .val I)], [((1000000, 0), .box .shr (.list I))], []⟩
abbrev slices_IndexFunc_2_int_2_int_vf_impl_Graph_isColouring_2_0__bs_J1 : Tpl := ⟨[(4, .val I)], [((1000000, 0), .box .shr (.list I))], []⟩
abbrev slices_IndexFunc_2_int_2_int_vf_impl_Graph_isColouring_2_0__bs_J2 : Tpl := ⟨[], [((1000000, 0), .box .shr (.list I))], []⟩
abbrev slices_IndexFunc_2_int_2_int_vf_impl_Graph_isColouring_2_0__bs_E : Ve.End := ⟨[⟨4, .shr, I, none⟩], [.box .shr (.list I)]⟩
abbrev slices_IndexFunc_2_int_2_int_vf_impl_Graph_isColouring_2_0__bs_a : List ASh := [.val (.list (.prod I I)), .fn 52 [0]]
abbrev slices_IndexFunc_2_int_2_int_vf_impl_Graph_isColouring_2_0__bs_o : List OSh := [.box .shr (.list I)]
abbrev slices_IndexFunc_2_int_2_int_vf_impl_Graph_isColouring_2_0__bs_O0 : Out := .or .ret slices_IndexFunc_2_int_2_int_vf_impl_Graph_isColouring_2_0__bs_J1 (.one (.ex 0) slices_IndexFunc_2_int_2_int_vf_impl_Graph_isColouring_2_0__bs_J2)
noncomputable def slices_IndexFunc_2_int_2_int_vf_impl_Graph_isColouring_2_0__bs_B0 : slices_IndexFunc_2_int_2_int_vf_impl_Graph_isColouring_2_0__bs_J0.P → Option (slices_IndexFunc_2_int_2_int_vf_impl_Graph_isColouring_2_0__bs_J0.P ⊕ slices_IndexFunc_2_int_2_int_vf_impl_Graph_isColouring_2_0__bs_O0.P)
  | ((s, t7, t8, ()), (o0, ())) => bif (decide (t8 < t7)) then (guardB (inb t8 (List.length s)) (match impl_Graph_isColouring_2_vc ((List.getD s (Int.toNat t8) ((0 : Int), (0 : Int))), o0, ()) () with | some ((r, ()), ()) => (bif r then (some (.inr (.inl ((t8, ()), (o0, ()))))) else (some (.inl ((s, t7, (w64 (t8 + (1 : Int))), ()), (o0, ()))))) | none => none)) else (some (.inr (.inr ((), (o0, ())))))
noncomputable def slices_IndexFunc_2_int_2_int_vf_impl_Graph_isColouring_2_0__bs : argP slices_IndexFunc_2_int_2_int_vf_impl_Graph_isColouring_2_0__bs_a → obP (extObs 0 slices_IndexFunc_2_int_2_int_vf_impl_Graph_isColouring_2_0__bs_o) → Option slices_IndexFunc_2_int_2_int_vf_impl_Graph_isColouring_2_0__bs_E.P
  | (s, ()), (o0, ()) => match loopO slices_IndexFunc_2_int_2_int_vf_impl_Graph_isColouring_2_0__bs_B0 ((s, (List.length s : Int), (0 : Int), ()), (o0, ())) with | some (.inl ((t4, ()), (o0_2, ()))) => some ((t4, ()), (o0_2, ())) | some (.inr ((), (o0_3, ()))) => some (((-1 : Int), ()), (o0_3, ())) | none => none
noncomputable def slices_IndexFunc_2_int_2_int_vf_impl_Graph_isColouring_2_0__bs_x : Cx := ⟨tab, impl_Graph_isColouring_2_vc_e, fun _ _ => 0, fun _ => false, [(16, 0), (16, 1), (16, 2), (16, 3)], []⟩
noncomputable def slices_IndexFunc_2_int_2_int_vf_impl_Graph_isColouring_2_0__bs_A : Ann := .seq .nil (.seq (.seq .nil (.loop slices_IndexFunc_2_int_2_int_vf_impl_Graph_isColouring_2_0__bs_J0 slices_IndexFunc_2_int_2_int_vf_impl_Graph_isColouring_2_0__bs_O0 slices_IndexFunc_2_int_2_int_vf_impl_Graph_isColouring_2_0__bs_B0 .nil)) .nil)
theorem slices_IndexFunc_2_int_2_int_vf_impl_Graph_isColouring_2_0__bs_r0 (p : slices_IndexFunc_2_int_2_int_vf_impl_Graph_isColouring_2_0__bs_J0.P) : run slices_IndexFunc_2_int_2_int_vf_impl_Graph_isColouring_2_0__bs_x (subc [1, 0, 1, 0, 0] c69) .nil (slices_IndexFunc_2_int_2_int_vf_impl_Graph_isColouring_2_0__bs_J0.S p) (leaf slices_IndexFunc_2_int_2_int_vf_impl_Graph_isColouring_2_0__bs_J0 slices_IndexFunc_2_int_2_int_vf_impl_Graph_isColouring_2_0__bs_O0) = slices_IndexFunc_2_int_2_int_vf_impl_Graph_isColouring_2_0__bs_B0 p := by kernel_rfl
noncomputable def slices_IndexFunc_2_int_2_int_vf_impl_Graph_isColouring_2_0__bs_D : Ve.Fn := ⟨69, slices_IndexFunc_2_int_2_int_vf_impl_Graph_isColouring_2_0__bs_a, slices_IndexFunc_2_int_2_int_vf_impl_Graph_isColouring_2_0__bs_o, slices_IndexFunc_2_int_2_int_vf_impl_Graph_isColouring_2_0__bs_E, slices_IndexFunc_2_int_2_int_vf_impl_Graph_isColouring_2_0__bs⟩
theorem slices_IndexFunc_2_int_2_int_vf_impl_Graph_isColouring_2_0__bs_w : Walk Try.prog slices_IndexFunc_2_int_2_int_vf_impl_Graph_isColouring_2_0__bs_x slices_IndexFunc_2_int_2_int_vf_impl_Graph_isColouring_2_0__bs_D Try.f69 c69 19 slices_IndexFunc_2_int_2_int_vf_impl_Graph_isColouring_2_0__bs_A :=
  ⟨⟨Try.func69, by kernel_rfl, by kernel_rfl, by kernel_rfl, by decide, by kernel_rfl, Nat.le_of_ble_eq_true (by kernel_rfl)⟩, by kernel_rfl, by kernel_rfl, by kernel_rfl, kcast (by kernel_rfl) (⟨slices_IndexFunc_2_int_2_int_vf_impl_Graph_isColouring_2_0__bs_r0, trivial⟩ : (∀ p, run slices_IndexFunc_2_int_2_int_vf_impl_Graph_isColouring_2_0__bs_x (subc [1, 0, 1, 0, 0] c69) .nil (slices_IndexFunc_2_int_2_int_vf_impl_Graph_isColouring_2_0__bs_J0.S p) (leaf slices_IndexFunc_2_int_2_int_vf_impl_Graph_isColouring_2_0__bs_J0 slices_IndexFunc_2_int_2_int_vf_impl_Graph_isColouring_2_0__bs_O0) = slices_IndexFunc_2_int_2_int_vf_impl_Graph_isColouring_2_0__bs_B0 p) ∧ True), by kernel_rfl, fun x y => by kernel_rfl⟩
theorem slices_IndexFunc_2_int_2_int_vf_impl_Graph_isColouring_2_0__bs_s : slices_IndexFunc_2_int_2_int_vf_impl_Graph_isColouring_2_0__bs_D.Says Try.prog := slices_IndexFunc_2_int_2_int_vf_impl_Graph_isColouring_2_0__bs_w.says follows tabOk impl_Graph_isColouring_2_vc_e_ok
noncomputable def slices_IndexFunc_2_int_2_int_vf_impl_Graph_isColouring_2_0__bs_e : Env := more impl_Graph_isColouring_2_vc_e slices_IndexFunc_2_int_2_int_vf_impl_Graph_isColouring_2_0__bs_D
theorem slices_IndexFunc_2_int_2_int_vf_impl_Graph_isColouring_2_0__bs_e_ok : EnvOk Try.prog slices_IndexFunc_2_int_2_int_vf_impl_Graph_isColouring_2_0__bs_e := more_ok impl_Graph_isColouring_2_vc_e_ok slices_IndexFunc_2_int_2_int_vf_impl_Graph_isColouring_2_0__bs_s
/-! slices.ContainsFunc[[][2]int,[2]int] -/
abbrev slices_ContainsFunc_2_int_2_int_vf_impl_Graph_isColouring_2_0__bs_E : Ve.End := ⟨[⟨4, .shr, .bool, none⟩], [.box .shr (.list I)]⟩
abbrev slices_ContainsFunc_2_int_2_int_vf_impl_Graph_isColouring_2_0__bs_a : List ASh := [.val (.list (.prod I I)), .fn 52 [0]]
abbrev slices_ContainsFunc_2_int_2_int_vf_impl_Graph_isColouring_2_0__bs_o : List OSh := [.box .shr (.list I)]
noncomputable def slices_ContainsFunc_2_int_2_int_vf_impl_Graph_isColouring_2_0__bs : argP slices_ContainsFunc_2_int_2_int_vf_impl_Graph_isColouring_2_0__bs_a → obP (extObs 0 slices_ContainsFunc_2_int_2_int_vf_impl_Graph_isColouring_2_0__bs_o) → Option slices_ContainsFunc_2_int_2_int_vf_impl_Graph_isColouring_2_0__bs_E.P
  | (s, ()), (o0, ()) => match slices_IndexFunc_2_int_2_int_vf_impl_Graph_isColouring_2_0__bs (s, ()) (o0, ()) with | some ((r, ()), (o, ())) => some (((decide ((0 : Int) ≤ r)), ()), (o, ())) | none => none
noncomputable def slices_ContainsFunc_2_int_2_int_vf_impl_Graph_isColouring_2_0__bs_x : Cx := ⟨tab, slices_IndexFunc_2_int_2_int_vf_impl_Graph_isColouring_2_0__bs_e, fun _ _ => 0, fun _ => false, [(7, 0), (7, 1), (7, 2), (7, 3)], []⟩
noncomputable def slices_ContainsFunc_2_int_2_int_vf_impl_Graph_isColouring_2_0__bs_A : Ann := .nil
noncomputable def slices_ContainsFunc_2_int_2_int_vf_impl_Graph_isColouring_2_0__bs_D : Ve.Fn := ⟨51, slices_ContainsFunc_2_int_2_int_vf_impl_Graph_isColouring_2_0__bs_a, slices_ContainsFunc_2_int_2_int_vf_impl_Graph_isColouring_2_0__bs_o, slices_ContainsFunc_2_int_2_int_vf_impl_Graph_isColouring_2_0__bs_E, slices_ContainsFunc_2_int_2_int_vf_impl_Graph_isColouring_2_0__bs⟩
theorem slices_ContainsFunc_2_int_2_int_vf_impl_Graph_isColouring_2_0__bs_w : Walk Try.prog slices_ContainsFunc_2_int_2_int_vf_impl_Graph_isColouring_2_0__bs_x slices_ContainsFunc_2_int_2_int_vf_impl_Graph_isColouring_2_0__bs_D Try.f51 c51 9 slices_ContainsFunc_2_int_2_int_vf_impl_Graph_isColouring_2_0__bs_A :=
  ⟨⟨Try.func51, by kernel_rfl, by kernel_rfl, by kernel_rfl, by decide, by kernel_rfl, Nat.le_of_ble_eq_true (by kernel_rfl)⟩, by kernel_rfl, by kernel_rfl, by kernel_rfl, kcast (by kernel_rfl) trivial, by kernel_rfl, fun x y => by kernel_rfl⟩
theorem slices_ContainsFunc_2_int_2_int_vf_impl_Graph_isColouring_2_0__bs_s : slices_ContainsFunc_2_int_2_int_vf_impl_Graph_isColouring_2_0__bs_D.Says Try.prog := slices_ContainsFunc_2_int_2_int_vf_impl_Graph_isColouring_2_0__bs_w.says follows tabOk slices_IndexFunc_2_int_2_int_vf_impl_Graph_isColouring_2_0__bs_e_ok
noncomputable def slices_ContainsFunc_2_int_2_int_vf_impl_Graph_isColouring_2_0__bs_e : Env := more slices_IndexFunc_2_int_2_int_vf_impl_Graph_isColouring_2_0__bs_e slices_ContainsFunc_2_int_2_int_vf_impl_Graph_isColouring_2_0__bs_D
theorem slices_ContainsFunc_2_int_2_int_vf_impl_Graph_isColouring_2_0__bs_e_ok : EnvOk Try.prog slices_ContainsFunc_2_int_2_int_vf_impl_Graph_isColouring_2_0__bs_e := more_ok slices_IndexFunc_2_int_2_int_vf_impl_Graph_isColouring_2_0__bs_e_ok slices_ContainsFunc_2_int_2_int_vf_impl_Graph_isColouring_2_0__bs_s
/-! (loop.example/g01128/impl.Graph).isColouring -/
abbrev impl_Graph_isColouring_E : Ve.End := ⟨[⟨6, .shr, .bool, none⟩], []⟩
abbrev impl_Graph_isColouring_a : List ASh := [.val (.prod I (.list (.prod I I))), .val I, .val (.list I)]
abbrev impl_Graph_isColouring_o : List OSh := []
noncomputable def impl_Graph_isColouring : argP impl_Graph_isColouring_a → obP (extObs 0 impl_Graph_isColouring_o) → Option impl_Graph_isColouring_E.P
  | (g, k, colours, ()), () => bif ((List.length colours : Int) != g.1) then (some ((false, ()), ())) else (match slices_ContainsFunc_int_int_vf_impl_Graph_isColouring_1_0__bs (colours, ()) (k, ()) with | some ((r, ()), (o, ())) => (bif r then (some ((false, ()), ())) else (match slices_ContainsFunc_2_int_2_int_vf_impl_Graph_isColouring_2_0__bs (g.2, ()) (colours, ()) with | some ((r2, ()), (o2, ())) => some (((!r2), ()), ()) | none => none)) | none => none)
noncomputable def impl_Graph_isColouring_x : Cx := ⟨tab, slices_ContainsFunc_2_int_2_int_vf_impl_Graph_isColouring_2_0__bs_e, fun _ _ => 0, fun _ => false, [(15, 0), (15, 1), (15, 2), (15, 3), (20, 0), (20, 1), (20, 2), (20, 3)], [(3, 0)]⟩
noncomputable def c24 : Code := bodyOf Try.f24
noncomputable def impl_Graph_isColouring_A : Ann := .nil
noncomputable def impl_Graph_isColouring_D : Ve.Fn := ⟨24, impl_Graph_isColouring_a, impl_Graph_isColouring_o, impl_Graph_isColouring_E, impl_Graph_isColouring⟩
theorem impl_Graph_isColouring_w : Walk Try.prog impl_Graph_isColouring_x impl_Graph_isColouring_D Try.f24 c24 22 impl_Graph_isColouring_A :=
  ⟨⟨Try.func24, by kernel_rfl, by kernel_rfl, by kernel_rfl, by decide, by kernel_rfl, Nat.le_of_ble_eq_true (by kernel_rfl)⟩, by kernel_rfl, by kernel_rfl, by kernel_rfl, kcast (by kernel_rfl) trivial, by kernel_rfl, fun x y => by kernel_rfl⟩
theorem impl_Graph_isColouring_s : impl_Graph_isColouring_D.Says Try.prog := impl_Graph_isColouring_w.says follows tabOk slices_ContainsFunc_2_int_2_int_vf_impl_Graph_isColouring_2_0__bs_e_ok
noncomputable def impl_Graph_isColouring_e : Env := more slices_ContainsFunc_2_int_2_int_vf_impl_Graph_isColouring_2_0__bs_e impl_Graph_isColouring_D
theorem impl_Graph_isColouring_e_ok : EnvOk Try.prog impl_Graph_isColouring_e := more_ok slices_ContainsFunc_2_int_2_int_vf_impl_Graph_isColouring_2_0__bs_e_ok impl_Graph_isColouring_s
/-! loop.example/g01128/impl.IsStudio -/
abbrev impl_IsStudio_E : Ve.End := ⟨[⟨2, .shr, .bool, none⟩], []⟩
abbrev impl_IsStudio_a : List ASh := [.val (.prod (.prod I (.list (.prod I I))) (.prod I (.prod (.list I) (.prod (.list I) (.prod (.list I) I)))))]
abbrev impl_IsStudio_o : List OSh := []
noncomputable def impl_IsStudio : argP impl_IsStudio_a → obP (extObs 0 impl_IsStudio_o) → Option impl_IsStudio_E.P
  | (s, ()), () => match impl_between (s.2.2.2.2.2, (0 : Int), (1000 : Int), ()) () with | some ((r, ()), ()) => (bif r then (match impl_isColourCase (s.1, s.2.1, ()) () with | some ((r2, ()), ()) => (bif r2 then (match impl_Graph_isIndependent (s.1, s.2.2.1, ()) () with | some ((r3, ()), ()) => (bif r3 then (bif ((List.length s.2.2.2.1 : Int) == (0 : Int)) then (match impl_isBoard (s.1, s.2.2.2.2.1, ()) () with | some ((r4, ()), ()) => some ((r4, ()), ()) | none => none) else (match impl_Graph_isColouring (s.1, s.2.1, s.2.2.2.1, ()) () with | some ((r5, ()), ()) => (bif r5 then (match impl_isBoard (s.1, s.2.2.2.2.1, ()) () with | some ((r6, ()), ()) => some ((r6, ()), ()) | none => none) else (some ((false, ()), ()))) | none => none)) else (some ((false, ()), ()))) | none => none) else (some ((false, ()), ()))) | none => none) else (some ((false, ()), ()))) | none => none
noncomputable def impl_IsStudio_x : Cx := ⟨tab, impl_Graph_isColouring_e, fun _ _ => 0, fun _ => false, [(5, 0), (5, 1), (5, 2), (5, 3), (11, 0), (11, 1), (11, 2), (11, 3), (18, 0), (18, 1), (18, 2), (18, 3), (32, 0), (32, 1), (32, 2), (32, 3), (40, 0), (40, 1), (40, 2), (40, 3)], [(1, 0)]⟩
noncomputable def c8 : Code := bodyOf Try.f8
noncomputable def impl_IsStudio_A : Ann := .nil
noncomputable def impl_IsStudio_D : Ve.Fn := ⟨8, impl_IsStudio_a, impl_IsStudio_o, impl_IsStudio_E, impl_IsStudio⟩
theorem impl_IsStudio_w : Walk Try.prog impl_IsStudio_x impl_IsStudio_D Try.f8 c8 42 impl_IsStudio_A :=
  ⟨⟨Try.func8, by kernel_rfl, by kernel_rfl, by kernel_rfl, by decide, by kernel_rfl, Nat.le_of_ble_eq_true (by kernel_rfl)⟩, by kernel_rfl, by kernel_rfl, by kernel_rfl, kcast (by kernel_rfl) trivial, by kernel_rfl, fun x y => by kernel_rfl⟩
theorem impl_IsStudio_s : impl_IsStudio_D.Says Try.prog := impl_IsStudio_w.says follows tabOk impl_Graph_isColouring_e_ok
noncomputable def impl_IsStudio_e : Env := more impl_Graph_isColouring_e impl_IsStudio_D
theorem impl_IsStudio_e_ok : EnvOk Try.prog impl_IsStudio_e := more_ok impl_Graph_isColouring_e_ok impl_IsStudio_s
/-! loop.example/g01128/impl.orFail -/
abbrev impl_orFail_opps1psp1p1p1s_E : Ve.End := ⟨[⟨2, (.prod (.prod .shr (.own .shr)) (.prod .shr (.prod (.own .shr) (.prod (.own .shr) (.prod (.own .shr) .shr))))), (.prod (.prod I (.list (.prod I I))) (.prod I (.prod (.list I) (.prod (.list I) (.prod (.list I) I))))), some 32⟩, ⟨3, .shr, .bool, none⟩], []⟩
abbrev impl_orFail_opps1psp1p1p1s_a : List ASh := [.own (.prod (.prod .shr (.own .shr)) (.prod .shr (.prod (.own .shr) (.prod (.own .shr) (.prod (.own .shr) .shr))))) (.prod (.prod I (.list (.prod I I))) (.prod I (.prod (.list I) (.prod (.list I) (.prod (.list I) I)))))]
abbrev impl_orFail_opps1psp1p1p1s_o : List OSh := []
noncomputable def impl_orFail_opps1psp1p1p1s : argP impl_orFail_opps1psp1p1p1s_a → obP (extObs 0 impl_orFail_opps1psp1p1p1s_o) → Option impl_orFail_opps1psp1p1p1s_E.P
  | (s, ()), () => match impl_IsStudio (((s.1.1, s.1.2), (s.2.1, (s.2.2.1, (s.2.2.2.1, (s.2.2.2.2.1, s.2.2.2.2.2))))), ()) () with | some ((r, ()), ()) => (bif (!r) then (some (((((0 : Int), ([] : (List (Int × Int)))), ((0 : Int), (([] : (List Int)), (([] : (List Int)), (([] : (List Int)), (0 : Int)))))), false, ()), ())) else (some ((((s.1.1, s.1.2), (s.2.1, (s.2.2.1, (s.2.2.2.1, (s.2.2.2.2.1, s.2.2.2.2.2))))), true, ()), ()))) | none => none
noncomputable def impl_orFail_opps1psp1p1p1s_x : Cx := ⟨tab, impl_IsStudio_e, fun _ _ => 0, fun _ => false, [(5, 0), (5, 1), (5, 2), (5, 3)], []⟩
noncomputable def c34 : Code := bodyOf Try.f34
noncomputable def impl_orFail_opps1psp1p1p1s_A : Ann := .nil
noncomputable def impl_orFail_opps1psp1p1p1s_D : Ve.Fn := ⟨34, impl_orFail_opps1psp1p1p1s_a, impl_orFail_opps1psp1p1p1s_o, impl_orFail_opps1psp1p1p1s_E, impl_orFail_opps1psp1p1p1s⟩
theorem impl_orFail_opps1psp1p1p1s_w : Walk Try.prog impl_orFail_opps1psp1p1p1s_x impl_orFail_opps1psp1p1p1s_D Try.f34 c34 9 impl_orFail_opps1psp1p1p1s_A :=
  ⟨⟨Try.func34, by kernel_rfl, by kernel_rfl, by kernel_rfl, by decide, by kernel_rfl, Nat.le_of_ble_eq_true (by kernel_rfl)⟩, by kernel_rfl, by kernel_rfl, by kernel_rfl, kcast (by kernel_rfl) trivial, by kernel_rfl, fun x y => by kernel_rfl⟩
theorem impl_orFail_opps1psp1p1p1s_s : impl_orFail_opps1psp1p1p1s_D.Says Try.prog := impl_orFail_opps1psp1p1p1s_w.says follows tabOk impl_IsStudio_e_ok
noncomputable def impl_orFail_opps1psp1p1p1s_e : Env := more impl_IsStudio_e impl_orFail_opps1psp1p1p1s_D
theorem impl_orFail_opps1psp1p1p1s_e_ok : EnvOk Try.prog impl_orFail_opps1psp1p1p1s_e := more_ok impl_IsStudio_e_ok impl_orFail_opps1psp1p1p1s_s
/-! loop.example/g01128/impl.NewStudio -/
abbrev impl_NewStudio_E : Ve.End := ⟨[⟨4, (.prod (.prod .shr (.own .shr)) (.prod .shr (.prod (.own .shr) (.prod (.own .shr) (.prod (.own .shr) .shr))))), (.prod (.prod I (.list (.prod I I))) (.prod I (.prod (.list I) (.prod (.list I) (.prod (.list I) I))))), some 32⟩, ⟨5, .shr, .bool, none⟩], []⟩
abbrev impl_NewStudio_a : List ASh := [.val (.prod I (.list (.prod I I))), .val I]
abbrev impl_NewStudio_o : List OSh := []
noncomputable def impl_NewStudio : argP impl_NewStudio_a → obP (extObs 0 impl_NewStudio_o) → Option impl_NewStudio_E.P
  | (g, kinds, ()), () => match impl_IsGraph (g, ()) () with | some ((r, ()), ()) => (bif (!r) then (some (((((0 : Int), ([] : (List (Int × Int)))), ((0 : Int), (([] : (List Int)), (([] : (List Int)), (([] : (List Int)), (0 : Int)))))), false, ()), ())) else (match impl_home (g.1, ()) () with | some ((r2, ()), ()) => (match impl_Studio_copied_opspsp1p1p1s ((g, (kinds, (([] : (List Int)), (([] : (List Int)), (r2, (0 : Int)))))), ()) () with | some ((r3, ()), ()) => (match impl_orFail_opps1psp1p1p1s (((r3.1.1, r3.1.2), (r3.2.1, (r3.2.2.1, (r3.2.2.2.1, (r3.2.2.2.2.1, r3.2.2.2.2.2))))), ()) () with | some ((r4, r5, ()), ()) => some ((((r4.1.1, r4.1.2), (r4.2.1, (r4.2.2.1, (r4.2.2.2.1, (r4.2.2.2.2.1, r4.2.2.2.2.2))))), r5, ()), ()) | none => none) | none => none) | none => none)) | none => none
noncomputable def impl_NewStudio_x : Cx := ⟨tab, impl_orFail_opps1psp1p1p1s_e, fun f n => bif Nat.beq f 34 && Nat.beq n 0 then 2 else bif Nat.beq f 36 && Nat.beq n 0 then 2 else 0, fun _ => false, [(7, 0), (7, 1), (7, 2), (7, 3), (14, 0), (14, 1), (14, 2), (14, 3), (16, 0), (16, 1), (16, 2), (16, 3), (17, 0), (17, 1), (17, 2), (17, 3)], [(2, 0)]⟩
noncomputable def c13 : Code := bodyOf Try.f13
noncomputable def impl_NewStudio_A : Ann := .seq .nil (.seq .nil (.seq (.draw [(0, .flo), (1, .flo), (2, .flo), (3, .flo), (4, .sole), (5, .flo), (6, .sole), (7, .sole), (8, .flo), (9, .flo), (10, .sole), (11, .flo)]) .nil))
noncomputable def impl_NewStudio_D : Ve.Fn := ⟨13, impl_NewStudio_a, impl_NewStudio_o, impl_NewStudio_E, impl_NewStudio⟩
theorem impl_NewStudio_w : Walk Try.prog impl_NewStudio_x impl_NewStudio_D Try.f13 c13 20 impl_NewStudio_A :=
  ⟨⟨Try.func13, by kernel_rfl, by kernel_rfl, by kernel_rfl, by decide, by kernel_rfl, Nat.le_of_ble_eq_true (by kernel_rfl)⟩, by kernel_rfl, by kernel_rfl, by kernel_rfl, kcast (by kernel_rfl) trivial, by kernel_rfl, fun x y => by kernel_rfl⟩
theorem impl_NewStudio_s : impl_NewStudio_D.Says Try.prog := impl_NewStudio_w.says follows tabOk impl_orFail_opps1psp1p1p1s_e_ok
noncomputable def impl_NewStudio_e : Env := more impl_orFail_opps1psp1p1p1s_e impl_NewStudio_D
theorem impl_NewStudio_e_ok : EnvOk Try.prog impl_NewStudio_e := more_ok impl_orFail_opps1psp1p1p1s_e_ok impl_NewStudio_s
/-! loop.example/g01128/laws.eqIntA2 -/
abbrev laws_eqIntA2_J0 : Tpl := ⟨[(2, .cst (.prod I I)), (3, .cst (.prod I I)), (5, .val I)], [], []⟩
abbrev laws_eqIntA2_J1 : Tpl := ⟨[(4, .val .bool)], [], []⟩
abbrev laws_eqIntA2_J2 : Tpl := ⟨[], [], []⟩
abbrev laws_eqIntA2_E : Ve.End := ⟨[⟨4, .shr, .bool, none⟩], []⟩
abbrev laws_eqIntA2_a : List ASh := [.val (.prod I I), .val (.prod I I)]
abbrev laws_eqIntA2_o : List OSh := []
abbrev laws_eqIntA2_O0 : Out := .or .ret laws_eqIntA2_J1 (.one (.ex 0) laws_eqIntA2_J2)
noncomputable def laws_eqIntA2_B0 : laws_eqIntA2_J0.P → Option (laws_eqIntA2_J0.P ⊕ laws_eqIntA2_O0.P)
  | ((a, b, i, ()), ()) => bif (decide (i < (2 : Int))) then (guardB (decide (0 ≤ i) && decide (i < 2)) (guardB (decide (0 ≤ i) && decide (i < 2)) (bif ((bif Nat.beq (Int.toNat i) 0 then a.1 else a.2) != (bif Nat.beq (Int.toNat i) 0 then b.1 else b.2)) then (some (.inr (.inl ((false, ()), ())))) else (some (.inl ((a, b, (w64 (i + (1 : Int))), ()), ())))))) else (some (.inr (.inr ((), ()))))
noncomputable def laws_eqIntA2 : argP laws_eqIntA2_a → obP (extObs 0 laws_eqIntA2_o) → Option laws_eqIntA2_E.P
  | (a, b, ()), () => match loopO laws_eqIntA2_B0 ((a, b, (0 : Int), ()), ()) with | some (.inl ((t4, ()), ())) => some ((t4, ()), ()) | some (.inr ((), ())) => some ((true, ()), ()) | none => none
noncomputable def laws_eqIntA2_x : Cx := ⟨tab, impl_NewStudio_e, fun _ _ => 0, fun _ => false, [], [(2, 0), (3, 0)]⟩
noncomputable def c61 : Code := bodyOf Try.f61
noncomputable def laws_eqIntA2_A : Ann := .seq .nil (.seq (.seq .nil (.loop laws_eqIntA2_J0 laws_eqIntA2_O0 laws_eqIntA2_B0 (.seq .nil (.seq (.seq (.draw [(0, .flo), (1, .flo), (2, .flo), (3, .flo), (4, .flo), (5, .flo), (6, .flo)]) .nil) .nil)))) .nil)
theorem laws_eqIntA2_r0 (p : laws_eqIntA2_J0.P) : run laws_eqIntA2_x (subc [1, 0, 1, 0, 0] c61) (.seq .nil (.seq (.seq (.draw [(0, .flo), (1, .flo), (2, .flo), (3, .flo), (4, .flo), (5, .flo), (6, .flo)]) .nil) .nil)) (laws_eqIntA2_J0.S p) (leaf laws_eqIntA2_J0 laws_eqIntA2_O0) = laws_eqIntA2_B0 p := by kernel_rfl
noncomputable def laws_eqIntA2_D : Ve.Fn := ⟨61, laws_eqIntA2_a, laws_eqIntA2_o, laws_eqIntA2_E, laws_eqIntA2⟩
theorem laws_eqIntA2_w : Walk Try.prog laws_eqIntA2_x laws_eqIntA2_D Try.f61 c61 17 laws_eqIntA2_A :=
  ⟨⟨Try.func61, by kernel_rfl, by kernel_rfl, by kernel_rfl, by decide, by kernel_rfl, Nat.le_of_ble_eq_true (by kernel_rfl)⟩, by kernel_rfl, by kernel_rfl, by kernel_rfl, kcast (by kernel_rfl) (⟨laws_eqIntA2_r0, trivial⟩ : (∀ p, run laws_eqIntA2_x (subc [1, 0, 1, 0, 0] c61) (.seq .nil (.seq (.seq (.draw [(0, .flo), (1, .flo), (2, .flo), (3, .flo), (4, .flo), (5, .flo), (6, .flo)]) .nil) .nil)) (laws_eqIntA2_J0.S p) (leaf laws_eqIntA2_J0 laws_eqIntA2_O0) = laws_eqIntA2_B0 p) ∧ True), by kernel_rfl, fun x y => by kernel_rfl⟩
theorem laws_eqIntA2_s : laws_eqIntA2_D.Says Try.prog := laws_eqIntA2_w.says follows tabOk impl_NewStudio_e_ok
noncomputable def laws_eqIntA2_e : Env := more impl_NewStudio_e laws_eqIntA2_D
theorem laws_eqIntA2_e_ok : EnvOk Try.prog laws_eqIntA2_e := more_ok impl_NewStudio_e_ok laws_eqIntA2_s
/-! loop.example/g01128/laws.eqIntA2S -/
abbrev laws_eqIntA2S_J0 : Tpl := ⟨[(0, .val (.list (.prod I I))), (1, .val (.list (.prod I I))), (5, .val I)], [], []⟩
abbrev laws_eqIntA2S_J1 : Tpl := ⟨[(4, .val .bool)], [], []⟩
abbrev laws_eqIntA2S_J2 : Tpl := ⟨[], [], []⟩
abbrev laws_eqIntA2S_E : Ve.End := ⟨[⟨4, .shr, .bool, none⟩], []⟩
abbrev laws_eqIntA2S_a : List ASh := [.val (.list (.prod I I)), .val (.list (.prod I I))]
abbrev laws_eqIntA2S_o : List OSh := []
abbrev laws_eqIntA2S_O0 : Out := .or .ret laws_eqIntA2S_J1 (.one (.ex 0) laws_eqIntA2S_J2)
noncomputable def laws_eqIntA2S_B0 : laws_eqIntA2S_J0.P → Option (laws_eqIntA2S_J0.P ⊕ laws_eqIntA2S_O0.P)
  | ((a, b, i, ()), ()) => bif (decide (i < (List.length a : Int))) then (guardB (inb i (List.length a)) (guardB (inb i (List.length b)) (match laws_eqIntA2 ((List.getD a (Int.toNat i) ((0 : Int), (0 : Int))), (List.getD b (Int.toNat i) ((0 : Int), (0 : Int))), ()) () with | some ((r, ()), ()) => (bif (!r) then (some (.inr (.inl ((false, ()), ())))) else (some (.inl ((a, b, (w64 (i + (1 : Int))), ()), ())))) | none => none))) else (some (.inr (.inr ((), ()))))
noncomputable def laws_eqIntA2S : argP laws_eqIntA2S_a → obP (extObs 0 laws_eqIntA2S_o) → Option laws_eqIntA2S_E.P
  | (a, b, ()), () => bif ((List.length a : Int) != (List.length b : Int)) then (some ((false, ()), ())) else (match loopO laws_eqIntA2S_B0 ((a, b, (0 : Int), ()), ()) with | some (.inl ((t4, ()), ())) => some ((t4, ()), ()) | some (.inr ((), ())) => some ((true, ()), ()) | none => none)
noncomputable def laws_eqIntA2S_x : Cx := ⟨tab, laws_eqIntA2_e, fun _ _ => 0, fun _ => false, [(25, 0), (25, 1), (25, 2), (25, 3)], []⟩
noncomputable def c37 : Code := bodyOf Try.f37
noncomputable def laws_eqIntA2S_A : Ann := .seq .nil (.seq .nil (.seq (.seq .nil (.loop laws_eqIntA2S_J0 laws_eqIntA2S_O0 laws_eqIntA2S_B0 (.seq .nil (.seq (.seq (.draw [(0, .flo), (1, .flo), (2, .flo), (3, .flo), (4, .flo), (5, .flo), (6, .flo), (7, .flo), (8, .sole), (9, .flo)]) .nil) .nil)))) .nil))
theorem laws_eqIntA2S_r0 (p : laws_eqIntA2S_J0.P) : run laws_eqIntA2S_x (subc [1, 1, 0, 1, 0, 0] c37) (.seq .nil (.seq (.seq (.draw [(0, .flo), (1, .flo), (2, .flo), (3, .flo), (4, .flo), (5, .flo), (6, .flo), (7, .flo), (8, .sole), (9, .flo)]) .nil) .nil)) (laws_eqIntA2S_J0.S p) (leaf laws_eqIntA2S_J0 laws_eqIntA2S_O0) = laws_eqIntA2S_B0 p := by kernel_rfl
noncomputable def laws_eqIntA2S_D : Ve.Fn := ⟨37, laws_eqIntA2S_a, laws_eqIntA2S_o, laws_eqIntA2S_E, laws_eqIntA2S⟩
theorem laws_eqIntA2S_w : Walk Try.prog laws_eqIntA2S_x laws_eqIntA2S_D Try.f37 c37 27 laws_eqIntA2S_A :=
  ⟨⟨Try.func37, by kernel_rfl, by kernel_rfl, by kernel_rfl, by decide, by kernel_rfl, Nat.le_of_ble_eq_true (by kernel_rfl)⟩, by kernel_rfl, by kernel_rfl, by kernel_rfl, kcast (by kernel_rfl) (⟨laws_eqIntA2S_r0, trivial⟩ : (∀ p, run laws_eqIntA2S_x (subc [1, 1, 0, 1, 0, 0] c37) (.seq .nil (.seq (.seq (.draw [(0, .flo), (1, .flo), (2, .flo), (3, .flo), (4, .flo), (5, .flo), (6, .flo), (7, .flo), (8, .sole), (9, .flo)]) .nil) .nil)) (laws_eqIntA2S_J0.S p) (leaf laws_eqIntA2S_J0 laws_eqIntA2S_O0) = laws_eqIntA2S_B0 p) ∧ True), by kernel_rfl, fun x y => by kernel_rfl⟩
theorem laws_eqIntA2S_s : laws_eqIntA2S_D.Says Try.prog := laws_eqIntA2S_w.says follows tabOk laws_eqIntA2_e_ok
noncomputable def laws_eqIntA2S_e : Env := more laws_eqIntA2_e laws_eqIntA2S_D
theorem laws_eqIntA2S_e_ok : EnvOk Try.prog laws_eqIntA2S_e := more_ok laws_eqIntA2_e_ok laws_eqIntA2S_s
/-! loop.example/g01128/laws.eqGraph -/
abbrev laws_eqGraph_E : Ve.End := ⟨[⟨4, .shr, .bool, none⟩], []⟩
abbrev laws_eqGraph_a : List ASh := [.val (.prod I (.list (.prod I I))), .val (.prod I (.list (.prod I I)))]
abbrev laws_eqGraph_o : List OSh := []
noncomputable def laws_eqGraph : argP laws_eqGraph_a → obP (extObs 0 laws_eqGraph_o) → Option laws_eqGraph_E.P
  | (a, b, ()), () => bif (a.1 != b.1) then (some ((false, ()), ())) else (match laws_eqIntA2S (a.2, b.2, ()) () with | some ((r, ()), ()) => (bif (!r) then (some ((false, ()), ())) else (some ((true, ()), ()))) | none => none)
noncomputable def laws_eqGraph_x : Cx := ⟨tab, laws_eqIntA2S_e, fun _ _ => 0, fun _ => false, [(14, 0), (14, 1), (14, 2), (14, 3)], [(2, 0), (3, 0)]⟩
noncomputable def c14 : Code := bodyOf Try.f14
noncomputable def laws_eqGraph_A : Ann := .nil
noncomputable def laws_eqGraph_D : Ve.Fn := ⟨14, laws_eqGraph_a, laws_eqGraph_o, laws_eqGraph_E, laws_eqGraph⟩
theorem laws_eqGraph_w : Walk Try.prog laws_eqGraph_x laws_eqGraph_D Try.f14 c14 16 laws_eqGraph_A :=
  ⟨⟨Try.func14, by kernel_rfl, by kernel_rfl, by kernel_rfl, by decide, by kernel_rfl, Nat.le_of_ble_eq_true (by kernel_rfl)⟩, by kernel_rfl, by kernel_rfl, by kernel_rfl, kcast (by kernel_rfl) trivial, by kernel_rfl, fun x y => by kernel_rfl⟩
theorem laws_eqGraph_s : laws_eqGraph_D.Says Try.prog := laws_eqGraph_w.says follows tabOk laws_eqIntA2S_e_ok
noncomputable def laws_eqGraph_e : Env := more laws_eqIntA2S_e laws_eqGraph_D
theorem laws_eqGraph_e_ok : EnvOk Try.prog laws_eqGraph_e := more_ok laws_eqIntA2S_e_ok laws_eqGraph_s
/-! loop.example/g01128/laws.eqIntS -/
abbrev laws_eqIntS_J0 : Tpl := ⟨[(0, .val (.list I)), (1, .val (.list I)), (5, .val I)], [], []⟩
abbrev laws_eqIntS_J1 : Tpl := ⟨[(4, .val .bool)], [], []⟩
abbrev laws_eqIntS_J2 : Tpl := ⟨[], [], []⟩
abbrev laws_eqIntS_E : Ve.End := ⟨[⟨4, .shr, .bool, none⟩], []⟩
abbrev laws_eqIntS_a : List ASh := [.val (.list I), .val (.list I)]
abbrev laws_eqIntS_o : List OSh := []
abbrev laws_eqIntS_O0 : Out := .or .ret laws_eqIntS_J1 (.one (.ex 0) laws_eqIntS_J2)
noncomputable def laws_eqIntS_B0 : laws_eqIntS_J0.P → Option (laws_eqIntS_J0.P ⊕ laws_eqIntS_O0.P)
  | ((a, b, i, ()), ()) => bif (decide (i < (List.length a : Int))) then (guardB (inb i (List.length a)) (guardB (inb i (List.length b)) (bif ((List.getD a (Int.toNat i) (0 : Int)) != (List.getD b (Int.toNat i) (0 : Int))) then (some (.inr (.inl ((false, ()), ())))) else (some (.inl ((a, b, (w64 (i + (1 : Int))), ()), ())))))) else (some (.inr (.inr ((), ()))))
noncomputable def laws_eqIntS : argP laws_eqIntS_a → obP (extObs 0 laws_eqIntS_o) → Option laws_eqIntS_E.P
  | (a, b, ()), () => bif ((List.length a : Int) != (List.length b : Int)) then (some ((false, ()), ())) else (match loopO laws_eqIntS_B0 ((a, b, (0 : Int), ()), ()) with | some (.inl ((t4, ()), ())) => some ((t4, ()), ()) | some (.inr ((), ())) => some ((true, ()), ()) | none => none)
noncomputable def laws_eqIntS_x : Cx := ⟨tab, laws_eqGraph_e, fun _ _ => 0, fun _ => false, [], []⟩
noncomputable def c26 : Code := bodyOf Try.f26
noncomputable def laws_eqIntS_A : Ann := .seq .nil (.seq .nil (.seq (.seq .nil (.loop laws_eqIntS_J0 laws_eqIntS_O0 laws_eqIntS_B0 (.seq .nil (.seq (.seq (.draw [(0, .flo), (1, .flo), (2, .flo), (3, .flo), (4, .flo), (5, .flo), (6, .flo), (7, .flo), (8, .flo)]) .nil) .nil)))) .nil))
theorem laws_eqIntS_r0 (p : laws_eqIntS_J0.P) : run laws_eqIntS_x (subc [1, 1, 0, 1, 0, 0] c26) (.seq .nil (.seq (.seq (.draw [(0, .flo), (1, .flo), (2, .flo), (3, .flo), (4, .flo), (5, .flo), (6, .flo), (7, .flo), (8, .flo)]) .nil) .nil)) (laws_eqIntS_J0.S p) (leaf laws_eqIntS_J0 laws_eqIntS_O0) = laws_eqIntS_B0 p := by kernel_rfl
noncomputable def laws_eqIntS_D : Ve.Fn := ⟨26, laws_eqIntS_a, laws_eqIntS_o, laws_eqIntS_E, laws_eqIntS⟩
theorem laws_eqIntS_w : Walk Try.prog laws_eqIntS_x laws_eqIntS_D Try.f26 c26 26 laws_eqIntS_A :=
  ⟨⟨Try.func26, by kernel_rfl, by kernel_rfl, by kernel_rfl, by decide, by kernel_rfl, Nat.le_of_ble_eq_true (by kernel_rfl)⟩, by kernel_rfl, by kernel_rfl, by kernel_rfl, kcast (by kernel_rfl) (⟨laws_eqIntS_r0, trivial⟩ : (∀ p, run laws_eqIntS_x (subc [1, 1, 0, 1, 0, 0] c26) (.seq .nil (.seq (.seq (.draw [(0, .flo), (1, .flo), (2, .flo), (3, .flo), (4, .flo), (5, .flo), (6, .flo), (7, .flo), (8, .flo)]) .nil) .nil)) (laws_eqIntS_J0.S p) (leaf laws_eqIntS_J0 laws_eqIntS_O0) = laws_eqIntS_B0 p) ∧ True), by kernel_rfl, fun x y => by kernel_rfl⟩
theorem laws_eqIntS_s : laws_eqIntS_D.Says Try.prog := laws_eqIntS_w.says follows tabOk laws_eqGraph_e_ok
noncomputable def laws_eqIntS_e : Env := more laws_eqGraph_e laws_eqIntS_D
theorem laws_eqIntS_e_ok : EnvOk Try.prog laws_eqIntS_e := more_ok laws_eqGraph_e_ok laws_eqIntS_s
/-! loop.example/g01128/laws.eqStudio -/
abbrev laws_eqStudio_E : Ve.End := ⟨[⟨4, .shr, .bool, none⟩], []⟩
abbrev laws_eqStudio_a : List ASh := [.val (.prod (.prod I (.list (.prod I I))) (.prod I (.prod (.list I) (.prod (.list I) (.prod (.list I) I))))), .val (.prod (.prod I (.list (.prod I I))) (.prod I (.prod (.list I) (.prod (.list I) (.prod (.list I) I)))))]
abbrev laws_eqStudio_o : List OSh := []
noncomputable def laws_eqStudio : argP laws_eqStudio_a → obP (extObs 0 laws_eqStudio_o) → Option laws_eqStudio_E.P
  | (a, b, ()), () => match laws_eqGraph (a.1, b.1, ()) () with | some ((r, ()), ()) => (bif (!r) then (some ((false, ()), ())) else (bif (a.2.1 != b.2.1) then (some ((false, ()), ())) else (match laws_eqIntS (a.2.2.1, b.2.2.1, ()) () with | some ((r2, ()), ()) => (bif (!r2) then (some ((false, ()), ())) else (match laws_eqIntS (a.2.2.2.1, b.2.2.2.1, ()) () with | some ((r3, ()), ()) => (bif (!r3) then (some ((false, ()), ())) else (match laws_eqIntS (a.2.2.2.2.1, b.2.2.2.2.1, ()) () with | some ((r4, ()), ()) => (bif (!r4) then (some ((false, ()), ())) else (bif (a.2.2.2.2.2 != b.2.2.2.2.2) then (some ((false, ()), ())) else (some ((true, ()), ())))) | none => none)) | none => none)) | none => none))) | none => none
noncomputable def laws_eqStudio_x : Cx := ⟨tab, laws_eqIntS_e, fun _ _ => 0, fun _ => false, [(9, 0), (9, 1), (9, 2), (9, 3), (20, 0), (20, 1), (20, 2), (20, 3), (26, 0), (26, 1), (26, 2), (26, 3), (32, 0), (32, 1), (32, 2), (32, 3)], [(2, 0), (3, 0)]⟩
noncomputable def c9 : Code := bodyOf Try.f9
noncomputable def laws_eqStudio_A : Ann := .nil
noncomputable def laws_eqStudio_D : Ve.Fn := ⟨9, laws_eqStudio_a, laws_eqStudio_o, laws_eqStudio_E, laws_eqStudio⟩
theorem laws_eqStudio_w : Walk Try.prog laws_eqStudio_x laws_eqStudio_D Try.f9 c9 39 laws_eqStudio_A :=
  ⟨⟨Try.func9, by kernel_rfl, by kernel_rfl, by kernel_rfl, by decide, by kernel_rfl, Nat.le_of_ble_eq_true (by kernel_rfl)⟩, by kernel_rfl, by kernel_rfl, by kernel_rfl, kcast (by kernel_rfl) trivial, by kernel_rfl, fun x y => by kernel_rfl⟩
theorem laws_eqStudio_s : laws_eqStudio_D.Says Try.prog := laws_eqStudio_w.says follows tabOk laws_eqIntS_e_ok
noncomputable def laws_eqStudio_e : Env := more laws_eqIntS_e laws_eqStudio_D
theorem laws_eqStudio_e_ok : EnvOk Try.prog laws_eqStudio_e := more_ok laws_eqIntS_e_ok laws_eqStudio_s
/-! loop.example/g01128/laws.markIntA2S -/
abbrev laws_markIntA2S_e0v_ls_J0 : Tpl := ⟨[(0, .same (1000000, 0) []), (1, .val I), (5, .val I), (6, .val I)], [((1000000, 0), .vec .shr (.prod I I))], []⟩
abbrev laws_markIntA2S_e0v_ls_J1 : Tpl := ⟨[(0, .same (1000000, 0) []), (1, .val I), (5, .val I)], [((1000000, 0), .vec .shr (.prod I I))], []⟩
abbrev laws_markIntA2S_e0v_ls_J2 : Tpl := ⟨[(1, .val I)], [((1000000, 0), .vec .shr (.prod I I))], []⟩
abbrev laws_markIntA2S_e0v_ls_E : Ve.End := ⟨[⟨4, .shr, I, none⟩], [.vec .shr (.prod I I)]⟩
abbrev laws_markIntA2S_e0v_ls_a : List ASh := [.ext 0, .val I]
abbrev laws_markIntA2S_e0v_ls_o : List OSh := [.vec .shr (.prod I I)]
abbrev laws_markIntA2S_e0v_ls_O0 : Out := .one (.ex 2) laws_markIntA2S_e0v_ls_J1
noncomputable def laws_markIntA2S_e0v_ls_B0 : laws_markIntA2S_e0v_ls_J0.P → Option (laws_markIntA2S_e0v_ls_J0.P ⊕ laws_markIntA2S_e0v_ls_O0.P)
  | ((k, i, j, ()), (o0, ())) => bif (decide (j < (2 : Int))) then (guardB (inb i (List.length o0)) (guardB (decide (0 ≤ j) && decide (j < 2)) (some (.inl (((w64 (k + (1 : Int))), i, (w64 (j + (1 : Int))), ()), ((List.set o0 (Int.toNat i) (bif Nat.beq (Int.toNat j) 0 then (k, (List.getD o0 (Int.toNat i) ((0 : Int), (0 : Int))).2) else ((List.getD o0 (Int.toNat i) ((0 : Int), (0 : Int))).1, k))), ())))))) else (some (.inr ((k, i, ()), (o0, ()))))
abbrev laws_markIntA2S_e0v_ls_O1 : Out := .one (.ex 0) laws_markIntA2S_e0v_ls_J2
noncomputable def laws_markIntA2S_e0v_ls_B1 : laws_markIntA2S_e0v_ls_J1.P → Option (laws_markIntA2S_e0v_ls_J1.P ⊕ laws_markIntA2S_e0v_ls_O1.P)
  | ((k, i, ()), (o0, ())) => bif (decide (i < (List.length o0 : Int))) then (match loopO laws_markIntA2S_e0v_ls_B0 ((k, i, (0 : Int), ()), (o0, ())) with | some ((k2, i2, ()), (o0_2, ())) => some (.inl ((k2, (w64 (i2 + (1 : Int))), ()), (o0_2, ()))) | none => none) else (some (.inr ((k, ()), (o0, ()))))
noncomputable def laws_markIntA2S_e0v_ls : argP laws_markIntA2S_e0v_ls_a → obP (extObs 0 laws_markIntA2S_e0v_ls_o) → Option laws_markIntA2S_e0v_ls_E.P
  | (k, ()), (o0, ()) => match loopO laws_markIntA2S_e0v_ls_B1 ((k, (0 : Int), ()), (o0, ())) with | some ((k2, ()), (o0_2, ())) => some ((k2, ()), (o0_2, ())) | none => none
noncomputable def laws_markIntA2S_e0v_ls_x : Cx := ⟨tab, laws_eqStudio_e, fun _ _ => 0, fun _ => false, [], []⟩
noncomputable def c38 : Code := bodyOf Try.f38
noncomputable def laws_markIntA2S_e0v_ls_A : Ann := .seq .nil (.seq (.seq .nil (.loop laws_markIntA2S_e0v_ls_J1 laws_markIntA2S_e0v_ls_O1 laws_markIntA2S_e0v_ls_B1 (.seq .nil (.seq (.seq .nil (.loop laws_markIntA2S_e0v_ls_J0 laws_markIntA2S_e0v_ls_O0 laws_markIntA2S_e0v_ls_B0 .nil)) .nil)))) .nil)
theorem laws_markIntA2S_e0v_ls_r0 (p : laws_markIntA2S_e0v_ls_J1.P) : run laws_markIntA2S_e0v_ls_x (subc [1, 0, 1, 0, 0] c38) (.seq .nil (.seq (.seq .nil (.loop laws_markIntA2S_e0v_ls_J0 laws_markIntA2S_e0v_ls_O0 laws_markIntA2S_e0v_ls_B0 .nil)) .nil)) (laws_markIntA2S_e0v_ls_J1.S p) (leaf laws_markIntA2S_e0v_ls_J1 laws_markIntA2S_e0v_ls_O1) = laws_markIntA2S_e0v_ls_B1 p := by kernel_rfl
theorem laws_markIntA2S_e0v_ls_r1 (p : laws_markIntA2S_e0v_ls_J0.P) : run laws_markIntA2S_e0v_ls_x (subc [1, 0, 1, 0, 0, 1, 0, 0, 1, 0, 0] c38) .nil (laws_markIntA2S_e0v_ls_J0.S p) (leaf laws_markIntA2S_e0v_ls_J0 laws_markIntA2S_e0v_ls_O0) = laws_markIntA2S_e0v_ls_B0 p := by kernel_rfl
noncomputable def laws_markIntA2S_e0v_ls_D : Ve.Fn := ⟨38, laws_markIntA2S_e0v_ls_a, laws_markIntA2S_e0v_ls_o, laws_markIntA2S_e0v_ls_E, laws_markIntA2S_e0v_ls⟩
theorem laws_markIntA2S_e0v_ls_w : Walk Try.prog laws_markIntA2S_e0v_ls_x laws_markIntA2S_e0v_ls_D Try.f38 c38 26 laws_markIntA2S_e0v_ls_A :=
  ⟨⟨Try.func38, by kernel_rfl, by kernel_rfl, by kernel_rfl, by decide, by kernel_rfl, Nat.le_of_ble_eq_true (by kernel_rfl)⟩, by kernel_rfl, by kernel_rfl, by kernel_rfl, kcast (by kernel_rfl) (⟨laws_markIntA2S_e0v_ls_r0, laws_markIntA2S_e0v_ls_r1, trivial⟩ : (∀ p, run laws_markIntA2S_e0v_ls_x (subc [1, 0, 1, 0, 0] c38) (.seq .nil (.seq (.seq .nil (.loop laws_markIntA2S_e0v_ls_J0 laws_markIntA2S_e0v_ls_O0 laws_markIntA2S_e0v_ls_B0 .nil)) .nil)) (laws_markIntA2S_e0v_ls_J1.S p) (leaf laws_markIntA2S_e0v_ls_J1 laws_markIntA2S_e0v_ls_O1) = laws_markIntA2S_e0v_ls_B1 p) ∧ (∀ p, run laws_markIntA2S_e0v_ls_x (subc [1, 0, 1, 0, 0, 1, 0, 0, 1, 0, 0] c38) .nil (laws_markIntA2S_e0v_ls_J0.S p) (leaf laws_markIntA2S_e0v_ls_J0 laws_markIntA2S_e0v_ls_O0) = laws_markIntA2S_e0v_ls_B0 p) ∧ True), by kernel_rfl, fun x y => by kernel_rfl⟩
theorem laws_markIntA2S_e0v_ls_s : laws_markIntA2S_e0v_ls_D.Says Try.prog := laws_markIntA2S_e0v_ls_w.says follows tabOk laws_eqStudio_e_ok
noncomputable def laws_markIntA2S_e0v_ls_e : Env := more laws_eqStudio_e laws_markIntA2S_e0v_ls_D
theorem laws_markIntA2S_e0v_ls_e_ok : EnvOk Try.prog laws_markIntA2S_e0v_ls_e := more_ok laws_eqStudio_e_ok laws_markIntA2S_e0v_ls_s
/-! loop.example/g01128/laws.markGraph -/
abbrev laws_markGraph_tpv0v_ls_E : Ve.End := ⟨[⟨4, .shr, I, none⟩], [.vec .shr (.prod I I)]⟩
abbrev laws_markGraph_tpv0v_ls_a : List ASh := [.str (.pr (.val I) (.ref (.prod I I) 0 [])), .val I]
abbrev laws_markGraph_tpv0v_ls_o : List OSh := [.vec .shr (.prod I I)]
noncomputable def laws_markGraph_tpv0v_ls : argP laws_markGraph_tpv0v_ls_a → obP (extObs 0 laws_markGraph_tpv0v_ls_o) → Option laws_markGraph_tpv0v_ls_E.P
  | ((a, ()), k, ()), (o0, ()) => match laws_markIntA2S_e0v_ls (k, ()) (o0, ()) with | some ((r, ()), (o, ())) => some ((r, ()), (o, ())) | none => none
noncomputable def laws_markGraph_tpv0v_ls_x : Cx := ⟨tab, laws_markIntA2S_e0v_ls_e, fun f n => bif Nat.beq f 38 && Nat.beq n 0 then 1 else 0, fun n => Nat.beq n 2, [(8, 0), (8, 1), (8, 2), (8, 3)], []⟩
noncomputable def c15 : Code := bodyOf Try.f15
noncomputable def laws_markGraph_tpv0v_ls_A : Ann := .nil
noncomputable def laws_markGraph_tpv0v_ls_D : Ve.Fn := ⟨15, laws_markGraph_tpv0v_ls_a, laws_markGraph_tpv0v_ls_o, laws_markGraph_tpv0v_ls_E, laws_markGraph_tpv0v_ls⟩
theorem laws_markGraph_tpv0v_ls_w : Walk Try.prog laws_markGraph_tpv0v_ls_x laws_markGraph_tpv0v_ls_D Try.f15 c15 10 laws_markGraph_tpv0v_ls_A :=
  ⟨⟨Try.func15, by kernel_rfl, by kernel_rfl, by kernel_rfl, by decide, by kernel_rfl, Nat.le_of_ble_eq_true (by kernel_rfl)⟩, by kernel_rfl, by kernel_rfl, by kernel_rfl, kcast (by kernel_rfl) trivial, by kernel_rfl, fun x y => by kernel_rfl⟩
theorem laws_markGraph_tpv0v_ls_s : laws_markGraph_tpv0v_ls_D.Says Try.prog := laws_markGraph_tpv0v_ls_w.says follows tabOk laws_markIntA2S_e0v_ls_e_ok
noncomputable def laws_markGraph_tpv0v_ls_e : Env := more laws_markIntA2S_e0v_ls_e laws_markGraph_tpv0v_ls_D
theorem laws_markGraph_tpv0v_ls_e_ok : EnvOk Try.prog laws_markGraph_tpv0v_ls_e := more_ok laws_markIntA2S_e0v_ls_e_ok laws_markGraph_tpv0v_ls_s
/-! loop.example/g01128/laws.markIntS -/
abbrev laws_markIntS_e0v_ls_J0 : Tpl := ⟨[(0, .same (1000000, 0) []), (1, .val I), (5, .val I)], [((1000000, 0), .vec .shr I)], []⟩
abbrev laws_markIntS_e0v_ls_J1 : Tpl := ⟨[(1, .val I)], [((1000000, 0), .vec .shr I)], []⟩
abbrev laws_markIntS_e0v_ls_E : Ve.End := ⟨[⟨4, .shr, I, none⟩], [.vec .shr I]⟩
abbrev laws_markIntS_e0v_ls_a : List ASh := [.ext 0, .val I]
abbrev laws_markIntS_e0v_ls_o : List OSh := [.vec .shr I]
abbrev laws_markIntS_e0v_ls_O0 : Out := .one (.ex 0) laws_markIntS_e0v_ls_J1
noncomputable def laws_markIntS_e0v_ls_B0 : laws_markIntS_e0v_ls_J0.P → Option (laws_markIntS_e0v_ls_J0.P ⊕ laws_markIntS_e0v_ls_O0.P)
  | ((k, i, ()), (o0, ())) => bif (decide (i < (List.length o0 : Int))) then (guardB (inb i (List.length o0)) (some (.inl (((w64 (k + (1 : Int))), (w64 (i + (1 : Int))), ()), ((List.set o0 (Int.toNat i) k), ()))))) else (some (.inr ((k, ()), (o0, ()))))
noncomputable def laws_markIntS_e0v_ls : argP laws_markIntS_e0v_ls_a → obP (extObs 0 laws_markIntS_e0v_ls_o) → Option laws_markIntS_e0v_ls_E.P
  | (k, ()), (o0, ()) => match loopO laws_markIntS_e0v_ls_B0 ((k, (0 : Int), ()), (o0, ())) with | some ((k2, ()), (o0_2, ())) => some ((k2, ()), (o0_2, ())) | none => none
noncomputable def laws_markIntS_e0v_ls_x : Cx := ⟨tab, laws_markGraph_tpv0v_ls_e, fun _ _ => 0, fun _ => false, [], []⟩
noncomputable def c39 : Code := bodyOf Try.f39
noncomputable def laws_markIntS_e0v_ls_A : Ann := .seq .nil (.seq (.seq .nil (.loop laws_markIntS_e0v_ls_J0 laws_markIntS_e0v_ls_O0 laws_markIntS_e0v_ls_B0 .nil)) .nil)
theorem laws_markIntS_e0v_ls_r0 (p : laws_markIntS_e0v_ls_J0.P) : run laws_markIntS_e0v_ls_x (subc [1, 0, 1, 0, 0] c39) .nil (laws_markIntS_e0v_ls_J0.S p) (leaf laws_markIntS_e0v_ls_J0 laws_markIntS_e0v_ls_O0) = laws_markIntS_e0v_ls_B0 p := by kernel_rfl
noncomputable def laws_markIntS_e0v_ls_D : Ve.Fn := ⟨39, laws_markIntS_e0v_ls_a, laws_markIntS_e0v_ls_o, laws_markIntS_e0v_ls_E, laws_markIntS_e0v_ls⟩
theorem laws_markIntS_e0v_ls_w : Walk Try.prog laws_markIntS_e0v_ls_x laws_markIntS_e0v_ls_D Try.f39 c39 19 laws_markIntS_e0v_ls_A :=
  ⟨⟨Try.func39, by kernel_rfl, by kernel_rfl, by kernel_rfl, by decide, by kernel_rfl, Nat.le_of_ble_eq_true (by kernel_rfl)⟩, by kernel_rfl, by kernel_rfl, by kernel_rfl, kcast (by kernel_rfl) (⟨laws_markIntS_e0v_ls_r0, trivial⟩ : (∀ p, run laws_markIntS_e0v_ls_x (subc [1, 0, 1, 0, 0] c39) .nil (laws_markIntS_e0v_ls_J0.S p) (leaf laws_markIntS_e0v_ls_J0 laws_markIntS_e0v_ls_O0) = laws_markIntS_e0v_ls_B0 p) ∧ True), by kernel_rfl, fun x y => by kernel_rfl⟩
theorem laws_markIntS_e0v_ls_s : laws_markIntS_e0v_ls_D.Says Try.prog := laws_markIntS_e0v_ls_w.says follows tabOk laws_markGraph_tpv0v_ls_e_ok
noncomputable def laws_markIntS_e0v_ls_e : Env := more laws_markGraph_tpv0v_ls_e laws_markIntS_e0v_ls_D
theorem laws_markIntS_e0v_ls_e_ok : EnvOk Try.prog laws_markIntS_e0v_ls_e := more_ok laws_markGraph_tpv0v_ls_e_ok laws_markIntS_e0v_ls_s
/-! loop.example/g01128/laws.markStudio -/
abbrev laws_markStudio_tppv0fspvp0ssfp0sssfp0ssssfvv_bpps1psp1p1p1s_E : Ve.End := ⟨[⟨4, .shr, I, none⟩], [.box (.prod (.prod .shr (.own .shr)) (.prod .shr (.prod (.own .shr) (.prod (.own .shr) (.prod (.own .shr) .shr))))) (.prod (.prod I (.list (.prod I I))) (.prod I (.prod (.list I) (.prod (.list I) (.prod (.list I) I)))))]⟩
abbrev laws_markStudio_tppv0fspvp0ssfp0sssfp0ssssfvv_bpps1psp1p1p1s_a : List ASh := [.str (.pr (.pr (.val I) (.ref (.prod I I) 0 [.fst, .snd])) (.pr (.val I) (.pr (.ref I 0 [.snd, .snd, .fst]) (.pr (.ref I 0 [.snd, .snd, .snd, .fst]) (.pr (.ref I 0 [.snd, .snd, .snd, .snd, .fst]) (.val I)))))), .val I]
abbrev laws_markStudio_tppv0fspvp0ssfp0sssfp0ssssfvv_bpps1psp1p1p1s_o : List OSh := [.box (.prod (.prod .shr (.own .shr)) (.prod .shr (.prod (.own .shr) (.prod (.own .shr) (.prod (.own .shr) .shr))))) (.prod (.prod I (.list (.prod I I))) (.prod I (.prod (.list I) (.prod (.list I) (.prod (.list I) I)))))]
noncomputable def laws_markStudio_tppv0fspvp0ssfp0sssfp0ssssfvv_bpps1psp1p1p1s : argP laws_markStudio_tppv0fspvp0ssfp0sssfp0ssssfvv_bpps1psp1p1p1s_a → obP (extObs 0 laws_markStudio_tppv0fspvp0ssfp0sssfp0ssssfvv_bpps1psp1p1p1s_o) → Option laws_markStudio_tppv0fspvp0ssfp0sssfp0ssssfvv_bpps1psp1p1p1s_E.P
  | (((a, ()), (a2, ((), ((), ((), a3))))), k, ()), (o0, ()) => match laws_markGraph_tpv0v_ls ((a, ()), k, ()) (o0.1.2, ()) with | some ((r, ()), (o, ())) => (match laws_markIntS_e0v_ls (r, ()) (o0.2.2.1, ()) with | some ((r2, ()), (o2, ())) => (match laws_markIntS_e0v_ls (r2, ()) (o0.2.2.2.1, ()) with | some ((r3, ()), (o3, ())) => (match laws_markIntS_e0v_ls (r3, ()) (o0.2.2.2.2.1, ()) with | some ((r4, ()), (o4, ())) => some ((r4, ()), (((o0.1.1, o), (o0.2.1, (o2, (o3, (o4, o0.2.2.2.2.2))))), ())) | none => none) | none => none) | none => none) | none => none
noncomputable def laws_markStudio_tppv0fspvp0ssfp0sssfp0ssssfvv_bpps1psp1p1p1s_x : Cx := ⟨tab, laws_markIntS_e0v_ls_e, fun f n => bif Nat.beq f 15 && Nat.beq n 0 then 1 else bif Nat.beq f 39 && Nat.beq n 0 then 1 else 0, fun n => Nat.beq n 2, [(8, 0), (8, 1), (8, 2), (8, 3), (12, 0), (12, 1), (12, 2), (12, 3), (16, 0), (16, 1), (16, 2), (16, 3), (20, 0), (20, 1), (20, 2), (20, 3)], []⟩
noncomputable def c16 : Code := bodyOf Try.f16
noncomputable def laws_markStudio_tppv0fspvp0ssfp0sssfp0ssssfvv_bpps1psp1p1p1s_A : Ann := .nil
noncomputable def laws_markStudio_tppv0fspvp0ssfp0sssfp0ssssfvv_bpps1psp1p1p1s_D : Ve.Fn := ⟨16, laws_markStudio_tppv0fspvp0ssfp0sssfp0ssssfvv_bpps1psp1p1p1s_a, laws_markStudio_tppv0fspvp0ssfp0sssfp0ssssfvv_bpps1psp1p1p1s_o, laws_markStudio_tppv0fspvp0ssfp0sssfp0ssssfvv_bpps1psp1p1p1s_E, laws_markStudio_tppv0fspvp0ssfp0sssfp0ssssfvv_bpps1psp1p1p1s⟩
theorem laws_markStudio_tppv0fspvp0ssfp0sssfp0ssssfvv_bpps1psp1p1p1s_w : Walk Try.prog laws_markStudio_tppv0fspvp0ssfp0sssfp0ssssfvv_bpps1psp1p1p1s_x laws_markStudio_tppv0fspvp0ssfp0sssfp0ssssfvv_bpps1psp1p1p1s_D Try.f16 c16 22 laws_markStudio_tppv0fspvp0ssfp0sssfp0ssssfvv_bpps1psp1p1p1s_A :=
  ⟨⟨Try.func16, by kernel_rfl, by kernel_rfl, by kernel_rfl, by decide, by kernel_rfl, Nat.le_of_ble_eq_true (by kernel_rfl)⟩, by kernel_rfl, by kernel_rfl, by kernel_rfl, kcast (by kernel_rfl) trivial, by kernel_rfl, fun x y => by kernel_rfl⟩
theorem laws_markStudio_tppv0fspvp0ssfp0sssfp0ssssfvv_bpps1psp1p1p1s_s : laws_markStudio_tppv0fspvp0ssfp0sssfp0ssssfvv_bpps1psp1p1p1s_D.Says Try.prog := laws_markStudio_tppv0fspvp0ssfp0sssfp0ssssfvv_bpps1psp1p1p1s_w.says follows tabOk laws_markIntS_e0v_ls_e_ok
noncomputable def laws_markStudio_tppv0fspvp0ssfp0sssfp0ssssfvv_bpps1psp1p1p1s_e : Env := more laws_markIntS_e0v_ls_e laws_markStudio_tppv0fspvp0ssfp0sssfp0ssssfvv_bpps1psp1p1p1s_D
theorem laws_markStudio_tppv0fspvp0ssfp0sssfp0ssssfvv_bpps1psp1p1p1s_e_ok : EnvOk Try.prog laws_markStudio_tppv0fspvp0ssfp0sssfp0ssssfvv_bpps1psp1p1p1s_e := more_ok laws_markIntS_e0v_ls_e_ok laws_markStudio_tppv0fspvp0ssfp0sssfp0ssssfvv_bpps1psp1p1p1s_s
/-! loop.example/g01128/laws.heldIntA2S -/
abbrev laws_heldIntA2S_J0 : Tpl := ⟨[(0, .val (.list (.prod I I))), (1, .val I), (5, .val I), (6, .val I)], [], []⟩
abbrev laws_heldIntA2S_J1 : Tpl := ⟨[(4, .val I)], [], []⟩
abbrev laws_heldIntA2S_J2 : Tpl := ⟨[(0, .val (.list (.prod I I))), (1, .val I), (5, .val I)], [], []⟩
abbrev laws_heldIntA2S_J3 : Tpl := ⟨[(1, .val I)], [], []⟩
abbrev laws_heldIntA2S_E : Ve.End := ⟨[⟨4, .shr, I, none⟩], []⟩
abbrev laws_heldIntA2S_a : List ASh := [.val (.list (.prod I I)), .val I]
abbrev laws_heldIntA2S_o : List OSh := []
abbrev laws_heldIntA2S_O0 : Out := .or .ret laws_heldIntA2S_J1 (.one (.ex 2) laws_heldIntA2S_J2)
noncomputable def laws_heldIntA2S_B0 : laws_heldIntA2S_J0.P → Option (laws_heldIntA2S_J0.P ⊕ laws_heldIntA2S_O0.P)
  | ((a, k, i, j, ()), ()) => bif (decide (j < (2 : Int))) then (guardB (inb i (List.length a)) (guardB (decide (0 ≤ j) && decide (j < 2)) (bif ((bif Nat.beq (Int.toNat j) 0 then (List.getD a (Int.toNat i) ((0 : Int), (0 : Int))).1 else (List.getD a (Int.toNat i) ((0 : Int), (0 : Int))).2) != k) then (some (.inr (.inl (((-1 : Int), ()), ())))) else (some (.inl ((a, (w64 (k + (1 : Int))), i, (w64 (j + (1 : Int))), ()), ())))))) else (some (.inr (.inr ((a, k, i, ()), ()))))
abbrev laws_heldIntA2S_O1 : Out := .or .ret laws_heldIntA2S_J1 (.one (.ex 0) laws_heldIntA2S_J3)
noncomputable def laws_heldIntA2S_B1 : laws_heldIntA2S_J2.P → Option (laws_heldIntA2S_J2.P ⊕ laws_heldIntA2S_O1.P)
  | ((a, k, i, ()), ()) => bif (decide (i < (List.length a : Int))) then (match loopO laws_heldIntA2S_B0 ((a, k, i, (0 : Int), ()), ()) with | some (.inl ((t4, ()), ())) => some (.inr (.inl ((t4, ()), ()))) | some (.inr ((a2, k2, i2, ()), ())) => some (.inl ((a2, k2, (w64 (i2 + (1 : Int))), ()), ())) | none => none) else (some (.inr (.inr ((k, ()), ()))))
noncomputable def laws_heldIntA2S : argP laws_heldIntA2S_a → obP (extObs 0 laws_heldIntA2S_o) → Option laws_heldIntA2S_E.P
  | (a, k, ()), () => match loopO laws_heldIntA2S_B1 ((a, k, (0 : Int), ()), ()) with | some (.inl ((t4, ()), ())) => some ((t4, ()), ()) | some (.inr ((k2, ()), ())) => some ((k2, ()), ()) | none => none
noncomputable def laws_heldIntA2S_x : Cx := ⟨tab, laws_markStudio_tppv0fspvp0ssfp0sssfp0ssssfvv_bpps1psp1p1p1s_e, fun _ _ => 0, fun _ => false, [], []⟩
noncomputable def c62 : Code := bodyOf Try.f62
noncomputable def laws_heldIntA2S_A : Ann := .seq .nil (.seq (.seq .nil (.loop laws_heldIntA2S_J2 laws_heldIntA2S_O1 laws_heldIntA2S_B1 (.seq .nil (.seq (.seq .nil (.loop laws_heldIntA2S_J0 laws_heldIntA2S_O0 laws_heldIntA2S_B0 .nil)) .nil)))) .nil)
theorem laws_heldIntA2S_r0 (p : laws_heldIntA2S_J2.P) : run laws_heldIntA2S_x (subc [1, 0, 1, 0, 0] c62) (.seq .nil (.seq (.seq .nil (.loop laws_heldIntA2S_J0 laws_heldIntA2S_O0 laws_heldIntA2S_B0 .nil)) .nil)) (laws_heldIntA2S_J2.S p) (leaf laws_heldIntA2S_J2 laws_heldIntA2S_O1) = laws_heldIntA2S_B1 p := by kernel_rfl
theorem laws_heldIntA2S_r1 (p : laws_heldIntA2S_J0.P) : run laws_heldIntA2S_x (subc [1, 0, 1, 0, 0, 1, 0, 0, 1, 0, 0] c62) .nil (laws_heldIntA2S_J0.S p) (leaf laws_heldIntA2S_J0 laws_heldIntA2S_O0) = laws_heldIntA2S_B0 p := by kernel_rfl
noncomputable def laws_heldIntA2S_D : Ve.Fn := ⟨62, laws_heldIntA2S_a, laws_heldIntA2S_o, laws_heldIntA2S_E, laws_heldIntA2S⟩
theorem laws_heldIntA2S_w : Walk Try.prog laws_heldIntA2S_x laws_heldIntA2S_D Try.f62 c62 28 laws_heldIntA2S_A :=
  ⟨⟨Try.func62, by kernel_rfl, by kernel_rfl, by kernel_rfl, by decide, by kernel_rfl, Nat.le_of_ble_eq_true (by kernel_rfl)⟩, by kernel_rfl, by kernel_rfl, by kernel_rfl, kcast (by kernel_rfl) (⟨laws_heldIntA2S_r0, laws_heldIntA2S_r1, trivial⟩ : (∀ p, run laws_heldIntA2S_x (subc [1, 0, 1, 0, 0] c62) (.seq .nil (.seq (.seq .nil (.loop laws_heldIntA2S_J0 laws_heldIntA2S_O0 laws_heldIntA2S_B0 .nil)) .nil)) (laws_heldIntA2S_J2.S p) (leaf laws_heldIntA2S_J2 laws_heldIntA2S_O1) = laws_heldIntA2S_B1 p) ∧ (∀ p, run laws_heldIntA2S_x (subc [1, 0, 1, 0, 0, 1, 0, 0, 1, 0, 0] c62) .nil (laws_heldIntA2S_J0.S p) (leaf laws_heldIntA2S_J0 laws_heldIntA2S_O0) = laws_heldIntA2S_B0 p) ∧ True), by kernel_rfl, fun x y => by kernel_rfl⟩
theorem laws_heldIntA2S_s : laws_heldIntA2S_D.Says Try.prog := laws_heldIntA2S_w.says follows tabOk laws_markStudio_tppv0fspvp0ssfp0sssfp0ssssfvv_bpps1psp1p1p1s_e_ok
noncomputable def laws_heldIntA2S_e : Env := more laws_markStudio_tppv0fspvp0ssfp0sssfp0ssssfvv_bpps1psp1p1p1s_e laws_heldIntA2S_D
theorem laws_heldIntA2S_e_ok : EnvOk Try.prog laws_heldIntA2S_e := more_ok laws_markStudio_tppv0fspvp0ssfp0sssfp0ssssfvv_bpps1psp1p1p1s_e_ok laws_heldIntA2S_s
/-! loop.example/g01128/laws.heldGraph -/
abbrev laws_heldGraph_E : Ve.End := ⟨[⟨4, .shr, I, none⟩], []⟩
abbrev laws_heldGraph_a : List ASh := [.val (.prod I (.list (.prod I I))), .val I]
abbrev laws_heldGraph_o : List OSh := []
noncomputable def laws_heldGraph : argP laws_heldGraph_a → obP (extObs 0 laws_heldGraph_o) → Option laws_heldGraph_E.P
  | (a, k, ()), () => match laws_heldIntA2S (a.2, k, ()) () with | some ((r, ()), ()) => (bif (decide (r < (0 : Int))) then (some (((-1 : Int), ()), ())) else (some ((r, ()), ()))) | none => none
noncomputable def laws_heldGraph_x : Cx := ⟨tab, laws_heldIntA2S_e, fun _ _ => 0, fun _ => false, [(8, 0), (8, 1), (8, 2), (8, 3)], [(2, 0)]⟩
noncomputable def c40 : Code := bodyOf Try.f40
noncomputable def laws_heldGraph_A : Ann := .nil
noncomputable def laws_heldGraph_D : Ve.Fn := ⟨40, laws_heldGraph_a, laws_heldGraph_o, laws_heldGraph_E, laws_heldGraph⟩
theorem laws_heldGraph_w : Walk Try.prog laws_heldGraph_x laws_heldGraph_D Try.f40 c40 12 laws_heldGraph_A :=
  ⟨⟨Try.func40, by kernel_rfl, by kernel_rfl, by kernel_rfl, by decide, by kernel_rfl, Nat.le_of_ble_eq_true (by kernel_rfl)⟩, by kernel_rfl, by kernel_rfl, by kernel_rfl, kcast (by kernel_rfl) trivial, by kernel_rfl, fun x y => by kernel_rfl⟩
theorem laws_heldGraph_s : laws_heldGraph_D.Says Try.prog := laws_heldGraph_w.says follows tabOk laws_heldIntA2S_e_ok
noncomputable def laws_heldGraph_e : Env := more laws_heldIntA2S_e laws_heldGraph_D
theorem laws_heldGraph_e_ok : EnvOk Try.prog laws_heldGraph_e := more_ok laws_heldIntA2S_e_ok laws_heldGraph_s
/-! loop.example/g01128/laws.heldIntS -/
abbrev laws_heldIntS_J0 : Tpl := ⟨[(0, .val (.list I)), (1, .val I), (5, .val I)], [], []⟩
abbrev laws_heldIntS_J1 : Tpl := ⟨[(4, .val I)], [], []⟩
abbrev laws_heldIntS_J2 : Tpl := ⟨[(1, .val I)], [], []⟩
abbrev laws_heldIntS_E : Ve.End := ⟨[⟨4, .shr, I, none⟩], []⟩
abbrev laws_heldIntS_a : List ASh := [.val (.list I), .val I]
abbrev laws_heldIntS_o : List OSh := []
abbrev laws_heldIntS_O0 : Out := .or .ret laws_heldIntS_J1 (.one (.ex 0) laws_heldIntS_J2)
noncomputable def laws_heldIntS_B0 : laws_heldIntS_J0.P → Option (laws_heldIntS_J0.P ⊕ laws_heldIntS_O0.P)
  | ((a, k, i, ()), ()) => bif (decide (i < (List.length a : Int))) then (guardB (inb i (List.length a)) (bif ((List.getD a (Int.toNat i) (0 : Int)) != k) then (some (.inr (.inl (((-1 : Int), ()), ())))) else (some (.inl ((a, (w64 (k + (1 : Int))), (w64 (i + (1 : Int))), ()), ()))))) else (some (.inr (.inr ((k, ()), ()))))
noncomputable def laws_heldIntS : argP laws_heldIntS_a → obP (extObs 0 laws_heldIntS_o) → Option laws_heldIntS_E.P
  | (a, k, ()), () => match loopO laws_heldIntS_B0 ((a, k, (0 : Int), ()), ()) with | some (.inl ((t4, ()), ())) => some ((t4, ()), ()) | some (.inr ((k2, ()), ())) => some ((k2, ()), ()) | none => none
noncomputable def laws_heldIntS_x : Cx := ⟨tab, laws_heldGraph_e, fun _ _ => 0, fun _ => false, [], []⟩
noncomputable def c41 : Code := bodyOf Try.f41
noncomputable def laws_heldIntS_A : Ann := .seq .nil (.seq (.seq .nil (.loop laws_heldIntS_J0 laws_heldIntS_O0 laws_heldIntS_B0 .nil)) .nil)
theorem laws_heldIntS_r0 (p : laws_heldIntS_J0.P) : run laws_heldIntS_x (subc [1, 0, 1, 0, 0] c41) .nil (laws_heldIntS_J0.S p) (leaf laws_heldIntS_J0 laws_heldIntS_O0) = laws_heldIntS_B0 p := by kernel_rfl
noncomputable def laws_heldIntS_D : Ve.Fn := ⟨41, laws_heldIntS_a, laws_heldIntS_o, laws_heldIntS_E, laws_heldIntS⟩
theorem laws_heldIntS_w : Walk Try.prog laws_heldIntS_x laws_heldIntS_D Try.f41 c41 21 laws_heldIntS_A :=
  ⟨⟨Try.func41, by kernel_rfl, by kernel_rfl, by kernel_rfl, by decide, by kernel_rfl, Nat.le_of_ble_eq_true (by kernel_rfl)⟩, by kernel_rfl, by kernel_rfl, by kernel_rfl, kcast (by kernel_rfl) (⟨laws_heldIntS_r0, trivial⟩ : (∀ p, run laws_heldIntS_x (subc [1, 0, 1, 0, 0] c41) .nil (laws_heldIntS_J0.S p) (leaf laws_heldIntS_J0 laws_heldIntS_O0) = laws_heldIntS_B0 p) ∧ True), by kernel_rfl, fun x y => by kernel_rfl⟩
theorem laws_heldIntS_s : laws_heldIntS_D.Says Try.prog := laws_heldIntS_w.says follows tabOk laws_heldGraph_e_ok
noncomputable def laws_heldIntS_e : Env := more laws_heldGraph_e laws_heldIntS_D
theorem laws_heldIntS_e_ok : EnvOk Try.prog laws_heldIntS_e := more_ok laws_heldGraph_e_ok laws_heldIntS_s
/-! loop.example/g01128/laws.heldStudio -/
abbrev laws_heldStudio_E : Ve.End := ⟨[⟨4, .shr, I, none⟩], []⟩
abbrev laws_heldStudio_a : List ASh := [.val (.prod (.prod I (.list (.prod I I))) (.prod I (.prod (.list I) (.prod (.list I) (.prod (.list I) I))))), .val I]
abbrev laws_heldStudio_o : List OSh := []
noncomputable def laws_heldStudio : argP laws_heldStudio_a → obP (extObs 0 laws_heldStudio_o) → Option laws_heldStudio_E.P
  | (a, k, ()), () => match laws_heldGraph (a.1, k, ()) () with | some ((r, ()), ()) => (bif (decide (r < (0 : Int))) then (some (((-1 : Int), ()), ())) else (match laws_heldIntS (a.2.2.1, r, ()) () with | some ((r2, ()), ()) => (bif (decide (r2 < (0 : Int))) then (some (((-1 : Int), ()), ())) else (match laws_heldIntS (a.2.2.2.1, r2, ()) () with | some ((r3, ()), ()) => (bif (decide (r3 < (0 : Int))) then (some (((-1 : Int), ()), ())) else (match laws_heldIntS (a.2.2.2.2.1, r3, ()) () with | some ((r4, ()), ()) => (bif (decide (r4 < (0 : Int))) then (some (((-1 : Int), ()), ())) else (some ((r4, ()), ()))) | none => none)) | none => none)) | none => none)) | none => none
noncomputable def laws_heldStudio_x : Cx := ⟨tab, laws_heldIntS_e, fun _ _ => 0, fun _ => false, [(8, 0), (8, 1), (8, 2), (8, 3), (14, 0), (14, 1), (14, 2), (14, 3), (20, 0), (20, 1), (20, 2), (20, 3), (26, 0), (26, 1), (26, 2), (26, 3)], [(2, 0)]⟩
noncomputable def c17 : Code := bodyOf Try.f17
noncomputable def laws_heldStudio_A : Ann := .nil
noncomputable def laws_heldStudio_D : Ve.Fn := ⟨17, laws_heldStudio_a, laws_heldStudio_o, laws_heldStudio_E, laws_heldStudio⟩
theorem laws_heldStudio_w : Walk Try.prog laws_heldStudio_x laws_heldStudio_D Try.f17 c17 30 laws_heldStudio_A :=
  ⟨⟨Try.func17, by kernel_rfl, by kernel_rfl, by kernel_rfl, by decide, by kernel_rfl, Nat.le_of_ble_eq_true (by kernel_rfl)⟩, by kernel_rfl, by kernel_rfl, by kernel_rfl, kcast (by kernel_rfl) trivial, by kernel_rfl, fun x y => by kernel_rfl⟩
theorem laws_heldStudio_s : laws_heldStudio_D.Says Try.prog := laws_heldStudio_w.says follows tabOk laws_heldIntS_e_ok
noncomputable def laws_heldStudio_e : Env := more laws_heldIntS_e laws_heldStudio_D
theorem laws_heldStudio_e_ok : EnvOk Try.prog laws_heldStudio_e := more_ok laws_heldIntS_e_ok laws_heldStudio_s
/-! loop.example/g01128/laws.FnExactNewStudio -/
abbrev laws_FnExactNewStudio_J0 : Tpl := ⟨[(1, .val I), (2, .cst (.prod I (.list (.prod I I)))), (6, .cst (.prod (.prod I (.list (.prod I I))) (.prod I (.prod (.list I) (.prod (.list I) (.prod (.list I) I)))))), (7, .val .bool), (8, .ptr (8, 0)), (9, .ptr (9, 0)), (10, .val .bool), (49, .val .bool)], [((8, 0), .box (.prod .shr (.own .shr)) (.prod I (.list (.prod I I)))), ((9, 0), .box (.prod (.prod .shr (.own .shr)) (.prod .shr (.prod (.own .shr) (.prod (.own .shr) (.prod (.own .shr) .shr))))) (.prod (.prod I (.list (.prod I I))) (.prod I (.prod (.list I) (.prod (.list I) (.prod (.list I) I))))))], []⟩
abbrev laws_FnExactNewStudio_J1 : Tpl := ⟨[(1, .val I), (2, .cst (.prod I (.list (.prod I I)))), (6, .cst (.prod (.prod I (.list (.prod I I))) (.prod I (.prod (.list I) (.prod (.list I) (.prod (.list I) I)))))), (7, .val .bool), (8, .ptr (8, 0)), (9, .ptr (9, 0)), (10, .val .bool), (46, .val (.prod I (.list (.prod I I))))], [((8, 0), .box (.prod .shr (.own .shr)) (.prod I (.list (.prod I I)))), ((9, 0), .box (.prod (.prod .shr (.own .shr)) (.prod .shr (.prod (.own .shr) (.prod (.own .shr) (.prod (.own .shr) .shr))))) (.prod (.prod I (.list (.prod I I))) (.prod I (.prod (.list I) (.prod (.list I) (.prod (.list I) I))))))], []⟩
abbrev laws_FnExactNewStudio_E : Ve.End := ⟨[⟨4, .shr, .bool, none⟩], []⟩
abbrev laws_FnExactNewStudio_a : List ASh := [.val (.prod I (.list (.prod I I))), .val I]
abbrev laws_FnExactNewStudio_o : List OSh := []
noncomputable def laws_FnExactNewStudio_D0 : laws_FnExactNewStudio_J1.P → Option laws_FnExactNewStudio_J0.P
  | ((t1, t2, t6, t7, t10, t46, ()), (t8, t9, ())) => match laws_toGraph (t46, ()) () with | some ((r, ()), ()) => (match laws_eqGraph ((t8.1, t8.2), (r.1, r.2), ()) () with | some ((r2, ()), ()) => some ((t1, t2, t6, t7, t10, (!r2), ()), (t8, t9, ())) | none => none) | none => none
noncomputable def laws_FnExactNewStudio_T0 : DT laws_FnExactNewStudio_J0 := .node laws_FnExactNewStudio_J1 laws_FnExactNewStudio_D0 (.br [(0, .sole), (2, .sole), (3, .sole), (4, .flo)] .fin (.br [(2, .sole), (0, .qui), (3, .sole), (4, .flo)] .fin .nobr))
noncomputable def laws_FnExactNewStudio : argP laws_FnExactNewStudio_a → obP (extObs 0 laws_FnExactNewStudio_o) → Option laws_FnExactNewStudio_E.P
  | (t0, t1, ()), () => match laws_szGraph (t0, (1048576 : Int), ()) () with | some ((r, ()), ()) => (bif (decide (r < (0 : Int))) then (some ((true, ()), ())) else (match laws_toGraph (t0, ()) () with | some ((r2, ()), ()) => (match spec_NewStudio ((r2.1, r2.2), t1, ()) () with | some ((r3, r4, ()), ()) => (match laws_toGraph (t0, ()) () with | some ((r5, ()), ()) => (match impl_NewStudio ((r5.1, r5.2), t1, ()) () with | some ((r6, r7, ()), ()) => (match laws_eqStudio (((r6.1.1, r6.1.2), (r6.2.1, (r6.2.2.1, (r6.2.2.2.1, (r6.2.2.2.2.1, r6.2.2.2.2.2))))), ((r3.1.1, r3.1.2), (r3.2.1, (r3.2.2.1, (r3.2.2.2.1, (r3.2.2.2.2.1, r3.2.2.2.2.2))))), ()) () with | some ((r8, ()), ()) => (bif (!r8) then (some ((false, ()), ())) else (bif (!(r7 == r4)) then (some ((false, ()), ())) else (match laws_FnExactNewStudio_D0 ((t1, t0, ((r3.1.1, r3.1.2), (r3.2.1, (r3.2.2.1, (r3.2.2.2.1, (r3.2.2.2.2.1, r3.2.2.2.2.2))))), r4, r7, t0, ()), ((r5.1, r5.2), ((r6.1.1, r6.1.2), (r6.2.1, (r6.2.2.1, (r6.2.2.2.1, (r6.2.2.2.2.1, r6.2.2.2.2.2))))), ())) with | some ((t1_2, t2, t6, t7, t10, t49, ()), (t8, t9, ())) => (bif t49 then (some ((false, ()), ())) else (match laws_markGraph_tpv0v_ls ((t8.1, ()), (1 : Int), ()) (t8.2, ()) with | some ((r9, ()), (o, ())) => (bif (decide (r9 < (0 : Int))) then (some ((false, ()), ())) else (match laws_eqStudio (((t9.1.1, t9.1.2), (t9.2.1, (t9.2.2.1, (t9.2.2.2.1, (t9.2.2.2.2.1, t9.2.2.2.2.2))))), t6, ()) () with | some ((r10, ()), ()) => (bif (!r10) then (some ((false, ()), ())) else (bif (!(t10 == t7)) then (some ((false, ()), ())) else (match laws_markStudio_tppv0fspvp0ssfp0sssfp0ssssfvv_bpps1psp1p1p1s (((t9.1.1, ()), (t9.2.1, ((), ((), ((), t9.2.2.2.2.2))))), (1 : Int), ()) (t9, ()) with | some ((r11, ()), (o2, ())) => (match laws_heldStudio (((o2.1.1, o2.1.2), (o2.2.1, (o2.2.2.1, (o2.2.2.2.1, (o2.2.2.2.2.1, o2.2.2.2.2.2))))), (1 : Int), ()) () with | some ((r12, ()), ()) => (bif (decide (r12 < (0 : Int))) then (some ((false, ()), ())) else (bif (r12 != r11) then (some ((false, ()), ())) else (match laws_toGraph (t2, ()) () with | some ((r13, ()), ()) => (match impl_NewStudio ((r13.1, r13.2), t1_2, ()) () with | some ((r14, r15, ()), ()) => (match laws_eqStudio (((r14.1.1, r14.1.2), (r14.2.1, (r14.2.2.1, (r14.2.2.2.1, (r14.2.2.2.2.1, r14.2.2.2.2.2))))), t6, ()) () with | some ((r16, ()), ()) => (bif (!r16) then (some ((false, ()), ())) else (bif (!(r15 == t7)) then (some ((false, ()), ())) else (match laws_heldStudio (((o2.1.1, o2.1.2), (o2.2.1, (o2.2.2.1, (o2.2.2.2.1, (o2.2.2.2.2.1, o2.2.2.2.2.2))))), (1 : Int), ()) () with | some ((r17, ()), ()) => (bif (decide (r17 < (0 : Int))) then (some ((false, ()), ())) else (bif (r17 != r11) then (some ((false, ()), ())) else (some ((true, ()), ())))) | none => none))) | none => none) | none => none) | none => none))) | none => none) | none => none))) | none => none)) | none => none)) | none => none))) | none => none) | none => none) | none => none) | none => none) | none => none)) | none => none
noncomputable def laws_FnExactNewStudio_x : Cx := ⟨tab, laws_heldStudio_e, fun f n => bif Nat.beq f 15 && Nat.beq n 0 then 1 else bif Nat.beq f 16 && Nat.beq n 0 then 1 else 0, fun _ => false, [(18, 0), (18, 1), (18, 2), (18, 3), (23, 0), (23, 1), (23, 2), (23, 3), (38, 0), (38, 1), (38, 2), (38, 3), (47, 0), (47, 1), (47, 2), (47, 3), (48, 0), (48, 1), (48, 2), (48, 3), (52, 0), (52, 1), (52, 2), (52, 3), (58, 0), (58, 1), (58, 2), (58, 3), (68, 0), (68, 1), (68, 2), (68, 3), (71, 0), (71, 1), (71, 2), (71, 3), (79, 0), (79, 1), (79, 2), (79, 3), (86, 0), (86, 1), (86, 2), (86, 3), (95, 0), (95, 1), (95, 2), (95, 3)], [(2, 0), (6, 0), (14, 0)]⟩
noncomputable def c4 : Code := bodyOf Try.f4
noncomputable def laws_FnExactNewStudio_A : Ann := .seq .nil (.seq .nil (.seq .nil (.seq .nil (.seq .nil (.seq .nil (.seq .nil (.seq .nil (.seq (.seq (.draws [(1, .flo)] laws_FnExactNewStudio_J0 laws_FnExactNewStudio_T0) .nil) .nil))))))))
theorem laws_FnExactNewStudio_D0b0 (p : laws_FnExactNewStudio_J1.P) : runDrawn laws_FnExactNewStudio_x (opsOf (subc [1, 1, 1, 1, 1, 1, 1, 1, 0, 0] c4)) [(0, .sole), (2, .sole), (3, .sole), (4, .flo)] (laws_FnExactNewStudio_J1.S p) (endT laws_FnExactNewStudio_x (.fin : DT laws_FnExactNewStudio_J0)) = laws_FnExactNewStudio_D0 p := by kernel_rfl
theorem laws_FnExactNewStudio_D0b1 (p : laws_FnExactNewStudio_J1.P) : runDrawn laws_FnExactNewStudio_x (opsOf (subc [1, 1, 1, 1, 1, 1, 1, 1, 0, 0] c4)) [(2, .sole), (0, .qui), (3, .sole), (4, .flo)] (laws_FnExactNewStudio_J1.S p) (endT laws_FnExactNewStudio_x (.fin : DT laws_FnExactNewStudio_J0)) = laws_FnExactNewStudio_D0 p := by kernel_rfl
noncomputable def laws_FnExactNewStudio_D : Ve.Fn := ⟨4, laws_FnExactNewStudio_a, laws_FnExactNewStudio_o, laws_FnExactNewStudio_E, laws_FnExactNewStudio⟩
theorem laws_FnExactNewStudio_w : Walk Try.prog laws_FnExactNewStudio_x laws_FnExactNewStudio_D Try.f4 c4 101 laws_FnExactNewStudio_A :=
  ⟨⟨Try.func4, by kernel_rfl, by kernel_rfl, by kernel_rfl, by decide, by kernel_rfl, Nat.le_of_ble_eq_true (by kernel_rfl)⟩, by kernel_rfl, by kernel_rfl, by kernel_rfl, kcast (by kernel_rfl) (⟨laws_FnExactNewStudio_D0b0, laws_FnExactNewStudio_D0b1, trivial⟩ : (∀ p, runDrawn laws_FnExactNewStudio_x (opsOf (subc [1, 1, 1, 1, 1, 1, 1, 1, 0, 0] c4)) [(0, .sole), (2, .sole), (3, .sole), (4, .flo)] (laws_FnExactNewStudio_J1.S p) (endT laws_FnExactNewStudio_x (.fin : DT laws_FnExactNewStudio_J0)) = laws_FnExactNewStudio_D0 p) ∧ (∀ p, runDrawn laws_FnExactNewStudio_x (opsOf (subc [1, 1, 1, 1, 1, 1, 1, 1, 0, 0] c4)) [(2, .sole), (0, .qui), (3, .sole), (4, .flo)] (laws_FnExactNewStudio_J1.S p) (endT laws_FnExactNewStudio_x (.fin : DT laws_FnExactNewStudio_J0)) = laws_FnExactNewStudio_D0 p) ∧ True), by kernel_rfl, fun x y => by kernel_rfl⟩
theorem laws_FnExactNewStudio_s : laws_FnExactNewStudio_D.Says Try.prog := laws_FnExactNewStudio_w.says follows tabOk laws_heldStudio_e_ok
noncomputable def laws_FnExactNewStudio_e : Env := more laws_heldStudio_e laws_FnExactNewStudio_D
theorem laws_FnExactNewStudio_e_ok : EnvOk Try.prog laws_FnExactNewStudio_e := more_ok laws_heldStudio_e_ok laws_FnExactNewStudio_s
end Go.Proofs.Ytckbihhaameffaa.V
