/-
  What the functions that the law reaches compute: typed pure functions, checked against the code.
-/
import Derived.Test.YtiiaadgibkpaaaaProg
import Derived.Test.YtiiaadgibkpaaaaE3
import Derived.Test.YtiiaadgibkpaaaaS
namespace Go.Proofs.Ytiiaadgibkpaaaa.V
open Go.Ve Go.Proofs
set_option linter.unusedVariables false
set_option linter.unusedSimpArgs false
set_option maxRecDepth 100000
def tab : Tab := [(3, .data ⟨I, 0, 8, false⟩), (4, .data ⟨.bool, 0, 1, false⟩), (22, .data ⟨(.list (.prod I I)), 0, 16, false⟩), (24, .data ⟨(.prod I (.list (.prod I I))), 2, 32, false⟩), (25, .data ⟨(.list I), 0, 8, false⟩), (29, .data ⟨(.prod I (.list (.prod I I))), 2, 32, false⟩), (50, .data ⟨(.list (.list I)), 0, 24, false⟩), (68, .fn), (73, .fn), (78, .data ⟨(.prod I I), 2, 16, true⟩)]
theorem follows : Try.prog.follows .mixedOrders = true := by kernel_rfl
theorem ti3 : TiOk Try.prog tab 3 ⟨I, 0, 8, false⟩ := ti_int (by kernel_rfl) Try.underlying3
theorem ti4 : TiOk Try.prog tab 4 ⟨.bool, 0, 1, false⟩ := ti_bool (by kernel_rfl) Try.underlying4
theorem ti22 : TiOk Try.prog tab 22 ⟨(.list (.prod I I)), 0, 16, false⟩ := ti_list (ie := ⟨(.prod I I), 2, 16, true⟩) (by kernel_rfl) Try.underlying22 (by kernel_rfl) rfl (by kernel_rfl) (by kernel_rfl)
theorem ti24 : TiOk Try.prog tab 24 ⟨(.prod I (.list (.prod I I))), 2, 32, false⟩ := ti_struct (by kernel_rfl) Try.underlying24 (by kernel_rfl) (by kernel_rfl) (by kernel_rfl) (by kernel_rfl)
theorem ti25 : TiOk Try.prog tab 25 ⟨(.list I), 0, 8, false⟩ := ti_list (ie := ⟨I, 0, 8, false⟩) (by kernel_rfl) Try.underlying25 (by kernel_rfl) rfl (by kernel_rfl) (by kernel_rfl)
theorem ti29 : TiOk Try.prog tab 29 ⟨(.prod I (.list (.prod I I))), 2, 32, false⟩ := ti_struct (by kernel_rfl) Try.underlying29 (by kernel_rfl) (by kernel_rfl) (by kernel_rfl) (by kernel_rfl)
theorem ti50 : TiOk Try.prog tab 50 ⟨(.list (.list I)), 0, 24, false⟩ := ti_list (ie := ⟨(.list I), 0, 8, false⟩) (by kernel_rfl) Try.underlying50 (by kernel_rfl) rfl (by kernel_rfl) (by kernel_rfl)
theorem ti68 : FnOk Try.prog 68 := ti_fn (by kernel_rfl) (Try.underlying68)
theorem ti73 : FnOk Try.prog 73 := ti_fn (by kernel_rfl) (Try.underlying73)
theorem ti78 : TiOk Try.prog tab 78 ⟨(.prod I I), 2, 16, true⟩ := ti_arr (ie := ⟨I, 0, 8, false⟩) (by kernel_rfl) Try.underlying78 (by kernel_rfl) rfl (by kernel_rfl) (by kernel_rfl)
theorem tabOk : TabOk' Try.prog tab := tabOk_of ⟨ti3, ti4, ti22, ti24, ti25, ti29, ti50, ti68, ti73, ti78, trivial⟩
/-! loop.example/g01128/laws.szIntA2S -/
abbrev laws_szIntA2S_E : Ve.End := ⟨[⟨4, .shr, I, none⟩], []⟩
abbrev laws_szIntA2S_a : List ASh := [.val (.list (.prod I I)), .val I]
abbrev laws_szIntA2S_o : List OSh := []
noncomputable def laws_szIntA2S : argP laws_szIntA2S_a → obP (extObs 0 laws_szIntA2S_o) → Option laws_szIntA2S_E.P
  | (a, left, ()), () => bif (decide ((w64 (left - (List.length a : Int))) < (0 : Int))) then (some (((-1 : Int), ()), ())) else (some (((w64 (left - (List.length a : Int))), ()), ()))
noncomputable def laws_szIntA2S_x : Cx := ⟨tab, noEnv, fun _ _ => 0, fun _ => false, [], []⟩
noncomputable def c56 : Code := bodyOf Try.f56
noncomputable def laws_szIntA2S_A : Ann := .nil
noncomputable def laws_szIntA2S_D : Ve.Fn := ⟨56, laws_szIntA2S_a, laws_szIntA2S_o, laws_szIntA2S_E, laws_szIntA2S⟩
theorem laws_szIntA2S_w : Walk Try.prog laws_szIntA2S_x laws_szIntA2S_D Try.f56 c56 12 laws_szIntA2S_A :=
  ⟨⟨Try.func56, by kernel_rfl, by kernel_rfl, by kernel_rfl, by decide, by kernel_rfl, Nat.le_of_ble_eq_true (by kernel_rfl)⟩, by kernel_rfl, by kernel_rfl, by kernel_rfl, kcast (by kernel_rfl) trivial, by kernel_rfl, fun x y => by kernel_rfl⟩
theorem laws_szIntA2S_s : laws_szIntA2S_D.Says Try.prog := laws_szIntA2S_w.says follows tabOk noEnv_ok
noncomputable def laws_szIntA2S_e : Env := more noEnv laws_szIntA2S_D
theorem laws_szIntA2S_e_ok : EnvOk Try.prog laws_szIntA2S_e := more_ok noEnv_ok laws_szIntA2S_s
/-! loop.example/g01128/laws.szGraph -/
abbrev laws_szGraph_E : Ve.End := ⟨[⟨4, .shr, I, none⟩], []⟩
abbrev laws_szGraph_a : List ASh := [.val (.prod I (.list (.prod I I))), .val I]
abbrev laws_szGraph_o : List OSh := []
noncomputable def laws_szGraph : argP laws_szGraph_a → obP (extObs 0 laws_szGraph_o) → Option laws_szGraph_E.P
  | (a, left, ()), () => match laws_szIntA2S (a.2, left, ()) () with | some ((r, ()), ()) => (bif (decide (r < (0 : Int))) then (some (((-1 : Int), ()), ())) else (some ((r, ()), ()))) | none => none
noncomputable def laws_szGraph_x : Cx := ⟨tab, laws_szIntA2S_e, fun _ _ => 0, fun _ => false, [(8, 0), (8, 1), (8, 2), (8, 3)], [(2, 0)]⟩
noncomputable def c15 : Code := bodyOf Try.f15
noncomputable def laws_szGraph_A : Ann := .nil
noncomputable def laws_szGraph_D : Ve.Fn := ⟨15, laws_szGraph_a, laws_szGraph_o, laws_szGraph_E, laws_szGraph⟩
theorem laws_szGraph_w : Walk Try.prog laws_szGraph_x laws_szGraph_D Try.f15 c15 12 laws_szGraph_A :=
  ⟨⟨Try.func15, by kernel_rfl, by kernel_rfl, by kernel_rfl, by decide, by kernel_rfl, Nat.le_of_ble_eq_true (by kernel_rfl)⟩, by kernel_rfl, by kernel_rfl, by kernel_rfl, kcast (by kernel_rfl) trivial, by kernel_rfl, fun x y => by kernel_rfl⟩
theorem laws_szGraph_s : laws_szGraph_D.Says Try.prog := laws_szGraph_w.says follows tabOk laws_szIntA2S_e_ok
noncomputable def laws_szGraph_e : Env := more laws_szIntA2S_e laws_szGraph_D
theorem laws_szGraph_e_ok : EnvOk Try.prog laws_szGraph_e := more_ok laws_szIntA2S_e_ok laws_szGraph_s
/-! loop.example/g01128/laws.toIntA2 -/
abbrev laws_toIntA2_J0 : Tpl := ⟨[(1, .cst (.prod I I)), (2, .ptr (2, 0)), (3, .ptr (3, 0)), (4, .val I)], [((2, 0), .box .shr (.prod I I)), ((3, 0), .box .shr (.prod I I))], []⟩
abbrev laws_toIntA2_J1 : Tpl := ⟨[(2, .ptr (2, 0)), (3, .ptr (3, 0))], [((2, 0), .box .shr (.prod I I)), ((3, 0), .box .shr (.prod I I))], []⟩
abbrev laws_toIntA2_E : Ve.End := ⟨[⟨2, .shr, (.prod I I), some 78⟩], []⟩
abbrev laws_toIntA2_a : List ASh := [.val (.prod I I)]
abbrev laws_toIntA2_o : List OSh := []
abbrev laws_toIntA2_O0 : Out := .one (.ex 0) laws_toIntA2_J1
noncomputable def laws_toIntA2_B0 : laws_toIntA2_J0.P → Option (laws_toIntA2_J0.P ⊕ laws_toIntA2_O0.P)
  | ((a, i, ()), (t2, out, ())) => bif (decide (i < (2 : Int))) then (guardB (decide (0 ≤ i) && decide (i < 2)) (guardB (decide (0 ≤ i) && decide (i < 2)) (some (.inl ((a, (w64 (i + (1 : Int))), ()), (t2, (bif Nat.beq (Int.toNat i) 0 then ((bif Nat.beq (Int.toNat i) 0 then a.1 else a.2), out.2) else (out.1, (bif Nat.beq (Int.toNat i) 0 then a.1 else a.2))), ())))))) else (some (.inr ((), (t2, out, ()))))
noncomputable def laws_toIntA2 : argP laws_toIntA2_a → obP (extObs 0 laws_toIntA2_o) → Option laws_toIntA2_E.P
  | (a, ()), () => match loopO laws_toIntA2_B0 ((a, (0 : Int), ()), (((0 : Int), (0 : Int)), ((0 : Int), (0 : Int)), ())) with | some ((), (t2, out, ())) => some ((out, ()), ()) | none => none
noncomputable def laws_toIntA2_x : Cx := ⟨tab, laws_szGraph_e, fun _ _ => 0, fun _ => false, [], [(1, 0)]⟩
noncomputable def c102 : Code := bodyOf Try.f102
noncomputable def laws_toIntA2_A : Ann := .seq .nil (.seq .nil (.seq (.seq .nil (.loop laws_toIntA2_J0 laws_toIntA2_O0 laws_toIntA2_B0 .nil)) .nil))
theorem laws_toIntA2_r0 (p : laws_toIntA2_J0.P) : run laws_toIntA2_x (subc [1, 1, 0, 1, 0, 0] c102) .nil (laws_toIntA2_J0.S p) (leaf laws_toIntA2_J0 laws_toIntA2_O0) = laws_toIntA2_B0 p := by kernel_rfl
noncomputable def laws_toIntA2_D : Ve.Fn := ⟨102, laws_toIntA2_a, laws_toIntA2_o, laws_toIntA2_E, laws_toIntA2⟩
theorem laws_toIntA2_w : Walk Try.prog laws_toIntA2_x laws_toIntA2_D Try.f102 c102 15 laws_toIntA2_A :=
  ⟨⟨Try.func102, by kernel_rfl, by kernel_rfl, by kernel_rfl, by decide, by kernel_rfl, Nat.le_of_ble_eq_true (by kernel_rfl)⟩, by kernel_rfl, by kernel_rfl, by kernel_rfl, kcast (by kernel_rfl) (⟨laws_toIntA2_r0, trivial⟩ : (∀ p, run laws_toIntA2_x (subc [1, 1, 0, 1, 0, 0] c102) .nil (laws_toIntA2_J0.S p) (leaf laws_toIntA2_J0 laws_toIntA2_O0) = laws_toIntA2_B0 p) ∧ True), by kernel_rfl, fun x y => by kernel_rfl⟩
theorem laws_toIntA2_s : laws_toIntA2_D.Says Try.prog := laws_toIntA2_w.says follows tabOk laws_szGraph_e_ok
noncomputable def laws_toIntA2_e : Env := more laws_szGraph_e laws_toIntA2_D
theorem laws_toIntA2_e_ok : EnvOk Try.prog laws_toIntA2_e := more_ok laws_szGraph_e_ok laws_toIntA2_s
/-! loop.example/g01128/laws.toIntA2S -/
abbrev laws_toIntA2S_J0 : Tpl := ⟨[(0, .val (.list (.prod I I))), (3, .own .shr (.prod I I)), (4, .val I)], [], []⟩
abbrev laws_toIntA2S_J1 : Tpl := ⟨[(3, .own .shr (.prod I I))], [], []⟩
abbrev laws_toIntA2S_E : Ve.End := ⟨[⟨2, (.own .shr), (.list (.prod I I)), none⟩], []⟩
abbrev laws_toIntA2S_a : List ASh := [.val (.list (.prod I I))]
abbrev laws_toIntA2S_o : List OSh := []
abbrev laws_toIntA2S_O0 : Out := .one (.ex 0) laws_toIntA2S_J1
noncomputable def laws_toIntA2S_B0 : laws_toIntA2S_J0.P → Option (laws_toIntA2S_J0.P ⊕ laws_toIntA2S_O0.P)
  | ((a, out, i, ()), ()) => bif (decide (i < (List.length a : Int))) then (guardB (inb i (List.length a)) (match laws_toIntA2 ((List.getD a (Int.toNat i) ((0 : Int), (0 : Int))), ()) () with | some ((r, ()), ()) => guardB (inb i (List.length out)) (some (.inl ((a, (List.set out (Int.toNat i) r), (w64 (i + (1 : Int))), ()), ()))) | none => none)) else (some (.inr ((out, ()), ())))
noncomputable def laws_toIntA2S : argP laws_toIntA2S_a → obP (extObs 0 laws_toIntA2S_o) → Option laws_toIntA2S_E.P
  | (a, ()), () => guardB (decide (0 ≤ (List.length a : Int)) && decide ((List.length a : Int) ≤ (List.length a : Int)) && decide ((List.length a : Int) * 16 ≤ 140737488355328)) (match loopO laws_toIntA2S_B0 ((a, (List.replicate (Int.toNat (List.length a : Int)) ((0 : Int), (0 : Int))), (0 : Int), ()), ()) with | some ((out, ()), ()) => some ((out, ()), ()) | none => none)
noncomputable def laws_toIntA2S_x : Cx := ⟨tab, laws_toIntA2_e, fun _ _ => 0, fun _ => false, [(20, 0), (20, 1), (20, 2), (20, 3)], []⟩
noncomputable def c59 : Code := bodyOf Try.f59
noncomputable def laws_toIntA2S_A : Ann := .seq .nil (.seq .nil (.seq (.seq .nil (.loop laws_toIntA2S_J0 laws_toIntA2S_O0 laws_toIntA2S_B0 .nil)) .nil))
theorem laws_toIntA2S_r0 (p : laws_toIntA2S_J0.P) : run laws_toIntA2S_x (subc [1, 1, 0, 1, 0, 0] c59) .nil (laws_toIntA2S_J0.S p) (leaf laws_toIntA2S_J0 laws_toIntA2S_O0) = laws_toIntA2S_B0 p := by kernel_rfl
noncomputable def laws_toIntA2S_D : Ve.Fn := ⟨59, laws_toIntA2S_a, laws_toIntA2S_o, laws_toIntA2S_E, laws_toIntA2S⟩
theorem laws_toIntA2S_w : Walk Try.prog laws_toIntA2S_x laws_toIntA2S_D Try.f59 c59 23 laws_toIntA2S_A :=
  ⟨⟨Try.func59, by kernel_rfl, by kernel_rfl, by kernel_rfl, by decide, by kernel_rfl, Nat.le_of_ble_eq_true (by kernel_rfl)⟩, by kernel_rfl, by kernel_rfl, by kernel_rfl, kcast (by kernel_rfl) (⟨laws_toIntA2S_r0, trivial⟩ : (∀ p, run laws_toIntA2S_x (subc [1, 1, 0, 1, 0, 0] c59) .nil (laws_toIntA2S_J0.S p) (leaf laws_toIntA2S_J0 laws_toIntA2S_O0) = laws_toIntA2S_B0 p) ∧ True), by kernel_rfl, fun x y => by kernel_rfl⟩
theorem laws_toIntA2S_s : laws_toIntA2S_D.Says Try.prog := laws_toIntA2S_w.says follows tabOk laws_toIntA2_e_ok
noncomputable def laws_toIntA2S_e : Env := more laws_toIntA2_e laws_toIntA2S_D
theorem laws_toIntA2S_e_ok : EnvOk Try.prog laws_toIntA2S_e := more_ok laws_toIntA2_e_ok laws_toIntA2S_s
/-! loop.example/g01128/laws.toGraph -/
abbrev laws_toGraph_E : Ve.End := ⟨[⟨2, (.prod .shr (.own .shr)), (.prod I (.list (.prod I I))), some 29⟩], []⟩
abbrev laws_toGraph_a : List ASh := [.val (.prod I (.list (.prod I I)))]
abbrev laws_toGraph_o : List OSh := []
noncomputable def laws_toGraph : argP laws_toGraph_a → obP (extObs 0 laws_toGraph_o) → Option laws_toGraph_E.P
  | (a, ()), () => match laws_toIntA2S (a.2, ()) () with | some ((r, ()), ()) => some (((a.1, r), ()), ()) | none => none
noncomputable def laws_toGraph_x : Cx := ⟨tab, laws_toIntA2S_e, fun _ _ => 0, fun _ => false, [], [(1, 0)]⟩
noncomputable def c17 : Code := bodyOf Try.f17
noncomputable def laws_toGraph_A : Ann := .nil
noncomputable def laws_toGraph_D : Ve.Fn := ⟨17, laws_toGraph_a, laws_toGraph_o, laws_toGraph_E, laws_toGraph⟩
theorem laws_toGraph_w : Walk Try.prog laws_toGraph_x laws_toGraph_D Try.f17 c17 12 laws_toGraph_A :=
  ⟨⟨Try.func17, by kernel_rfl, by kernel_rfl, by kernel_rfl, by decide, by kernel_rfl, Nat.le_of_ble_eq_true (by kernel_rfl)⟩, by kernel_rfl, by kernel_rfl, by kernel_rfl, kcast (by kernel_rfl) trivial, by kernel_rfl, fun x y => by kernel_rfl⟩
theorem laws_toGraph_s : laws_toGraph_D.Says Try.prog := laws_toGraph_w.says follows tabOk laws_toIntA2S_e_ok
noncomputable def laws_toGraph_e : Env := more laws_toIntA2S_e laws_toGraph_D
theorem laws_toGraph_e_ok : EnvOk Try.prog laws_toGraph_e := more_ok laws_toIntA2S_e_ok laws_toGraph_s
/-! loop.example/g01128/spec.l1In -/
abbrev spec_l1In_E : Ve.End := ⟨[⟨6, .shr, .bool, none⟩], []⟩
abbrev spec_l1In_a : List ASh := [.val I, .val I, .val I]
abbrev spec_l1In_o : List OSh := []
noncomputable def spec_l1In : argP spec_l1In_a → obP (extObs 0 spec_l1In_o) → Option spec_l1In_E.P
  | (x, a, b, ()), () => bif (decide (a ≤ x)) then (some (((decide (x ≤ b)), ()), ())) else (some ((false, ()), ()))
noncomputable def spec_l1In_x : Cx := ⟨tab, laws_toGraph_e, fun _ _ => 0, fun _ => false, [], []⟩
noncomputable def c89 : Code := bodyOf Try.f89
noncomputable def spec_l1In_A : Ann := .nil
noncomputable def spec_l1In_D : Ve.Fn := ⟨89, spec_l1In_a, spec_l1In_o, spec_l1In_E, spec_l1In⟩
theorem spec_l1In_w : Walk Try.prog spec_l1In_x spec_l1In_D Try.f89 c89 15 spec_l1In_A :=
  ⟨⟨Try.func89, by kernel_rfl, by kernel_rfl, by kernel_rfl, by decide, by kernel_rfl, Nat.le_of_ble_eq_true (by kernel_rfl)⟩, by kernel_rfl, by kernel_rfl, by kernel_rfl, kcast (by kernel_rfl) trivial, by kernel_rfl, fun x y => by kernel_rfl⟩
theorem spec_l1In_s : spec_l1In_D.Says Try.prog := spec_l1In_w.says follows tabOk laws_toGraph_e_ok
noncomputable def spec_l1In_e : Env := more laws_toGraph_e spec_l1In_D
theorem spec_l1In_e_ok : EnvOk Try.prog spec_l1In_e := more_ok laws_toGraph_e_ok spec_l1In_s
/-! loop.example/g01128/spec.l2Edge -/
abbrev spec_l2Edge_E : Ve.End := ⟨[⟨4, .shr, .bool, none⟩], []⟩
abbrev spec_l2Edge_a : List ASh := [.val (.prod I I), .val (.prod I I)]
abbrev spec_l2Edge_o : List OSh := []
noncomputable def spec_l2Edge : argP spec_l2Edge_a → obP (extObs 0 spec_l2Edge_o) → Option spec_l2Edge_E.P
  | (a, b, ()), () => bif (decide (a.1 < b.1)) then (some ((true, ()), ())) else (bif (a.1 == b.1) then (some (((decide (a.2 < b.2)), ()), ())) else (some ((false, ()), ())))
noncomputable def spec_l2Edge_x : Cx := ⟨tab, spec_l1In_e, fun _ _ => 0, fun _ => false, [], [(2, 0), (3, 0)]⟩
noncomputable def c141 : Code := bodyOf Try.f141
noncomputable def spec_l2Edge_A : Ann := .nil
noncomputable def spec_l2Edge_D : Ve.Fn := ⟨141, spec_l2Edge_a, spec_l2Edge_o, spec_l2Edge_E, spec_l2Edge⟩
theorem spec_l2Edge_w : Walk Try.prog spec_l2Edge_x spec_l2Edge_D Try.f141 c141 24 spec_l2Edge_A :=
  ⟨⟨Try.func141, by kernel_rfl, by kernel_rfl, by kernel_rfl, by decide, by kernel_rfl, Nat.le_of_ble_eq_true (by kernel_rfl)⟩, by kernel_rfl, by kernel_rfl, by kernel_rfl, kcast (by kernel_rfl) trivial, by kernel_rfl, fun x y => by kernel_rfl⟩
theorem spec_l2Edge_s : spec_l2Edge_D.Says Try.prog := spec_l2Edge_w.says follows tabOk spec_l1In_e_ok
noncomputable def spec_l2Edge_e : Env := more spec_l1In_e spec_l2Edge_D
theorem spec_l2Edge_e_ok : EnvOk Try.prog spec_l2Edge_e := more_ok spec_l1In_e_ok spec_l2Edge_s
/-! loop.example/g01128/spec.l2Pairs -/
abbrev spec_l2Pairs_J0 : Tpl := ⟨[(0, .val (.list (.prod I I))), (1, .val I), (5, .val I)], [], []⟩
abbrev spec_l2Pairs_J1 : Tpl := ⟨[(4, .val .bool)], [], []⟩
abbrev spec_l2Pairs_J2 : Tpl := ⟨[], [], []⟩
abbrev spec_l2Pairs_E : Ve.End := ⟨[⟨4, .shr, .bool, none⟩], []⟩
abbrev spec_l2Pairs_a : List ASh := [.val (.list (.prod I I)), .val I]
abbrev spec_l2Pairs_o : List OSh := []
abbrev spec_l2Pairs_O0 : Out := .or .ret spec_l2Pairs_J1 (.one (.ex 0) spec_l2Pairs_J2)
noncomputable def spec_l2Pairs_B0 : spec_l2Pairs_J0.P → Option (spec_l2Pairs_J0.P ⊕ spec_l2Pairs_O0.P)
  | ((pairs, n, i, ()), ()) => bif (decide (i < (List.length pairs : Int))) then (guardB (inb i (List.length pairs)) (match spec_l1In ((List.getD pairs (Int.toNat i) ((0 : Int), (0 : Int))).1, (0 : Int), (w64 (n - (1 : Int))), ()) () with | some ((r, ()), ()) => (bif (!r) then (some (.inr (.inl ((false, ()), ())))) else (match spec_l1In ((List.getD pairs (Int.toNat i) ((0 : Int), (0 : Int))).2, (0 : Int), (w64 (n - (1 : Int))), ()) () with | some ((r2, ()), ()) => (bif (!r2) then (some (.inr (.inl ((false, ()), ())))) else (bif (decide (((List.getD pairs (Int.toNat i) ((0 : Int), (0 : Int))).2) ≤ ((List.getD pairs (Int.toNat i) ((0 : Int), (0 : Int))).1))) then (some (.inr (.inl ((false, ()), ())))) else (bif (decide ((0 : Int) < i)) then (guardB (inb (w64 (i - (1 : Int))) (List.length pairs)) (match spec_l2Edge ((List.getD pairs (Int.toNat (w64 (i - (1 : Int)))) ((0 : Int), (0 : Int))), (List.getD pairs (Int.toNat i) ((0 : Int), (0 : Int))), ()) () with | some ((r3, ()), ()) => (bif (!r3) then (some (.inr (.inl ((false, ()), ())))) else (some (.inl ((pairs, n, (w64 (i + (1 : Int))), ()), ())))) | none => none)) else (some (.inl ((pairs, n, (w64 (i + (1 : Int))), ()), ())))))) | none => none)) | none => none)) else (some (.inr (.inr ((), ()))))
noncomputable def spec_l2Pairs : argP spec_l2Pairs_a → obP (extObs 0 spec_l2Pairs_o) → Option spec_l2Pairs_E.P
  | (pairs, n, ()), () => match loopO spec_l2Pairs_B0 ((pairs, n, (0 : Int), ()), ()) with | some (.inl ((t4, ()), ())) => some ((t4, ()), ()) | some (.inr ((), ())) => some ((true, ()), ()) | none => none
noncomputable def spec_l2Pairs_x : Cx := ⟨tab, spec_l2Edge_e, fun _ _ => 0, fun _ => false, [(21, 0), (21, 1), (21, 2), (21, 3), (28, 0), (28, 1), (28, 2), (28, 3), (48, 0), (48, 1), (48, 2), (48, 3)], [(6, 0)]⟩
noncomputable def c113 : Code := bodyOf Try.f113
noncomputable def spec_l2Pairs_A : Ann := .seq .nil (.seq (.seq .nil (.loop spec_l2Pairs_J0 spec_l2Pairs_O0 spec_l2Pairs_B0 (.seq .nil (.seq (.seq .nil (.seq (.draw [(0, .flo), (1, .flo), (2, .flo), (3, .flo), (4, .sole), (5, .flo), (6, .flo), (7, .flo), (9, .flo), (10, .flo), (8, .qui), (11, .sole), (12, .flo), (13, .flo), (14, .flo), (15, .flo), (17, .flo), (16, .qui), (18, .qui), (19, .flo), (20, .flo), (21, .flo), (22, .flo), (23, .flo), (24, .flo), (25, .flo), (26, .flo), (27, .flo), (28, .flo), (29, .qui), (30, .qui), (31, .sole), (32, .flo), (33, .flo), (34, .flo)]) .nil)) .nil)))) .nil)
theorem spec_l2Pairs_r0 (p : spec_l2Pairs_J0.P) : run spec_l2Pairs_x (subc [1, 0, 1, 0, 0] c113) (.seq .nil (.seq (.seq .nil (.seq (.draw [(0, .flo), (1, .flo), (2, .flo), (3, .flo), (4, .sole), (5, .flo), (6, .flo), (7, .flo), (9, .flo), (10, .flo), (8, .qui), (11, .sole), (12, .flo), (13, .flo), (14, .flo), (15, .flo), (17, .flo), (16, .qui), (18, .qui), (19, .flo), (20, .flo), (21, .flo), (22, .flo), (23, .flo), (24, .flo), (25, .flo), (26, .flo), (27, .flo), (28, .flo), (29, .qui), (30, .qui), (31, .sole), (32, .flo), (33, .flo), (34, .flo)]) .nil)) .nil)) (spec_l2Pairs_J0.S p) (leaf spec_l2Pairs_J0 spec_l2Pairs_O0) = spec_l2Pairs_B0 p := by kernel_rfl
noncomputable def spec_l2Pairs_D : Ve.Fn := ⟨113, spec_l2Pairs_a, spec_l2Pairs_o, spec_l2Pairs_E, spec_l2Pairs⟩
theorem spec_l2Pairs_w : Walk Try.prog spec_l2Pairs_x spec_l2Pairs_D Try.f113 c113 52 spec_l2Pairs_A :=
  ⟨⟨Try.func113, by kernel_rfl, by kernel_rfl, by kernel_rfl, by decide, by kernel_rfl, Nat.le_of_ble_eq_true (by kernel_rfl)⟩, by kernel_rfl, by kernel_rfl, by kernel_rfl, kcast (by kernel_rfl) (⟨spec_l2Pairs_r0, trivial⟩ : (∀ p, run spec_l2Pairs_x (subc [1, 0, 1, 0, 0] c113) (.seq .nil (.seq (.seq .nil (.seq (.draw [(0, .flo), (1, .flo), (2, .flo), (3, .flo), (4, .sole), (5, .flo), (6, .flo), (7, .flo), (9, .flo), (10, .flo), (8, .qui), (11, .sole), (12, .flo), (13, .flo), (14, .flo), (15, .flo), (17, .flo), (16, .qui), (18, .qui), (19, .flo), (20, .flo), (21, .flo), (22, .flo), (23, .flo), (24, .flo), (25, .flo), (26, .flo), (27, .flo), (28, .flo), (29, .qui), (30, .qui), (31, .sole), (32, .flo), (33, .flo), (34, .flo)]) .nil)) .nil)) (spec_l2Pairs_J0.S p) (leaf spec_l2Pairs_J0 spec_l2Pairs_O0) = spec_l2Pairs_B0 p) ∧ True), by kernel_rfl, fun x y => by kernel_rfl⟩
theorem spec_l2Pairs_s : spec_l2Pairs_D.Says Try.prog := spec_l2Pairs_w.says follows tabOk spec_l2Edge_e_ok
noncomputable def spec_l2Pairs_e : Env := more spec_l2Edge_e spec_l2Pairs_D
theorem spec_l2Pairs_e_ok : EnvOk Try.prog spec_l2Pairs_e := more_ok spec_l2Edge_e_ok spec_l2Pairs_s
/-! loop.example/g01128/spec.l2Good -/
abbrev spec_l2Good_E : Ve.End := ⟨[⟨2, .shr, .bool, none⟩], []⟩
abbrev spec_l2Good_a : List ASh := [.val (.prod I (.list (.prod I I)))]
abbrev spec_l2Good_o : List OSh := []
noncomputable def spec_l2Good : argP spec_l2Good_a → obP (extObs 0 spec_l2Good_o) → Option spec_l2Good_E.P
  | (g, ()), () => match spec_l1In (g.1, (0 : Int), (8 : Int), ()) () with | some ((r, ()), ()) => (bif r then (match spec_l2Pairs (g.2, g.1, ()) () with | some ((r2, ()), ()) => some ((r2, ()), ()) | none => none) else (some ((false, ()), ()))) | none => none
noncomputable def spec_l2Good_x : Cx := ⟨tab, spec_l2Pairs_e, fun _ _ => 0, fun _ => false, [(5, 0), (5, 1), (5, 2), (5, 3), (11, 0), (11, 1), (11, 2), (11, 3)], [(1, 0)]⟩
noncomputable def c65 : Code := bodyOf Try.f65
noncomputable def spec_l2Good_A : Ann := .nil
noncomputable def spec_l2Good_D : Ve.Fn := ⟨65, spec_l2Good_a, spec_l2Good_o, spec_l2Good_E, spec_l2Good⟩
theorem spec_l2Good_w : Walk Try.prog spec_l2Good_x spec_l2Good_D Try.f65 c65 13 spec_l2Good_A :=
  ⟨⟨Try.func65, by kernel_rfl, by kernel_rfl, by kernel_rfl, by decide, by kernel_rfl, Nat.le_of_ble_eq_true (by kernel_rfl)⟩, by kernel_rfl, by kernel_rfl, by kernel_rfl, kcast (by kernel_rfl) trivial, by kernel_rfl, fun x y => by kernel_rfl⟩
theorem spec_l2Good_s : spec_l2Good_D.Says Try.prog := spec_l2Good_w.says follows tabOk spec_l2Pairs_e_ok
noncomputable def spec_l2Good_e : Env := more spec_l2Pairs_e spec_l2Good_D
theorem spec_l2Good_e_ok : EnvOk Try.prog spec_l2Good_e := more_ok spec_l2Pairs_e_ok spec_l2Good_s
/-! loop.example/g01128/spec.l10Good -/
abbrev spec_l10Good_E : Ve.End := ⟨[⟨4, .shr, .bool, none⟩], []⟩
abbrev spec_l10Good_a : List ASh := [.val (.prod I (.list (.prod I I))), .val (.prod I (.list (.prod I I)))]
abbrev spec_l10Good_o : List OSh := []
noncomputable def spec_l10Good : argP spec_l10Good_a → obP (extObs 0 spec_l10Good_o) → Option spec_l10Good_E.P
  | (g, h, ()), () => match spec_l2Good (g, ()) () with | some ((r, ()), ()) => (bif r then (match spec_l2Good (h, ()) () with | some ((r2, ()), ()) => (bif r2 then (some (((decide (g.1 ≤ (6 : Int))), ()), ())) else (some ((false, ()), ()))) | none => none) else (some ((false, ()), ()))) | none => none
noncomputable def spec_l10Good_x : Cx := ⟨tab, spec_l2Good_e, fun _ _ => 0, fun _ => false, [(6, 0), (6, 1), (6, 2), (6, 3), (9, 0), (9, 1), (9, 2), (9, 3)], [(2, 0), (3, 0)]⟩
noncomputable def c57 : Code := bodyOf Try.f57
noncomputable def spec_l10Good_A : Ann := .nil
noncomputable def spec_l10Good_D : Ve.Fn := ⟨57, spec_l10Good_a, spec_l10Good_o, spec_l10Good_E, spec_l10Good⟩
theorem spec_l10Good_w : Walk Try.prog spec_l10Good_x spec_l10Good_D Try.f57 c57 16 spec_l10Good_A :=
  ⟨⟨Try.func57, by kernel_rfl, by kernel_rfl, by kernel_rfl, by decide, by kernel_rfl, Nat.le_of_ble_eq_true (by kernel_rfl)⟩, by kernel_rfl, by kernel_rfl, by kernel_rfl, kcast (by kernel_rfl) trivial, by kernel_rfl, fun x y => by kernel_rfl⟩
theorem spec_l10Good_s : spec_l10Good_D.Says Try.prog := spec_l10Good_w.says follows tabOk spec_l2Good_e_ok
noncomputable def spec_l10Good_e : Env := more spec_l2Good_e spec_l10Good_D
theorem spec_l10Good_e_ok : EnvOk Try.prog spec_l10Good_e := more_ok spec_l2Good_e_ok spec_l10Good_s
/-! loop.example/g01128/spec.l2Near -/
abbrev spec_l2Near_J0 : Tpl := ⟨[(1, .val I), (2, .val I), (3, .cst (.prod I (.list (.prod I I)))), (7, .val I)], [], []⟩
abbrev spec_l2Near_J1 : Tpl := ⟨[(6, .val .bool)], [], []⟩
abbrev spec_l2Near_J2 : Tpl := ⟨[], [], []⟩
abbrev spec_l2Near_E : Ve.End := ⟨[⟨6, .shr, .bool, none⟩], []⟩
abbrev spec_l2Near_a : List ASh := [.val (.prod I (.list (.prod I I))), .val I, .val I]
abbrev spec_l2Near_o : List OSh := []
abbrev spec_l2Near_O0 : Out := .or .ret spec_l2Near_J1 (.one (.ex 0) spec_l2Near_J2)
noncomputable def spec_l2Near_B0 : spec_l2Near_J0.P → Option (spec_l2Near_J0.P ⊕ spec_l2Near_O0.P)
  | ((a, b, g, i, ()), ()) => bif (decide (i < (List.length g.2 : Int))) then (guardB (inb i (List.length g.2)) (bif (((List.getD g.2 (Int.toNat i) ((0 : Int), (0 : Int))).1) == a) then (bif (((List.getD g.2 (Int.toNat i) ((0 : Int), (0 : Int))).2) == b) then (some (.inr (.inl ((true, ()), ())))) else (bif (((List.getD g.2 (Int.toNat i) ((0 : Int), (0 : Int))).1) == b) then (bif (((List.getD g.2 (Int.toNat i) ((0 : Int), (0 : Int))).2) == a) then (some (.inr (.inl ((true, ()), ())))) else (some (.inl ((a, b, g, (w64 (i + (1 : Int))), ()), ())))) else (some (.inl ((a, b, g, (w64 (i + (1 : Int))), ()), ()))))) else (bif (((List.getD g.2 (Int.toNat i) ((0 : Int), (0 : Int))).1) == b) then (bif (((List.getD g.2 (Int.toNat i) ((0 : Int), (0 : Int))).2) == a) then (some (.inr (.inl ((true, ()), ())))) else (some (.inl ((a, b, g, (w64 (i + (1 : Int))), ()), ())))) else (some (.inl ((a, b, g, (w64 (i + (1 : Int))), ()), ())))))) else (some (.inr (.inr ((), ()))))
noncomputable def spec_l2Near : argP spec_l2Near_a → obP (extObs 0 spec_l2Near_o) → Option spec_l2Near_E.P
  | (g, a, b, ()), () => match loopO spec_l2Near_B0 ((a, b, g, (0 : Int), ()), ()) with | some (.inl ((t6, ()), ())) => some ((t6, ()), ()) | some (.inr ((), ())) => some ((false, ()), ()) | none => none
noncomputable def spec_l2Near_x : Cx := ⟨tab, spec_l10Good_e, fun _ _ => 0, fun _ => false, [], [(3, 0), (8, 0)]⟩
noncomputable def c108 : Code := bodyOf Try.f108
noncomputable def spec_l2Near_A : Ann := .seq .nil (.seq (.seq .nil (.loop spec_l2Near_J0 spec_l2Near_O0 spec_l2Near_B0 .nil)) .nil)
theorem spec_l2Near_r0 (p : spec_l2Near_J0.P) : run spec_l2Near_x (subc [1, 0, 1, 0, 0] c108) .nil (spec_l2Near_J0.S p) (leaf spec_l2Near_J0 spec_l2Near_O0) = spec_l2Near_B0 p := by kernel_rfl
noncomputable def spec_l2Near_D : Ve.Fn := ⟨108, spec_l2Near_a, spec_l2Near_o, spec_l2Near_E, spec_l2Near⟩
theorem spec_l2Near_w : Walk Try.prog spec_l2Near_x spec_l2Near_D Try.f108 c108 43 spec_l2Near_A :=
  ⟨⟨Try.func108, by kernel_rfl, by kernel_rfl, by kernel_rfl, by decide, by kernel_rfl, Nat.le_of_ble_eq_true (by kernel_rfl)⟩, by kernel_rfl, by kernel_rfl, by kernel_rfl, kcast (by kernel_rfl) (⟨spec_l2Near_r0, trivial⟩ : (∀ p, run spec_l2Near_x (subc [1, 0, 1, 0, 0] c108) .nil (spec_l2Near_J0.S p) (leaf spec_l2Near_J0 spec_l2Near_O0) = spec_l2Near_B0 p) ∧ True), by kernel_rfl, fun x y => by kernel_rfl⟩
theorem spec_l2Near_s : spec_l2Near_D.Says Try.prog := spec_l2Near_w.says follows tabOk spec_l10Good_e_ok
noncomputable def spec_l2Near_e : Env := more spec_l10Good_e spec_l2Near_D
theorem spec_l2Near_e_ok : EnvOk Try.prog spec_l2Near_e := more_ok spec_l10Good_e_ok spec_l2Near_s
/-! loop.example/g01128/spec.l10Fits -/
abbrev spec_l10Fits_E : Ve.End := ⟨[⟨8, .shr, .bool, none⟩], []⟩
abbrev spec_l10Fits_a : List ASh := [.val (.prod I (.list (.prod I I))), .val I, .val I, .val .bool]
abbrev spec_l10Fits_o : List OSh := []
noncomputable def spec_l10Fits : argP spec_l10Fits_a → obP (extObs 0 spec_l10Fits_o) → Option spec_l10Fits_E.P
  | (h, a, b, lazy, ()), () => match spec_l2Near (h, a, b, ()) () with | some ((r, ()), ()) => (bif r then (some ((true, ()), ())) else (bif lazy then (some (((a == b), ()), ())) else (some ((false, ()), ())))) | none => none
noncomputable def spec_l10Fits_x : Cx := ⟨tab, spec_l2Near_e, fun _ _ => 0, fun _ => false, [(12, 0), (12, 1), (12, 2), (12, 3)], [(4, 0)]⟩
noncomputable def c101 : Code := bodyOf Try.f101
noncomputable def spec_l10Fits_A : Ann := .nil
noncomputable def spec_l10Fits_D : Ve.Fn := ⟨101, spec_l10Fits_a, spec_l10Fits_o, spec_l10Fits_E, spec_l10Fits⟩
theorem spec_l10Fits_w : Walk Try.prog spec_l10Fits_x spec_l10Fits_D Try.f101 c101 21 spec_l10Fits_A :=
  ⟨⟨Try.func101, by kernel_rfl, by kernel_rfl, by kernel_rfl, by decide, by kernel_rfl, Nat.le_of_ble_eq_true (by kernel_rfl)⟩, by kernel_rfl, by kernel_rfl, by kernel_rfl, kcast (by kernel_rfl) trivial, by kernel_rfl, fun x y => by kernel_rfl⟩
theorem spec_l10Fits_s : spec_l10Fits_D.Says Try.prog := spec_l10Fits_w.says follows tabOk spec_l2Near_e_ok
noncomputable def spec_l10Fits_e : Env := more spec_l2Near_e spec_l10Fits_D
theorem spec_l10Fits_e_ok : EnvOk Try.prog spec_l10Fits_e := more_ok spec_l2Near_e_ok spec_l10Fits_s
/-! loop.example/g01128/spec.l1Own -/
abbrev spec_l1Own_E : Ve.End := ⟨[⟨2, (.own .shr), (.list I), none⟩], []⟩
abbrev spec_l1Own_a : List ASh := [.val (.list I)]
abbrev spec_l1Own_o : List OSh := []
noncomputable def spec_l1Own : argP spec_l1Own_a → obP (extObs 0 spec_l1Own_o) → Option spec_l1Own_E.P
  | (l, ()), () => guardB (decide ((List.length ([] : (List Int)) + List.length l) * 8 ≤ 70368744177664)) (some (((([] : (List Int)) ++ l), ()), ()))
noncomputable def spec_l1Own_x : Cx := ⟨tab, spec_l10Fits_e, fun _ _ => 0, fun _ => false, [], []⟩
noncomputable def c109 : Code := bodyOf Try.f109
noncomputable def spec_l1Own_A : Ann := .nil
noncomputable def spec_l1Own_D : Ve.Fn := ⟨109, spec_l1Own_a, spec_l1Own_o, spec_l1Own_E, spec_l1Own⟩
theorem spec_l1Own_w : Walk Try.prog spec_l1Own_x spec_l1Own_D Try.f109 c109 6 spec_l1Own_A :=
  ⟨⟨Try.func109, by kernel_rfl, by kernel_rfl, by kernel_rfl, by decide, by kernel_rfl, Nat.le_of_ble_eq_true (by kernel_rfl)⟩, by kernel_rfl, by kernel_rfl, by kernel_rfl, kcast (by kernel_rfl) trivial, by kernel_rfl, fun x y => by kernel_rfl⟩
theorem spec_l1Own_s : spec_l1Own_D.Says Try.prog := spec_l1Own_w.says follows tabOk spec_l10Fits_e_ok
noncomputable def spec_l1Own_e : Env := more spec_l10Fits_e spec_l1Own_D
theorem spec_l1Own_e_ok : EnvOk Try.prog spec_l1Own_e := more_ok spec_l10Fits_e_ok spec_l1Own_s
/-! loop.example/g01128/spec.l10All -/
abbrev spec_l10All_J0 : Tpl := ⟨[(2, .val .bool), (3, .val (.list I)), (4, .val I), (5, .cst (.prod I (.list (.prod I I)))), (6, .cst (.prod I (.list (.prod I I)))), (11, .val I), (12, .own (.own .shr) (.list I)), (13, .val I), (14, .val .bool), (15, .val I)], [], []⟩
abbrev spec_l10All_J1 : Tpl := ⟨[(2, .val .bool), (3, .val (.list I)), (4, .val I), (5, .cst (.prod I (.list (.prod I I)))), (6, .cst (.prod I (.list (.prod I I)))), (11, .val I), (12, .own (.own .shr) (.list I)), (13, .val I), (14, .val .bool)], [], []⟩
abbrev spec_l10All_J2 : Tpl := ⟨[(2, .val .bool), (3, .val (.list I)), (4, .val I), (5, .cst (.prod I (.list (.prod I I)))), (6, .cst (.prod I (.list (.prod I I)))), (11, .val I), (12, .own .shr (.list I)), (13, .val I), (14, .val .bool), (15, .val I)], [], []⟩
abbrev spec_l10All_J3 : Tpl := ⟨[(2, .val .bool), (3, .val (.list I)), (4, .val I), (5, .cst (.prod I (.list (.prod I I)))), (6, .cst (.prod I (.list (.prod I I)))), (11, .val I), (12, .own .shr (.list I)), (13, .val I), (14, .val .bool)], [], []⟩
abbrev spec_l10All_J4 : Tpl := ⟨[(2, .val .bool), (3, .val (.list I)), (4, .val I), (5, .cst (.prod I (.list (.prod I I)))), (6, .cst (.prod I (.list (.prod I I)))), (11, .val I), (12, .own .shr (.list I)), (13, .val I)], [], []⟩
abbrev spec_l10All_J5 : Tpl := ⟨[(12, .own .shr (.list I))], [], []⟩
abbrev spec_l10All_J6 : Tpl := ⟨[(2, .val .bool), (3, .val (.list I)), (4, .val I), (5, .cst (.prod I (.list (.prod I I)))), (6, .cst (.prod I (.list (.prod I I)))), (11, .val I), (12, .own .shr (.list I)), (13, .val I), (61, .same (12, 0) []), (62, .val (.prod I (.list (.prod I I)))), (63, .val (.prod I (.list (.prod I I)))), (64, .val .bool), (65, .val (.list I)), (67, .val I), (73, .val I)], [], []⟩
abbrev spec_l10All_E : Ve.End := ⟨[⟨10, (.own .shr), (.list (.list I)), none⟩], []⟩
abbrev spec_l10All_a : List ASh := [.val (.prod I (.list (.prod I I))), .val (.prod I (.list (.prod I I))), .val .bool, .val (.list I), .val I]
abbrev spec_l10All_o : List OSh := []
noncomputable def spec_l10All_D0 (rc : argP spec_l10All_a → obP (extObs 0 spec_l10All_o) → Option spec_l10All_E.P) : spec_l10All_J6.P → Option spec_l10All_J4.P
  | ((t2, t3, t4, t5, t6, t11, t12, t13, t62, t63, t64, t65, t67, t73, ()), ()) => match spec_l1Own (t65, ()) () with | some ((r, ()), ()) => guardB (decide ((List.length r + List.length [t67]) * 8 ≤ 70368744177664)) (match rc (t62, t63, t64, (r ++ [t67]), t73, ()) () with | some ((r2, ()), ()) => guardB (decide ((List.length t12 + List.length r2) * 24 ≤ 70368744177664)) (some ((t2, t3, t4, t5, t6, t11, (t12 ++ r2), t13, ()), ())) | none => none) | none => none
noncomputable def spec_l10All_T0 (rc : argP spec_l10All_a → obP (extObs 0 spec_l10All_o) → Option spec_l10All_E.P) : DT spec_l10All_J4 := .node spec_l10All_J6 (spec_l10All_D0 rc) (.br [(5, .sole), (7, .sole), (8, .sole), (13, .sole), (14, .sole), (15, .flo)] .fin (.br [(7, .sole), (5, .sole), (8, .sole), (13, .sole), (14, .sole), (15, .flo)] .fin .nobr))
abbrev spec_l10All_O0 : Out := .one (.ex 2) spec_l10All_J3
noncomputable def spec_l10All_B0 (rc : argP spec_l10All_a → obP (extObs 0 spec_l10All_o) → Option spec_l10All_E.P) : spec_l10All_J2.P → Option (spec_l10All_J2.P ⊕ spec_l10All_O0.P)
  | ((t2, t3, t4, t5, t6, t11, t12, t13, t14, t15, ()), ()) => bif (decide (t15 < t11)) then (bif t14 then (match spec_l2Near (t5, t15, t11, ()) () with | some ((r, ()), ()) => (bif (!r) then (some (.inl ((t2, t3, t4, t5, t6, t11, t12, t13, true, (w64 (t15 + (1 : Int))), ()), ()))) else (guardB (inb t15 (List.length t3)) (match spec_l10Fits (t6, (List.getD t3 (Int.toNat t15) (0 : Int)), t13, t2, ()) () with | some ((r2, ()), ()) => some (.inl ((t2, t3, t4, t5, t6, t11, t12, t13, r2, (w64 (t15 + (1 : Int))), ()), ())) | none => none))) | none => none) else (some (.inr ((t2, t3, t4, t5, t6, t11, t12, t13, t14, ()), ())))) else (some (.inr ((t2, t3, t4, t5, t6, t11, t12, t13, t14, ()), ())))
abbrev spec_l10All_O1 : Out := .one (.ex 0) spec_l10All_J5
noncomputable def spec_l10All_B1 (rc : argP spec_l10All_a → obP (extObs 0 spec_l10All_o) → Option spec_l10All_E.P) : spec_l10All_J4.P → Option (spec_l10All_J4.P ⊕ spec_l10All_O1.P)
  | ((t2, t3, t4, t5, t6, t11, t12, t13, ()), ()) => bif (decide (t13 < t6.1)) then (bif (decide ((List.length t12 : Int) ≤ t4)) then (match loopO (spec_l10All_B0 rc) ((t2, t3, t4, t5, t6, t11, t12, t13, true, (0 : Int), ()), ()) with | some ((t2_2, t3_2, t4_2, t5_2, t6_2, t11_2, t12_2, t13_2, t14, ()), ()) => (bif t14 then (match (spec_l10All_D0 rc) ((t2_2, t3_2, t4_2, t5_2, t6_2, t11_2, t12_2, t13_2, t5_2, t6_2, t2_2, t3_2, t13_2, (w64 (t4_2 - (List.length t12_2 : Int))), ()), ()) with | some ((t2_3, t3_3, t4_3, t5_3, t6_3, t11_3, t12_3, t13_3, ()), ()) => some (.inl ((t2_3, t3_3, t4_3, t5_3, t6_3, t11_3, t12_3, (w64 (t13_3 + (1 : Int))), ()), ())) | none => none) else (some (.inl ((t2_2, t3_2, t4_2, t5_2, t6_2, t11_2, t12_2, (w64 (t13_2 + (1 : Int))), ()), ())))) | none => none) else (some (.inr ((t12, ()), ())))) else (some (.inr ((t12, ()), ())))
noncomputable def spec_l10All_F (rc : argP spec_l10All_a → obP (extObs 0 spec_l10All_o) → Option spec_l10All_E.P) : argP spec_l10All_a → obP (extObs 0 spec_l10All_o) → Option spec_l10All_E.P
  | (t0, t1, t2, t3, t4, ()), () => bif ((List.length t3 : Int) == t0.1) then (some (([t3], ()), ())) else (match loopO (spec_l10All_B1 rc) ((t2, t3, t4, t0, t1, (List.length t3 : Int), ([] : (List (List Int))), (0 : Int), ()), ()) with | some ((t12, ()), ()) => some ((t12, ()), ()) | none => none)
noncomputable def spec_l10All : argP spec_l10All_a → obP (extObs 0 spec_l10All_o) → Option spec_l10All_E.P := fuelF spec_l10All_F 1000
noncomputable def spec_l10All_x (rc : argP spec_l10All_a → obP (extObs 0 spec_l10All_o) → Option spec_l10All_E.P) : Cx := ⟨tab, more spec_l1Own_e ⟨70, spec_l10All_a, spec_l10All_o, spec_l10All_E, rc⟩, fun _ _ => 0, fun _ => false, [(24, 0), (48, 0), (48, 1), (48, 2), (48, 3), (58, 0), (58, 1), (58, 2), (58, 3), (68, 0)], [(5, 0), (6, 0)]⟩
noncomputable def c70 : Code := bodyOf Try.f70
noncomputable def spec_l10All_A (rc : argP spec_l10All_a → obP (extObs 0 spec_l10All_o) → Option spec_l10All_E.P) : Ann := .seq .nil (.seq .nil (.seq .nil (.seq (.seq .nil (.loop spec_l10All_J4 spec_l10All_O1 (spec_l10All_B1 rc) (.seq .nil (.seq (.seq .nil (.seq (.seq .nil (.loop spec_l10All_J2 spec_l10All_O0 (spec_l10All_B0 rc) (.seq .nil (.seq (.draw [(0, .flo), (1, .flo), (2, .flo), (3, .sole), (4, .flo), (5, .flo), (6, .flo), (7, .flo), (8, .flo), (9, .flo), (11, .flo), (12, .flo), (10, .qui), (13, .sole), (14, .flo), (15, .flo)]) .nil)))) (.seq .nil (.seq (.draws [(0, .flo), (1, .flo), (2, .flo), (3, .flo), (4, .flo), (6, .flo), (9, .flo), (10, .flo), (11, .flo), (12, .flo)] spec_l10All_J4 (spec_l10All_T0 rc)) .nil)))) .nil)))) .nil)))
theorem spec_l10All_r0 (rc : argP spec_l10All_a → obP (extObs 0 spec_l10All_o) → Option spec_l10All_E.P) (p : spec_l10All_J4.P) : run (spec_l10All_x rc) (subc [1, 1, 1, 0, 1, 0, 0] c70) (.seq .nil (.seq (.seq .nil (.seq (.seq .nil (.loop spec_l10All_J2 spec_l10All_O0 (spec_l10All_B0 rc) (.seq .nil (.seq (.draw [(0, .flo), (1, .flo), (2, .flo), (3, .sole), (4, .flo), (5, .flo), (6, .flo), (7, .flo), (8, .flo), (9, .flo), (11, .flo), (12, .flo), (10, .qui), (13, .sole), (14, .flo), (15, .flo)]) .nil)))) (.seq .nil (.seq (.draws [(0, .flo), (1, .flo), (2, .flo), (3, .flo), (4, .flo), (6, .flo), (9, .flo), (10, .flo), (11, .flo), (12, .flo)] spec_l10All_J4 (spec_l10All_T0 rc)) .nil)))) .nil)) (spec_l10All_J4.S p) (leaf spec_l10All_J4 spec_l10All_O1) = (spec_l10All_B1 rc) p := by kernel_rfl
theorem spec_l10All_r1 (rc : argP spec_l10All_a → obP (extObs 0 spec_l10All_o) → Option spec_l10All_E.P) (p : spec_l10All_J2.P) : run (spec_l10All_x rc) (subc [1, 1, 1, 0, 1, 0, 0, 1, 0, 0, 1, 0, 1, 0, 0] c70) (.seq .nil (.seq (.draw [(0, .flo), (1, .flo), (2, .flo), (3, .sole), (4, .flo), (5, .flo), (6, .flo), (7, .flo), (8, .flo), (9, .flo), (11, .flo), (12, .flo), (10, .qui), (13, .sole), (14, .flo), (15, .flo)]) .nil)) (spec_l10All_J2.S p) (leaf spec_l10All_J2 spec_l10All_O0) = (spec_l10All_B0 rc) p := by kernel_rfl
theorem spec_l10All_D0b0 (rc : argP spec_l10All_a → obP (extObs 0 spec_l10All_o) → Option spec_l10All_E.P) (p : spec_l10All_J6.P) : runDrawn (spec_l10All_x rc) (opsOf (subc [1, 1, 1, 0, 1, 0, 0, 1, 0, 0, 1, 1, 1, 0] c70)) [(5, .sole), (7, .sole), (8, .sole), (13, .sole), (14, .sole), (15, .flo)] (spec_l10All_J6.S p) (endT (spec_l10All_x rc) (.fin : DT spec_l10All_J4)) = (spec_l10All_D0 rc) p := by kernel_rfl
theorem spec_l10All_D0b1 (rc : argP spec_l10All_a → obP (extObs 0 spec_l10All_o) → Option spec_l10All_E.P) (p : spec_l10All_J6.P) : runDrawn (spec_l10All_x rc) (opsOf (subc [1, 1, 1, 0, 1, 0, 0, 1, 0, 0, 1, 1, 1, 0] c70)) [(7, .sole), (5, .sole), (8, .sole), (13, .sole), (14, .sole), (15, .flo)] (spec_l10All_J6.S p) (endT (spec_l10All_x rc) (.fin : DT spec_l10All_J4)) = (spec_l10All_D0 rc) p := by kernel_rfl
noncomputable def spec_l10All_D : Ve.Fn := ⟨70, spec_l10All_a, spec_l10All_o, spec_l10All_E, spec_l10All⟩
theorem spec_l10All_w (rc : argP spec_l10All_a → obP (extObs 0 spec_l10All_o) → Option spec_l10All_E.P) : Walk Try.prog (spec_l10All_x rc) ⟨70, spec_l10All_a, spec_l10All_o, spec_l10All_E, spec_l10All_F rc⟩ Try.f70 c70 77 (spec_l10All_A rc) :=
  ⟨⟨Try.func70, by kernel_rfl, by kernel_rfl, by kernel_rfl, by decide, by kernel_rfl, Nat.le_of_ble_eq_true (by kernel_rfl)⟩, by kernel_rfl, by kernel_rfl, by kernel_rfl, kcast (by kernel_rfl) (⟨(spec_l10All_r0 rc), (spec_l10All_r1 rc), (spec_l10All_D0b0 rc), (spec_l10All_D0b1 rc), trivial⟩ : (∀ p, run (spec_l10All_x rc) (subc [1, 1, 1, 0, 1, 0, 0] c70) (.seq .nil (.seq (.seq .nil (.seq (.seq .nil (.loop spec_l10All_J2 spec_l10All_O0 (spec_l10All_B0 rc) (.seq .nil (.seq (.draw [(0, .flo), (1, .flo), (2, .flo), (3, .sole), (4, .flo), (5, .flo), (6, .flo), (7, .flo), (8, .flo), (9, .flo), (11, .flo), (12, .flo), (10, .qui), (13, .sole), (14, .flo), (15, .flo)]) .nil)))) (.seq .nil (.seq (.draws [(0, .flo), (1, .flo), (2, .flo), (3, .flo), (4, .flo), (6, .flo), (9, .flo), (10, .flo), (11, .flo), (12, .flo)] spec_l10All_J4 (spec_l10All_T0 rc)) .nil)))) .nil)) (spec_l10All_J4.S p) (leaf spec_l10All_J4 spec_l10All_O1) = (spec_l10All_B1 rc) p) ∧ (∀ p, run (spec_l10All_x rc) (subc [1, 1, 1, 0, 1, 0, 0, 1, 0, 0, 1, 0, 1, 0, 0] c70) (.seq .nil (.seq (.draw [(0, .flo), (1, .flo), (2, .flo), (3, .sole), (4, .flo), (5, .flo), (6, .flo), (7, .flo), (8, .flo), (9, .flo), (11, .flo), (12, .flo), (10, .qui), (13, .sole), (14, .flo), (15, .flo)]) .nil)) (spec_l10All_J2.S p) (leaf spec_l10All_J2 spec_l10All_O0) = (spec_l10All_B0 rc) p) ∧ (∀ p, runDrawn (spec_l10All_x rc) (opsOf (subc [1, 1, 1, 0, 1, 0, 0, 1, 0, 0, 1, 1, 1, 0] c70)) [(5, .sole), (7, .sole), (8, .sole), (13, .sole), (14, .sole), (15, .flo)] (spec_l10All_J6.S p) (endT (spec_l10All_x rc) (.fin : DT spec_l10All_J4)) = (spec_l10All_D0 rc) p) ∧ (∀ p, runDrawn (spec_l10All_x rc) (opsOf (subc [1, 1, 1, 0, 1, 0, 0, 1, 0, 0, 1, 1, 1, 0] c70)) [(7, .sole), (5, .sole), (8, .sole), (13, .sole), (14, .sole), (15, .flo)] (spec_l10All_J6.S p) (endT (spec_l10All_x rc) (.fin : DT spec_l10All_J4)) = (spec_l10All_D0 rc) p) ∧ True), by kernel_rfl, fun x y => by kernel_rfl⟩
theorem spec_l10All_s : spec_l10All_D.Says Try.prog := fuel_says (fun rc h => (spec_l10All_w rc).says follows tabOk (more_ok spec_l1Own_e_ok h)) 1000
noncomputable def spec_l10All_e : Env := more spec_l1Own_e spec_l10All_D
theorem spec_l10All_e_ok : EnvOk Try.prog spec_l10All_e := more_ok spec_l1Own_e_ok spec_l10All_s
/-! loop.example/g01128/spec.FirstMap -/
abbrev spec_FirstMap_E : Ve.End := ⟨[⟨6, .shr, (.list I), none⟩, ⟨7, .shr, .bool, none⟩], []⟩
abbrev spec_FirstMap_a : List ASh := [.val (.prod I (.list (.prod I I))), .val (.prod I (.list (.prod I I))), .val .bool]
abbrev spec_FirstMap_o : List OSh := []
noncomputable def spec_FirstMap : argP spec_FirstMap_a → obP (extObs 0 spec_FirstMap_o) → Option spec_FirstMap_E.P
  | (g, h, lazy, ()), () => match spec_l10Good (g, h, ()) () with | some ((r, ()), ()) => (bif (!r) then (some ((([] : (List Int)), false, ()), ())) else (match spec_l10All (g, h, lazy, ([] : (List Int)), (0 : Int), ()) () with | some ((r2, ()), ()) => (bif ((List.length r2 : Int) == (0 : Int)) then (some ((([] : (List Int)), false, ()), ())) else (guardB (inb (0 : Int) (List.length r2)) (some (((List.getD r2 0 ([] : (List Int))), true, ()), ())))) | none => none)) | none => none
noncomputable def spec_FirstMap_x : Cx := ⟨tab, spec_l10All_e, fun _ _ => 0, fun _ => false, [(11, 0), (11, 1), (11, 2), (11, 3), (13, 0), (17, 0), (18, 0), (18, 1), (18, 2), (18, 3), (8, 0), (22, 0)], [(3, 0), (4, 0)]⟩
noncomputable def c36 : Code := bodyOf Try.f36
noncomputable def spec_FirstMap_A : Ann := .nil
noncomputable def spec_FirstMap_D : Ve.Fn := ⟨36, spec_FirstMap_a, spec_FirstMap_o, spec_FirstMap_E, spec_FirstMap⟩
theorem spec_FirstMap_w : Walk Try.prog spec_FirstMap_x spec_FirstMap_D Try.f36 c36 26 spec_FirstMap_A :=
  ⟨⟨Try.func36, by kernel_rfl, by kernel_rfl, by kernel_rfl, by decide, by kernel_rfl, Nat.le_of_ble_eq_true (by kernel_rfl)⟩, by kernel_rfl, by kernel_rfl, by kernel_rfl, kcast (by kernel_rfl) trivial, by kernel_rfl, fun x y => by kernel_rfl⟩
theorem spec_FirstMap_s : spec_FirstMap_D.Says Try.prog := spec_FirstMap_w.says follows tabOk spec_l10All_e_ok
noncomputable def spec_FirstMap_e : Env := more spec_l10All_e spec_FirstMap_D
theorem spec_FirstMap_e_ok : EnvOk Try.prog spec_FirstMap_e := more_ok spec_l10All_e_ok spec_FirstMap_s
/-! loop.example/g01128/impl.between -/
abbrev impl_between_E : Ve.End := ⟨[⟨6, .shr, .bool, none⟩], []⟩
abbrev impl_between_a : List ASh := [.val I, .val I, .val I]
abbrev impl_between_o : List OSh := []
noncomputable def impl_between : argP impl_between_a → obP (extObs 0 impl_between_o) → Option impl_between_E.P
  | (n, low, high, ()), () => bif (decide (low ≤ n)) then (some (((decide (n ≤ high)), ()), ())) else (some ((false, ()), ()))
noncomputable def impl_between_x : Cx := ⟨tab, spec_FirstMap_e, fun _ _ => 0, fun _ => false, [], []⟩
noncomputable def c92 : Code := bodyOf Try.f92
noncomputable def impl_between_A : Ann := .nil
noncomputable def impl_between_D : Ve.Fn := ⟨92, impl_between_a, impl_between_o, impl_between_E, impl_between⟩
theorem impl_between_w : Walk Try.prog impl_between_x impl_between_D Try.f92 c92 15 impl_between_A :=
  ⟨⟨Try.func92, by kernel_rfl, by kernel_rfl, by kernel_rfl, by decide, by kernel_rfl, Nat.le_of_ble_eq_true (by kernel_rfl)⟩, by kernel_rfl, by kernel_rfl, by kernel_rfl, kcast (by kernel_rfl) trivial, by kernel_rfl, fun x y => by kernel_rfl⟩
theorem impl_between_s : impl_between_D.Says Try.prog := impl_between_w.says follows tabOk spec_FirstMap_e_ok
noncomputable def impl_between_e : Env := more spec_FirstMap_e impl_between_D
theorem impl_between_e_ok : EnvOk Try.prog impl_between_e := more_ok spec_FirstMap_e_ok impl_between_s
/-! cmp.isNaN[int] -/
abbrev cmp_isNaN_int_E : Ve.End := ⟨[⟨2, .shr, .bool, none⟩], []⟩
abbrev cmp_isNaN_int_a : List ASh := [.val I]
abbrev cmp_isNaN_int_o : List OSh := []
noncomputable def cmp_isNaN_int : argP cmp_isNaN_int_a → obP (extObs 0 cmp_isNaN_int_o) → Option cmp_isNaN_int_E.P
  | (x, ()), () => some (((x != x), ()), ())
noncomputable def cmp_isNaN_int_x : Cx := ⟨tab, impl_between_e, fun _ _ => 0, fun _ => false, [], []⟩
noncomputable def c163 : Code := bodyOf Try.f163
noncomputable def cmp_isNaN_int_A : Ann := .nil
noncomputable def cmp_isNaN_int_D : Ve.Fn := ⟨163, cmp_isNaN_int_a, cmp_isNaN_int_o, cmp_isNaN_int_E, cmp_isNaN_int⟩
theorem cmp_isNaN_int_w : Walk Try.prog cmp_isNaN_int_x cmp_isNaN_int_D Try.f163 c163 6 cmp_isNaN_int_A :=
  ⟨⟨Try.func163, by kernel_rfl, by kernel_rfl, by kernel_rfl, by decide, by kernel_rfl, Nat.le_of_ble_eq_true (by kernel_rfl)⟩, by kernel_rfl, by kernel_rfl, by kernel_rfl, kcast (by kernel_rfl) trivial, by kernel_rfl, fun x y => by kernel_rfl⟩
theorem cmp_isNaN_int_s : cmp_isNaN_int_D.Says Try.prog := cmp_isNaN_int_w.says follows tabOk impl_between_e_ok
noncomputable def cmp_isNaN_int_e : Env := more impl_between_e cmp_isNaN_int_D
theorem cmp_isNaN_int_e_ok : EnvOk Try.prog cmp_isNaN_int_e := more_ok impl_between_e_ok cmp_isNaN_int_s
/-! cmp.Compare[int] -/
abbrev cmp_Compare_int_E : Ve.End := ⟨[⟨4, .shr, I, none⟩], []⟩
abbrev cmp_Compare_int_a : List ASh := [.val I, .val I]
abbrev cmp_Compare_int_o : List OSh := []
noncomputable def cmp_Compare_int : argP cmp_Compare_int_a → obP (extObs 0 cmp_Compare_int_o) → Option cmp_Compare_int_E.P
  | (x, y, ()), () => match cmp_isNaN_int (x, ()) () with | some ((r, ()), ()) => (match cmp_isNaN_int (y, ()) () with | some ((r2, ()), ()) => (bif r then (bif r2 then (some (((0 : Int), ()), ())) else (some (((-1 : Int), ()), ()))) else (bif r2 then (some (((1 : Int), ()), ())) else (bif (decide (x < y)) then (some (((-1 : Int), ()), ())) else (bif (decide (y < x)) then (some (((1 : Int), ()), ())) else (some (((0 : Int), ()), ())))))) | none => none) | none => none
noncomputable def cmp_Compare_int_x : Cx := ⟨tab, cmp_isNaN_int_e, fun _ _ => 0, fun _ => false, [(8, 0), (8, 1), (8, 2), (8, 3), (10, 0), (10, 1), (10, 2), (10, 3)], []⟩
noncomputable def c160 : Code := bodyOf Try.f160
noncomputable def cmp_Compare_int_A : Ann := .nil
noncomputable def cmp_Compare_int_D : Ve.Fn := ⟨160, cmp_Compare_int_a, cmp_Compare_int_o, cmp_Compare_int_E, cmp_Compare_int⟩
theorem cmp_Compare_int_w : Walk Try.prog cmp_Compare_int_x cmp_Compare_int_D Try.f160 c160 20 cmp_Compare_int_A :=
  ⟨⟨Try.func160, by kernel_rfl, by kernel_rfl, by kernel_rfl, by decide, by kernel_rfl, Nat.le_of_ble_eq_true (by kernel_rfl)⟩, by kernel_rfl, by kernel_rfl, by kernel_rfl, kcast (by kernel_rfl) trivial, by kernel_rfl, fun x y => by kernel_rfl⟩
theorem cmp_Compare_int_s : cmp_Compare_int_D.Says Try.prog := cmp_Compare_int_w.says follows tabOk cmp_isNaN_int_e_ok
noncomputable def cmp_Compare_int_e : Env := more cmp_isNaN_int_e cmp_Compare_int_D
theorem cmp_Compare_int_e_ok : EnvOk Try.prog cmp_Compare_int_e := more_ok cmp_isNaN_int_e_ok cmp_Compare_int_s
/-! cmp.Or[int] -/
abbrev cmp_Or_int_J0 : Tpl := ⟨[(3, .val I), (6, .val (.list I)), (7, .val I), (8, .val I)], [], []⟩
abbrev cmp_Or_int_J1 : Tpl := ⟨[(2, .val I)], [], []⟩
abbrev cmp_Or_int_J2 : Tpl := ⟨[(3, .val I)], [], []⟩
abbrev cmp_Or_int_E : Ve.End := ⟨[⟨2, .shr, I, none⟩], []⟩
abbrev cmp_Or_int_a : List ASh := [.val (.list I)]
abbrev cmp_Or_int_o : List OSh := []
abbrev cmp_Or_int_O0 : Out := .or .ret cmp_Or_int_J1 (.one (.ex 0) cmp_Or_int_J2)
noncomputable def cmp_Or_int_B0 : cmp_Or_int_J0.P → Option (cmp_Or_int_J0.P ⊕ cmp_Or_int_O0.P)
  | ((zero_, t6, t7, t8, ()), ()) => bif (decide (t8 < t7)) then (guardB (inb t8 (List.length t6)) (bif ((List.getD t6 (Int.toNat t8) (0 : Int)) != zero_) then (some (.inr (.inl (((List.getD t6 (Int.toNat t8) (0 : Int)), ()), ())))) else (some (.inl ((zero_, t6, t7, (w64 (t8 + (1 : Int))), ()), ()))))) else (some (.inr (.inr ((zero_, ()), ()))))
noncomputable def cmp_Or_int : argP cmp_Or_int_a → obP (extObs 0 cmp_Or_int_o) → Option cmp_Or_int_E.P
  | (vals, ()), () => match loopO cmp_Or_int_B0 (((0 : Int), vals, (List.length vals : Int), (0 : Int), ()), ()) with | some (.inl ((t2, ()), ())) => some ((t2, ()), ()) | some (.inr ((zero_, ()), ())) => some ((zero_, ()), ()) | none => none
noncomputable def cmp_Or_int_x : Cx := ⟨tab, cmp_Compare_int_e, fun _ _ => 0, fun _ => false, [], []⟩
noncomputable def c159 : Code := bodyOf Try.f159
noncomputable def cmp_Or_int_A : Ann := .seq .nil (.seq .nil (.seq (.seq .nil (.loop cmp_Or_int_J0 cmp_Or_int_O0 cmp_Or_int_B0 .nil)) .nil))
theorem cmp_Or_int_r0 (p : cmp_Or_int_J0.P) : run cmp_Or_int_x (subc [1, 1, 0, 1, 0, 0] c159) .nil (cmp_Or_int_J0.S p) (leaf cmp_Or_int_J0 cmp_Or_int_O0) = cmp_Or_int_B0 p := by kernel_rfl
noncomputable def cmp_Or_int_D : Ve.Fn := ⟨159, cmp_Or_int_a, cmp_Or_int_o, cmp_Or_int_E, cmp_Or_int⟩
theorem cmp_Or_int_w : Walk Try.prog cmp_Or_int_x cmp_Or_int_D Try.f159 c159 18 cmp_Or_int_A :=
  ⟨⟨Try.func159, by kernel_rfl, by kernel_rfl, by kernel_rfl, by decide, by kernel_rfl, Nat.le_of_ble_eq_true (by kernel_rfl)⟩, by kernel_rfl, by kernel_rfl, by kernel_rfl, kcast (by kernel_rfl) (⟨cmp_Or_int_r0, trivial⟩ : (∀ p, run cmp_Or_int_x (subc [1, 1, 0, 1, 0, 0] c159) .nil (cmp_Or_int_J0.S p) (leaf cmp_Or_int_J0 cmp_Or_int_O0) = cmp_Or_int_B0 p) ∧ True), by kernel_rfl, fun x y => by kernel_rfl⟩
theorem cmp_Or_int_s : cmp_Or_int_D.Says Try.prog := cmp_Or_int_w.says follows tabOk cmp_Compare_int_e_ok
noncomputable def cmp_Or_int_e : Env := more cmp_Compare_int_e cmp_Or_int_D
theorem cmp_Or_int_e_ok : EnvOk Try.prog cmp_Or_int_e := more_ok cmp_Compare_int_e_ok cmp_Or_int_s
/-! loop.example/g01128/impl.comparePairs -/
abbrev impl_comparePairs_E : Ve.End := ⟨[⟨4, .shr, I, none⟩], []⟩
abbrev impl_comparePairs_a : List ASh := [.val (.prod I I), .val (.prod I I)]
abbrev impl_comparePairs_o : List OSh := []
noncomputable def impl_comparePairs : argP impl_comparePairs_a → obP (extObs 0 impl_comparePairs_o) → Option impl_comparePairs_E.P
  | (a, b, ()), () => match cmp_Compare_int (a.1, b.1, ()) () with | some ((r, ()), ()) => (match cmp_Compare_int (a.2, b.2, ()) () with | some ((r2, ()), ()) => (match cmp_Or_int ([r, r2], ()) () with | some ((r3, ()), ()) => some ((r3, ()), ()) | none => none) | none => none) | none => none
noncomputable def impl_comparePairs_x : Cx := ⟨tab, cmp_Or_int_e, fun _ _ => 0, fun _ => false, [(9, 0), (9, 1), (9, 2), (9, 3), (14, 0), (14, 1), (14, 2), (14, 3), (15, 0), (16, 0), (16, 1), (16, 2), (16, 3)], [(2, 0), (3, 0)]⟩
noncomputable def c137 : Code := bodyOf Try.f137
noncomputable def impl_comparePairs_A : Ann := .seq .nil (.seq (.draw [(0, .flo), (1, .flo), (2, .flo), (3, .flo), (5, .flo), (6, .flo), (7, .flo), (8, .flo), (4, .sole), (9, .sole), (10, .sole), (11, .sole), (12, .flo)]) .nil)
noncomputable def impl_comparePairs_D : Ve.Fn := ⟨137, impl_comparePairs_a, impl_comparePairs_o, impl_comparePairs_E, impl_comparePairs⟩
theorem impl_comparePairs_w : Walk Try.prog impl_comparePairs_x impl_comparePairs_D Try.f137 c137 17 impl_comparePairs_A :=
  ⟨⟨Try.func137, by kernel_rfl, by kernel_rfl, by kernel_rfl, by decide, by kernel_rfl, Nat.le_of_ble_eq_true (by kernel_rfl)⟩, by kernel_rfl, by kernel_rfl, by kernel_rfl, kcast (by kernel_rfl) trivial, by kernel_rfl, fun x y => by kernel_rfl⟩
theorem impl_comparePairs_s : impl_comparePairs_D.Says Try.prog := impl_comparePairs_w.says follows tabOk cmp_Or_int_e_ok
noncomputable def impl_comparePairs_e : Env := more cmp_Or_int_e impl_comparePairs_D
theorem impl_comparePairs_e_ok : EnvOk Try.prog impl_comparePairs_e := more_ok cmp_Or_int_e_ok impl_comparePairs_s
/-! loop.example/g01128/impl.isPairs -/
abbrev impl_isPairs_J0 : Tpl := ⟨[(0, .val (.list (.prod I I))), (1, .val I), (7, .val (.list (.prod I I))), (8, .val I), (9, .val I)], [], []⟩
abbrev impl_isPairs_J1 : Tpl := ⟨[(4, .val .bool)], [], []⟩
abbrev impl_isPairs_J2 : Tpl := ⟨[], [], []⟩
abbrev impl_isPairs_E : Ve.End := ⟨[⟨4, .shr, .bool, none⟩], []⟩
abbrev impl_isPairs_a : List ASh := [.val (.list (.prod I I)), .val I]
abbrev impl_isPairs_o : List OSh := []
abbrev impl_isPairs_O0 : Out := .or .ret impl_isPairs_J1 (.one (.ex 0) impl_isPairs_J2)
noncomputable def impl_isPairs_B0 : impl_isPairs_J0.P → Option (impl_isPairs_J0.P ⊕ impl_isPairs_O0.P)
  | ((list, below, t7, t8, t9, ()), ()) => bif (decide (t9 < t8)) then (guardB (inb t9 (List.length t7)) (bif (decide (((List.getD t7 (Int.toNat t9) ((0 : Int), (0 : Int))).1) < (0 : Int))) then (some (.inr (.inl ((false, ()), ())))) else (bif (decide (((List.getD t7 (Int.toNat t9) ((0 : Int), (0 : Int))).2) ≤ ((List.getD t7 (Int.toNat t9) ((0 : Int), (0 : Int))).1))) then (some (.inr (.inl ((false, ()), ())))) else (bif (decide (below ≤ ((List.getD t7 (Int.toNat t9) ((0 : Int), (0 : Int))).2))) then (some (.inr (.inl ((false, ()), ())))) else (bif (decide ((0 : Int) < t9)) then (guardB (inb (w64 (t9 - (1 : Int))) (List.length list)) (match impl_comparePairs ((List.getD list (Int.toNat (w64 (t9 - (1 : Int)))) ((0 : Int), (0 : Int))), (List.getD t7 (Int.toNat t9) ((0 : Int), (0 : Int))), ()) () with | some ((r, ()), ()) => (bif (decide ((0 : Int) ≤ r)) then (some (.inr (.inl ((false, ()), ())))) else (some (.inl ((list, below, t7, t8, (w64 (t9 + (1 : Int))), ()), ())))) | none => none)) else (some (.inl ((list, below, t7, t8, (w64 (t9 + (1 : Int))), ()), ())))))))) else (some (.inr (.inr ((), ()))))
noncomputable def impl_isPairs : argP impl_isPairs_a → obP (extObs 0 impl_isPairs_o) → Option impl_isPairs_E.P
  | (list, below, ()), () => match loopO impl_isPairs_B0 ((list, below, list, (List.length list : Int), (0 : Int), ()), ()) with | some (.inl ((t4, ()), ())) => some ((t4, ()), ()) | some (.inr ((), ())) => some ((true, ()), ()) | none => none
noncomputable def impl_isPairs_x : Cx := ⟨tab, impl_comparePairs_e, fun _ _ => 0, fun _ => false, [(40, 0), (40, 1), (40, 2), (40, 3)], [(6, 0)]⟩
noncomputable def c117 : Code := bodyOf Try.f117
noncomputable def impl_isPairs_A : Ann := .seq .nil (.seq (.seq .nil (.loop impl_isPairs_J0 impl_isPairs_O0 impl_isPairs_B0 (.seq .nil (.seq .nil (.seq (.seq .nil (.seq (.draw [(0, .flo), (1, .flo), (2, .flo), (3, .flo), (4, .flo), (6, .flo), (5, .qui), (7, .qui), (8, .flo), (9, .flo), (10, .flo), (11, .flo), (13, .flo), (12, .qui), (14, .flo), (15, .flo), (16, .flo), (17, .flo), (18, .flo), (19, .flo), (20, .flo), (21, .flo), (22, .flo), (23, .flo), (24, .qui), (25, .qui), (26, .sole), (27, .flo), (28, .flo), (29, .flo)]) .nil)) .nil))))) .nil)
theorem impl_isPairs_r0 (p : impl_isPairs_J0.P) : run impl_isPairs_x (subc [1, 0, 1, 0, 0] c117) (.seq .nil (.seq .nil (.seq (.seq .nil (.seq (.draw [(0, .flo), (1, .flo), (2, .flo), (3, .flo), (4, .flo), (6, .flo), (5, .qui), (7, .qui), (8, .flo), (9, .flo), (10, .flo), (11, .flo), (13, .flo), (12, .qui), (14, .flo), (15, .flo), (16, .flo), (17, .flo), (18, .flo), (19, .flo), (20, .flo), (21, .flo), (22, .flo), (23, .flo), (24, .qui), (25, .qui), (26, .sole), (27, .flo), (28, .flo), (29, .flo)]) .nil)) .nil))) (impl_isPairs_J0.S p) (leaf impl_isPairs_J0 impl_isPairs_O0) = impl_isPairs_B0 p := by kernel_rfl
noncomputable def impl_isPairs_D : Ve.Fn := ⟨117, impl_isPairs_a, impl_isPairs_o, impl_isPairs_E, impl_isPairs⟩
theorem impl_isPairs_w : Walk Try.prog impl_isPairs_x impl_isPairs_D Try.f117 c117 45 impl_isPairs_A :=
  ⟨⟨Try.func117, by kernel_rfl, by kernel_rfl, by kernel_rfl, by decide, by kernel_rfl, Nat.le_of_ble_eq_true (by kernel_rfl)⟩, by kernel_rfl, by kernel_rfl, by kernel_rfl, kcast (by kernel_rfl) (⟨impl_isPairs_r0, trivial⟩ : (∀ p, run impl_isPairs_x (subc [1, 0, 1, 0, 0] c117) (.seq .nil (.seq .nil (.seq (.seq .nil (.seq (.draw [(0, .flo), (1, .flo), (2, .flo), (3, .flo), (4, .flo), (6, .flo), (5, .qui), (7, .qui), (8, .flo), (9, .flo), (10, .flo), (11, .flo), (13, .flo), (12, .qui), (14, .flo), (15, .flo), (16, .flo), (17, .flo), (18, .flo), (19, .flo), (20, .flo), (21, .flo), (22, .flo), (23, .flo), (24, .qui), (25, .qui), (26, .sole), (27, .flo), (28, .flo), (29, .flo)]) .nil)) .nil))) (impl_isPairs_J0.S p) (leaf impl_isPairs_J0 impl_isPairs_O0) = impl_isPairs_B0 p) ∧ True), by kernel_rfl, fun x y => by kernel_rfl⟩
theorem impl_isPairs_s : impl_isPairs_D.Says Try.prog := impl_isPairs_w.says follows tabOk impl_comparePairs_e_ok
noncomputable def impl_isPairs_e : Env := more impl_comparePairs_e impl_isPairs_D
theorem impl_isPairs_e_ok : EnvOk Try.prog impl_isPairs_e := more_ok impl_comparePairs_e_ok impl_isPairs_s
/-! loop.example/g01128/impl.IsGraph -/
abbrev impl_IsGraph_E : Ve.End := ⟨[⟨2, .shr, .bool, none⟩], []⟩
abbrev impl_IsGraph_a : List ASh := [.val (.prod I (.list (.prod I I)))]
abbrev impl_IsGraph_o : List OSh := []
noncomputable def impl_IsGraph : argP impl_IsGraph_a → obP (extObs 0 impl_IsGraph_o) → Option impl_IsGraph_E.P
  | (g, ()), () => match impl_between (g.1, (0 : Int), (8 : Int), ()) () with | some ((r, ()), ()) => (bif r then (match impl_isPairs (g.2, g.1, ()) () with | some ((r2, ()), ()) => some ((r2, ()), ()) | none => none) else (some ((false, ()), ()))) | none => none
noncomputable def impl_IsGraph_x : Cx := ⟨tab, impl_isPairs_e, fun _ _ => 0, fun _ => false, [(5, 0), (5, 1), (5, 2), (5, 3), (11, 0), (11, 1), (11, 2), (11, 3)], [(1, 0)]⟩
noncomputable def c67 : Code := bodyOf Try.f67
noncomputable def impl_IsGraph_A : Ann := .nil
noncomputable def impl_IsGraph_D : Ve.Fn := ⟨67, impl_IsGraph_a, impl_IsGraph_o, impl_IsGraph_E, impl_IsGraph⟩
theorem impl_IsGraph_w : Walk Try.prog impl_IsGraph_x impl_IsGraph_D Try.f67 c67 13 impl_IsGraph_A :=
  ⟨⟨Try.func67, by kernel_rfl, by kernel_rfl, by kernel_rfl, by decide, by kernel_rfl, Nat.le_of_ble_eq_true (by kernel_rfl)⟩, by kernel_rfl, by kernel_rfl, by kernel_rfl, kcast (by kernel_rfl) trivial, by kernel_rfl, fun x y => by kernel_rfl⟩
theorem impl_IsGraph_s : impl_IsGraph_D.Says Try.prog := impl_IsGraph_w.says follows tabOk impl_isPairs_e_ok
noncomputable def impl_IsGraph_e : Env := more impl_isPairs_e impl_IsGraph_D
theorem impl_IsGraph_e_ok : EnvOk Try.prog impl_IsGraph_e := more_ok impl_isPairs_e_ok impl_IsGraph_s
/-! loop.example/g01128/impl.isMapCase -/
abbrev impl_isMapCase_E : Ve.End := ⟨[⟨4, .shr, .bool, none⟩], []⟩
abbrev impl_isMapCase_a : List ASh := [.val (.prod I (.list (.prod I I))), .val (.prod I (.list (.prod I I)))]
abbrev impl_isMapCase_o : List OSh := []
noncomputable def impl_isMapCase : argP impl_isMapCase_a → obP (extObs 0 impl_isMapCase_o) → Option impl_isMapCase_E.P
  | (g, h, ()), () => match impl_IsGraph (g, ()) () with | some ((r, ()), ()) => (bif r then (match impl_IsGraph (h, ()) () with | some ((r2, ()), ()) => (bif r2 then (some (((decide (g.1 ≤ (6 : Int))), ()), ())) else (some ((false, ()), ()))) | none => none) else (some ((false, ()), ()))) | none => none
noncomputable def impl_isMapCase_x : Cx := ⟨tab, impl_IsGraph_e, fun _ _ => 0, fun _ => false, [(6, 0), (6, 1), (6, 2), (6, 3), (9, 0), (9, 1), (9, 2), (9, 3)], [(2, 0), (3, 0)]⟩
noncomputable def c60 : Code := bodyOf Try.f60
noncomputable def impl_isMapCase_A : Ann := .nil
noncomputable def impl_isMapCase_D : Ve.Fn := ⟨60, impl_isMapCase_a, impl_isMapCase_o, impl_isMapCase_E, impl_isMapCase⟩
theorem impl_isMapCase_w : Walk Try.prog impl_isMapCase_x impl_isMapCase_D Try.f60 c60 16 impl_isMapCase_A :=
  ⟨⟨Try.func60, by kernel_rfl, by kernel_rfl, by kernel_rfl, by decide, by kernel_rfl, Nat.le_of_ble_eq_true (by kernel_rfl)⟩, by kernel_rfl, by kernel_rfl, by kernel_rfl, kcast (by kernel_rfl) trivial, by kernel_rfl, fun x y => by kernel_rfl⟩
theorem impl_isMapCase_s : impl_isMapCase_D.Says Try.prog := impl_isMapCase_w.says follows tabOk impl_IsGraph_e_ok
noncomputable def impl_isMapCase_e : Env := more impl_IsGraph_e impl_isMapCase_D
theorem impl_isMapCase_e_ok : EnvOk Try.prog impl_isMapCase_e := more_ok impl_IsGraph_e_ok impl_isMapCase_s
noncomputable def slices_Clone_int_int_e : Env := more impl_isMapCase_e (cloneFn 72)
theorem slices_Clone_int_int_e_ok : EnvOk Try.prog slices_Clone_int_int_e := more_ok impl_isMapCase_e_ok clone_s
noncomputable abbrev slices_Clone_int_int := (cloneFn 72).F
/-! loop.example/g01128/impl.FirstMap$1 -/
abbrev impl_FirstMap_1_va0a1_b1bs_E : Ve.End := ⟨[⟨4, .shr, .bool, none⟩], [.box (.own .shr) (.list I), .box .shr .bool]⟩
abbrev impl_FirstMap_1_va0a1_b1bs_a : List ASh := [.val (.list I), .adr 0, .adr 1]
abbrev impl_FirstMap_1_va0a1_b1bs_o : List OSh := [.box (.own .shr) (.list I), .box .shr .bool]
noncomputable def impl_FirstMap_1_va0a1_b1bs : argP impl_FirstMap_1_va0a1_b1bs_a → obP (extObs 0 impl_FirstMap_1_va0a1_b1bs_o) → Option impl_FirstMap_1_va0a1_b1bs_E.P
  | (list, ()), (o0, o1, ()) => match slices_Clone_int_int (list, ()) () with | some ((r, ()), ()) => some ((false, ()), (r, true, ())) | none => none
noncomputable def impl_FirstMap_1_va0a1_b1bs_x : Cx := ⟨tab, slices_Clone_int_int_e, fun _ _ => 0, fun _ => false, [], []⟩
noncomputable def c71 : Code := bodyOf Try.f71
noncomputable def impl_FirstMap_1_va0a1_b1bs_A : Ann := .nil
noncomputable def impl_FirstMap_1_va0a1_b1bs_D : Ve.Fn := ⟨71, impl_FirstMap_1_va0a1_b1bs_a, impl_FirstMap_1_va0a1_b1bs_o, impl_FirstMap_1_va0a1_b1bs_E, impl_FirstMap_1_va0a1_b1bs⟩
theorem impl_FirstMap_1_va0a1_b1bs_w : Walk Try.prog impl_FirstMap_1_va0a1_b1bs_x impl_FirstMap_1_va0a1_b1bs_D Try.f71 c71 7 impl_FirstMap_1_va0a1_b1bs_A :=
  ⟨⟨Try.func71, by kernel_rfl, by kernel_rfl, by kernel_rfl, by decide, by kernel_rfl, Nat.le_of_ble_eq_true (by kernel_rfl)⟩, by kernel_rfl, by kernel_rfl, by kernel_rfl, kcast (by kernel_rfl) trivial, by kernel_rfl, fun x y => by kernel_rfl⟩
theorem impl_FirstMap_1_va0a1_b1bs_s : impl_FirstMap_1_va0a1_b1bs_D.Says Try.prog := impl_FirstMap_1_va0a1_b1bs_w.says follows tabOk slices_Clone_int_int_e_ok
noncomputable def impl_FirstMap_1_va0a1_b1bs_e : Env := more slices_Clone_int_int_e impl_FirstMap_1_va0a1_b1bs_D
theorem impl_FirstMap_1_va0a1_b1bs_e_ok : EnvOk Try.prog impl_FirstMap_1_va0a1_b1bs_e := more_ok slices_Clone_int_int_e_ok impl_FirstMap_1_va0a1_b1bs_s
/-! loop.example/g01128/impl.pair -/
abbrev impl_pair_E : Ve.End := ⟨[⟨4, .shr, (.prod I I), some 78⟩], []⟩
abbrev impl_pair_a : List ASh := [.val I, .val I]
abbrev impl_pair_o : List OSh := []
noncomputable def impl_pair : argP impl_pair_a → obP (extObs 0 impl_pair_o) → Option impl_pair_E.P
  | (a, b, ()), () => some ((((bif decide (b < a) then b else a), (bif decide (a < b) then b else a)), ()), ())
noncomputable def impl_pair_x : Cx := ⟨tab, impl_FirstMap_1_va0a1_b1bs_e, fun _ _ => 0, fun _ => false, [], []⟩
noncomputable def c135 : Code := bodyOf Try.f135
noncomputable def impl_pair_A : Ann := .nil
noncomputable def impl_pair_D : Ve.Fn := ⟨135, impl_pair_a, impl_pair_o, impl_pair_E, impl_pair⟩
theorem impl_pair_w : Walk Try.prog impl_pair_x impl_pair_D Try.f135 c135 12 impl_pair_A :=
  ⟨⟨Try.func135, by kernel_rfl, by kernel_rfl, by kernel_rfl, by decide, by kernel_rfl, Nat.le_of_ble_eq_true (by kernel_rfl)⟩, by kernel_rfl, by kernel_rfl, by kernel_rfl, kcast (by kernel_rfl) trivial, by kernel_rfl, fun x y => by kernel_rfl⟩
theorem impl_pair_s : impl_pair_D.Says Try.prog := impl_pair_w.says follows tabOk impl_FirstMap_1_va0a1_b1bs_e_ok
noncomputable def impl_pair_e : Env := more impl_FirstMap_1_va0a1_b1bs_e impl_pair_D
theorem impl_pair_e_ok : EnvOk Try.prog impl_pair_e := more_ok impl_FirstMap_1_va0a1_b1bs_e_ok impl_pair_s
/-! slices.Index[[][2]int,[2]int] -/
abbrev slices_Index_2_int_2_int_J0 : Tpl := ⟨[(0, .val (.list (.prod I I))), (3, .cst (.prod I I)), (7, .val I), (8, .val I)], [], []⟩
abbrev slices_Index_2_int_2_int_J1 : Tpl := ⟨[(4, .val I)], [], []⟩
abbrev slices_Index_2_int_2_int_J2 : Tpl := ⟨[], [], []⟩
abbrev slices_Index_2_int_2_int_E : Ve.End := ⟨[⟨4, .shr, I, none⟩], []⟩
abbrev slices_Index_2_int_2_int_a : List ASh := [.val (.list (.prod I I)), .val (.prod I I)]
abbrev slices_Index_2_int_2_int_o : List OSh := []
abbrev slices_Index_2_int_2_int_O0 : Out := .or .ret slices_Index_2_int_2_int_J1 (.one (.ex 0) slices_Index_2_int_2_int_J2)
noncomputable def slices_Index_2_int_2_int_B0 : slices_Index_2_int_2_int_J0.P → Option (slices_Index_2_int_2_int_J0.P ⊕ slices_Index_2_int_2_int_O0.P)
  | ((s, v, t7, t8, ()), ()) => bif (decide (t8 < t7)) then (guardB (inb t8 (List.length s)) (bif ((v.1 == ((List.getD s (Int.toNat t8) ((0 : Int), (0 : Int))).1)) && (v.2 == ((List.getD s (Int.toNat t8) ((0 : Int), (0 : Int))).2))) then (some (.inr (.inl ((t8, ()), ())))) else (some (.inl ((s, v, t7, (w64 (t8 + (1 : Int))), ()), ()))))) else (some (.inr (.inr ((), ()))))
noncomputable def slices_Index_2_int_2_int : argP slices_Index_2_int_2_int_a → obP (extObs 0 slices_Index_2_int_2_int_o) → Option slices_Index_2_int_2_int_E.P
  | (s, v, ()), () => match loopO slices_Index_2_int_2_int_B0 ((s, v, (List.length s : Int), (0 : Int), ()), ()) with | some (.inl ((t4, ()), ())) => some ((t4, ()), ()) | some (.inr ((), ())) => some (((-1 : Int), ()), ()) | none => none
noncomputable def slices_Index_2_int_2_int_x : Cx := ⟨tab, impl_pair_e, fun _ _ => 0, fun _ => false, [], [(3, 0)]⟩
noncomputable def c174 : Code := bodyOf Try.f174
noncomputable def slices_Index_2_int_2_int_A : Ann := .seq .nil (.seq (.seq .nil (.loop slices_Index_2_int_2_int_J0 slices_Index_2_int_2_int_O0 slices_Index_2_int_2_int_B0 (.seq .nil (.seq .nil (.seq (.seq .nil (.seq (.draw [(0, .flo), (1, .flo), (2, .flo), (3, .flo), (4, .flo), (5, .flo)]) .nil)) .nil))))) .nil)
theorem slices_Index_2_int_2_int_r0 (p : slices_Index_2_int_2_int_J0.P) : run slices_Index_2_int_2_int_x (subc [1, 0, 1, 0, 0] c174) (.seq .nil (.seq .nil (.seq (.seq .nil (.seq (.draw [(0, .flo), (1, .flo), (2, .flo), (3, .flo), (4, .flo), (5, .flo)]) .nil)) .nil))) (slices_Index_2_int_2_int_J0.S p) (leaf slices_Index_2_int_2_int_J0 slices_Index_2_int_2_int_O0) = slices_Index_2_int_2_int_B0 p := by kernel_rfl
noncomputable def slices_Index_2_int_2_int_D : Ve.Fn := ⟨174, slices_Index_2_int_2_int_a, slices_Index_2_int_2_int_o, slices_Index_2_int_2_int_E, slices_Index_2_int_2_int⟩
theorem slices_Index_2_int_2_int_w : Walk Try.prog slices_Index_2_int_2_int_x slices_Index_2_int_2_int_D Try.f174 c174 19 slices_Index_2_int_2_int_A :=
  ⟨⟨Try.func174, by kernel_rfl, by kernel_rfl, by kernel_rfl, by decide, by kernel_rfl, Nat.le_of_ble_eq_true (by kernel_rfl)⟩, by kernel_rfl, by kernel_rfl, by kernel_rfl, kcast (by kernel_rfl) (⟨slices_Index_2_int_2_int_r0, trivial⟩ : (∀ p, run slices_Index_2_int_2_int_x (subc [1, 0, 1, 0, 0] c174) (.seq .nil (.seq .nil (.seq (.seq .nil (.seq (.draw [(0, .flo), (1, .flo), (2, .flo), (3, .flo), (4, .flo), (5, .flo)]) .nil)) .nil))) (slices_Index_2_int_2_int_J0.S p) (leaf slices_Index_2_int_2_int_J0 slices_Index_2_int_2_int_O0) = slices_Index_2_int_2_int_B0 p) ∧ True), by kernel_rfl, fun x y => by kernel_rfl⟩
theorem slices_Index_2_int_2_int_s : slices_Index_2_int_2_int_D.Says Try.prog := slices_Index_2_int_2_int_w.says follows tabOk impl_pair_e_ok
noncomputable def slices_Index_2_int_2_int_e : Env := more impl_pair_e slices_Index_2_int_2_int_D
theorem slices_Index_2_int_2_int_e_ok : EnvOk Try.prog slices_Index_2_int_2_int_e := more_ok impl_pair_e_ok slices_Index_2_int_2_int_s
/-! slices.Contains[[][2]int,[2]int] -/
abbrev slices_Contains_2_int_2_int_E : Ve.End := ⟨[⟨4, .shr, .bool, none⟩], []⟩
abbrev slices_Contains_2_int_2_int_a : List ASh := [.val (.list (.prod I I)), .val (.prod I I)]
abbrev slices_Contains_2_int_2_int_o : List OSh := []
noncomputable def slices_Contains_2_int_2_int : argP slices_Contains_2_int_2_int_a → obP (extObs 0 slices_Contains_2_int_2_int_o) → Option slices_Contains_2_int_2_int_E.P
  | (s, v, ()), () => match slices_Index_2_int_2_int (s, v, ()) () with | some ((r, ()), ()) => some (((decide ((0 : Int) ≤ r)), ()), ()) | none => none
noncomputable def slices_Contains_2_int_2_int_x : Cx := ⟨tab, slices_Index_2_int_2_int_e, fun _ _ => 0, fun _ => false, [(7, 0), (7, 1), (7, 2), (7, 3)], [(3, 0)]⟩
noncomputable def c161 : Code := bodyOf Try.f161
noncomputable def slices_Contains_2_int_2_int_A : Ann := .nil
noncomputable def slices_Contains_2_int_2_int_D : Ve.Fn := ⟨161, slices_Contains_2_int_2_int_a, slices_Contains_2_int_2_int_o, slices_Contains_2_int_2_int_E, slices_Contains_2_int_2_int⟩
theorem slices_Contains_2_int_2_int_w : Walk Try.prog slices_Contains_2_int_2_int_x slices_Contains_2_int_2_int_D Try.f161 c161 9 slices_Contains_2_int_2_int_A :=
  ⟨⟨Try.func161, by kernel_rfl, by kernel_rfl, by kernel_rfl, by decide, by kernel_rfl, Nat.le_of_ble_eq_true (by kernel_rfl)⟩, by kernel_rfl, by kernel_rfl, by kernel_rfl, kcast (by kernel_rfl) trivial, by kernel_rfl, fun x y => by kernel_rfl⟩
theorem slices_Contains_2_int_2_int_s : slices_Contains_2_int_2_int_D.Says Try.prog := slices_Contains_2_int_2_int_w.says follows tabOk slices_Index_2_int_2_int_e_ok
noncomputable def slices_Contains_2_int_2_int_e : Env := more slices_Index_2_int_2_int_e slices_Contains_2_int_2_int_D
theorem slices_Contains_2_int_2_int_e_ok : EnvOk Try.prog slices_Contains_2_int_2_int_e := more_ok slices_Index_2_int_2_int_e_ok slices_Contains_2_int_2_int_s
/-! (loop.example/g01128/impl.Graph).has -/
abbrev impl_Graph_has_E : Ve.End := ⟨[⟨6, .shr, .bool, none⟩], []⟩
abbrev impl_Graph_has_a : List ASh := [.val (.prod I (.list (.prod I I))), .val I, .val I]
abbrev impl_Graph_has_o : List OSh := []
noncomputable def impl_Graph_has : argP impl_Graph_has_a → obP (extObs 0 impl_Graph_has_o) → Option impl_Graph_has_E.P
  | (g, a, b, ()), () => match impl_pair (a, b, ()) () with | some ((r, ()), ()) => (match slices_Contains_2_int_2_int (g.2, r, ()) () with | some ((r2, ()), ()) => some ((r2, ()), ()) | none => none) | none => none
noncomputable def impl_Graph_has_x : Cx := ⟨tab, slices_Contains_2_int_2_int_e, fun _ _ => 0, fun _ => false, [(11, 0), (11, 1), (11, 2), (11, 3), (12, 0), (12, 1), (12, 2), (12, 3)], [(3, 0)]⟩
noncomputable def c140 : Code := bodyOf Try.f140
noncomputable def impl_Graph_has_A : Ann := .seq .nil (.seq (.draw [(0, .flo), (1, .flo), (2, .flo), (3, .flo), (4, .sole), (5, .sole), (6, .flo)]) .nil)
noncomputable def impl_Graph_has_D : Ve.Fn := ⟨140, impl_Graph_has_a, impl_Graph_has_o, impl_Graph_has_E, impl_Graph_has⟩
theorem impl_Graph_has_w : Walk Try.prog impl_Graph_has_x impl_Graph_has_D Try.f140 c140 13 impl_Graph_has_A :=
  ⟨⟨Try.func140, by kernel_rfl, by kernel_rfl, by kernel_rfl, by decide, by kernel_rfl, Nat.le_of_ble_eq_true (by kernel_rfl)⟩, by kernel_rfl, by kernel_rfl, by kernel_rfl, kcast (by kernel_rfl) trivial, by kernel_rfl, fun x y => by kernel_rfl⟩
theorem impl_Graph_has_s : impl_Graph_has_D.Says Try.prog := impl_Graph_has_w.says follows tabOk slices_Contains_2_int_2_int_e_ok
noncomputable def impl_Graph_has_e : Env := more slices_Contains_2_int_2_int_e impl_Graph_has_D
theorem impl_Graph_has_e_ok : EnvOk Try.prog impl_Graph_has_e := more_ok slices_Contains_2_int_2_int_e_ok impl_Graph_has_s
/-! (loop.example/g01128/impl.Graph).neighbors -/
abbrev impl_Graph_neighbors_J0 : Tpl := ⟨[(1, .val I), (2, .cst (.prod I (.list (.prod I I)))), (5, .own .shr I), (9, .val I), (10, .val I)], [], []⟩
abbrev impl_Graph_neighbors_J1 : Tpl := ⟨[(5, .own .shr I)], [], []⟩
abbrev impl_Graph_neighbors_E : Ve.End := ⟨[⟨4, (.own .shr), (.list I), none⟩], []⟩
abbrev impl_Graph_neighbors_a : List ASh := [.val (.prod I (.list (.prod I I))), .val I]
abbrev impl_Graph_neighbors_o : List OSh := []
abbrev impl_Graph_neighbors_O0 : Out := .one (.ex 0) impl_Graph_neighbors_J1
noncomputable def impl_Graph_neighbors_B0 : impl_Graph_neighbors_J0.P → Option (impl_Graph_neighbors_J0.P ⊕ impl_Graph_neighbors_O0.P)
  | ((x, g, out, t9, t10, ()), ()) => bif (decide (t10 < t9)) then (bif (t10 != x) then (match impl_Graph_has (g, x, t10, ()) () with | some ((r, ()), ()) => (bif r then (guardB (decide ((List.length out + List.length [t10]) * 8 ≤ 70368744177664)) (some (.inl ((x, g, (out ++ [t10]), t9, (w64 (t10 + (1 : Int))), ()), ())))) else (some (.inl ((x, g, out, t9, (w64 (t10 + (1 : Int))), ()), ())))) | none => none) else (some (.inl ((x, g, out, t9, (w64 (t10 + (1 : Int))), ()), ())))) else (some (.inr ((out, ()), ())))
noncomputable def impl_Graph_neighbors : argP impl_Graph_neighbors_a → obP (extObs 0 impl_Graph_neighbors_o) → Option impl_Graph_neighbors_E.P
  | (g, x, ()), () => match loopO impl_Graph_neighbors_B0 ((x, g, ([] : (List Int)), g.1, (0 : Int), ()), ()) with | some ((out, ()), ()) => some ((out, ()), ()) | none => none
noncomputable def impl_Graph_neighbors_x : Cx := ⟨tab, impl_Graph_has_e, fun _ _ => 0, fun _ => false, [(20, 0), (20, 1), (20, 2), (20, 3), (24, 0)], [(2, 0)]⟩
noncomputable def c111 : Code := bodyOf Try.f111
noncomputable def impl_Graph_neighbors_A : Ann := .seq .nil (.seq .nil (.seq (.seq .nil (.loop impl_Graph_neighbors_J0 impl_Graph_neighbors_O0 impl_Graph_neighbors_B0 .nil)) .nil))
theorem impl_Graph_neighbors_r0 (p : impl_Graph_neighbors_J0.P) : run impl_Graph_neighbors_x (subc [1, 1, 0, 1, 0, 0] c111) .nil (impl_Graph_neighbors_J0.S p) (leaf impl_Graph_neighbors_J0 impl_Graph_neighbors_O0) = impl_Graph_neighbors_B0 p := by kernel_rfl
noncomputable def impl_Graph_neighbors_D : Ve.Fn := ⟨111, impl_Graph_neighbors_a, impl_Graph_neighbors_o, impl_Graph_neighbors_E, impl_Graph_neighbors⟩
theorem impl_Graph_neighbors_w : Walk Try.prog impl_Graph_neighbors_x impl_Graph_neighbors_D Try.f111 c111 28 impl_Graph_neighbors_A :=
  ⟨⟨Try.func111, by kernel_rfl, by kernel_rfl, by kernel_rfl, by decide, by kernel_rfl, Nat.le_of_ble_eq_true (by kernel_rfl)⟩, by kernel_rfl, by kernel_rfl, by kernel_rfl, kcast (by kernel_rfl) (⟨impl_Graph_neighbors_r0, trivial⟩ : (∀ p, run impl_Graph_neighbors_x (subc [1, 1, 0, 1, 0, 0] c111) .nil (impl_Graph_neighbors_J0.S p) (leaf impl_Graph_neighbors_J0 impl_Graph_neighbors_O0) = impl_Graph_neighbors_B0 p) ∧ True), by kernel_rfl, fun x y => by kernel_rfl⟩
theorem impl_Graph_neighbors_s : impl_Graph_neighbors_D.Says Try.prog := impl_Graph_neighbors_w.says follows tabOk impl_Graph_has_e_ok
noncomputable def impl_Graph_neighbors_e : Env := more impl_Graph_has_e impl_Graph_neighbors_D
theorem impl_Graph_neighbors_e_ok : EnvOk Try.prog impl_Graph_neighbors_e := more_ok impl_Graph_has_e_ok impl_Graph_neighbors_s
/-! (loop.example/g01128/impl.Graph).isFit -/
abbrev impl_Graph_isFit_E : Ve.End := ⟨[⟨8, .shr, .bool, none⟩], []⟩
abbrev impl_Graph_isFit_a : List ASh := [.val (.prod I (.list (.prod I I))), .val I, .val I, .val .bool]
abbrev impl_Graph_isFit_o : List OSh := []
noncomputable def impl_Graph_isFit : argP impl_Graph_isFit_a → obP (extObs 0 impl_Graph_isFit_o) → Option impl_Graph_isFit_E.P
  | (h, x, y, lazy, ()), () => match impl_Graph_has (h, x, y, ()) () with | some ((r, ()), ()) => (bif r then (some ((true, ()), ())) else (bif lazy then (some (((x == y), ()), ())) else (some ((false, ()), ())))) | none => none
noncomputable def impl_Graph_isFit_x : Cx := ⟨tab, impl_Graph_neighbors_e, fun _ _ => 0, fun _ => false, [(12, 0), (12, 1), (12, 2), (12, 3)], [(4, 0)]⟩
noncomputable def c107 : Code := bodyOf Try.f107
noncomputable def impl_Graph_isFit_A : Ann := .nil
noncomputable def impl_Graph_isFit_D : Ve.Fn := ⟨107, impl_Graph_isFit_a, impl_Graph_isFit_o, impl_Graph_isFit_E, impl_Graph_isFit⟩
theorem impl_Graph_isFit_w : Walk Try.prog impl_Graph_isFit_x impl_Graph_isFit_D Try.f107 c107 21 impl_Graph_isFit_A :=
  ⟨⟨Try.func107, by kernel_rfl, by kernel_rfl, by kernel_rfl, by decide, by kernel_rfl, Nat.le_of_ble_eq_true (by kernel_rfl)⟩, by kernel_rfl, by kernel_rfl, by kernel_rfl, kcast (by kernel_rfl) trivial, by kernel_rfl, fun x y => by kernel_rfl⟩
theorem impl_Graph_isFit_s : impl_Graph_isFit_D.Says Try.prog := impl_Graph_isFit_w.says follows tabOk impl_Graph_neighbors_e_ok
noncomputable def impl_Graph_isFit_e : Env := more impl_Graph_neighbors_e impl_Graph_isFit_D
theorem impl_Graph_isFit_e_ok : EnvOk Try.prog impl_Graph_isFit_e := more_ok impl_Graph_neighbors_e_ok impl_Graph_isFit_s
/-! loop.example/g01128/impl.maps$1$1 -/
abbrev impl_maps_1_1_vccccc_E : Ve.End := ⟨[⟨7, .shr, .bool, none⟩], []⟩
abbrev impl_maps_1_1_vccccc_a : List ASh := [.val I, .cst I, .cst (.prod I (.list (.prod I I))), .cst I, .cst (.list I), .cst .bool]
abbrev impl_maps_1_1_vccccc_o : List OSh := []
noncomputable def impl_maps_1_1_vccccc : argP impl_maps_1_1_vccccc_a → obP (extObs 0 impl_maps_1_1_vccccc_o) → Option impl_maps_1_1_vccccc_E.P
  | (z, t1, t2, t3, t4, t5, ()), () => bif (decide (z < t1)) then (guardB (inb z (List.length t4)) (match impl_Graph_isFit (t2, t3, (List.getD t4 (Int.toNat z) (0 : Int)), t5, ()) () with | some ((r, ()), ()) => some (((!r), ()), ()) | none => none)) else (some ((false, ()), ()))
noncomputable def impl_maps_1_1_vccccc_x : Cx := ⟨tab, impl_Graph_isFit_e, fun _ _ => 0, fun _ => false, [(19, 0), (19, 1), (19, 2), (19, 3)], []⟩
noncomputable def c112 : Code := bodyOf Try.f112
noncomputable def impl_maps_1_1_vccccc_A : Ann := .seq .nil (.seq (.draw [(0, .flo), (1, .flo), (2, .flo), (3, .flo), (4, .flo), (5, .flo), (6, .flo), (7, .flo), (8, .flo), (9, .flo), (10, .flo), (11, .sole), (12, .flo), (13, .flo), (14, .flo)]) .nil)
noncomputable def impl_maps_1_1_vccccc_D : Ve.Fn := ⟨112, impl_maps_1_1_vccccc_a, impl_maps_1_1_vccccc_o, impl_maps_1_1_vccccc_E, impl_maps_1_1_vccccc⟩
theorem impl_maps_1_1_vccccc_w : Walk Try.prog impl_maps_1_1_vccccc_x impl_maps_1_1_vccccc_D Try.f112 c112 22 impl_maps_1_1_vccccc_A :=
  ⟨⟨Try.func112, by kernel_rfl, by kernel_rfl, by kernel_rfl, by decide, by kernel_rfl, Nat.le_of_ble_eq_true (by kernel_rfl)⟩, by kernel_rfl, by kernel_rfl, by kernel_rfl, kcast (by kernel_rfl) trivial, by kernel_rfl, fun x y => by kernel_rfl⟩
theorem impl_maps_1_1_vccccc_s : impl_maps_1_1_vccccc_D.Says Try.prog := impl_maps_1_1_vccccc_w.says follows tabOk impl_Graph_isFit_e_ok
noncomputable def impl_maps_1_1_vccccc_e : Env := more impl_Graph_isFit_e impl_maps_1_1_vccccc_D
theorem impl_maps_1_1_vccccc_e_ok : EnvOk Try.prog impl_maps_1_1_vccccc_e := more_ok impl_Graph_isFit_e_ok impl_maps_1_1_vccccc_s
/-! slices.IndexFunc[[]int,int] -/
abbrev slices_IndexFunc_int_int_vf_impl_maps_1_1_01234__bsbsbsb1bs_J0 : Tpl := ⟨[(0, .val (.list I)), (1, .fn ⟨112, [(1000000, 0), (1000001, 0), (1000002, 0), (1000003, 0), (1000004, 0)]⟩), (7, .val I), (8, .val I)], [((1000000, 0), .box .shr I), ((1000001, 0), .box .shr (.prod I (.list (.prod I I)))), ((1000002, 0), .box .shr I), ((1000003, 0), .box (.own .shr) (.list I)), ((1000004, 0), .box .shr .bool)], []⟩
abbrev slices_IndexFunc_int_int_vf_impl_maps_1_1_01234__bsbsbsb1bs_J1 : Tpl := ⟨[(4, .val I)], [((1000000, 0), .box .shr I), ((1000001, 0), .box .shr (.prod I (.list (.prod I I)))), ((1000002, 0), .box .shr I), ((1000003, 0), .box (.own .shr) (.list I)), ((1000004, 0), .box .shr .bool)], []⟩
abbrev slices_IndexFunc_int_int_vf_impl_maps_1_1_01234__bsbsbsb1bs_J2 : Tpl := ⟨[], [((1000000, 0), .box .shr I), ((1000001, 0), .box .shr (.prod I (.list (.prod I I)))), ((1000002, 0), .box .shr I), ((1000003, 0), .box (.own .shr) (.list I)), ((1000004, 0), .box .shr .bool)], []⟩
abbrev slices_IndexFunc_int_int_vf_impl_maps_1_1_01234__bsbsbsb1bs_E : Ve.End := ⟨[⟨4, .shr, I, none⟩], [.box .shr I, .box .shr (.prod I (.list (.prod I I))), .box .shr I, .box (.own .shr) (.list I), .box .shr .bool]⟩
abbrev slices_IndexFunc_int_int_vf_impl_maps_1_1_01234__bsbsbsb1bs_a : List ASh := [.val (.list I), .fn 112 [0, 1, 2, 3, 4]]
abbrev slices_IndexFunc_int_int_vf_impl_maps_1_1_01234__bsbsbsb1bs_o : List OSh := [.box .shr I, .box .shr (.prod I (.list (.prod I I))), .box .shr I, .box (.own .shr) (.list I), .box .shr .bool]
abbrev slices_IndexFunc_int_int_vf_impl_maps_1_1_01234__bsbsbsb1bs_O0 : Out := .or .ret slices_IndexFunc_int_int_vf_impl_maps_1_1_01234__bsbsbsb1bs_J1 (.one (.ex 0) slices_IndexFunc_int_int_vf_impl_maps_1_1_01234__bsbsbsb1bs_J2)
noncomputable def slices_IndexFunc_int_int_vf_impl_maps_1_1_01234__bsbsbsb1bs_B0 : slices_IndexFunc_int_int_vf_impl_maps_1_1_01234__bsbsbsb1bs_J0.P → Option (slices_IndexFunc_int_int_vf_impl_maps_1_1_01234__bsbsbsb1bs_J0.P ⊕ slices_IndexFunc_int_int_vf_impl_maps_1_1_01234__bsbsbsb1bs_O0.P)
  | ((s, t7, t8, ()), (o0, o1, o2, o3, o4, ())) => bif (decide (t8 < t7)) then (guardB (inb t8 (List.length s)) (match impl_maps_1_1_vccccc ((List.getD s (Int.toNat t8) (0 : Int)), o0, o1, o2, o3, o4, ()) () with | some ((r, ()), ()) => (bif r then (some (.inr (.inl ((t8, ()), (o0, o1, o2, o3, o4, ()))))) else (some (.inl ((s, t7, (w64 (t8 + (1 : Int))), ()), (o0, o1, o2, o3, o4, ()))))) | none => none)) else (some (.inr (.inr ((), (o0, o1, o2, o3, o4, ())))))
noncomputable def slices_IndexFunc_int_int_vf_impl_maps_1_1_01234__bsbsbsb1bs : argP slices_IndexFunc_int_int_vf_impl_maps_1_1_01234__bsbsbsb1bs_a → obP (extObs 0 slices_IndexFunc_int_int_vf_impl_maps_1_1_01234__bsbsbsb1bs_o) → Option slices_IndexFunc_int_int_vf_impl_maps_1_1_01234__bsbsbsb1bs_E.P
  | (s, ()), (o0, o1, o2, o3, o4, ()) => match loopO slices_IndexFunc_int_int_vf_impl_maps_1_1_01234__bsbsbsb1bs_B0 ((s, (List.length s : Int), (0 : Int), ()), (o0, o1, o2, o3, o4, ())) with | some (.inl ((t4, ()), (o0_2, o1_2, o2_2, o3_2, o4_2, ()))) => some ((t4, ()), (o0_2, o1_2, o2_2, o3_2, o4_2, ())) | some (.inr ((), (o0_3, o1_3, o2_3, o3_3, o4_3, ()))) => some (((-1 : Int), ()), (o0_3, o1_3, o2_3, o3_3, o4_3, ())) | none => none
noncomputable def slices_IndexFunc_int_int_vf_impl_maps_1_1_01234__bsbsbsb1bs_x : Cx := ⟨tab, impl_maps_1_1_vccccc_e, fun _ _ => 0, fun _ => false, [(16, 0), (16, 1), (16, 2), (16, 3)], []⟩
noncomputable def c138 : Code := bodyOf Try.f138
noncomputable def slices_IndexFunc_int_int_vf_impl_maps_1_1_01234__bsbsbsb1bs_A : Ann := .seq .nil (.seq (.seq .nil (.loop slices_IndexFunc_int_int_vf_impl_maps_1_1_01234__bsbsbsb1bs_J0 slices_IndexFunc_int_int_vf_impl_maps_1_1_01234__bsbsbsb1bs_O0 slices_IndexFunc_int_int_vf_impl_maps_1_1_01234__bsbsbsb1bs_B0 .nil)) .nil)
theorem slices_IndexFunc_int_int_vf_impl_maps_1_1_01234__bsbsbsb1bs_r0 (p : slices_IndexFunc_int_int_vf_impl_maps_1_1_01234__bsbsbsb1bs_J0.P) : run slices_IndexFunc_int_int_vf_impl_maps_1_1_01234__bsbsbsb1bs_x (subc [1, 0, 1, 0, 0] c138) .nil (slices_IndexFunc_int_int_vf_impl_maps_1_1_01234__bsbsbsb1bs_J0.S p) (leaf slices_IndexFunc_int_int_vf_impl_maps_1_1_01234__bsbsbsb1bs_J0 slices_IndexFunc_int_int_vf_impl_maps_1_1_01234__bsbsbsb1bs_O0) = slices_IndexFunc_int_int_vf_impl_maps_1_1_01234__bsbsbsb1bs_B0 p := by kernel_rfl
noncomputable def slices_IndexFunc_int_int_vf_impl_maps_1_1_01234__bsbsbsb1bs_D : Ve.Fn := ⟨138, slices_IndexFunc_int_int_vf_impl_maps_1_1_01234__bsbsbsb1bs_a, slices_IndexFunc_int_int_vf_impl_maps_1_1_01234__bsbsbsb1bs_o, slices_IndexFunc_int_int_vf_impl_maps_1_1_01234__bsbsbsb1bs_E, slices_IndexFunc_int_int_vf_impl_maps_1_1_01234__bsbsbsb1bs⟩
theorem slices_IndexFunc_int_int_vf_impl_maps_1_1_01234__bsbsbsb1bs_w : Walk Try.prog slices_IndexFunc_int_int_vf_impl_maps_1_1_01234__bsbsbsb1bs_x slices_IndexFunc_int_int_vf_impl_maps_1_1_01234__bsbsbsb1bs_D Try.f138 c138 19 slices_IndexFunc_int_int_vf_impl_maps_1_1_01234__bsbsbsb1bs_A :=
  ⟨⟨Try.func138, by kernel_rfl, by kernel_rfl, by kernel_rfl, by decide, by kernel_rfl, Nat.le_of_ble_eq_true (by kernel_rfl)⟩, by kernel_rfl, by kernel_rfl, by kernel_rfl, kcast (by kernel_rfl) (⟨slices_IndexFunc_int_int_vf_impl_maps_1_1_01234__bsbsbsb1bs_r0, trivial⟩ : (∀ p, run slices_IndexFunc_int_int_vf_impl_maps_1_1_01234__bsbsbsb1bs_x (subc [1, 0, 1, 0, 0] c138) .nil (slices_IndexFunc_int_int_vf_impl_maps_1_1_01234__bsbsbsb1bs_J0.S p) (leaf slices_IndexFunc_int_int_vf_impl_maps_1_1_01234__bsbsbsb1bs_J0 slices_IndexFunc_int_int_vf_impl_maps_1_1_01234__bsbsbsb1bs_O0) = slices_IndexFunc_int_int_vf_impl_maps_1_1_01234__bsbsbsb1bs_B0 p) ∧ True), by kernel_rfl, fun x y => by kernel_rfl⟩
theorem slices_IndexFunc_int_int_vf_impl_maps_1_1_01234__bsbsbsb1bs_s : slices_IndexFunc_int_int_vf_impl_maps_1_1_01234__bsbsbsb1bs_D.Says Try.prog := slices_IndexFunc_int_int_vf_impl_maps_1_1_01234__bsbsbsb1bs_w.says follows tabOk impl_maps_1_1_vccccc_e_ok
noncomputable def slices_IndexFunc_int_int_vf_impl_maps_1_1_01234__bsbsbsb1bs_e : Env := more impl_maps_1_1_vccccc_e slices_IndexFunc_int_int_vf_impl_maps_1_1_01234__bsbsbsb1bs_D
theorem slices_IndexFunc_int_int_vf_impl_maps_1_1_01234__bsbsbsb1bs_e_ok : EnvOk Try.prog slices_IndexFunc_int_int_vf_impl_maps_1_1_01234__bsbsbsb1bs_e := more_ok impl_maps_1_1_vccccc_e_ok slices_IndexFunc_int_int_vf_impl_maps_1_1_01234__bsbsbsb1bs_s
/-! slices.ContainsFunc[[]int,int] -/
abbrev slices_ContainsFunc_int_int_vf_impl_maps_1_1_01234__bsbsbsb1bs_E : Ve.End := ⟨[⟨4, .shr, .bool, none⟩], [.box .shr I, .box .shr (.prod I (.list (.prod I I))), .box .shr I, .box (.own .shr) (.list I), .box .shr .bool]⟩
abbrev slices_ContainsFunc_int_int_vf_impl_maps_1_1_01234__bsbsbsb1bs_a : List ASh := [.val (.list I), .fn 112 [0, 1, 2, 3, 4]]
abbrev slices_ContainsFunc_int_int_vf_impl_maps_1_1_01234__bsbsbsb1bs_o : List OSh := [.box .shr I, .box .shr (.prod I (.list (.prod I I))), .box .shr I, .box (.own .shr) (.list I), .box .shr .bool]
noncomputable def slices_ContainsFunc_int_int_vf_impl_maps_1_1_01234__bsbsbsb1bs : argP slices_ContainsFunc_int_int_vf_impl_maps_1_1_01234__bsbsbsb1bs_a → obP (extObs 0 slices_ContainsFunc_int_int_vf_impl_maps_1_1_01234__bsbsbsb1bs_o) → Option slices_ContainsFunc_int_int_vf_impl_maps_1_1_01234__bsbsbsb1bs_E.P
  | (s, ()), (o0, o1, o2, o3, o4, ()) => match slices_IndexFunc_int_int_vf_impl_maps_1_1_01234__bsbsbsb1bs (s, ()) (o0, o1, o2, o3, o4, ()) with | some ((r, ()), (o, o5, o6, o7, o8, ())) => some (((decide ((0 : Int) ≤ r)), ()), (o, o5, o6, o7, o8, ())) | none => none
noncomputable def slices_ContainsFunc_int_int_vf_impl_maps_1_1_01234__bsbsbsb1bs_x : Cx := ⟨tab, slices_IndexFunc_int_int_vf_impl_maps_1_1_01234__bsbsbsb1bs_e, fun _ _ => 0, fun _ => false, [(7, 0), (7, 1), (7, 2), (7, 3)], []⟩
noncomputable def c103 : Code := bodyOf Try.f103
noncomputable def slices_ContainsFunc_int_int_vf_impl_maps_1_1_01234__bsbsbsb1bs_A : Ann := .nil
noncomputable def slices_ContainsFunc_int_int_vf_impl_maps_1_1_01234__bsbsbsb1bs_D : Ve.Fn := ⟨103, slices_ContainsFunc_int_int_vf_impl_maps_1_1_01234__bsbsbsb1bs_a, slices_ContainsFunc_int_int_vf_impl_maps_1_1_01234__bsbsbsb1bs_o, slices_ContainsFunc_int_int_vf_impl_maps_1_1_01234__bsbsbsb1bs_E, slices_ContainsFunc_int_int_vf_impl_maps_1_1_01234__bsbsbsb1bs⟩
theorem slices_ContainsFunc_int_int_vf_impl_maps_1_1_01234__bsbsbsb1bs_w : Walk Try.prog slices_ContainsFunc_int_int_vf_impl_maps_1_1_01234__bsbsbsb1bs_x slices_ContainsFunc_int_int_vf_impl_maps_1_1_01234__bsbsbsb1bs_D Try.f103 c103 9 slices_ContainsFunc_int_int_vf_impl_maps_1_1_01234__bsbsbsb1bs_A :=
  ⟨⟨Try.func103, by kernel_rfl, by kernel_rfl, by kernel_rfl, by decide, by kernel_rfl, Nat.le_of_ble_eq_true (by kernel_rfl)⟩, by kernel_rfl, by kernel_rfl, by kernel_rfl, kcast (by kernel_rfl) trivial, by kernel_rfl, fun x y => by kernel_rfl⟩
theorem slices_ContainsFunc_int_int_vf_impl_maps_1_1_01234__bsbsbsb1bs_s : slices_ContainsFunc_int_int_vf_impl_maps_1_1_01234__bsbsbsb1bs_D.Says Try.prog := slices_ContainsFunc_int_int_vf_impl_maps_1_1_01234__bsbsbsb1bs_w.says follows tabOk slices_IndexFunc_int_int_vf_impl_maps_1_1_01234__bsbsbsb1bs_e_ok
noncomputable def slices_ContainsFunc_int_int_vf_impl_maps_1_1_01234__bsbsbsb1bs_e : Env := more slices_IndexFunc_int_int_vf_impl_maps_1_1_01234__bsbsbsb1bs_e slices_ContainsFunc_int_int_vf_impl_maps_1_1_01234__bsbsbsb1bs_D
theorem slices_ContainsFunc_int_int_vf_impl_maps_1_1_01234__bsbsbsb1bs_e_ok : EnvOk Try.prog slices_ContainsFunc_int_int_vf_impl_maps_1_1_01234__bsbsbsb1bs_e := more_ok slices_IndexFunc_int_int_vf_impl_maps_1_1_01234__bsbsbsb1bs_e_ok slices_ContainsFunc_int_int_vf_impl_maps_1_1_01234__bsbsbsb1bs_s
/-! loop.example/g01128/impl.maps$1 -/
abbrev impl_maps_1_va0a1a2a3a4a5_bsfimpl_FirstMap_1_67b1bsbsfimpl_maps_1_012345b1bs_J0 : Tpl := ⟨[(1, .ptr (1000000, 0)), (3, .ptr (1000002, 0)), (4, .ptr (1000003, 0)), (5, .ptr (1000004, 0)), (6, .ptr (1000005, 0)), (7, .ptr (7, 0)), (19, .val I), (20, .val I)], [((1000000, 0), .box .shr (.prod I (.list (.prod I I)))), ((1000002, 0), .box (.own .shr) (.list I)), ((1000003, 0), .box .shr (.prod I (.list (.prod I I)))), ((1000004, 0), .box .shr .bool), ((1000005, 0), .fbox (some ⟨110, [(1000000, 0), (1000001, 0), (1000002, 0), (1000003, 0), (1000004, 0), (1000005, 0)]⟩)), ((7, 0), .box .shr I), ((1000001, 0), .fbox (some ⟨71, [(1000006, 0), (1000007, 0)]⟩)), ((1000006, 0), .box (.own .shr) (.list I)), ((1000007, 0), .box .shr .bool)], []⟩
abbrev impl_maps_1_va0a1a2a3a4a5_bsfimpl_FirstMap_1_67b1bsbsfimpl_maps_1_012345b1bs_J1 : Tpl := ⟨[(8, .val .bool)], [((1000000, 0), .box .shr (.prod I (.list (.prod I I)))), ((1000001, 0), .fbox (some ⟨71, [(1000006, 0), (1000007, 0)]⟩)), ((1000002, 0), .box (.own .shr) (.list I)), ((1000003, 0), .box .shr (.prod I (.list (.prod I I)))), ((1000004, 0), .box .shr .bool), ((1000005, 0), .fbox (some ⟨110, [(1000000, 0), (1000001, 0), (1000002, 0), (1000003, 0), (1000004, 0), (1000005, 0)]⟩)), ((1000006, 0), .box (.own .shr) (.list I)), ((1000007, 0), .box .shr .bool)], []⟩
abbrev impl_maps_1_va0a1a2a3a4a5_bsfimpl_FirstMap_1_67b1bsbsfimpl_maps_1_012345b1bs_J2 : Tpl := ⟨[], [((1000000, 0), .box .shr (.prod I (.list (.prod I I)))), ((1000001, 0), .fbox (some ⟨71, [(1000006, 0), (1000007, 0)]⟩)), ((1000002, 0), .box (.own .shr) (.list I)), ((1000003, 0), .box .shr (.prod I (.list (.prod I I)))), ((1000004, 0), .box .shr .bool), ((1000005, 0), .fbox (some ⟨110, [(1000000, 0), (1000001, 0), (1000002, 0), (1000003, 0), (1000004, 0), (1000005, 0)]⟩)), ((1000006, 0), .box (.own .shr) (.list I)), ((1000007, 0), .box .shr .bool)], []⟩
abbrev impl_maps_1_va0a1a2a3a4a5_bsfimpl_FirstMap_1_67b1bsbsfimpl_maps_1_012345b1bs_E : Ve.End := ⟨[⟨8, .shr, .bool, none⟩], [.box .shr (.prod I (.list (.prod I I))), .fbox (some ⟨71, [(1000006, 0), (1000007, 0)]⟩), .box (.own .shr) (.list I), .box .shr (.prod I (.list (.prod I I))), .box .shr .bool, .fbox (some ⟨110, [(1000000, 0), (1000001, 0), (1000002, 0), (1000003, 0), (1000004, 0), (1000005, 0)]⟩), .box (.own .shr) (.list I), .box .shr .bool]⟩
abbrev impl_maps_1_va0a1a2a3a4a5_bsfimpl_FirstMap_1_67b1bsbsfimpl_maps_1_012345b1bs_a : List ASh := [.val I, .adr 0, .adr 1, .adr 2, .adr 3, .adr 4, .adr 5]
abbrev impl_maps_1_va0a1a2a3a4a5_bsfimpl_FirstMap_1_67b1bsbsfimpl_maps_1_012345b1bs_o : List OSh := [.box .shr (.prod I (.list (.prod I I))), .fbox (some ⟨71, [(1000006, 0), (1000007, 0)]⟩), .box (.own .shr) (.list I), .box .shr (.prod I (.list (.prod I I))), .box .shr .bool, .fbox (some ⟨110, [(1000000, 0), (1000001, 0), (1000002, 0), (1000003, 0), (1000004, 0), (1000005, 0)]⟩), .box (.own .shr) (.list I), .box .shr .bool]
abbrev impl_maps_1_va0a1a2a3a4a5_bsfimpl_FirstMap_1_67b1bsbsfimpl_maps_1_012345b1bs_O0 : Out := .or .ret impl_maps_1_va0a1a2a3a4a5_bsfimpl_FirstMap_1_67b1bsbsfimpl_maps_1_012345b1bs_J1 (.one (.ex 0) impl_maps_1_va0a1a2a3a4a5_bsfimpl_FirstMap_1_67b1bsbsfimpl_maps_1_012345b1bs_J2)
noncomputable def impl_maps_1_va0a1a2a3a4a5_bsfimpl_FirstMap_1_67b1bsbsfimpl_maps_1_012345b1bs_B0 (rc : argP impl_maps_1_va0a1a2a3a4a5_bsfimpl_FirstMap_1_67b1bsbsfimpl_maps_1_012345b1bs_a → obP (extObs 0 impl_maps_1_va0a1a2a3a4a5_bsfimpl_FirstMap_1_67b1bsbsfimpl_maps_1_012345b1bs_o) → Option impl_maps_1_va0a1a2a3a4a5_bsfimpl_FirstMap_1_67b1bsbsfimpl_maps_1_012345b1bs_E.P) : impl_maps_1_va0a1a2a3a4a5_bsfimpl_FirstMap_1_67b1bsbsfimpl_maps_1_012345b1bs_J0.P → Option (impl_maps_1_va0a1a2a3a4a5_bsfimpl_FirstMap_1_67b1bsbsfimpl_maps_1_012345b1bs_J0.P ⊕ impl_maps_1_va0a1a2a3a4a5_bsfimpl_FirstMap_1_67b1bsbsfimpl_maps_1_012345b1bs_O0.P)
  | ((t19, t20, ()), (o0, o2, o3, o4, x, o6, o7, ())) => bif (decide (t20 < t19)) then (guardB (inb x (List.length o2)) (match impl_Graph_neighbors (o0, x, ()) () with | some ((r, ()), ()) => (match slices_ContainsFunc_int_int_vf_impl_maps_1_1_01234__bsbsbsb1bs (r, ()) (x, o3, t20, (List.set o2 (Int.toNat x) t20), o4, ()) with | some ((r2, ()), (o, o5, o8, o9, o10, ())) => (bif (!r2) then (match rc ((w64 (o + (1 : Int))), ()) (o0, o9, o5, o10, o6, o7, ()) with | some ((r3, ()), (o11, o12, o13, o14, o15, o16, ())) => (bif (!r3) then (some (.inr (.inl ((false, ()), (o11, o12, o13, o14, o15, o16, ()))))) else (some (.inl ((t19, (w64 (t20 + (1 : Int))), ()), (o11, o12, o13, o14, o, o15, o16, ()))))) | none => none) else (some (.inl ((t19, (w64 (t20 + (1 : Int))), ()), (o0, o9, o5, o10, o, o6, o7, ()))))) | none => none) | none => none)) else (some (.inr (.inr ((), (o0, o2, o3, o4, o6, o7, ())))))
noncomputable def impl_maps_1_va0a1a2a3a4a5_bsfimpl_FirstMap_1_67b1bsbsfimpl_maps_1_012345b1bs_F (rc : argP impl_maps_1_va0a1a2a3a4a5_bsfimpl_FirstMap_1_67b1bsbsfimpl_maps_1_012345b1bs_a → obP (extObs 0 impl_maps_1_va0a1a2a3a4a5_bsfimpl_FirstMap_1_67b1bsbsfimpl_maps_1_012345b1bs_o) → Option impl_maps_1_va0a1a2a3a4a5_bsfimpl_FirstMap_1_67b1bsbsfimpl_maps_1_012345b1bs_E.P) : argP impl_maps_1_va0a1a2a3a4a5_bsfimpl_FirstMap_1_67b1bsbsfimpl_maps_1_012345b1bs_a → obP (extObs 0 impl_maps_1_va0a1a2a3a4a5_bsfimpl_FirstMap_1_67b1bsbsfimpl_maps_1_012345b1bs_o) → Option impl_maps_1_va0a1a2a3a4a5_bsfimpl_FirstMap_1_67b1bsbsfimpl_maps_1_012345b1bs_E.P
  | (x, ()), (o0, o2, o3, o4, o6, o7, ()) => bif (x == o0.1) then (match impl_FirstMap_1_va0a1_b1bs (o2, ()) (o6, o7, ()) with | some ((r, ()), (o, o5, ())) => some ((r, ()), (o0, o2, o3, o4, o, o5, ())) | none => none) else (match loopO (impl_maps_1_va0a1a2a3a4a5_bsfimpl_FirstMap_1_67b1bsbsfimpl_maps_1_012345b1bs_B0 rc) ((o3.1, (0 : Int), ()), (o0, o2, o3, o4, x, o6, o7, ())) with | some (.inl ((t8, ()), (o0_2, o2_2, o3_2, o4_2, o6_2, o7_2, ()))) => some ((t8, ()), (o0_2, o2_2, o3_2, o4_2, o6_2, o7_2, ())) | some (.inr ((), (o0_3, o2_3, o3_3, o4_3, o6_3, o7_3, ()))) => some ((true, ()), (o0_3, o2_3, o3_3, o4_3, o6_3, o7_3, ())) | none => none)
noncomputable def impl_maps_1_va0a1a2a3a4a5_bsfimpl_FirstMap_1_67b1bsbsfimpl_maps_1_012345b1bs : argP impl_maps_1_va0a1a2a3a4a5_bsfimpl_FirstMap_1_67b1bsbsfimpl_maps_1_012345b1bs_a → obP (extObs 0 impl_maps_1_va0a1a2a3a4a5_bsfimpl_FirstMap_1_67b1bsbsfimpl_maps_1_012345b1bs_o) → Option impl_maps_1_va0a1a2a3a4a5_bsfimpl_FirstMap_1_67b1bsbsfimpl_maps_1_012345b1bs_E.P := fuelF impl_maps_1_va0a1a2a3a4a5_bsfimpl_FirstMap_1_67b1bsbsfimpl_maps_1_012345b1bs_F 1000
noncomputable def impl_maps_1_va0a1a2a3a4a5_bsfimpl_FirstMap_1_67b1bsbsfimpl_maps_1_012345b1bs_x (rc : argP impl_maps_1_va0a1a2a3a4a5_bsfimpl_FirstMap_1_67b1bsbsfimpl_maps_1_012345b1bs_a → obP (extObs 0 impl_maps_1_va0a1a2a3a4a5_bsfimpl_FirstMap_1_67b1bsbsfimpl_maps_1_012345b1bs_o) → Option impl_maps_1_va0a1a2a3a4a5_bsfimpl_FirstMap_1_67b1bsbsfimpl_maps_1_012345b1bs_E.P) : Cx := ⟨tab, more slices_ContainsFunc_int_int_vf_impl_maps_1_1_01234__bsbsbsb1bs_e ⟨110, impl_maps_1_va0a1a2a3a4a5_bsfimpl_FirstMap_1_67b1bsbsfimpl_maps_1_012345b1bs_a, impl_maps_1_va0a1a2a3a4a5_bsfimpl_FirstMap_1_67b1bsbsfimpl_maps_1_012345b1bs_o, impl_maps_1_va0a1a2a3a4a5_bsfimpl_FirstMap_1_67b1bsbsfimpl_maps_1_012345b1bs_E, rc⟩, fun f n => bif Nat.beq f 71 && Nat.beq n 1 then 1 else bif Nat.beq f 71 && Nat.beq n 2 then 1 else bif Nat.beq f 110 && Nat.beq n 1 then 1 else bif Nat.beq f 110 && Nat.beq n 2 then 1 else bif Nat.beq f 110 && Nat.beq n 3 then 1 else bif Nat.beq f 110 && Nat.beq n 4 then 1 else bif Nat.beq f 110 && Nat.beq n 5 then 1 else bif Nat.beq f 110 && Nat.beq n 6 then 1 else 0, fun _ => false, [(17, 0), (17, 1), (17, 2), (17, 3), (29, 0), (29, 1), (29, 2), (29, 3), (31, 0), (31, 1), (31, 2), (31, 3), (38, 0), (38, 1), (38, 2), (38, 3)], []⟩
noncomputable def c110 : Code := bodyOf Try.f110
noncomputable def impl_maps_1_va0a1a2a3a4a5_bsfimpl_FirstMap_1_67b1bsbsfimpl_maps_1_012345b1bs_A (rc : argP impl_maps_1_va0a1a2a3a4a5_bsfimpl_FirstMap_1_67b1bsbsfimpl_maps_1_012345b1bs_a → obP (extObs 0 impl_maps_1_va0a1a2a3a4a5_bsfimpl_FirstMap_1_67b1bsbsfimpl_maps_1_012345b1bs_o) → Option impl_maps_1_va0a1a2a3a4a5_bsfimpl_FirstMap_1_67b1bsbsfimpl_maps_1_012345b1bs_E.P) : Ann := .seq .nil (.seq .nil (.seq (.seq .nil (.loop impl_maps_1_va0a1a2a3a4a5_bsfimpl_FirstMap_1_67b1bsbsfimpl_maps_1_012345b1bs_J0 impl_maps_1_va0a1a2a3a4a5_bsfimpl_FirstMap_1_67b1bsbsfimpl_maps_1_012345b1bs_O0 (impl_maps_1_va0a1a2a3a4a5_bsfimpl_FirstMap_1_67b1bsbsfimpl_maps_1_012345b1bs_B0 rc) .nil)) .nil))
theorem impl_maps_1_va0a1a2a3a4a5_bsfimpl_FirstMap_1_67b1bsbsfimpl_maps_1_012345b1bs_r0 (rc : argP impl_maps_1_va0a1a2a3a4a5_bsfimpl_FirstMap_1_67b1bsbsfimpl_maps_1_012345b1bs_a → obP (extObs 0 impl_maps_1_va0a1a2a3a4a5_bsfimpl_FirstMap_1_67b1bsbsfimpl_maps_1_012345b1bs_o) → Option impl_maps_1_va0a1a2a3a4a5_bsfimpl_FirstMap_1_67b1bsbsfimpl_maps_1_012345b1bs_E.P) (p : impl_maps_1_va0a1a2a3a4a5_bsfimpl_FirstMap_1_67b1bsbsfimpl_maps_1_012345b1bs_J0.P) : run (impl_maps_1_va0a1a2a3a4a5_bsfimpl_FirstMap_1_67b1bsbsfimpl_maps_1_012345b1bs_x rc) (subc [1, 1, 0, 1, 0, 0] c110) .nil (impl_maps_1_va0a1a2a3a4a5_bsfimpl_FirstMap_1_67b1bsbsfimpl_maps_1_012345b1bs_J0.S p) (leaf impl_maps_1_va0a1a2a3a4a5_bsfimpl_FirstMap_1_67b1bsbsfimpl_maps_1_012345b1bs_J0 impl_maps_1_va0a1a2a3a4a5_bsfimpl_FirstMap_1_67b1bsbsfimpl_maps_1_012345b1bs_O0) = (impl_maps_1_va0a1a2a3a4a5_bsfimpl_FirstMap_1_67b1bsbsfimpl_maps_1_012345b1bs_B0 rc) p := by kernel_rfl
noncomputable def impl_maps_1_va0a1a2a3a4a5_bsfimpl_FirstMap_1_67b1bsbsfimpl_maps_1_012345b1bs_D : Ve.Fn := ⟨110, impl_maps_1_va0a1a2a3a4a5_bsfimpl_FirstMap_1_67b1bsbsfimpl_maps_1_012345b1bs_a, impl_maps_1_va0a1a2a3a4a5_bsfimpl_FirstMap_1_67b1bsbsfimpl_maps_1_012345b1bs_o, impl_maps_1_va0a1a2a3a4a5_bsfimpl_FirstMap_1_67b1bsbsfimpl_maps_1_012345b1bs_E, impl_maps_1_va0a1a2a3a4a5_bsfimpl_FirstMap_1_67b1bsbsfimpl_maps_1_012345b1bs⟩
theorem impl_maps_1_va0a1a2a3a4a5_bsfimpl_FirstMap_1_67b1bsbsfimpl_maps_1_012345b1bs_w (rc : argP impl_maps_1_va0a1a2a3a4a5_bsfimpl_FirstMap_1_67b1bsbsfimpl_maps_1_012345b1bs_a → obP (extObs 0 impl_maps_1_va0a1a2a3a4a5_bsfimpl_FirstMap_1_67b1bsbsfimpl_maps_1_012345b1bs_o) → Option impl_maps_1_va0a1a2a3a4a5_bsfimpl_FirstMap_1_67b1bsbsfimpl_maps_1_012345b1bs_E.P) : Walk Try.prog (impl_maps_1_va0a1a2a3a4a5_bsfimpl_FirstMap_1_67b1bsbsfimpl_maps_1_012345b1bs_x rc) ⟨110, impl_maps_1_va0a1a2a3a4a5_bsfimpl_FirstMap_1_67b1bsbsfimpl_maps_1_012345b1bs_a, impl_maps_1_va0a1a2a3a4a5_bsfimpl_FirstMap_1_67b1bsbsfimpl_maps_1_012345b1bs_o, impl_maps_1_va0a1a2a3a4a5_bsfimpl_FirstMap_1_67b1bsbsfimpl_maps_1_012345b1bs_E, impl_maps_1_va0a1a2a3a4a5_bsfimpl_FirstMap_1_67b1bsbsfimpl_maps_1_012345b1bs_F rc⟩ Try.f110 c110 42 (impl_maps_1_va0a1a2a3a4a5_bsfimpl_FirstMap_1_67b1bsbsfimpl_maps_1_012345b1bs_A rc) :=
  ⟨⟨Try.func110, by kernel_rfl, by kernel_rfl, by kernel_rfl, by decide, by kernel_rfl, Nat.le_of_ble_eq_true (by kernel_rfl)⟩, by kernel_rfl, by kernel_rfl, by kernel_rfl, kcast (by kernel_rfl) (⟨(impl_maps_1_va0a1a2a3a4a5_bsfimpl_FirstMap_1_67b1bsbsfimpl_maps_1_012345b1bs_r0 rc), trivial⟩ : (∀ p, run (impl_maps_1_va0a1a2a3a4a5_bsfimpl_FirstMap_1_67b1bsbsfimpl_maps_1_012345b1bs_x rc) (subc [1, 1, 0, 1, 0, 0] c110) .nil (impl_maps_1_va0a1a2a3a4a5_bsfimpl_FirstMap_1_67b1bsbsfimpl_maps_1_012345b1bs_J0.S p) (leaf impl_maps_1_va0a1a2a3a4a5_bsfimpl_FirstMap_1_67b1bsbsfimpl_maps_1_012345b1bs_J0 impl_maps_1_va0a1a2a3a4a5_bsfimpl_FirstMap_1_67b1bsbsfimpl_maps_1_012345b1bs_O0) = (impl_maps_1_va0a1a2a3a4a5_bsfimpl_FirstMap_1_67b1bsbsfimpl_maps_1_012345b1bs_B0 rc) p) ∧ True), by kernel_rfl, fun x y => by kernel_rfl⟩
theorem impl_maps_1_va0a1a2a3a4a5_bsfimpl_FirstMap_1_67b1bsbsfimpl_maps_1_012345b1bs_s : impl_maps_1_va0a1a2a3a4a5_bsfimpl_FirstMap_1_67b1bsbsfimpl_maps_1_012345b1bs_D.Says Try.prog := fuel_says (fun rc h => (impl_maps_1_va0a1a2a3a4a5_bsfimpl_FirstMap_1_67b1bsbsfimpl_maps_1_012345b1bs_w rc).says follows tabOk (more_ok slices_ContainsFunc_int_int_vf_impl_maps_1_1_01234__bsbsbsb1bs_e_ok h)) 1000
noncomputable def impl_maps_1_va0a1a2a3a4a5_bsfimpl_FirstMap_1_67b1bsbsfimpl_maps_1_012345b1bs_e : Env := more slices_ContainsFunc_int_int_vf_impl_maps_1_1_01234__bsbsbsb1bs_e impl_maps_1_va0a1a2a3a4a5_bsfimpl_FirstMap_1_67b1bsbsfimpl_maps_1_012345b1bs_D
theorem impl_maps_1_va0a1a2a3a4a5_bsfimpl_FirstMap_1_67b1bsbsfimpl_maps_1_012345b1bs_e_ok : EnvOk Try.prog impl_maps_1_va0a1a2a3a4a5_bsfimpl_FirstMap_1_67b1bsbsfimpl_maps_1_012345b1bs_e := more_ok slices_ContainsFunc_int_int_vf_impl_maps_1_1_01234__bsbsbsb1bs_e_ok impl_maps_1_va0a1a2a3a4a5_bsfimpl_FirstMap_1_67b1bsbsfimpl_maps_1_012345b1bs_s
/-! loop.example/g01128/impl.maps -/
abbrev impl_maps_vvvf_impl_FirstMap_1_01__b1bs_E : Ve.End := ⟨[], [.box (.own .shr) (.list I), .box .shr .bool]⟩
abbrev impl_maps_vvvf_impl_FirstMap_1_01__b1bs_a : List ASh := [.val (.prod I (.list (.prod I I))), .val (.prod I (.list (.prod I I))), .val .bool, .fn 71 [0, 1]]
abbrev impl_maps_vvvf_impl_FirstMap_1_01__b1bs_o : List OSh := [.box (.own .shr) (.list I), .box .shr .bool]
noncomputable def impl_maps_vvvf_impl_FirstMap_1_01__b1bs : argP impl_maps_vvvf_impl_FirstMap_1_01__b1bs_a → obP (extObs 0 impl_maps_vvvf_impl_FirstMap_1_01__b1bs_o) → Option impl_maps_vvvf_impl_FirstMap_1_01__b1bs_E.P
  | (g, h, lazy, ()), (o0, o1, ()) => guardB (decide (0 ≤ g.1) && decide (g.1 ≤ g.1) && decide (g.1 * 8 ≤ 140737488355328)) (match impl_maps_1_va0a1a2a3a4a5_bsfimpl_FirstMap_1_67b1bsbsfimpl_maps_1_012345b1bs ((0 : Int), ()) (g, (List.replicate (Int.toNat g.1) (0 : Int)), h, lazy, o0, o1, ()) with | some ((r, ()), (o, o2, o3, o4, o5, o6, ())) => some ((), (o5, o6, ())) | none => none)
noncomputable def impl_maps_vvvf_impl_FirstMap_1_01__b1bs_x : Cx := ⟨tab, impl_maps_1_va0a1a2a3a4a5_bsfimpl_FirstMap_1_67b1bsbsfimpl_maps_1_012345b1bs_e, fun f n => bif Nat.beq f 110 && Nat.beq n 1 then 1 else bif Nat.beq f 110 && Nat.beq n 2 then 1 else bif Nat.beq f 110 && Nat.beq n 3 then 1 else bif Nat.beq f 110 && Nat.beq n 4 then 1 else bif Nat.beq f 110 && Nat.beq n 5 then 1 else bif Nat.beq f 110 && Nat.beq n 6 then 1 else 0, fun _ => false, [(15, 0), (15, 1), (15, 2), (15, 3)], []⟩
noncomputable def c63 : Code := bodyOf Try.f63
noncomputable def impl_maps_vvvf_impl_FirstMap_1_01__b1bs_A : Ann := .nil
noncomputable def impl_maps_vvvf_impl_FirstMap_1_01__b1bs_D : Ve.Fn := ⟨63, impl_maps_vvvf_impl_FirstMap_1_01__b1bs_a, impl_maps_vvvf_impl_FirstMap_1_01__b1bs_o, impl_maps_vvvf_impl_FirstMap_1_01__b1bs_E, impl_maps_vvvf_impl_FirstMap_1_01__b1bs⟩
theorem impl_maps_vvvf_impl_FirstMap_1_01__b1bs_w : Walk Try.prog impl_maps_vvvf_impl_FirstMap_1_01__b1bs_x impl_maps_vvvf_impl_FirstMap_1_01__b1bs_D Try.f63 c63 16 impl_maps_vvvf_impl_FirstMap_1_01__b1bs_A :=
  ⟨⟨Try.func63, by kernel_rfl, by kernel_rfl, by kernel_rfl, by decide, by kernel_rfl, Nat.le_of_ble_eq_true (by kernel_rfl)⟩, by kernel_rfl, by kernel_rfl, by kernel_rfl, kcast (by kernel_rfl) trivial, by kernel_rfl, fun x y => by kernel_rfl⟩
theorem impl_maps_vvvf_impl_FirstMap_1_01__b1bs_s : impl_maps_vvvf_impl_FirstMap_1_01__b1bs_D.Says Try.prog := impl_maps_vvvf_impl_FirstMap_1_01__b1bs_w.says follows tabOk impl_maps_1_va0a1a2a3a4a5_bsfimpl_FirstMap_1_67b1bsbsfimpl_maps_1_012345b1bs_e_ok
noncomputable def impl_maps_vvvf_impl_FirstMap_1_01__b1bs_e : Env := more impl_maps_1_va0a1a2a3a4a5_bsfimpl_FirstMap_1_67b1bsbsfimpl_maps_1_012345b1bs_e impl_maps_vvvf_impl_FirstMap_1_01__b1bs_D
theorem impl_maps_vvvf_impl_FirstMap_1_01__b1bs_e_ok : EnvOk Try.prog impl_maps_vvvf_impl_FirstMap_1_01__b1bs_e := more_ok impl_maps_1_va0a1a2a3a4a5_bsfimpl_FirstMap_1_67b1bsbsfimpl_maps_1_012345b1bs_e_ok impl_maps_vvvf_impl_FirstMap_1_01__b1bs_s
/-! loop.example/g01128/impl.FirstMap -/
abbrev impl_FirstMap_E : Ve.End := ⟨[⟨6, (.own .shr), (.list I), none⟩, ⟨7, .shr, .bool, none⟩], []⟩
abbrev impl_FirstMap_a : List ASh := [.val (.prod I (.list (.prod I I))), .val (.prod I (.list (.prod I I))), .val .bool]
abbrev impl_FirstMap_o : List OSh := []
noncomputable def impl_FirstMap : argP impl_FirstMap_a → obP (extObs 0 impl_FirstMap_o) → Option impl_FirstMap_E.P
  | (g, h, lazy, ()), () => match impl_isMapCase (g, h, ()) () with | some ((r, ()), ()) => (bif (!r) then (some ((([] : (List Int)), false, ()), ())) else (match impl_maps_vvvf_impl_FirstMap_1_01__b1bs (g, h, lazy, ()) (([] : (List Int)), false, ()) with | some ((), (o, o2, ())) => some ((o, o2, ()), ()) | none => none)) | none => none
noncomputable def impl_FirstMap_x : Cx := ⟨tab, impl_maps_vvvf_impl_FirstMap_1_01__b1bs_e, fun _ _ => 0, fun _ => false, [(12, 0), (12, 1), (12, 2), (12, 3), (18, 0), (18, 1), (18, 2), (18, 3)], [(3, 0), (4, 0)]⟩
noncomputable def c37 : Code := bodyOf Try.f37
noncomputable def impl_FirstMap_A : Ann := .seq .nil (.seq .nil (.seq .nil (.seq .nil (.seq (.draw [(0, .qui), (2, .flo), (1, .qui), (3, .flo)]) .nil))))
noncomputable def impl_FirstMap_D : Ve.Fn := ⟨37, impl_FirstMap_a, impl_FirstMap_o, impl_FirstMap_E, impl_FirstMap⟩
theorem impl_FirstMap_w : Walk Try.prog impl_FirstMap_x impl_FirstMap_D Try.f37 c37 21 impl_FirstMap_A :=
  ⟨⟨Try.func37, by kernel_rfl, by kernel_rfl, by kernel_rfl, by decide, by kernel_rfl, Nat.le_of_ble_eq_true (by kernel_rfl)⟩, by kernel_rfl, by kernel_rfl, by kernel_rfl, kcast (by kernel_rfl) trivial, by kernel_rfl, fun x y => by kernel_rfl⟩
theorem impl_FirstMap_s : impl_FirstMap_D.Says Try.prog := impl_FirstMap_w.says follows tabOk impl_maps_vvvf_impl_FirstMap_1_01__b1bs_e_ok
noncomputable def impl_FirstMap_e : Env := more impl_maps_vvvf_impl_FirstMap_1_01__b1bs_e impl_FirstMap_D
theorem impl_FirstMap_e_ok : EnvOk Try.prog impl_FirstMap_e := more_ok impl_maps_vvvf_impl_FirstMap_1_01__b1bs_e_ok impl_FirstMap_s
/-! loop.example/g01128/laws.eqIntS -/
abbrev laws_eqIntS_J0 : Tpl := ⟨[(0, .val (.list I)), (1, .val (.list I)), (5, .val I)], [], []⟩
abbrev laws_eqIntS_J1 : Tpl := ⟨[(4, .val .bool)], [], []⟩
abbrev laws_eqIntS_J2 : Tpl := ⟨[], [], []⟩
abbrev laws_eqIntS_E : Ve.End := ⟨[⟨4, .shr, .bool, none⟩], []⟩
abbrev laws_eqIntS_a : List ASh := [.val (.list I), .val (.list I)]
abbrev laws_eqIntS_o : List OSh := []
abbrev laws_eqIntS_O0 : Out := .or .ret laws_eqIntS_J1 (.one (.ex 0) laws_eqIntS_J2)
noncomputable def laws_eqIntS_B0 : laws_eqIntS_J0.P → Option (laws_eqIntS_J0.P ⊕ laws_eqIntS_O0.P)
  | ((a, b, i, ()), ()) => bif (decide (i < (List.length a : Int))) then (guardB (inb i (List.length a)) (guardB (inb i (List.length b)) (bif ((List.getD a (Int.toNat i) (0 : Int)) != (List.getD b (Int.toNat i) (0 : Int))) then (some (.inr (.inl ((false, ()), ())))) else (some (.inl ((a, b, (w64 (i + (1 : Int))), ()), ())))))) else (some (.inr (.inr ((), ()))))
noncomputable def laws_eqIntS : argP laws_eqIntS_a → obP (extObs 0 laws_eqIntS_o) → Option laws_eqIntS_E.P
  | (a, b, ()), () => bif ((List.length a : Int) != (List.length b : Int)) then (some ((false, ()), ())) else (match loopO laws_eqIntS_B0 ((a, b, (0 : Int), ()), ()) with | some (.inl ((t4, ()), ())) => some ((t4, ()), ()) | some (.inr ((), ())) => some ((true, ()), ()) | none => none)
noncomputable def laws_eqIntS_x : Cx := ⟨tab, impl_FirstMap_e, fun _ _ => 0, fun _ => false, [], []⟩
noncomputable def c21 : Code := bodyOf Try.f21
noncomputable def laws_eqIntS_A : Ann := .seq .nil (.seq .nil (.seq (.seq .nil (.loop laws_eqIntS_J0 laws_eqIntS_O0 laws_eqIntS_B0 (.seq .nil (.seq (.seq (.draw [(0, .flo), (1, .flo), (2, .flo), (3, .flo), (4, .flo), (5, .flo), (6, .flo), (7, .flo), (8, .flo)]) .nil) .nil)))) .nil))
theorem laws_eqIntS_r0 (p : laws_eqIntS_J0.P) : run laws_eqIntS_x (subc [1, 1, 0, 1, 0, 0] c21) (.seq .nil (.seq (.seq (.draw [(0, .flo), (1, .flo), (2, .flo), (3, .flo), (4, .flo), (5, .flo), (6, .flo), (7, .flo), (8, .flo)]) .nil) .nil)) (laws_eqIntS_J0.S p) (leaf laws_eqIntS_J0 laws_eqIntS_O0) = laws_eqIntS_B0 p := by kernel_rfl
noncomputable def laws_eqIntS_D : Ve.Fn := ⟨21, laws_eqIntS_a, laws_eqIntS_o, laws_eqIntS_E, laws_eqIntS⟩
theorem laws_eqIntS_w : Walk Try.prog laws_eqIntS_x laws_eqIntS_D Try.f21 c21 26 laws_eqIntS_A :=
  ⟨⟨Try.func21, by kernel_rfl, by kernel_rfl, by kernel_rfl, by decide, by kernel_rfl, Nat.le_of_ble_eq_true (by kernel_rfl)⟩, by kernel_rfl, by kernel_rfl, by kernel_rfl, kcast (by kernel_rfl) (⟨laws_eqIntS_r0, trivial⟩ : (∀ p, run laws_eqIntS_x (subc [1, 1, 0, 1, 0, 0] c21) (.seq .nil (.seq (.seq (.draw [(0, .flo), (1, .flo), (2, .flo), (3, .flo), (4, .flo), (5, .flo), (6, .flo), (7, .flo), (8, .flo)]) .nil) .nil)) (laws_eqIntS_J0.S p) (leaf laws_eqIntS_J0 laws_eqIntS_O0) = laws_eqIntS_B0 p) ∧ True), by kernel_rfl, fun x y => by kernel_rfl⟩
theorem laws_eqIntS_s : laws_eqIntS_D.Says Try.prog := laws_eqIntS_w.says follows tabOk impl_FirstMap_e_ok
noncomputable def laws_eqIntS_e : Env := more impl_FirstMap_e laws_eqIntS_D
theorem laws_eqIntS_e_ok : EnvOk Try.prog laws_eqIntS_e := more_ok impl_FirstMap_e_ok laws_eqIntS_s
/-! loop.example/g01128/laws.eqIntA2 -/
abbrev laws_eqIntA2_J0 : Tpl := ⟨[(2, .cst (.prod I I)), (3, .cst (.prod I I)), (5, .val I)], [], []⟩
abbrev laws_eqIntA2_J1 : Tpl := ⟨[(4, .val .bool)], [], []⟩
abbrev laws_eqIntA2_J2 : Tpl := ⟨[], [], []⟩
abbrev laws_eqIntA2_E : Ve.End := ⟨[⟨4, .shr, .bool, none⟩], []⟩
abbrev laws_eqIntA2_a : List ASh := [.val (.prod I I), .val (.prod I I)]
abbrev laws_eqIntA2_o : List OSh := []
abbrev laws_eqIntA2_O0 : Out := .or .ret laws_eqIntA2_J1 (.one (.ex 0) laws_eqIntA2_J2)
noncomputable def laws_eqIntA2_B0 : laws_eqIntA2_J0.P → Option (laws_eqIntA2_J0.P ⊕ laws_eqIntA2_O0.P)
  | ((a, b, i, ()), ()) => bif (decide (i < (2 : Int))) then (guardB (decide (0 ≤ i) && decide (i < 2)) (guardB (decide (0 ≤ i) && decide (i < 2)) (bif ((bif Nat.beq (Int.toNat i) 0 then a.1 else a.2) != (bif Nat.beq (Int.toNat i) 0 then b.1 else b.2)) then (some (.inr (.inl ((false, ()), ())))) else (some (.inl ((a, b, (w64 (i + (1 : Int))), ()), ())))))) else (some (.inr (.inr ((), ()))))
noncomputable def laws_eqIntA2 : argP laws_eqIntA2_a → obP (extObs 0 laws_eqIntA2_o) → Option laws_eqIntA2_E.P
  | (a, b, ()), () => match loopO laws_eqIntA2_B0 ((a, b, (0 : Int), ()), ()) with | some (.inl ((t4, ()), ())) => some ((t4, ()), ()) | some (.inr ((), ())) => some ((true, ()), ()) | none => none
noncomputable def laws_eqIntA2_x : Cx := ⟨tab, laws_eqIntS_e, fun _ _ => 0, fun _ => false, [], [(2, 0), (3, 0)]⟩
noncomputable def c69 : Code := bodyOf Try.f69
noncomputable def laws_eqIntA2_A : Ann := .seq .nil (.seq (.seq .nil (.loop laws_eqIntA2_J0 laws_eqIntA2_O0 laws_eqIntA2_B0 (.seq .nil (.seq (.seq (.draw [(0, .flo), (1, .flo), (2, .flo), (3, .flo), (4, .flo), (5, .flo), (6, .flo)]) .nil) .nil)))) .nil)
theorem laws_eqIntA2_r0 (p : laws_eqIntA2_J0.P) : run laws_eqIntA2_x (subc [1, 0, 1, 0, 0] c69) (.seq .nil (.seq (.seq (.draw [(0, .flo), (1, .flo), (2, .flo), (3, .flo), (4, .flo), (5, .flo), (6, .flo)]) .nil) .nil)) (laws_eqIntA2_J0.S p) (leaf laws_eqIntA2_J0 laws_eqIntA2_O0) = laws_eqIntA2_B0 p := by kernel_rfl
noncomputable def laws_eqIntA2_D : Ve.Fn := ⟨69, laws_eqIntA2_a, laws_eqIntA2_o, laws_eqIntA2_E, laws_eqIntA2⟩
theorem laws_eqIntA2_w : Walk Try.prog laws_eqIntA2_x laws_eqIntA2_D Try.f69 c69 17 laws_eqIntA2_A :=
  ⟨⟨Try.func69, by kernel_rfl, by kernel_rfl, by kernel_rfl, by decide, by kernel_rfl, Nat.le_of_ble_eq_true (by kernel_rfl)⟩, by kernel_rfl, by kernel_rfl, by kernel_rfl, kcast (by kernel_rfl) (⟨laws_eqIntA2_r0, trivial⟩ : (∀ p, run laws_eqIntA2_x (subc [1, 0, 1, 0, 0] c69) (.seq .nil (.seq (.seq (.draw [(0, .flo), (1, .flo), (2, .flo), (3, .flo), (4, .flo), (5, .flo), (6, .flo)]) .nil) .nil)) (laws_eqIntA2_J0.S p) (leaf laws_eqIntA2_J0 laws_eqIntA2_O0) = laws_eqIntA2_B0 p) ∧ True), by kernel_rfl, fun x y => by kernel_rfl⟩
theorem laws_eqIntA2_s : laws_eqIntA2_D.Says Try.prog := laws_eqIntA2_w.says follows tabOk laws_eqIntS_e_ok
noncomputable def laws_eqIntA2_e : Env := more laws_eqIntS_e laws_eqIntA2_D
theorem laws_eqIntA2_e_ok : EnvOk Try.prog laws_eqIntA2_e := more_ok laws_eqIntS_e_ok laws_eqIntA2_s
/-! loop.example/g01128/laws.eqIntA2S -/
abbrev laws_eqIntA2S_J0 : Tpl := ⟨[(0, .val (.list (.prod I I))), (1, .val (.list (.prod I I))), (5, .val I)], [], []⟩
abbrev laws_eqIntA2S_J1 : Tpl := ⟨[(4, .val .bool)], [], []⟩
abbrev laws_eqIntA2S_J2 : Tpl := ⟨[], [], []⟩
abbrev laws_eqIntA2S_E : Ve.End := ⟨[⟨4, .shr, .bool, none⟩], []⟩
abbrev laws_eqIntA2S_a : List ASh := [.val (.list (.prod I I)), .val (.list (.prod I I))]
abbrev laws_eqIntA2S_o : List OSh := []
abbrev laws_eqIntA2S_O0 : Out := .or .ret laws_eqIntA2S_J1 (.one (.ex 0) laws_eqIntA2S_J2)
noncomputable def laws_eqIntA2S_B0 : laws_eqIntA2S_J0.P → Option (laws_eqIntA2S_J0.P ⊕ laws_eqIntA2S_O0.P)
  | ((a, b, i, ()), ()) => bif (decide (i < (List.length a : Int))) then (guardB (inb i (List.length a)) (guardB (inb i (List.length b)) (match laws_eqIntA2 ((List.getD a (Int.toNat i) ((0 : Int), (0 : Int))), (List.getD b (Int.toNat i) ((0 : Int), (0 : Int))), ()) () with | some ((r, ()), ()) => (bif (!r) then (some (.inr (.inl ((false, ()), ())))) else (some (.inl ((a, b, (w64 (i + (1 : Int))), ()), ())))) | none => none))) else (some (.inr (.inr ((), ()))))
noncomputable def laws_eqIntA2S : argP laws_eqIntA2S_a → obP (extObs 0 laws_eqIntA2S_o) → Option laws_eqIntA2S_E.P
  | (a, b, ()), () => bif ((List.length a : Int) != (List.length b : Int)) then (some ((false, ()), ())) else (match loopO laws_eqIntA2S_B0 ((a, b, (0 : Int), ()), ()) with | some (.inl ((t4, ()), ())) => some ((t4, ()), ()) | some (.inr ((), ())) => some ((true, ()), ()) | none => none)
noncomputable def laws_eqIntA2S_x : Cx := ⟨tab, laws_eqIntA2_e, fun _ _ => 0, fun _ => false, [(25, 0), (25, 1), (25, 2), (25, 3)], []⟩
noncomputable def c33 : Code := bodyOf Try.f33
noncomputable def laws_eqIntA2S_A : Ann := .seq .nil (.seq .nil (.seq (.seq .nil (.loop laws_eqIntA2S_J0 laws_eqIntA2S_O0 laws_eqIntA2S_B0 (.seq .nil (.seq (.seq (.draw [(0, .flo), (1, .flo), (2, .flo), (3, .flo), (4, .flo), (5, .flo), (6, .flo), (7, .flo), (8, .sole), (9, .flo)]) .nil) .nil)))) .nil))
theorem laws_eqIntA2S_r0 (p : laws_eqIntA2S_J0.P) : run laws_eqIntA2S_x (subc [1, 1, 0, 1, 0, 0] c33) (.seq .nil (.seq (.seq (.draw [(0, .flo), (1, .flo), (2, .flo), (3, .flo), (4, .flo), (5, .flo), (6, .flo), (7, .flo), (8, .sole), (9, .flo)]) .nil) .nil)) (laws_eqIntA2S_J0.S p) (leaf laws_eqIntA2S_J0 laws_eqIntA2S_O0) = laws_eqIntA2S_B0 p := by kernel_rfl
noncomputable def laws_eqIntA2S_D : Ve.Fn := ⟨33, laws_eqIntA2S_a, laws_eqIntA2S_o, laws_eqIntA2S_E, laws_eqIntA2S⟩
theorem laws_eqIntA2S_w : Walk Try.prog laws_eqIntA2S_x laws_eqIntA2S_D Try.f33 c33 27 laws_eqIntA2S_A :=
  ⟨⟨Try.func33, by kernel_rfl, by kernel_rfl, by kernel_rfl, by decide, by kernel_rfl, Nat.le_of_ble_eq_true (by kernel_rfl)⟩, by kernel_rfl, by kernel_rfl, by kernel_rfl, kcast (by kernel_rfl) (⟨laws_eqIntA2S_r0, trivial⟩ : (∀ p, run laws_eqIntA2S_x (subc [1, 1, 0, 1, 0, 0] c33) (.seq .nil (.seq (.seq (.draw [(0, .flo), (1, .flo), (2, .flo), (3, .flo), (4, .flo), (5, .flo), (6, .flo), (7, .flo), (8, .sole), (9, .flo)]) .nil) .nil)) (laws_eqIntA2S_J0.S p) (leaf laws_eqIntA2S_J0 laws_eqIntA2S_O0) = laws_eqIntA2S_B0 p) ∧ True), by kernel_rfl, fun x y => by kernel_rfl⟩
theorem laws_eqIntA2S_s : laws_eqIntA2S_D.Says Try.prog := laws_eqIntA2S_w.says follows tabOk laws_eqIntA2_e_ok
noncomputable def laws_eqIntA2S_e : Env := more laws_eqIntA2_e laws_eqIntA2S_D
theorem laws_eqIntA2S_e_ok : EnvOk Try.prog laws_eqIntA2S_e := more_ok laws_eqIntA2_e_ok laws_eqIntA2S_s
/-! loop.example/g01128/laws.eqGraph -/
abbrev laws_eqGraph_E : Ve.End := ⟨[⟨4, .shr, .bool, none⟩], []⟩
abbrev laws_eqGraph_a : List ASh := [.val (.prod I (.list (.prod I I))), .val (.prod I (.list (.prod I I)))]
abbrev laws_eqGraph_o : List OSh := []
noncomputable def laws_eqGraph : argP laws_eqGraph_a → obP (extObs 0 laws_eqGraph_o) → Option laws_eqGraph_E.P
  | (a, b, ()), () => bif (a.1 != b.1) then (some ((false, ()), ())) else (match laws_eqIntA2S (a.2, b.2, ()) () with | some ((r, ()), ()) => (bif (!r) then (some ((false, ()), ())) else (some ((true, ()), ()))) | none => none)
noncomputable def laws_eqGraph_x : Cx := ⟨tab, laws_eqIntA2S_e, fun _ _ => 0, fun _ => false, [(14, 0), (14, 1), (14, 2), (14, 3)], [(2, 0), (3, 0)]⟩
noncomputable def c20 : Code := bodyOf Try.f20
noncomputable def laws_eqGraph_A : Ann := .nil
noncomputable def laws_eqGraph_D : Ve.Fn := ⟨20, laws_eqGraph_a, laws_eqGraph_o, laws_eqGraph_E, laws_eqGraph⟩
theorem laws_eqGraph_w : Walk Try.prog laws_eqGraph_x laws_eqGraph_D Try.f20 c20 16 laws_eqGraph_A :=
  ⟨⟨Try.func20, by kernel_rfl, by kernel_rfl, by kernel_rfl, by decide, by kernel_rfl, Nat.le_of_ble_eq_true (by kernel_rfl)⟩, by kernel_rfl, by kernel_rfl, by kernel_rfl, kcast (by kernel_rfl) trivial, by kernel_rfl, fun x y => by kernel_rfl⟩
theorem laws_eqGraph_s : laws_eqGraph_D.Says Try.prog := laws_eqGraph_w.says follows tabOk laws_eqIntA2S_e_ok
noncomputable def laws_eqGraph_e : Env := more laws_eqIntA2S_e laws_eqGraph_D
theorem laws_eqGraph_e_ok : EnvOk Try.prog laws_eqGraph_e := more_ok laws_eqIntA2S_e_ok laws_eqGraph_s
/-! loop.example/g01128/laws.markIntA2S -/
abbrev laws_markIntA2S_e0v_ls_J0 : Tpl := ⟨[(0, .same (1000000, 0) []), (1, .val I), (5, .val I), (6, .val I)], [((1000000, 0), .vec .shr (.prod I I))], []⟩
abbrev laws_markIntA2S_e0v_ls_J1 : Tpl := ⟨[(0, .same (1000000, 0) []), (1, .val I), (5, .val I)], [((1000000, 0), .vec .shr (.prod I I))], []⟩
abbrev laws_markIntA2S_e0v_ls_J2 : Tpl := ⟨[(1, .val I)], [((1000000, 0), .vec .shr (.prod I I))], []⟩
abbrev laws_markIntA2S_e0v_ls_E : Ve.End := ⟨[⟨4, .shr, I, none⟩], [.vec .shr (.prod I I)]⟩
abbrev laws_markIntA2S_e0v_ls_a : List ASh := [.ext 0, .val I]
abbrev laws_markIntA2S_e0v_ls_o : List OSh := [.vec .shr (.prod I I)]
abbrev laws_markIntA2S_e0v_ls_O0 : Out := .one (.ex 2) laws_markIntA2S_e0v_ls_J1
noncomputable def laws_markIntA2S_e0v_ls_B0 : laws_markIntA2S_e0v_ls_J0.P → Option (laws_markIntA2S_e0v_ls_J0.P ⊕ laws_markIntA2S_e0v_ls_O0.P)
  | ((k, i, j, ()), (o0, ())) => bif (decide (j < (2 : Int))) then (guardB (inb i (List.length o0)) (guardB (decide (0 ≤ j) && decide (j < 2)) (some (.inl (((w64 (k + (1 : Int))), i, (w64 (j + (1 : Int))), ()), ((List.set o0 (Int.toNat i) (bif Nat.beq (Int.toNat j) 0 then (k, (List.getD o0 (Int.toNat i) ((0 : Int), (0 : Int))).2) else ((List.getD o0 (Int.toNat i) ((0 : Int), (0 : Int))).1, k))), ())))))) else (some (.inr ((k, i, ()), (o0, ()))))
abbrev laws_markIntA2S_e0v_ls_O1 : Out := .one (.ex 0) laws_markIntA2S_e0v_ls_J2
noncomputable def laws_markIntA2S_e0v_ls_B1 : laws_markIntA2S_e0v_ls_J1.P → Option (laws_markIntA2S_e0v_ls_J1.P ⊕ laws_markIntA2S_e0v_ls_O1.P)
  | ((k, i, ()), (o0, ())) => bif (decide (i < (List.length o0 : Int))) then (match loopO laws_markIntA2S_e0v_ls_B0 ((k, i, (0 : Int), ()), (o0, ())) with | some ((k2, i2, ()), (o0_2, ())) => some (.inl ((k2, (w64 (i2 + (1 : Int))), ()), (o0_2, ()))) | none => none) else (some (.inr ((k, ()), (o0, ()))))
noncomputable def laws_markIntA2S_e0v_ls : argP laws_markIntA2S_e0v_ls_a → obP (extObs 0 laws_markIntA2S_e0v_ls_o) → Option laws_markIntA2S_e0v_ls_E.P
  | (k, ()), (o0, ()) => match loopO laws_markIntA2S_e0v_ls_B1 ((k, (0 : Int), ()), (o0, ())) with | some ((k2, ()), (o0_2, ())) => some ((k2, ()), (o0_2, ())) | none => none
noncomputable def laws_markIntA2S_e0v_ls_x : Cx := ⟨tab, laws_eqGraph_e, fun _ _ => 0, fun _ => false, [], []⟩
noncomputable def c34 : Code := bodyOf Try.f34
noncomputable def laws_markIntA2S_e0v_ls_A : Ann := .seq .nil (.seq (.seq .nil (.loop laws_markIntA2S_e0v_ls_J1 laws_markIntA2S_e0v_ls_O1 laws_markIntA2S_e0v_ls_B1 (.seq .nil (.seq (.seq .nil (.loop laws_markIntA2S_e0v_ls_J0 laws_markIntA2S_e0v_ls_O0 laws_markIntA2S_e0v_ls_B0 .nil)) .nil)))) .nil)
theorem laws_markIntA2S_e0v_ls_r0 (p : laws_markIntA2S_e0v_ls_J1.P) : run laws_markIntA2S_e0v_ls_x (subc [1, 0, 1, 0, 0] c34) (.seq .nil (.seq (.seq .nil (.loop laws_markIntA2S_e0v_ls_J0 laws_markIntA2S_e0v_ls_O0 laws_markIntA2S_e0v_ls_B0 .nil)) .nil)) (laws_markIntA2S_e0v_ls_J1.S p) (leaf laws_markIntA2S_e0v_ls_J1 laws_markIntA2S_e0v_ls_O1) = laws_markIntA2S_e0v_ls_B1 p := by kernel_rfl
theorem laws_markIntA2S_e0v_ls_r1 (p : laws_markIntA2S_e0v_ls_J0.P) : run laws_markIntA2S_e0v_ls_x (subc [1, 0, 1, 0, 0, 1, 0, 0, 1, 0, 0] c34) .nil (laws_markIntA2S_e0v_ls_J0.S p) (leaf laws_markIntA2S_e0v_ls_J0 laws_markIntA2S_e0v_ls_O0) = laws_markIntA2S_e0v_ls_B0 p := by kernel_rfl
noncomputable def laws_markIntA2S_e0v_ls_D : Ve.Fn := ⟨34, laws_markIntA2S_e0v_ls_a, laws_markIntA2S_e0v_ls_o, laws_markIntA2S_e0v_ls_E, laws_markIntA2S_e0v_ls⟩
theorem laws_markIntA2S_e0v_ls_w : Walk Try.prog laws_markIntA2S_e0v_ls_x laws_markIntA2S_e0v_ls_D Try.f34 c34 26 laws_markIntA2S_e0v_ls_A :=
  ⟨⟨Try.func34, by kernel_rfl, by kernel_rfl, by kernel_rfl, by decide, by kernel_rfl, Nat.le_of_ble_eq_true (by kernel_rfl)⟩, by kernel_rfl, by kernel_rfl, by kernel_rfl, kcast (by kernel_rfl) (⟨laws_markIntA2S_e0v_ls_r0, laws_markIntA2S_e0v_ls_r1, trivial⟩ : (∀ p, run laws_markIntA2S_e0v_ls_x (subc [1, 0, 1, 0, 0] c34) (.seq .nil (.seq (.seq .nil (.loop laws_markIntA2S_e0v_ls_J0 laws_markIntA2S_e0v_ls_O0 laws_markIntA2S_e0v_ls_B0 .nil)) .nil)) (laws_markIntA2S_e0v_ls_J1.S p) (leaf laws_markIntA2S_e0v_ls_J1 laws_markIntA2S_e0v_ls_O1) = laws_markIntA2S_e0v_ls_B1 p) ∧ (∀ p, run laws_markIntA2S_e0v_ls_x (subc [1, 0, 1, 0, 0, 1, 0, 0, 1, 0, 0] c34) .nil (laws_markIntA2S_e0v_ls_J0.S p) (leaf laws_markIntA2S_e0v_ls_J0 laws_markIntA2S_e0v_ls_O0) = laws_markIntA2S_e0v_ls_B0 p) ∧ True), by kernel_rfl, fun x y => by kernel_rfl⟩
theorem laws_markIntA2S_e0v_ls_s : laws_markIntA2S_e0v_ls_D.Says Try.prog := laws_markIntA2S_e0v_ls_w.says follows tabOk laws_eqGraph_e_ok
noncomputable def laws_markIntA2S_e0v_ls_e : Env := more laws_eqGraph_e laws_markIntA2S_e0v_ls_D
theorem laws_markIntA2S_e0v_ls_e_ok : EnvOk Try.prog laws_markIntA2S_e0v_ls_e := more_ok laws_eqGraph_e_ok laws_markIntA2S_e0v_ls_s
/-! loop.example/g01128/laws.markGraph -/
abbrev laws_markGraph_ops1v_E : Ve.End := ⟨[⟨4, .shr, I, none⟩], []⟩
abbrev laws_markGraph_ops1v_a : List ASh := [.own (.prod .shr (.own .shr)) (.prod I (.list (.prod I I))), .val I]
abbrev laws_markGraph_ops1v_o : List OSh := []
noncomputable def laws_markGraph_ops1v : argP laws_markGraph_ops1v_a → obP (extObs 0 laws_markGraph_ops1v_o) → Option laws_markGraph_ops1v_E.P
  | (a, k, ()), () => match laws_markIntA2S_e0v_ls (k, ()) (a.2, ()) with | some ((r, ()), (o, ())) => some ((r, ()), ()) | none => none
noncomputable def laws_markGraph_ops1v_x : Cx := ⟨tab, laws_markIntA2S_e0v_ls_e, fun f n => bif Nat.beq f 34 && Nat.beq n 0 then 1 else 0, fun _ => false, [(8, 0), (8, 1), (8, 2), (8, 3)], []⟩
noncomputable def c26 : Code := bodyOf Try.f26
noncomputable def laws_markGraph_ops1v_A : Ann := .nil
noncomputable def laws_markGraph_ops1v_D : Ve.Fn := ⟨26, laws_markGraph_ops1v_a, laws_markGraph_ops1v_o, laws_markGraph_ops1v_E, laws_markGraph_ops1v⟩
theorem laws_markGraph_ops1v_w : Walk Try.prog laws_markGraph_ops1v_x laws_markGraph_ops1v_D Try.f26 c26 10 laws_markGraph_ops1v_A :=
  ⟨⟨Try.func26, by kernel_rfl, by kernel_rfl, by kernel_rfl, by decide, by kernel_rfl, Nat.le_of_ble_eq_true (by kernel_rfl)⟩, by kernel_rfl, by kernel_rfl, by kernel_rfl, kcast (by kernel_rfl) trivial, by kernel_rfl, fun x y => by kernel_rfl⟩
theorem laws_markGraph_ops1v_s : laws_markGraph_ops1v_D.Says Try.prog := laws_markGraph_ops1v_w.says follows tabOk laws_markIntA2S_e0v_ls_e_ok
noncomputable def laws_markGraph_ops1v_e : Env := more laws_markIntA2S_e0v_ls_e laws_markGraph_ops1v_D
theorem laws_markGraph_ops1v_e_ok : EnvOk Try.prog laws_markGraph_ops1v_e := more_ok laws_markIntA2S_e0v_ls_e_ok laws_markGraph_ops1v_s
/-! loop.example/g01128/laws.markIntS -/
abbrev laws_markIntS_e0v_ls_J0 : Tpl := ⟨[(0, .same (1000000, 0) []), (1, .val I), (5, .val I)], [((1000000, 0), .vec .shr I)], []⟩
abbrev laws_markIntS_e0v_ls_J1 : Tpl := ⟨[(1, .val I)], [((1000000, 0), .vec .shr I)], []⟩
abbrev laws_markIntS_e0v_ls_E : Ve.End := ⟨[⟨4, .shr, I, none⟩], [.vec .shr I]⟩
abbrev laws_markIntS_e0v_ls_a : List ASh := [.ext 0, .val I]
abbrev laws_markIntS_e0v_ls_o : List OSh := [.vec .shr I]
abbrev laws_markIntS_e0v_ls_O0 : Out := .one (.ex 0) laws_markIntS_e0v_ls_J1
noncomputable def laws_markIntS_e0v_ls_B0 : laws_markIntS_e0v_ls_J0.P → Option (laws_markIntS_e0v_ls_J0.P ⊕ laws_markIntS_e0v_ls_O0.P)
  | ((k, i, ()), (o0, ())) => bif (decide (i < (List.length o0 : Int))) then (guardB (inb i (List.length o0)) (some (.inl (((w64 (k + (1 : Int))), (w64 (i + (1 : Int))), ()), ((List.set o0 (Int.toNat i) k), ()))))) else (some (.inr ((k, ()), (o0, ()))))
noncomputable def laws_markIntS_e0v_ls : argP laws_markIntS_e0v_ls_a → obP (extObs 0 laws_markIntS_e0v_ls_o) → Option laws_markIntS_e0v_ls_E.P
  | (k, ()), (o0, ()) => match loopO laws_markIntS_e0v_ls_B0 ((k, (0 : Int), ()), (o0, ())) with | some ((k2, ()), (o0_2, ())) => some ((k2, ()), (o0_2, ())) | none => none
noncomputable def laws_markIntS_e0v_ls_x : Cx := ⟨tab, laws_markGraph_ops1v_e, fun _ _ => 0, fun _ => false, [], []⟩
noncomputable def c27 : Code := bodyOf Try.f27
noncomputable def laws_markIntS_e0v_ls_A : Ann := .seq .nil (.seq (.seq .nil (.loop laws_markIntS_e0v_ls_J0 laws_markIntS_e0v_ls_O0 laws_markIntS_e0v_ls_B0 .nil)) .nil)
theorem laws_markIntS_e0v_ls_r0 (p : laws_markIntS_e0v_ls_J0.P) : run laws_markIntS_e0v_ls_x (subc [1, 0, 1, 0, 0] c27) .nil (laws_markIntS_e0v_ls_J0.S p) (leaf laws_markIntS_e0v_ls_J0 laws_markIntS_e0v_ls_O0) = laws_markIntS_e0v_ls_B0 p := by kernel_rfl
noncomputable def laws_markIntS_e0v_ls_D : Ve.Fn := ⟨27, laws_markIntS_e0v_ls_a, laws_markIntS_e0v_ls_o, laws_markIntS_e0v_ls_E, laws_markIntS_e0v_ls⟩
theorem laws_markIntS_e0v_ls_w : Walk Try.prog laws_markIntS_e0v_ls_x laws_markIntS_e0v_ls_D Try.f27 c27 19 laws_markIntS_e0v_ls_A :=
  ⟨⟨Try.func27, by kernel_rfl, by kernel_rfl, by kernel_rfl, by decide, by kernel_rfl, Nat.le_of_ble_eq_true (by kernel_rfl)⟩, by kernel_rfl, by kernel_rfl, by kernel_rfl, kcast (by kernel_rfl) (⟨laws_markIntS_e0v_ls_r0, trivial⟩ : (∀ p, run laws_markIntS_e0v_ls_x (subc [1, 0, 1, 0, 0] c27) .nil (laws_markIntS_e0v_ls_J0.S p) (leaf laws_markIntS_e0v_ls_J0 laws_markIntS_e0v_ls_O0) = laws_markIntS_e0v_ls_B0 p) ∧ True), by kernel_rfl, fun x y => by kernel_rfl⟩
theorem laws_markIntS_e0v_ls_s : laws_markIntS_e0v_ls_D.Says Try.prog := laws_markIntS_e0v_ls_w.says follows tabOk laws_markGraph_ops1v_e_ok
noncomputable def laws_markIntS_e0v_ls_e : Env := more laws_markGraph_ops1v_e laws_markIntS_e0v_ls_D
theorem laws_markIntS_e0v_ls_e_ok : EnvOk Try.prog laws_markIntS_e0v_ls_e := more_ok laws_markGraph_ops1v_e_ok laws_markIntS_e0v_ls_s
/-! loop.example/g01128/laws.heldIntS -/
abbrev laws_heldIntS_J0 : Tpl := ⟨[(0, .val (.list I)), (1, .val I), (5, .val I)], [], []⟩
abbrev laws_heldIntS_J1 : Tpl := ⟨[(4, .val I)], [], []⟩
abbrev laws_heldIntS_J2 : Tpl := ⟨[(1, .val I)], [], []⟩
abbrev laws_heldIntS_E : Ve.End := ⟨[⟨4, .shr, I, none⟩], []⟩
abbrev laws_heldIntS_a : List ASh := [.val (.list I), .val I]
abbrev laws_heldIntS_o : List OSh := []
abbrev laws_heldIntS_O0 : Out := .or .ret laws_heldIntS_J1 (.one (.ex 0) laws_heldIntS_J2)
noncomputable def laws_heldIntS_B0 : laws_heldIntS_J0.P → Option (laws_heldIntS_J0.P ⊕ laws_heldIntS_O0.P)
  | ((a, k, i, ()), ()) => bif (decide (i < (List.length a : Int))) then (guardB (inb i (List.length a)) (bif ((List.getD a (Int.toNat i) (0 : Int)) != k) then (some (.inr (.inl (((-1 : Int), ()), ())))) else (some (.inl ((a, (w64 (k + (1 : Int))), (w64 (i + (1 : Int))), ()), ()))))) else (some (.inr (.inr ((k, ()), ()))))
noncomputable def laws_heldIntS : argP laws_heldIntS_a → obP (extObs 0 laws_heldIntS_o) → Option laws_heldIntS_E.P
  | (a, k, ()), () => match loopO laws_heldIntS_B0 ((a, k, (0 : Int), ()), ()) with | some (.inl ((t4, ()), ())) => some ((t4, ()), ()) | some (.inr ((k2, ()), ())) => some ((k2, ()), ()) | none => none
noncomputable def laws_heldIntS_x : Cx := ⟨tab, laws_markIntS_e0v_ls_e, fun _ _ => 0, fun _ => false, [], []⟩
noncomputable def c28 : Code := bodyOf Try.f28
noncomputable def laws_heldIntS_A : Ann := .seq .nil (.seq (.seq .nil (.loop laws_heldIntS_J0 laws_heldIntS_O0 laws_heldIntS_B0 .nil)) .nil)
theorem laws_heldIntS_r0 (p : laws_heldIntS_J0.P) : run laws_heldIntS_x (subc [1, 0, 1, 0, 0] c28) .nil (laws_heldIntS_J0.S p) (leaf laws_heldIntS_J0 laws_heldIntS_O0) = laws_heldIntS_B0 p := by kernel_rfl
noncomputable def laws_heldIntS_D : Ve.Fn := ⟨28, laws_heldIntS_a, laws_heldIntS_o, laws_heldIntS_E, laws_heldIntS⟩
theorem laws_heldIntS_w : Walk Try.prog laws_heldIntS_x laws_heldIntS_D Try.f28 c28 21 laws_heldIntS_A :=
  ⟨⟨Try.func28, by kernel_rfl, by kernel_rfl, by kernel_rfl, by decide, by kernel_rfl, Nat.le_of_ble_eq_true (by kernel_rfl)⟩, by kernel_rfl, by kernel_rfl, by kernel_rfl, kcast (by kernel_rfl) (⟨laws_heldIntS_r0, trivial⟩ : (∀ p, run laws_heldIntS_x (subc [1, 0, 1, 0, 0] c28) .nil (laws_heldIntS_J0.S p) (leaf laws_heldIntS_J0 laws_heldIntS_O0) = laws_heldIntS_B0 p) ∧ True), by kernel_rfl, fun x y => by kernel_rfl⟩
theorem laws_heldIntS_s : laws_heldIntS_D.Says Try.prog := laws_heldIntS_w.says follows tabOk laws_markIntS_e0v_ls_e_ok
noncomputable def laws_heldIntS_e : Env := more laws_markIntS_e0v_ls_e laws_heldIntS_D
theorem laws_heldIntS_e_ok : EnvOk Try.prog laws_heldIntS_e := more_ok laws_markIntS_e0v_ls_e_ok laws_heldIntS_s
/-! loop.example/g01128/laws.FnExactFirstMap -/
abbrev laws_FnExactFirstMap_J0 : Tpl := ⟨[(2, .val .bool), (3, .cst (.prod I (.list (.prod I I)))), (4, .cst (.prod I (.list (.prod I I)))), (8, .val (.list I)), (9, .val .bool), (10, .ptr (10, 0)), (11, .ptr (11, 0)), (12, .own .shr I), (13, .val .bool), (62, .val .bool)], [((10, 0), .box (.prod .shr (.own .shr)) (.prod I (.list (.prod I I)))), ((11, 0), .box (.prod .shr (.own .shr)) (.prod I (.list (.prod I I))))], []⟩
abbrev laws_FnExactFirstMap_J1 : Tpl := ⟨[(2, .val .bool), (3, .cst (.prod I (.list (.prod I I)))), (4, .cst (.prod I (.list (.prod I I)))), (8, .val (.list I)), (9, .val .bool), (10, .ptr (10, 0)), (11, .ptr (11, 0)), (12, .own .shr I), (13, .val .bool), (67, .val .bool)], [((10, 0), .box (.prod .shr (.own .shr)) (.prod I (.list (.prod I I)))), ((11, 0), .box (.prod .shr (.own .shr)) (.prod I (.list (.prod I I))))], []⟩
abbrev laws_FnExactFirstMap_J2 : Tpl := ⟨[(2, .val .bool), (3, .cst (.prod I (.list (.prod I I)))), (4, .cst (.prod I (.list (.prod I I)))), (8, .val (.list I)), (9, .val .bool), (10, .ptr (10, 0)), (11, .ptr (11, 0)), (12, .own .shr I), (13, .val .bool), (59, .val (.prod I (.list (.prod I I))))], [((10, 0), .box (.prod .shr (.own .shr)) (.prod I (.list (.prod I I)))), ((11, 0), .box (.prod .shr (.own .shr)) (.prod I (.list (.prod I I))))], []⟩
abbrev laws_FnExactFirstMap_J3 : Tpl := ⟨[(2, .val .bool), (3, .cst (.prod I (.list (.prod I I)))), (4, .cst (.prod I (.list (.prod I I)))), (8, .val (.list I)), (9, .val .bool), (10, .ptr (10, 0)), (11, .ptr (11, 0)), (12, .own .shr I), (13, .val .bool), (64, .val (.prod I (.list (.prod I I))))], [((10, 0), .box (.prod .shr (.own .shr)) (.prod I (.list (.prod I I)))), ((11, 0), .box (.prod .shr (.own .shr)) (.prod I (.list (.prod I I))))], []⟩
abbrev laws_FnExactFirstMap_E : Ve.End := ⟨[⟨6, .shr, .bool, none⟩], []⟩
abbrev laws_FnExactFirstMap_a : List ASh := [.val (.prod I (.list (.prod I I))), .val (.prod I (.list (.prod I I))), .val .bool]
abbrev laws_FnExactFirstMap_o : List OSh := []
noncomputable def laws_FnExactFirstMap_D0 : laws_FnExactFirstMap_J2.P → Option laws_FnExactFirstMap_J0.P
  | ((t2, t3, t4, t8, t9, t12, t13, t59, ()), (t10, t11, ())) => match laws_toGraph (t59, ()) () with | some ((r, ()), ()) => (match laws_eqGraph ((t10.1, t10.2), (r.1, r.2), ()) () with | some ((r2, ()), ()) => some ((t2, t3, t4, t8, t9, t12, t13, (!r2), ()), (t10, t11, ())) | none => none) | none => none
noncomputable def laws_FnExactFirstMap_T0 : DT laws_FnExactFirstMap_J0 := .node laws_FnExactFirstMap_J2 laws_FnExactFirstMap_D0 (.br [(0, .sole), (2, .sole), (3, .sole), (4, .flo)] .fin (.br [(2, .sole), (0, .qui), (3, .sole), (4, .flo)] .fin .nobr))
noncomputable def laws_FnExactFirstMap_D1 : laws_FnExactFirstMap_J3.P → Option laws_FnExactFirstMap_J1.P
  | ((t2, t3, t4, t8, t9, t12, t13, t64, ()), (t10, t11, ())) => match laws_toGraph (t64, ()) () with | some ((r, ()), ()) => (match laws_eqGraph ((t11.1, t11.2), (r.1, r.2), ()) () with | some ((r2, ()), ()) => some ((t2, t3, t4, t8, t9, t12, t13, (!r2), ()), (t10, t11, ())) | none => none) | none => none
noncomputable def laws_FnExactFirstMap_T1 : DT laws_FnExactFirstMap_J1 := .node laws_FnExactFirstMap_J3 laws_FnExactFirstMap_D1 (.br [(0, .sole), (2, .sole), (3, .sole), (4, .flo)] .fin (.br [(2, .sole), (0, .qui), (3, .sole), (4, .flo)] .fin .nobr))
noncomputable def laws_FnExactFirstMap : argP laws_FnExactFirstMap_a → obP (extObs 0 laws_FnExactFirstMap_o) → Option laws_FnExactFirstMap_E.P
  | (t0, t1, t2, ()), () => match laws_szGraph (t0, (1048576 : Int), ()) () with | some ((r, ()), ()) => (bif (decide (r < (0 : Int))) then (some ((true, ()), ())) else (match laws_szGraph (t1, r, ()) () with | some ((r2, ()), ()) => (bif (decide (r2 < (0 : Int))) then (some ((true, ()), ())) else (match laws_toGraph (t0, ()) () with | some ((r3, ()), ()) => (match laws_toGraph (t1, ()) () with | some ((r4, ()), ()) => (match spec_FirstMap ((r3.1, r3.2), (r4.1, r4.2), t2, ()) () with | some ((r5, r6, ()), ()) => (match laws_toGraph (t0, ()) () with | some ((r7, ()), ()) => (match laws_toGraph (t1, ()) () with | some ((r8, ()), ()) => (match impl_FirstMap ((r7.1, r7.2), (r8.1, r8.2), t2, ()) () with | some ((r9, r10, ()), ()) => (match laws_eqIntS (r9, r5, ()) () with | some ((r11, ()), ()) => (bif (!r11) then (some ((false, ()), ())) else (bif (!(r10 == r6)) then (some ((false, ()), ())) else (match laws_FnExactFirstMap_D0 ((t2, t0, t1, r5, r6, r9, r10, t0, ()), ((r7.1, r7.2), (r8.1, r8.2), ())) with | some ((t2_2, t3, t4, t8, t9, t12, t13, t62, ()), (t10, t11, ())) => (bif t62 then (some ((false, ()), ())) else (match laws_FnExactFirstMap_D1 ((t2_2, t3, t4, t8, t9, t12, t13, t4, ()), (t10, t11, ())) with | some ((t2_3, t3_2, t4_2, t8_2, t9_2, t12_2, t13_2, t67, ()), (t10_2, t11_2, ())) => (bif t67 then (some ((false, ()), ())) else (match laws_markGraph_ops1v ((t10_2.1, t10_2.2), (1 : Int), ()) () with | some ((r12, ()), ()) => (match laws_markGraph_ops1v ((t11_2.1, t11_2.2), r12, ()) () with | some ((r13, ()), ()) => (bif (decide (r13 < (0 : Int))) then (some ((false, ()), ())) else (match laws_eqIntS (t12_2, t8_2, ()) () with | some ((r14, ()), ()) => (bif (!r14) then (some ((false, ()), ())) else (bif (!(t13_2 == t9_2)) then (some ((false, ()), ())) else (match laws_markIntS_e0v_ls ((1 : Int), ()) (t12_2, ()) with | some ((r15, ()), (o, ())) => (match laws_heldIntS (o, (1 : Int), ()) () with | some ((r16, ()), ()) => (bif (decide (r16 < (0 : Int))) then (some ((false, ()), ())) else (bif (r16 != r15) then (some ((false, ()), ())) else (match laws_toGraph (t3_2, ()) () with | some ((r17, ()), ()) => (match laws_toGraph (t4_2, ()) () with | some ((r18, ()), ()) => (match impl_FirstMap ((r17.1, r17.2), (r18.1, r18.2), t2_3, ()) () with | some ((r19, r20, ()), ()) => (match laws_eqIntS (r19, t8_2, ()) () with | some ((r21, ()), ()) => (bif (!r21) then (some ((false, ()), ())) else (bif (!(r20 == t9_2)) then (some ((false, ()), ())) else (match laws_heldIntS (o, (1 : Int), ()) () with | some ((r22, ()), ()) => (bif (decide (r22 < (0 : Int))) then (some ((false, ()), ())) else (bif (r22 != r15) then (some ((false, ()), ())) else (some ((true, ()), ())))) | none => none))) | none => none) | none => none) | none => none) | none => none))) | none => none) | none => none))) | none => none)) | none => none) | none => none)) | none => none)) | none => none))) | none => none) | none => none) | none => none) | none => none) | none => none) | none => none) | none => none)) | none => none)) | none => none
noncomputable def laws_FnExactFirstMap_x : Cx := ⟨tab, laws_heldIntS_e, fun f n => bif Nat.beq f 26 && Nat.beq n 0 then 2 else bif Nat.beq f 27 && Nat.beq n 0 then 1 else 0, fun _ => false, [(21, 0), (21, 1), (21, 2), (21, 3), (26, 0), (26, 1), (26, 2), (26, 3), (31, 0), (31, 1), (31, 2), (31, 3), (33, 0), (33, 1), (33, 2), (33, 3), (35, 0), (35, 1), (35, 2), (35, 3), (8, 0), (51, 0), (51, 1), (51, 2), (51, 3), (60, 0), (60, 1), (60, 2), (60, 3), (61, 0), (61, 1), (61, 2), (61, 3), (65, 0), (65, 1), (65, 2), (65, 3), (66, 0), (66, 1), (66, 2), (66, 3), (70, 0), (70, 1), (70, 2), (70, 3), (73, 0), (73, 1), (73, 2), (73, 3), (79, 0), (79, 1), (79, 2), (79, 3), (89, 0), (89, 1), (89, 2), (89, 3), (92, 0), (92, 1), (92, 2), (92, 3), (100, 0), (100, 1), (100, 2), (100, 3), (102, 0), (102, 1), (102, 2), (102, 3), (104, 0), (104, 1), (104, 2), (104, 3), (17, 0), (109, 0), (109, 1), (109, 2), (109, 3), (118, 0), (118, 1), (118, 2), (118, 3)], [(3, 0), (4, 0)]⟩
noncomputable def c8 : Code := bodyOf Try.f8
noncomputable def laws_FnExactFirstMap_A : Ann := .seq .nil (.seq .nil (.seq .nil (.seq .nil (.seq .nil (.seq .nil (.seq (.draw [(0, .flo), (2, .flo), (4, .flo), (1, .sole), (3, .sole), (5, .sole), (6, .flo), (7, .flo), (8, .flo), (9, .flo), (10, .flo)]) (.seq .nil (.seq .nil (.seq .nil (.seq .nil (.seq (.seq (.draws [(1, .flo)] laws_FnExactFirstMap_J0 laws_FnExactFirstMap_T0) .nil) (.seq (.seq (.draws [(1, .flo)] laws_FnExactFirstMap_J1 laws_FnExactFirstMap_T1) .nil) (.seq .nil (.seq .nil (.seq .nil (.seq .nil (.seq .nil (.seq .nil (.seq .nil (.seq .nil (.seq .nil (.seq .nil (.seq (.draw [(0, .flo), (2, .flo), (4, .flo), (1, .sole), (3, .sole), (5, .sole), (6, .flo), (7, .flo), (8, .flo), (9, .flo), (10, .flo)]) .nil)))))))))))))))))))))))
theorem laws_FnExactFirstMap_D0b0 (p : laws_FnExactFirstMap_J2.P) : runDrawn laws_FnExactFirstMap_x (opsOf (subc [1, 1, 1, 1, 1, 1, 1, 1, 1, 1, 1, 0, 0] c8)) [(0, .sole), (2, .sole), (3, .sole), (4, .flo)] (laws_FnExactFirstMap_J2.S p) (endT laws_FnExactFirstMap_x (.fin : DT laws_FnExactFirstMap_J0)) = laws_FnExactFirstMap_D0 p := by kernel_rfl
theorem laws_FnExactFirstMap_D0b1 (p : laws_FnExactFirstMap_J2.P) : runDrawn laws_FnExactFirstMap_x (opsOf (subc [1, 1, 1, 1, 1, 1, 1, 1, 1, 1, 1, 0, 0] c8)) [(2, .sole), (0, .qui), (3, .sole), (4, .flo)] (laws_FnExactFirstMap_J2.S p) (endT laws_FnExactFirstMap_x (.fin : DT laws_FnExactFirstMap_J0)) = laws_FnExactFirstMap_D0 p := by kernel_rfl
theorem laws_FnExactFirstMap_D1b0 (p : laws_FnExactFirstMap_J3.P) : runDrawn laws_FnExactFirstMap_x (opsOf (subc [1, 1, 1, 1, 1, 1, 1, 1, 1, 1, 1, 1, 0, 0] c8)) [(0, .sole), (2, .sole), (3, .sole), (4, .flo)] (laws_FnExactFirstMap_J3.S p) (endT laws_FnExactFirstMap_x (.fin : DT laws_FnExactFirstMap_J1)) = laws_FnExactFirstMap_D1 p := by kernel_rfl
theorem laws_FnExactFirstMap_D1b1 (p : laws_FnExactFirstMap_J3.P) : runDrawn laws_FnExactFirstMap_x (opsOf (subc [1, 1, 1, 1, 1, 1, 1, 1, 1, 1, 1, 1, 0, 0] c8)) [(2, .sole), (0, .qui), (3, .sole), (4, .flo)] (laws_FnExactFirstMap_J3.S p) (endT laws_FnExactFirstMap_x (.fin : DT laws_FnExactFirstMap_J1)) = laws_FnExactFirstMap_D1 p := by kernel_rfl
noncomputable def laws_FnExactFirstMap_D : Ve.Fn := ⟨8, laws_FnExactFirstMap_a, laws_FnExactFirstMap_o, laws_FnExactFirstMap_E, laws_FnExactFirstMap⟩
theorem laws_FnExactFirstMap_w : Walk Try.prog laws_FnExactFirstMap_x laws_FnExactFirstMap_D Try.f8 c8 124 laws_FnExactFirstMap_A :=
  ⟨⟨Try.func8, by kernel_rfl, by kernel_rfl, by kernel_rfl, by decide, by kernel_rfl, Nat.le_of_ble_eq_true (by kernel_rfl)⟩, by kernel_rfl, by kernel_rfl, by kernel_rfl, kcast (by kernel_rfl) (⟨laws_FnExactFirstMap_D0b0, laws_FnExactFirstMap_D0b1, laws_FnExactFirstMap_D1b0, laws_FnExactFirstMap_D1b1, trivial⟩ : (∀ p, runDrawn laws_FnExactFirstMap_x (opsOf (subc [1, 1, 1, 1, 1, 1, 1, 1, 1, 1, 1, 0, 0] c8)) [(0, .sole), (2, .sole), (3, .sole), (4, .flo)] (laws_FnExactFirstMap_J2.S p) (endT laws_FnExactFirstMap_x (.fin : DT laws_FnExactFirstMap_J0)) = laws_FnExactFirstMap_D0 p) ∧ (∀ p, runDrawn laws_FnExactFirstMap_x (opsOf (subc [1, 1, 1, 1, 1, 1, 1, 1, 1, 1, 1, 0, 0] c8)) [(2, .sole), (0, .qui), (3, .sole), (4, .flo)] (laws_FnExactFirstMap_J2.S p) (endT laws_FnExactFirstMap_x (.fin : DT laws_FnExactFirstMap_J0)) = laws_FnExactFirstMap_D0 p) ∧ (∀ p, runDrawn laws_FnExactFirstMap_x (opsOf (subc [1, 1, 1, 1, 1, 1, 1, 1, 1, 1, 1, 1, 0, 0] c8)) [(0, .sole), (2, .sole), (3, .sole), (4, .flo)] (laws_FnExactFirstMap_J3.S p) (endT laws_FnExactFirstMap_x (.fin : DT laws_FnExactFirstMap_J1)) = laws_FnExactFirstMap_D1 p) ∧ (∀ p, runDrawn laws_FnExactFirstMap_x (opsOf (subc [1, 1, 1, 1, 1, 1, 1, 1, 1, 1, 1, 1, 0, 0] c8)) [(2, .sole), (0, .qui), (3, .sole), (4, .flo)] (laws_FnExactFirstMap_J3.S p) (endT laws_FnExactFirstMap_x (.fin : DT laws_FnExactFirstMap_J1)) = laws_FnExactFirstMap_D1 p) ∧ True), by kernel_rfl, fun x y => by kernel_rfl⟩
theorem laws_FnExactFirstMap_s : laws_FnExactFirstMap_D.Says Try.prog := laws_FnExactFirstMap_w.says follows tabOk laws_heldIntS_e_ok
noncomputable def laws_FnExactFirstMap_e : Env := more laws_heldIntS_e laws_FnExactFirstMap_D
theorem laws_FnExactFirstMap_e_ok : EnvOk Try.prog laws_FnExactFirstMap_e := more_ok laws_heldIntS_e_ok laws_FnExactFirstMap_s
end Go.Proofs.Ytiiaadgibkpaaaa.V
