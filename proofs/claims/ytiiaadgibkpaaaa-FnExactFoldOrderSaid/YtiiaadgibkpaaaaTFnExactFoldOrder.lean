/-
  What the functions that the law reaches compute: typed pure functions, checked against the code.
-/
import Derived.Test.YtiiaadgibkpaaaaProg
import Derived.Test.YtiiaadgibkpaaaaE3
namespace Go.Proofs.Ytiiaadgibkpaaaa.V
open Go.Ve Go.Proofs
set_option linter.unusedVariables false
set_option linter.unusedSimpArgs false
set_option maxRecDepth 100000
def tab : Tab := [(3, .data ⟨I, 0, 8, false⟩), (4, .data ⟨.bool, 0, 1, false⟩), (22, .data ⟨(.list (.prod I I)), 0, 16, false⟩), (24, .data ⟨(.prod I (.list (.prod I I))), 2, 32, false⟩), (25, .data ⟨(.list I), 0, 8, false⟩), (29, .data ⟨(.prod I (.list (.prod I I))), 2, 32, false⟩), (78, .data ⟨(.prod I I), 2, 16, true⟩), (105, .data ⟨(.int .u64), 0, 8, false⟩)]
theorem follows : Try.prog.follows .mixedOrders = true := by kernel_rfl
theorem ti3 : TiOk Try.prog tab 3 ⟨I, 0, 8, false⟩ := ti_int (by kernel_rfl) Try.underlying3
theorem ti4 : TiOk Try.prog tab 4 ⟨.bool, 0, 1, false⟩ := ti_bool (by kernel_rfl) Try.underlying4
theorem ti22 : TiOk Try.prog tab 22 ⟨(.list (.prod I I)), 0, 16, false⟩ := ti_list (ie := ⟨(.prod I I), 2, 16, true⟩) (by kernel_rfl) Try.underlying22 (by kernel_rfl) rfl (by kernel_rfl) (by kernel_rfl)
theorem ti24 : TiOk Try.prog tab 24 ⟨(.prod I (.list (.prod I I))), 2, 32, false⟩ := ti_struct (by kernel_rfl) Try.underlying24 (by kernel_rfl) (by kernel_rfl) (by kernel_rfl) (by kernel_rfl)
theorem ti25 : TiOk Try.prog tab 25 ⟨(.list I), 0, 8, false⟩ := ti_list (ie := ⟨I, 0, 8, false⟩) (by kernel_rfl) Try.underlying25 (by kernel_rfl) rfl (by kernel_rfl) (by kernel_rfl)
theorem ti29 : TiOk Try.prog tab 29 ⟨(.prod I (.list (.prod I I))), 2, 32, false⟩ := ti_struct (by kernel_rfl) Try.underlying29 (by kernel_rfl) (by kernel_rfl) (by kernel_rfl) (by kernel_rfl)
theorem ti78 : TiOk Try.prog tab 78 ⟨(.prod I I), 2, 16, true⟩ := ti_arr (ie := ⟨I, 0, 8, false⟩) (by kernel_rfl) Try.underlying78 (by kernel_rfl) rfl (by kernel_rfl) (by kernel_rfl)
theorem ti105 : TiOk Try.prog tab 105 ⟨(.int .u64), 0, 8, false⟩ := ti_int (by kernel_rfl) Try.underlying105
theorem tabOk : TabOk' Try.prog tab := tabOk_of ⟨ti3, ti4, ti22, ti24, ti25, ti29, ti78, ti105, trivial⟩
/-! loop.example/g01128/laws.szIntA2S -/
abbrev laws_szIntA2S_E : Ve.End := ⟨[⟨4, .shr, I, none⟩], []⟩
abbrev laws_szIntA2S_a : List ASh := [.val (.list (.prod I I)), .val I]
abbrev laws_szIntA2S_o : List OSh := []
noncomputable def laws_szIntA2S : argP laws_szIntA2S_a → obP (extObs 0 laws_szIntA2S_o) → Option laws_szIntA2S_E.P
  | (a, left, ()), () => bif (decide ((w64 (left - (List.length a : Int))) < (0 : Int))) then (some (((-1 : Int), ()), ())) else (some (((w64 (left - (List.length a : Int))), ()), ()))
noncomputable def laws_szIntA2S_x : Cx := ⟨tab, noEnv, fun _ _ => 0, fun _ => false, [], []⟩
noncomputable def c56 : Code := bodyOf Try.f56
noncomputable def laws_szIntA2S_A : Ann := .nil
noncomputable def laws_szIntA2S_D : Ve.Fn := ⟨56, laws_szIntA2S_a, laws_szIntA2S_o, laws_szIntA2S_E, laws_szIntA2S⟩
theorem laws_szIntA2S_w : Walk Try.prog laws_szIntA2S_x laws_szIntA2S_D Try.f56 c56 12 laws_szIntA2S_A :=
  ⟨⟨Try.func56, by kernel_rfl, by kernel_rfl, by kernel_rfl, by decide, by kernel_rfl, Nat.le_of_ble_eq_true (by kernel_rfl)⟩, by kernel_rfl, by kernel_rfl, by kernel_rfl, kcast (by kernel_rfl) trivial, by kernel_rfl, fun x y => by kernel_rfl⟩
theorem laws_szIntA2S_s : laws_szIntA2S_D.Says Try.prog := laws_szIntA2S_w.says follows tabOk noEnv_ok
noncomputable def laws_szIntA2S_e : Env := more noEnv laws_szIntA2S_D
theorem laws_szIntA2S_e_ok : EnvOk Try.prog laws_szIntA2S_e := more_ok noEnv_ok laws_szIntA2S_s
/-! loop.example/g01128/laws.szGraph -/
abbrev laws_szGraph_E : Ve.End := ⟨[⟨4, .shr, I, none⟩], []⟩
abbrev laws_szGraph_a : List ASh := [.val (.prod I (.list (.prod I I))), .val I]
abbrev laws_szGraph_o : List OSh := []
noncomputable def laws_szGraph : argP laws_szGraph_a → obP (extObs 0 laws_szGraph_o) → Option laws_szGraph_E.P
  | (a, left, ()), () => match laws_szIntA2S (a.2, left, ()) () with | some ((r, ()), ()) => (bif (decide (r < (0 : Int))) then (some (((-1 : Int), ()), ())) else (some ((r, ()), ()))) | none => none
noncomputable def laws_szGraph_x : Cx := ⟨tab, laws_szIntA2S_e, fun _ _ => 0, fun _ => false, [(8, 0), (8, 1), (8, 2), (8, 3)], [(2, 0)]⟩
noncomputable def c15 : Code := bodyOf Try.f15
noncomputable def laws_szGraph_A : Ann := .nil
noncomputable def laws_szGraph_D : Ve.Fn := ⟨15, laws_szGraph_a, laws_szGraph_o, laws_szGraph_E, laws_szGraph⟩
theorem laws_szGraph_w : Walk Try.prog laws_szGraph_x laws_szGraph_D Try.f15 c15 12 laws_szGraph_A :=
  ⟨⟨Try.func15, by kernel_rfl, by kernel_rfl, by kernel_rfl, by decide, by kernel_rfl, Nat.le_of_ble_eq_true (by kernel_rfl)⟩, by kernel_rfl, by kernel_rfl, by kernel_rfl, kcast (by kernel_rfl) trivial, by kernel_rfl, fun x y => by kernel_rfl⟩
theorem laws_szGraph_s : laws_szGraph_D.Says Try.prog := laws_szGraph_w.says follows tabOk laws_szIntA2S_e_ok
noncomputable def laws_szGraph_e : Env := more laws_szIntA2S_e laws_szGraph_D
theorem laws_szGraph_e_ok : EnvOk Try.prog laws_szGraph_e := more_ok laws_szIntA2S_e_ok laws_szGraph_s
/-! loop.example/g01128/laws.toIntA2 -/
abbrev laws_toIntA2_J0 : Tpl := ⟨[(1, .cst (.prod I I)), (2, .ptr (2, 0)), (3, .ptr (3, 0)), (4, .val I)], [((2, 0), .box .shr (.prod I I)), ((3, 0), .box .shr (.prod I I))], []⟩
abbrev laws_toIntA2_J1 : Tpl := ⟨[(2, .ptr (2, 0)), (3, .ptr (3, 0))], [((2, 0), .box .shr (.prod I I)), ((3, 0), .box .shr (.prod I I))], []⟩
abbrev laws_toIntA2_E : Ve.End := ⟨[⟨2, .shr, (.prod I I), some 78⟩], []⟩
abbrev laws_toIntA2_a : List ASh := [.val (.prod I I)]
abbrev laws_toIntA2_o : List OSh := []
abbrev laws_toIntA2_O0 : Out := .one (.ex 0) laws_toIntA2_J1
noncomputable def laws_toIntA2_B0 : laws_toIntA2_J0.P → Option (laws_toIntA2_J0.P ⊕ laws_toIntA2_O0.P)
  | ((a, i, ()), (t2, out, ())) => bif (decide (i < (2 : Int))) then (guardB (decide (0 ≤ i) && decide (i < 2)) (guardB (decide (0 ≤ i) && decide (i < 2)) (some (.inl ((a, (w64 (i + (1 : Int))), ()), (t2, (bif Nat.beq (Int.toNat i) 0 then ((bif Nat.beq (Int.toNat i) 0 then a.1 else a.2), out.2) else (out.1, (bif Nat.beq (Int.toNat i) 0 then a.1 else a.2))), ())))))) else (some (.inr ((), (t2, out, ()))))
noncomputable def laws_toIntA2 : argP laws_toIntA2_a → obP (extObs 0 laws_toIntA2_o) → Option laws_toIntA2_E.P
  | (a, ()), () => match loopO laws_toIntA2_B0 ((a, (0 : Int), ()), (((0 : Int), (0 : Int)), ((0 : Int), (0 : Int)), ())) with | some ((), (t2, out, ())) => some ((out, ()), ()) | none => none
noncomputable def laws_toIntA2_x : Cx := ⟨tab, laws_szGraph_e, fun _ _ => 0, fun _ => false, [], [(1, 0)]⟩
noncomputable def c102 : Code := bodyOf Try.f102
noncomputable def laws_toIntA2_A : Ann := .seq .nil (.seq .nil (.seq (.seq .nil (.loop laws_toIntA2_J0 laws_toIntA2_O0 laws_toIntA2_B0 .nil)) .nil))
theorem laws_toIntA2_r0 (p : laws_toIntA2_J0.P) : run laws_toIntA2_x (subc [1, 1, 0, 1, 0, 0] c102) .nil (laws_toIntA2_J0.S p) (leaf laws_toIntA2_J0 laws_toIntA2_O0) = laws_toIntA2_B0 p := by kernel_rfl
noncomputable def laws_toIntA2_D : Ve.Fn := ⟨102, laws_toIntA2_a, laws_toIntA2_o, laws_toIntA2_E, laws_toIntA2⟩
theorem laws_toIntA2_w : Walk Try.prog laws_toIntA2_x laws_toIntA2_D Try.f102 c102 15 laws_toIntA2_A :=
  ⟨⟨Try.func102, by kernel_rfl, by kernel_rfl, by kernel_rfl, by decide, by kernel_rfl, Nat.le_of_ble_eq_true (by kernel_rfl)⟩, by kernel_rfl, by kernel_rfl, by kernel_rfl, kcast (by kernel_rfl) (⟨laws_toIntA2_r0, trivial⟩ : (∀ p, run laws_toIntA2_x (subc [1, 1, 0, 1, 0, 0] c102) .nil (laws_toIntA2_J0.S p) (leaf laws_toIntA2_J0 laws_toIntA2_O0) = laws_toIntA2_B0 p) ∧ True), by kernel_rfl, fun x y => by kernel_rfl⟩
theorem laws_toIntA2_s : laws_toIntA2_D.Says Try.prog := laws_toIntA2_w.says follows tabOk laws_szGraph_e_ok
noncomputable def laws_toIntA2_e : Env := more laws_szGraph_e laws_toIntA2_D
theorem laws_toIntA2_e_ok : EnvOk Try.prog laws_toIntA2_e := more_ok laws_szGraph_e_ok laws_toIntA2_s
/-! loop.example/g01128/laws.toIntA2S -/
abbrev laws_toIntA2S_J0 : Tpl := ⟨[(0, .val (.list (.prod I I))), (3, .own .shr (.prod I I)), (4, .val I)], [], []⟩
abbrev laws_toIntA2S_J1 : Tpl := ⟨[(3, .own .shr (.prod I I))], [], []⟩
abbrev laws_toIntA2S_E : Ve.End := ⟨[⟨2, (.own .shr), (.list (.prod I I)), none⟩], []⟩
abbrev laws_toIntA2S_a : List ASh := [.val (.list (.prod I I))]
abbrev laws_toIntA2S_o : List OSh := []
abbrev laws_toIntA2S_O0 : Out := .one (.ex 0) laws_toIntA2S_J1
noncomputable def laws_toIntA2S_B0 : laws_toIntA2S_J0.P → Option (laws_toIntA2S_J0.P ⊕ laws_toIntA2S_O0.P)
  | ((a, out, i, ()), ()) => bif (decide (i < (List.length a : Int))) then (guardB (inb i (List.length a)) (match laws_toIntA2 ((List.getD a (Int.toNat i) ((0 : Int), (0 : Int))), ()) () with | some ((r, ()), ()) => guardB (inb i (List.length out)) (some (.inl ((a, (List.set out (Int.toNat i) r), (w64 (i + (1 : Int))), ()), ()))) | none => none)) else (some (.inr ((out, ()), ())))
noncomputable def laws_toIntA2S : argP laws_toIntA2S_a → obP (extObs 0 laws_toIntA2S_o) → Option laws_toIntA2S_E.P
  | (a, ()), () => guardB (decide (0 ≤ (List.length a : Int)) && decide ((List.length a : Int) ≤ (List.length a : Int)) && decide ((List.length a : Int) * 16 ≤ 140737488355328)) (match loopO laws_toIntA2S_B0 ((a, (List.replicate (Int.toNat (List.length a : Int)) ((0 : Int), (0 : Int))), (0 : Int), ()), ()) with | some ((out, ()), ()) => some ((out, ()), ()) | none => none)
noncomputable def laws_toIntA2S_x : Cx := ⟨tab, laws_toIntA2_e, fun _ _ => 0, fun _ => false, [(20, 0), (20, 1), (20, 2), (20, 3)], []⟩
noncomputable def c59 : Code := bodyOf Try.f59
noncomputable def laws_toIntA2S_A : Ann := .seq .nil (.seq .nil (.seq (.seq .nil (.loop laws_toIntA2S_J0 laws_toIntA2S_O0 laws_toIntA2S_B0 .nil)) .nil))
theorem laws_toIntA2S_r0 (p : laws_toIntA2S_J0.P) : run laws_toIntA2S_x (subc [1, 1, 0, 1, 0, 0] c59) .nil (laws_toIntA2S_J0.S p) (leaf laws_toIntA2S_J0 laws_toIntA2S_O0) = laws_toIntA2S_B0 p := by kernel_rfl
noncomputable def laws_toIntA2S_D : Ve.Fn := ⟨59, laws_toIntA2S_a, laws_toIntA2S_o, laws_toIntA2S_E, laws_toIntA2S⟩
theorem laws_toIntA2S_w : Walk Try.prog laws_toIntA2S_x laws_toIntA2S_D Try.f59 c59 23 laws_toIntA2S_A :=
  ⟨⟨Try.func59, by kernel_rfl, by kernel_rfl, by kernel_rfl, by decide, by kernel_rfl, Nat.le_of_ble_eq_true (by kernel_rfl)⟩, by kernel_rfl, by kernel_rfl, by kernel_rfl, kcast (by kernel_rfl) (⟨laws_toIntA2S_r0, trivial⟩ : (∀ p, run laws_toIntA2S_x (subc [1, 1, 0, 1, 0, 0] c59) .nil (laws_toIntA2S_J0.S p) (leaf laws_toIntA2S_J0 laws_toIntA2S_O0) = laws_toIntA2S_B0 p) ∧ True), by kernel_rfl, fun x y => by kernel_rfl⟩
theorem laws_toIntA2S_s : laws_toIntA2S_D.Says Try.prog := laws_toIntA2S_w.says follows tabOk laws_toIntA2_e_ok
noncomputable def laws_toIntA2S_e : Env := more laws_toIntA2_e laws_toIntA2S_D
theorem laws_toIntA2S_e_ok : EnvOk Try.prog laws_toIntA2S_e := more_ok laws_toIntA2_e_ok laws_toIntA2S_s
/-! loop.example/g01128/laws.toGraph -/
abbrev laws_toGraph_E : Ve.End := ⟨[⟨2, (.prod .shr (.own .shr)), (.prod I (.list (.prod I I))), some 29⟩], []⟩
abbrev laws_toGraph_a : List ASh := [.val (.prod I (.list (.prod I I)))]
abbrev laws_toGraph_o : List OSh := []
noncomputable def laws_toGraph : argP laws_toGraph_a → obP (extObs 0 laws_toGraph_o) → Option laws_toGraph_E.P
  | (a, ()), () => match laws_toIntA2S (a.2, ()) () with | some ((r, ()), ()) => some (((a.1, r), ()), ()) | none => none
noncomputable def laws_toGraph_x : Cx := ⟨tab, laws_toIntA2S_e, fun _ _ => 0, fun _ => false, [], [(1, 0)]⟩
noncomputable def c17 : Code := bodyOf Try.f17
noncomputable def laws_toGraph_A : Ann := .nil
noncomputable def laws_toGraph_D : Ve.Fn := ⟨17, laws_toGraph_a, laws_toGraph_o, laws_toGraph_E, laws_toGraph⟩
theorem laws_toGraph_w : Walk Try.prog laws_toGraph_x laws_toGraph_D Try.f17 c17 12 laws_toGraph_A :=
  ⟨⟨Try.func17, by kernel_rfl, by kernel_rfl, by kernel_rfl, by decide, by kernel_rfl, Nat.le_of_ble_eq_true (by kernel_rfl)⟩, by kernel_rfl, by kernel_rfl, by kernel_rfl, kcast (by kernel_rfl) trivial, by kernel_rfl, fun x y => by kernel_rfl⟩
theorem laws_toGraph_s : laws_toGraph_D.Says Try.prog := laws_toGraph_w.says follows tabOk laws_toIntA2S_e_ok
noncomputable def laws_toGraph_e : Env := more laws_toIntA2S_e laws_toGraph_D
theorem laws_toGraph_e_ok : EnvOk Try.prog laws_toGraph_e := more_ok laws_toIntA2S_e_ok laws_toGraph_s
/-! loop.example/g01128/spec.l1In -/
abbrev spec_l1In_E : Ve.End := ⟨[⟨6, .shr, .bool, none⟩], []⟩
abbrev spec_l1In_a : List ASh := [.val I, .val I, .val I]
abbrev spec_l1In_o : List OSh := []
noncomputable def spec_l1In : argP spec_l1In_a → obP (extObs 0 spec_l1In_o) → Option spec_l1In_E.P
  | (x, a, b, ()), () => bif (decide (a ≤ x)) then (some (((decide (x ≤ b)), ()), ())) else (some ((false, ()), ()))
noncomputable def spec_l1In_x : Cx := ⟨tab, laws_toGraph_e, fun _ _ => 0, fun _ => false, [], []⟩
noncomputable def c89 : Code := bodyOf Try.f89
noncomputable def spec_l1In_A : Ann := .nil
noncomputable def spec_l1In_D : Ve.Fn := ⟨89, spec_l1In_a, spec_l1In_o, spec_l1In_E, spec_l1In⟩
theorem spec_l1In_w : Walk Try.prog spec_l1In_x spec_l1In_D Try.f89 c89 15 spec_l1In_A :=
  ⟨⟨Try.func89, by kernel_rfl, by kernel_rfl, by kernel_rfl, by decide, by kernel_rfl, Nat.le_of_ble_eq_true (by kernel_rfl)⟩, by kernel_rfl, by kernel_rfl, by kernel_rfl, kcast (by kernel_rfl) trivial, by kernel_rfl, fun x y => by kernel_rfl⟩
theorem spec_l1In_s : spec_l1In_D.Says Try.prog := spec_l1In_w.says follows tabOk laws_toGraph_e_ok
noncomputable def spec_l1In_e : Env := more laws_toGraph_e spec_l1In_D
theorem spec_l1In_e_ok : EnvOk Try.prog spec_l1In_e := more_ok laws_toGraph_e_ok spec_l1In_s
/-! loop.example/g01128/spec.l2Edge -/
abbrev spec_l2Edge_E : Ve.End := ⟨[⟨4, .shr, .bool, none⟩], []⟩
abbrev spec_l2Edge_a : List ASh := [.val (.prod I I), .val (.prod I I)]
abbrev spec_l2Edge_o : List OSh := []
noncomputable def spec_l2Edge : argP spec_l2Edge_a → obP (extObs 0 spec_l2Edge_o) → Option spec_l2Edge_E.P
  | (a, b, ()), () => bif (decide (a.1 < b.1)) then (some ((true, ()), ())) else (bif (a.1 == b.1) then (some (((decide (a.2 < b.2)), ()), ())) else (some ((false, ()), ())))
noncomputable def spec_l2Edge_x : Cx := ⟨tab, spec_l1In_e, fun _ _ => 0, fun _ => false, [], [(2, 0), (3, 0)]⟩
noncomputable def c141 : Code := bodyOf Try.f141
noncomputable def spec_l2Edge_A : Ann := .nil
noncomputable def spec_l2Edge_D : Ve.Fn := ⟨141, spec_l2Edge_a, spec_l2Edge_o, spec_l2Edge_E, spec_l2Edge⟩
theorem spec_l2Edge_w : Walk Try.prog spec_l2Edge_x spec_l2Edge_D Try.f141 c141 24 spec_l2Edge_A :=
  ⟨⟨Try.func141, by kernel_rfl, by kernel_rfl, by kernel_rfl, by decide, by kernel_rfl, Nat.le_of_ble_eq_true (by kernel_rfl)⟩, by kernel_rfl, by kernel_rfl, by kernel_rfl, kcast (by kernel_rfl) trivial, by kernel_rfl, fun x y => by kernel_rfl⟩
theorem spec_l2Edge_s : spec_l2Edge_D.Says Try.prog := spec_l2Edge_w.says follows tabOk spec_l1In_e_ok
noncomputable def spec_l2Edge_e : Env := more spec_l1In_e spec_l2Edge_D
theorem spec_l2Edge_e_ok : EnvOk Try.prog spec_l2Edge_e := more_ok spec_l1In_e_ok spec_l2Edge_s
/-! loop.example/g01128/spec.l2Pairs -/
abbrev spec_l2Pairs_J0 : Tpl := ⟨[(0, .val (.list (.prod I I))), (1, .val I), (5, .val I)], [], []⟩
abbrev spec_l2Pairs_J1 : Tpl := ⟨[(4, .val .bool)], [], []⟩
abbrev spec_l2Pairs_J2 : Tpl := ⟨[], [], []⟩
abbrev spec_l2Pairs_E : Ve.End := ⟨[⟨4, .shr, .bool, none⟩], []⟩
abbrev spec_l2Pairs_a : List ASh := [.val (.list (.prod I I)), .val I]
abbrev spec_l2Pairs_o : List OSh := []
abbrev spec_l2Pairs_O0 : Out := .or .ret spec_l2Pairs_J1 (.one (.ex 0) spec_l2Pairs_J2)
noncomputable def spec_l2Pairs_B0 : spec_l2Pairs_J0.P → Option (spec_l2Pairs_J0.P ⊕ spec_l2Pairs_O0.P)
  | ((pairs, n, i, ()), ()) => bif (decide (i < (List.length pairs : Int))) then (guardB (inb i (List.length pairs)) (match spec_l1In ((List.getD pairs (Int.toNat i) ((0 : Int), (0 : Int))).1, (0 : Int), (w64 (n - (1 : Int))), ()) () with | some ((r, ()), ()) => (bif (!r) then (some (.inr (.inl ((false, ()), ())))) else (match spec_l1In ((List.getD pairs (Int.toNat i) ((0 : Int), (0 : Int))).2, (0 : Int), (w64 (n - (1 : Int))), ()) () with | some ((r2, ()), ()) => (bif (!r2) then (some (.inr (.inl ((false, ()), ())))) else (bif (decide (((List.getD pairs (Int.toNat i) ((0 : Int), (0 : Int))).2) ≤ ((List.getD pairs (Int.toNat i) ((0 : Int), (0 : Int))).1))) then (some (.inr (.inl ((false, ()), ())))) else (bif (decide ((0 : Int) < i)) then (guardB (inb (w64 (i - (1 : Int))) (List.length pairs)) (match spec_l2Edge ((List.getD pairs (Int.toNat (w64 (i - (1 : Int)))) ((0 : Int), (0 : Int))), (List.getD pairs (Int.toNat i) ((0 : Int), (0 : Int))), ()) () with | some ((r3, ()), ()) => (bif (!r3) then (some (.inr (.inl ((false, ()), ())))) else (some (.inl ((pairs, n, (w64 (i + (1 : Int))), ()), ())))) | none => none)) else (some (.inl ((pairs, n, (w64 (i + (1 : Int))), ()), ())))))) | none => none)) | none => none)) else (some (.inr (.inr ((), ()))))
noncomputable def spec_l2Pairs : argP spec_l2Pairs_a → obP (extObs 0 spec_l2Pairs_o) → Option spec_l2Pairs_E.P
  | (pairs, n, ()), () => match loopO spec_l2Pairs_B0 ((pairs, n, (0 : Int), ()), ()) with | some (.inl ((t4, ()), ())) => some ((t4, ()), ()) | some (.inr ((), ())) => some ((true, ()), ()) | none => none
noncomputable def spec_l2Pairs_x : Cx := ⟨tab, spec_l2Edge_e, fun _ _ => 0, fun _ => false, [(21, 0), (21, 1), (21, 2), (21, 3), (28, 0), (28, 1), (28, 2), (28, 3), (48, 0), (48, 1), (48, 2), (48, 3)], [(6, 0)]⟩
noncomputable def c113 : Code := bodyOf Try.f113
noncomputable def spec_l2Pairs_A : Ann := .seq .nil (.seq (.seq .nil (.loop spec_l2Pairs_J0 spec_l2Pairs_O0 spec_l2Pairs_B0 (.seq .nil (.seq (.seq .nil (.seq (.draw [(0, .flo), (1, .flo), (2, .flo), (3, .flo), (4, .sole), (5, .flo), (6, .flo), (7, .flo), (9, .flo), (10, .flo), (8, .qui), (11, .sole), (12, .flo), (13, .flo), (14, .flo), (15, .flo), (17, .flo), (16, .qui), (18, .qui), (19, .flo), (20, .flo), (21, .flo), (22, .flo), (23, .flo), (24, .flo), (25, .flo), (26, .flo), (27, .flo), (28, .flo), (29, .qui), (30, .qui), (31, .sole), (32, .flo), (33, .flo), (34, .flo)]) .nil)) .nil)))) .nil)
theorem spec_l2Pairs_r0 (p : spec_l2Pairs_J0.P) : run spec_l2Pairs_x (subc [1, 0, 1, 0, 0] c113) (.seq .nil (.seq (.seq .nil (.seq (.draw [(0, .flo), (1, .flo), (2, .flo), (3, .flo), (4, .sole), (5, .flo), (6, .flo), (7, .flo), (9, .flo), (10, .flo), (8, .qui), (11, .sole), (12, .flo), (13, .flo), (14, .flo), (15, .flo), (17, .flo), (16, .qui), (18, .qui), (19, .flo), (20, .flo), (21, .flo), (22, .flo), (23, .flo), (24, .flo), (25, .flo), (26, .flo), (27, .flo), (28, .flo), (29, .qui), (30, .qui), (31, .sole), (32, .flo), (33, .flo), (34, .flo)]) .nil)) .nil)) (spec_l2Pairs_J0.S p) (leaf spec_l2Pairs_J0 spec_l2Pairs_O0) = spec_l2Pairs_B0 p := by kernel_rfl
noncomputable def spec_l2Pairs_D : Ve.Fn := ⟨113, spec_l2Pairs_a, spec_l2Pairs_o, spec_l2Pairs_E, spec_l2Pairs⟩
theorem spec_l2Pairs_w : Walk Try.prog spec_l2Pairs_x spec_l2Pairs_D Try.f113 c113 52 spec_l2Pairs_A :=
  ⟨⟨Try.func113, by kernel_rfl, by kernel_rfl, by kernel_rfl, by decide, by kernel_rfl, Nat.le_of_ble_eq_true (by kernel_rfl)⟩, by kernel_rfl, by kernel_rfl, by kernel_rfl, kcast (by kernel_rfl) (⟨spec_l2Pairs_r0, trivial⟩ : (∀ p, run spec_l2Pairs_x (subc [1, 0, 1, 0, 0] c113) (.seq .nil (.seq (.seq .nil (.seq (.draw [(0, .flo), (1, .flo), (2, .flo), (3, .flo), (4, .sole), (5, .flo), (6, .flo), (7, .flo), (9, .flo), (10, .flo), (8, .qui), (11, .sole), (12, .flo), (13, .flo), (14, .flo), (15, .flo), (17, .flo), (16, .qui), (18, .qui), (19, .flo), (20, .flo), (21, .flo), (22, .flo), (23, .flo), (24, .flo), (25, .flo), (26, .flo), (27, .flo), (28, .flo), (29, .qui), (30, .qui), (31, .sole), (32, .flo), (33, .flo), (34, .flo)]) .nil)) .nil)) (spec_l2Pairs_J0.S p) (leaf spec_l2Pairs_J0 spec_l2Pairs_O0) = spec_l2Pairs_B0 p) ∧ True), by kernel_rfl, fun x y => by kernel_rfl⟩
theorem spec_l2Pairs_s : spec_l2Pairs_D.Says Try.prog := spec_l2Pairs_w.says follows tabOk spec_l2Edge_e_ok
noncomputable def spec_l2Pairs_e : Env := more spec_l2Edge_e spec_l2Pairs_D
theorem spec_l2Pairs_e_ok : EnvOk Try.prog spec_l2Pairs_e := more_ok spec_l2Edge_e_ok spec_l2Pairs_s
/-! loop.example/g01128/spec.l2Good -/
abbrev spec_l2Good_E : Ve.End := ⟨[⟨2, .shr, .bool, none⟩], []⟩
abbrev spec_l2Good_a : List ASh := [.val (.prod I (.list (.prod I I)))]
abbrev spec_l2Good_o : List OSh := []
noncomputable def spec_l2Good : argP spec_l2Good_a → obP (extObs 0 spec_l2Good_o) → Option spec_l2Good_E.P
  | (g, ()), () => match spec_l1In (g.1, (0 : Int), (8 : Int), ()) () with | some ((r, ()), ()) => (bif r then (match spec_l2Pairs (g.2, g.1, ()) () with | some ((r2, ()), ()) => some ((r2, ()), ()) | none => none) else (some ((false, ()), ()))) | none => none
noncomputable def spec_l2Good_x : Cx := ⟨tab, spec_l2Pairs_e, fun _ _ => 0, fun _ => false, [(5, 0), (5, 1), (5, 2), (5, 3), (11, 0), (11, 1), (11, 2), (11, 3)], [(1, 0)]⟩
noncomputable def c65 : Code := bodyOf Try.f65
noncomputable def spec_l2Good_A : Ann := .nil
noncomputable def spec_l2Good_D : Ve.Fn := ⟨65, spec_l2Good_a, spec_l2Good_o, spec_l2Good_E, spec_l2Good⟩
theorem spec_l2Good_w : Walk Try.prog spec_l2Good_x spec_l2Good_D Try.f65 c65 13 spec_l2Good_A :=
  ⟨⟨Try.func65, by kernel_rfl, by kernel_rfl, by kernel_rfl, by decide, by kernel_rfl, Nat.le_of_ble_eq_true (by kernel_rfl)⟩, by kernel_rfl, by kernel_rfl, by kernel_rfl, kcast (by kernel_rfl) trivial, by kernel_rfl, fun x y => by kernel_rfl⟩
theorem spec_l2Good_s : spec_l2Good_D.Says Try.prog := spec_l2Good_w.says follows tabOk spec_l2Pairs_e_ok
noncomputable def spec_l2Good_e : Env := more spec_l2Pairs_e spec_l2Good_D
theorem spec_l2Good_e_ok : EnvOk Try.prog spec_l2Good_e := more_ok spec_l2Pairs_e_ok spec_l2Good_s
/-! loop.example/g01128/spec.l2Bits -/
abbrev spec_l2Bits_J0 : Tpl := ⟨[(0, .val I), (1, .val I), (5, .own .shr I), (6, .val I)], [], []⟩
abbrev spec_l2Bits_J1 : Tpl := ⟨[(5, .own .shr I)], [], []⟩
abbrev spec_l2Bits_E : Ve.End := ⟨[⟨4, (.own .shr), (.list I), none⟩], []⟩
abbrev spec_l2Bits_a : List ASh := [.val I, .val I]
abbrev spec_l2Bits_o : List OSh := []
abbrev spec_l2Bits_O0 : Out := .one (.ex 0) spec_l2Bits_J1
noncomputable def spec_l2Bits_B0 : spec_l2Bits_J0.P → Option (spec_l2Bits_J0.P ⊕ spec_l2Bits_O0.P)
  | ((n, code, out, x, ()), ()) => bif (decide (x < n)) then (guardB (decide (0 ≤ x)) (bif ((IntKind.wrap .i64 (BitVec.ofInt 64 (Int.fdiv code (2 ^ (min (Int.toNat x) 64))) &&& BitVec.ofInt 64 (1 : Int)).toNat) == (1 : Int)) then (guardB (decide ((List.length out + List.length [x]) * 8 ≤ 70368744177664)) (some (.inl ((n, code, (out ++ [x]), (w64 (x + (1 : Int))), ()), ())))) else (some (.inl ((n, code, out, (w64 (x + (1 : Int))), ()), ()))))) else (some (.inr ((out, ()), ())))
noncomputable def spec_l2Bits : argP spec_l2Bits_a → obP (extObs 0 spec_l2Bits_o) → Option spec_l2Bits_E.P
  | (n, code, ()), () => match loopO spec_l2Bits_B0 ((n, code, ([] : (List Int)), (0 : Int), ()), ()) with | some ((out, ()), ()) => some ((out, ()), ()) | none => none
noncomputable def spec_l2Bits_x : Cx := ⟨tab, spec_l2Good_e, fun _ _ => 0, fun _ => false, [(20, 0)], []⟩
noncomputable def c114 : Code := bodyOf Try.f114
noncomputable def spec_l2Bits_A : Ann := .seq .nil (.seq .nil (.seq (.seq .nil (.loop spec_l2Bits_J0 spec_l2Bits_O0 spec_l2Bits_B0 .nil)) .nil))
theorem spec_l2Bits_r0 (p : spec_l2Bits_J0.P) : run spec_l2Bits_x (subc [1, 1, 0, 1, 0, 0] c114) .nil (spec_l2Bits_J0.S p) (leaf spec_l2Bits_J0 spec_l2Bits_O0) = spec_l2Bits_B0 p := by kernel_rfl
noncomputable def spec_l2Bits_D : Ve.Fn := ⟨114, spec_l2Bits_a, spec_l2Bits_o, spec_l2Bits_E, spec_l2Bits⟩
theorem spec_l2Bits_w : Walk Try.prog spec_l2Bits_x spec_l2Bits_D Try.f114 c114 23 spec_l2Bits_A :=
  ⟨⟨Try.func114, by kernel_rfl, by kernel_rfl, by kernel_rfl, by decide, by kernel_rfl, Nat.le_of_ble_eq_true (by kernel_rfl)⟩, by kernel_rfl, by kernel_rfl, by kernel_rfl, kcast (by kernel_rfl) (⟨spec_l2Bits_r0, trivial⟩ : (∀ p, run spec_l2Bits_x (subc [1, 1, 0, 1, 0, 0] c114) .nil (spec_l2Bits_J0.S p) (leaf spec_l2Bits_J0 spec_l2Bits_O0) = spec_l2Bits_B0 p) ∧ True), by kernel_rfl, fun x y => by kernel_rfl⟩
theorem spec_l2Bits_s : spec_l2Bits_D.Says Try.prog := spec_l2Bits_w.says follows tabOk spec_l2Good_e_ok
noncomputable def spec_l2Bits_e : Env := more spec_l2Good_e spec_l2Bits_D
theorem spec_l2Bits_e_ok : EnvOk Try.prog spec_l2Bits_e := more_ok spec_l2Good_e_ok spec_l2Bits_s
/-! loop.example/g01128/spec.l2Near -/
abbrev spec_l2Near_J0 : Tpl := ⟨[(1, .val I), (2, .val I), (3, .cst (.prod I (.list (.prod I I)))), (7, .val I)], [], []⟩
abbrev spec_l2Near_J1 : Tpl := ⟨[(6, .val .bool)], [], []⟩
abbrev spec_l2Near_J2 : Tpl := ⟨[], [], []⟩
abbrev spec_l2Near_E : Ve.End := ⟨[⟨6, .shr, .bool, none⟩], []⟩
abbrev spec_l2Near_a : List ASh := [.val (.prod I (.list (.prod I I))), .val I, .val I]
abbrev spec_l2Near_o : List OSh := []
abbrev spec_l2Near_O0 : Out := .or .ret spec_l2Near_J1 (.one (.ex 0) spec_l2Near_J2)
noncomputable def spec_l2Near_B0 : spec_l2Near_J0.P → Option (spec_l2Near_J0.P ⊕ spec_l2Near_O0.P)
  | ((a, b, g, i, ()), ()) => bif (decide (i < (List.length g.2 : Int))) then (guardB (inb i (List.length g.2)) (bif (((List.getD g.2 (Int.toNat i) ((0 : Int), (0 : Int))).1) == a) then (bif (((List.getD g.2 (Int.toNat i) ((0 : Int), (0 : Int))).2) == b) then (some (.inr (.inl ((true, ()), ())))) else (bif (((List.getD g.2 (Int.toNat i) ((0 : Int), (0 : Int))).1) == b) then (bif (((List.getD g.2 (Int.toNat i) ((0 : Int), (0 : Int))).2) == a) then (some (.inr (.inl ((true, ()), ())))) else (some (.inl ((a, b, g, (w64 (i + (1 : Int))), ()), ())))) else (some (.inl ((a, b, g, (w64 (i + (1 : Int))), ()), ()))))) else (bif (((List.getD g.2 (Int.toNat i) ((0 : Int), (0 : Int))).1) == b) then (bif (((List.getD g.2 (Int.toNat i) ((0 : Int), (0 : Int))).2) == a) then (some (.inr (.inl ((true, ()), ())))) else (some (.inl ((a, b, g, (w64 (i + (1 : Int))), ()), ())))) else (some (.inl ((a, b, g, (w64 (i + (1 : Int))), ()), ())))))) else (some (.inr (.inr ((), ()))))
noncomputable def spec_l2Near : argP spec_l2Near_a → obP (extObs 0 spec_l2Near_o) → Option spec_l2Near_E.P
  | (g, a, b, ()), () => match loopO spec_l2Near_B0 ((a, b, g, (0 : Int), ()), ()) with | some (.inl ((t6, ()), ())) => some ((t6, ()), ()) | some (.inr ((), ())) => some ((false, ()), ()) | none => none
noncomputable def spec_l2Near_x : Cx := ⟨tab, spec_l2Bits_e, fun _ _ => 0, fun _ => false, [], [(3, 0), (8, 0)]⟩
noncomputable def c108 : Code := bodyOf Try.f108
noncomputable def spec_l2Near_A : Ann := .seq .nil (.seq (.seq .nil (.loop spec_l2Near_J0 spec_l2Near_O0 spec_l2Near_B0 .nil)) .nil)
theorem spec_l2Near_r0 (p : spec_l2Near_J0.P) : run spec_l2Near_x (subc [1, 0, 1, 0, 0] c108) .nil (spec_l2Near_J0.S p) (leaf spec_l2Near_J0 spec_l2Near_O0) = spec_l2Near_B0 p := by kernel_rfl
noncomputable def spec_l2Near_D : Ve.Fn := ⟨108, spec_l2Near_a, spec_l2Near_o, spec_l2Near_E, spec_l2Near⟩
theorem spec_l2Near_w : Walk Try.prog spec_l2Near_x spec_l2Near_D Try.f108 c108 43 spec_l2Near_A :=
  ⟨⟨Try.func108, by kernel_rfl, by kernel_rfl, by kernel_rfl, by decide, by kernel_rfl, Nat.le_of_ble_eq_true (by kernel_rfl)⟩, by kernel_rfl, by kernel_rfl, by kernel_rfl, kcast (by kernel_rfl) (⟨spec_l2Near_r0, trivial⟩ : (∀ p, run spec_l2Near_x (subc [1, 0, 1, 0, 0] c108) .nil (spec_l2Near_J0.S p) (leaf spec_l2Near_J0 spec_l2Near_O0) = spec_l2Near_B0 p) ∧ True), by kernel_rfl, fun x y => by kernel_rfl⟩
theorem spec_l2Near_s : spec_l2Near_D.Says Try.prog := spec_l2Near_w.says follows tabOk spec_l2Bits_e_ok
noncomputable def spec_l2Near_e : Env := more spec_l2Bits_e spec_l2Near_D
theorem spec_l2Near_e_ok : EnvOk Try.prog spec_l2Near_e := more_ok spec_l2Bits_e_ok spec_l2Near_s
/-! loop.example/g01128/spec.l10Covers -/
abbrev spec_l10Covers_J0 : Tpl := ⟨[(1, .val (.list I)), (2, .val I), (3, .val I), (4, .cst (.prod I (.list (.prod I I)))), (9, .val I)], [], []⟩
abbrev spec_l10Covers_J1 : Tpl := ⟨[(8, .val .bool)], [], []⟩
abbrev spec_l10Covers_J2 : Tpl := ⟨[], [], []⟩
abbrev spec_l10Covers_E : Ve.End := ⟨[⟨8, .shr, .bool, none⟩], []⟩
abbrev spec_l10Covers_a : List ASh := [.val (.prod I (.list (.prod I I))), .val (.list I), .val I, .val I]
abbrev spec_l10Covers_o : List OSh := []
abbrev spec_l10Covers_O0 : Out := .or .ret spec_l10Covers_J1 (.one (.ex 0) spec_l10Covers_J2)
noncomputable def spec_l10Covers_B0 : spec_l10Covers_J0.P → Option (spec_l10Covers_J0.P ⊕ spec_l10Covers_O0.P)
  | ((left, x, y, h, i, ()), ()) => bif (decide (i < (List.length left : Int))) then (guardB (inb i (List.length left)) (bif ((List.getD left (Int.toNat i) (0 : Int)) == x) then (bif ((List.getD left (Int.toNat i) (0 : Int)) != y) then (match spec_l2Near (h, y, (List.getD left (Int.toNat i) (0 : Int)), ()) () with | some ((r, ()), ()) => (bif (!r) then (some (.inr (.inl ((false, ()), ())))) else (some (.inl ((left, x, y, h, (w64 (i + (1 : Int))), ()), ())))) | none => none) else (some (.inl ((left, x, y, h, (w64 (i + (1 : Int))), ()), ())))) else (match spec_l2Near (h, x, (List.getD left (Int.toNat i) (0 : Int)), ()) () with | some ((r2, ()), ()) => (bif r2 then (bif ((List.getD left (Int.toNat i) (0 : Int)) != y) then (match spec_l2Near (h, y, (List.getD left (Int.toNat i) (0 : Int)), ()) () with | some ((r3, ()), ()) => (bif (!r3) then (some (.inr (.inl ((false, ()), ())))) else (some (.inl ((left, x, y, h, (w64 (i + (1 : Int))), ()), ())))) | none => none) else (some (.inl ((left, x, y, h, (w64 (i + (1 : Int))), ()), ())))) else (some (.inl ((left, x, y, h, (w64 (i + (1 : Int))), ()), ())))) | none => none))) else (some (.inr (.inr ((), ()))))
noncomputable def spec_l10Covers : argP spec_l10Covers_a → obP (extObs 0 spec_l10Covers_o) → Option spec_l10Covers_E.P
  | (h, left, x, y, ()), () => match loopO spec_l10Covers_B0 ((left, x, y, h, (0 : Int), ()), ()) with | some (.inl ((t8, ()), ())) => some ((t8, ()), ()) | some (.inr ((), ())) => some ((true, ()), ()) | none => none
noncomputable def spec_l10Covers_x : Cx := ⟨tab, spec_l2Near_e, fun _ _ => 0, fun _ => false, [(28, 0), (28, 1), (28, 2), (28, 3), (39, 0), (39, 1), (39, 2), (39, 3)], [(4, 0)]⟩
noncomputable def c142 : Code := bodyOf Try.f142
noncomputable def spec_l10Covers_A : Ann := .seq .nil (.seq (.seq .nil (.loop spec_l10Covers_J0 spec_l10Covers_O0 spec_l10Covers_B0 .nil)) .nil)
theorem spec_l10Covers_r0 (p : spec_l10Covers_J0.P) : run spec_l10Covers_x (subc [1, 0, 1, 0, 0] c142) .nil (spec_l10Covers_J0.S p) (leaf spec_l10Covers_J0 spec_l10Covers_O0) = spec_l10Covers_B0 p := by kernel_rfl
noncomputable def spec_l10Covers_D : Ve.Fn := ⟨142, spec_l10Covers_a, spec_l10Covers_o, spec_l10Covers_E, spec_l10Covers⟩
theorem spec_l10Covers_w : Walk Try.prog spec_l10Covers_x spec_l10Covers_D Try.f142 c142 42 spec_l10Covers_A :=
  ⟨⟨Try.func142, by kernel_rfl, by kernel_rfl, by kernel_rfl, by decide, by kernel_rfl, Nat.le_of_ble_eq_true (by kernel_rfl)⟩, by kernel_rfl, by kernel_rfl, by kernel_rfl, kcast (by kernel_rfl) (⟨spec_l10Covers_r0, trivial⟩ : (∀ p, run spec_l10Covers_x (subc [1, 0, 1, 0, 0] c142) .nil (spec_l10Covers_J0.S p) (leaf spec_l10Covers_J0 spec_l10Covers_O0) = spec_l10Covers_B0 p) ∧ True), by kernel_rfl, fun x y => by kernel_rfl⟩
theorem spec_l10Covers_s : spec_l10Covers_D.Says Try.prog := spec_l10Covers_w.says follows tabOk spec_l2Near_e_ok
noncomputable def spec_l10Covers_e : Env := more spec_l2Near_e spec_l10Covers_D
theorem spec_l10Covers_e_ok : EnvOk Try.prog spec_l10Covers_e := more_ok spec_l2Near_e_ok spec_l10Covers_s
/-! loop.example/g01128/spec.l10Fold -/
abbrev spec_l10Fold_J0 : Tpl := ⟨[(1, .val (.list I)), (2, .cst (.prod I (.list (.prod I I)))), (4, .ptr (4, 0)), (5, .val I), (6, .val I)], [((4, 0), .box .shr (.prod I I))], []⟩
abbrev spec_l10Fold_J1 : Tpl := ⟨[(4, .ptr (4, 0))], [((4, 0), .box .shr (.prod I I))], []⟩
abbrev spec_l10Fold_J2 : Tpl := ⟨[(1, .val (.list I)), (2, .cst (.prod I (.list (.prod I I)))), (4, .ptr (4, 0)), (5, .val I)], [((4, 0), .box .shr (.prod I I))], []⟩
abbrev spec_l10Fold_E : Ve.End := ⟨[⟨4, .shr, (.prod I I), some 78⟩], []⟩
abbrev spec_l10Fold_a : List ASh := [.val (.prod I (.list (.prod I I))), .val (.list I)]
abbrev spec_l10Fold_o : List OSh := []
abbrev spec_l10Fold_O0 : Out := .or .ret spec_l10Fold_J1 (.one (.ex 2) spec_l10Fold_J2)
noncomputable def spec_l10Fold_B0 : spec_l10Fold_J0.P → Option (spec_l10Fold_J0.P ⊕ spec_l10Fold_O0.P)
  | ((left, h, i, k, ()), (t4, ())) => bif (decide (k < (List.length left : Int))) then (bif (i != k) then (guardB (inb i (List.length left)) (guardB (inb k (List.length left)) (match spec_l10Covers (h, left, (List.getD left (Int.toNat i) (0 : Int)), (List.getD left (Int.toNat k) (0 : Int)), ()) () with | some ((r, ()), ()) => (bif r then (guardB (inb i (List.length left)) (guardB (inb k (List.length left)) (some (.inr (.inl ((), (((List.getD left (Int.toNat i) (0 : Int)), (List.getD left (Int.toNat k) (0 : Int))), ()))))))) else (some (.inl ((left, h, i, (w64 (k + (1 : Int))), ()), (t4, ()))))) | none => none))) else (some (.inl ((left, h, i, (w64 (k + (1 : Int))), ()), (t4, ()))))) else (some (.inr (.inr ((left, h, i, ()), (t4, ())))))
abbrev spec_l10Fold_O1 : Out := .or .ret spec_l10Fold_J1 (.one (.ex 0) spec_l10Fold_J1)
noncomputable def spec_l10Fold_B1 : spec_l10Fold_J2.P → Option (spec_l10Fold_J2.P ⊕ spec_l10Fold_O1.P)
  | ((left, h, i, ()), (t4, ())) => bif (decide (i < (List.length left : Int))) then (match loopO spec_l10Fold_B0 ((left, h, i, (0 : Int), ()), (t4, ())) with | some (.inl ((), (t4_2, ()))) => some (.inr (.inl ((), (t4_2, ())))) | some (.inr ((left2, h2, i2, ()), (t4_3, ()))) => some (.inl ((left2, h2, (w64 (i2 + (1 : Int))), ()), (t4_3, ()))) | none => none) else (some (.inr (.inr ((), (t4, ())))))
noncomputable def spec_l10Fold : argP spec_l10Fold_a → obP (extObs 0 spec_l10Fold_o) → Option spec_l10Fold_E.P
  | (h, left, ()), () => match loopO spec_l10Fold_B1 ((left, h, (0 : Int), ()), (((0 : Int), (0 : Int)), ())) with | some (.inl ((), (t4, ()))) => some ((t4, ()), ()) | some (.inr ((), (t4_2, ()))) => some ((((-1 : Int), (-1 : Int)), ()), ()) | none => none
noncomputable def spec_l10Fold_x : Cx := ⟨tab, spec_l10Covers_e, fun _ _ => 0, fun _ => false, [(33, 0), (33, 1), (33, 2), (33, 3)], [(2, 0)]⟩
noncomputable def c115 : Code := bodyOf Try.f115
noncomputable def spec_l10Fold_A : Ann := .seq .nil (.seq (.seq .nil (.loop spec_l10Fold_J2 spec_l10Fold_O1 spec_l10Fold_B1 (.seq .nil (.seq (.seq .nil (.loop spec_l10Fold_J0 spec_l10Fold_O0 spec_l10Fold_B0 (.seq .nil (.seq (.seq (.draw [(0, .flo), (1, .flo), (2, .flo), (3, .flo), (4, .flo), (5, .flo), (6, .flo), (7, .flo), (8, .flo), (9, .flo), (10, .flo), (11, .flo), (12, .flo), (13, .flo), (14, .sole), (15, .flo)]) (.seq (.seq (.draw [(0, .flo), (1, .flo), (2, .flo), (3, .flo), (4, .flo), (5, .flo), (6, .flo), (7, .flo), (8, .flo), (9, .sole)]) .nil) .nil)) .nil)))) .nil)))) .nil)
theorem spec_l10Fold_r0 (p : spec_l10Fold_J2.P) : run spec_l10Fold_x (subc [1, 0, 1, 0, 0] c115) (.seq .nil (.seq (.seq .nil (.loop spec_l10Fold_J0 spec_l10Fold_O0 spec_l10Fold_B0 (.seq .nil (.seq (.seq (.draw [(0, .flo), (1, .flo), (2, .flo), (3, .flo), (4, .flo), (5, .flo), (6, .flo), (7, .flo), (8, .flo), (9, .flo), (10, .flo), (11, .flo), (12, .flo), (13, .flo), (14, .sole), (15, .flo)]) (.seq (.seq (.draw [(0, .flo), (1, .flo), (2, .flo), (3, .flo), (4, .flo), (5, .flo), (6, .flo), (7, .flo), (8, .flo), (9, .sole)]) .nil) .nil)) .nil)))) .nil)) (spec_l10Fold_J2.S p) (leaf spec_l10Fold_J2 spec_l10Fold_O1) = spec_l10Fold_B1 p := by kernel_rfl
theorem spec_l10Fold_r1 (p : spec_l10Fold_J0.P) : run spec_l10Fold_x (subc [1, 0, 1, 0, 0, 1, 0, 0, 1, 0, 0] c115) (.seq .nil (.seq (.seq (.draw [(0, .flo), (1, .flo), (2, .flo), (3, .flo), (4, .flo), (5, .flo), (6, .flo), (7, .flo), (8, .flo), (9, .flo), (10, .flo), (11, .flo), (12, .flo), (13, .flo), (14, .sole), (15, .flo)]) (.seq (.seq (.draw [(0, .flo), (1, .flo), (2, .flo), (3, .flo), (4, .flo), (5, .flo), (6, .flo), (7, .flo), (8, .flo), (9, .sole)]) .nil) .nil)) .nil)) (spec_l10Fold_J0.S p) (leaf spec_l10Fold_J0 spec_l10Fold_O0) = spec_l10Fold_B0 p := by kernel_rfl
noncomputable def spec_l10Fold_D : Ve.Fn := ⟨115, spec_l10Fold_a, spec_l10Fold_o, spec_l10Fold_E, spec_l10Fold⟩
theorem spec_l10Fold_w : Walk Try.prog spec_l10Fold_x spec_l10Fold_D Try.f115 c115 45 spec_l10Fold_A :=
  ⟨⟨Try.func115, by kernel_rfl, by kernel_rfl, by kernel_rfl, by decide, by kernel_rfl, Nat.le_of_ble_eq_true (by kernel_rfl)⟩, by kernel_rfl, by kernel_rfl, by kernel_rfl, kcast (by kernel_rfl) (⟨spec_l10Fold_r0, spec_l10Fold_r1, trivial⟩ : (∀ p, run spec_l10Fold_x (subc [1, 0, 1, 0, 0] c115) (.seq .nil (.seq (.seq .nil (.loop spec_l10Fold_J0 spec_l10Fold_O0 spec_l10Fold_B0 (.seq .nil (.seq (.seq (.draw [(0, .flo), (1, .flo), (2, .flo), (3, .flo), (4, .flo), (5, .flo), (6, .flo), (7, .flo), (8, .flo), (9, .flo), (10, .flo), (11, .flo), (12, .flo), (13, .flo), (14, .sole), (15, .flo)]) (.seq (.seq (.draw [(0, .flo), (1, .flo), (2, .flo), (3, .flo), (4, .flo), (5, .flo), (6, .flo), (7, .flo), (8, .flo), (9, .sole)]) .nil) .nil)) .nil)))) .nil)) (spec_l10Fold_J2.S p) (leaf spec_l10Fold_J2 spec_l10Fold_O1) = spec_l10Fold_B1 p) ∧ (∀ p, run spec_l10Fold_x (subc [1, 0, 1, 0, 0, 1, 0, 0, 1, 0, 0] c115) (.seq .nil (.seq (.seq (.draw [(0, .flo), (1, .flo), (2, .flo), (3, .flo), (4, .flo), (5, .flo), (6, .flo), (7, .flo), (8, .flo), (9, .flo), (10, .flo), (11, .flo), (12, .flo), (13, .flo), (14, .sole), (15, .flo)]) (.seq (.seq (.draw [(0, .flo), (1, .flo), (2, .flo), (3, .flo), (4, .flo), (5, .flo), (6, .flo), (7, .flo), (8, .flo), (9, .sole)]) .nil) .nil)) .nil)) (spec_l10Fold_J0.S p) (leaf spec_l10Fold_J0 spec_l10Fold_O0) = spec_l10Fold_B0 p) ∧ True), by kernel_rfl, fun x y => by kernel_rfl⟩
theorem spec_l10Fold_s : spec_l10Fold_D.Says Try.prog := spec_l10Fold_w.says follows tabOk spec_l10Covers_e_ok
noncomputable def spec_l10Fold_e : Env := more spec_l10Covers_e spec_l10Fold_D
theorem spec_l10Fold_e_ok : EnvOk Try.prog spec_l10Fold_e := more_ok spec_l10Covers_e_ok spec_l10Fold_s
/-! loop.example/g01128/spec.l4Without -/
abbrev spec_l4Without_J0 : Tpl := ⟨[(0, .val (.list I)), (1, .val I), (5, .own .shr I), (6, .val I)], [], []⟩
abbrev spec_l4Without_J1 : Tpl := ⟨[(5, .own .shr I)], [], []⟩
abbrev spec_l4Without_E : Ve.End := ⟨[⟨4, (.own .shr), (.list I), none⟩], []⟩
abbrev spec_l4Without_a : List ASh := [.val (.list I), .val I]
abbrev spec_l4Without_o : List OSh := []
abbrev spec_l4Without_O0 : Out := .one (.ex 0) spec_l4Without_J1
noncomputable def spec_l4Without_B0 : spec_l4Without_J0.P → Option (spec_l4Without_J0.P ⊕ spec_l4Without_O0.P)
  | ((set, x, out, i, ()), ()) => bif (decide (i < (List.length set : Int))) then (guardB (inb i (List.length set)) (bif ((List.getD set (Int.toNat i) (0 : Int)) != x) then (guardB (inb i (List.length set)) (guardB (decide ((List.length out + List.length [(List.getD set (Int.toNat i) (0 : Int))]) * 8 ≤ 70368744177664)) (some (.inl ((set, x, (out ++ [(List.getD set (Int.toNat i) (0 : Int))]), (w64 (i + (1 : Int))), ()), ()))))) else (some (.inl ((set, x, out, (w64 (i + (1 : Int))), ()), ()))))) else (some (.inr ((out, ()), ())))
noncomputable def spec_l4Without : argP spec_l4Without_a → obP (extObs 0 spec_l4Without_o) → Option spec_l4Without_E.P
  | (set, x, ()), () => match loopO spec_l4Without_B0 ((set, x, ([] : (List Int)), (0 : Int), ()), ()) with | some ((out, ()), ()) => some ((out, ()), ()) | none => none
noncomputable def spec_l4Without_x : Cx := ⟨tab, spec_l10Fold_e, fun _ _ => 0, fun _ => false, [(25, 0)], []⟩
noncomputable def c116 : Code := bodyOf Try.f116
noncomputable def spec_l4Without_A : Ann := .seq .nil (.seq .nil (.seq (.seq .nil (.loop spec_l4Without_J0 spec_l4Without_O0 spec_l4Without_B0 .nil)) .nil))
theorem spec_l4Without_r0 (p : spec_l4Without_J0.P) : run spec_l4Without_x (subc [1, 1, 0, 1, 0, 0] c116) .nil (spec_l4Without_J0.S p) (leaf spec_l4Without_J0 spec_l4Without_O0) = spec_l4Without_B0 p := by kernel_rfl
noncomputable def spec_l4Without_D : Ve.Fn := ⟨116, spec_l4Without_a, spec_l4Without_o, spec_l4Without_E, spec_l4Without⟩
theorem spec_l4Without_w : Walk Try.prog spec_l4Without_x spec_l4Without_D Try.f116 c116 28 spec_l4Without_A :=
  ⟨⟨Try.func116, by kernel_rfl, by kernel_rfl, by kernel_rfl, by decide, by kernel_rfl, Nat.le_of_ble_eq_true (by kernel_rfl)⟩, by kernel_rfl, by kernel_rfl, by kernel_rfl, kcast (by kernel_rfl) (⟨spec_l4Without_r0, trivial⟩ : (∀ p, run spec_l4Without_x (subc [1, 1, 0, 1, 0, 0] c116) .nil (spec_l4Without_J0.S p) (leaf spec_l4Without_J0 spec_l4Without_O0) = spec_l4Without_B0 p) ∧ True), by kernel_rfl, fun x y => by kernel_rfl⟩
theorem spec_l4Without_s : spec_l4Without_D.Says Try.prog := spec_l4Without_w.says follows tabOk spec_l10Fold_e_ok
noncomputable def spec_l4Without_e : Env := more spec_l10Fold_e spec_l4Without_D
theorem spec_l4Without_e_ok : EnvOk Try.prog spec_l4Without_e := more_ok spec_l10Fold_e_ok spec_l4Without_s
/-! loop.example/g01128/spec.l10Folds -/
abbrev spec_l10Folds_J0 : Tpl := ⟨[(1, .cst (.prod I (.list (.prod I I)))), (3, .own .shr (.prod I I)), (4, .val (.list I)), (5, .ptr (5, 0))], [((5, 0), .box .shr (.prod I I))], []⟩
abbrev spec_l10Folds_J1 : Tpl := ⟨[(3, .own .shr (.prod I I))], [], []⟩
abbrev spec_l10Folds_J2 : Tpl := ⟨[(1, .cst (.prod I (.list (.prod I I)))), (3, .own .shr (.prod I I)), (4, .val (.list I))], [], []⟩
abbrev spec_l10Folds_J3 : Tpl := ⟨[(1, .cst (.prod I (.list (.prod I I)))), (8, .val I), (12, .val I)], [], []⟩
abbrev spec_l10Folds_E : Ve.End := ⟨[⟨2, (.own .shr), (.list (.prod I I)), none⟩], []⟩
abbrev spec_l10Folds_a : List ASh := [.val (.prod I (.list (.prod I I)))]
abbrev spec_l10Folds_o : List OSh := []
noncomputable def spec_l10Folds_D0 : spec_l10Folds_J3.P → Option spec_l10Folds_J2.P
  | ((h, t8, t12, ()), ()) => match spec_l2Bits (t8, t12, ()) () with | some ((r, ()), ()) => some ((h, ([] : (List (Int × Int))), r, ()), ()) | none => none
noncomputable def spec_l10Folds_T0 : DT spec_l10Folds_J2 := .node spec_l10Folds_J3 spec_l10Folds_D0 (.br [(0, .sole), (7, .sole), (8, .flo), (9, .flo)] .fin (.br [(7, .sole), (0, .sole), (8, .flo), (9, .flo)] .fin .nobr))
abbrev spec_l10Folds_O0 : Out := .one (.ex 0) spec_l10Folds_J1
noncomputable def spec_l10Folds_B0 : spec_l10Folds_J0.P → Option (spec_l10Folds_J0.P ⊕ spec_l10Folds_O0.P)
  | ((h, out, left, ()), (p, ())) => bif (decide ((0 : Int) ≤ p.1)) then (guardB (decide ((List.length out + List.length [p]) * 16 ≤ 70368744177664)) (match spec_l4Without (left, p.1, ()) () with | some ((r, ()), ()) => (match spec_l10Fold (h, r, ()) () with | some ((r2, ()), ()) => some (.inl ((h, (out ++ [p]), r, ()), (r2, ()))) | none => none) | none => none)) else (some (.inr ((out, ()), ())))
noncomputable def spec_l10Folds : argP spec_l10Folds_a → obP (extObs 0 spec_l10Folds_o) → Option spec_l10Folds_E.P
  | (h, ()), () => guardB (decide (0 ≤ h.1)) (match spec_l10Folds_D0 ((h, h.1, (w64 ((w64 ((1 : Int) * 2 ^ (min (Int.toNat h.1) 64))) - (1 : Int))), ()), ()) with | some ((h2, out, left, ()), ()) => (match spec_l10Fold (h2, left, ()) () with | some ((r, ()), ()) => (match loopO spec_l10Folds_B0 ((h2, out, left, ()), (r, ())) with | some ((out2, ()), ()) => some ((out2, ()), ()) | none => none) | none => none) | none => none)
noncomputable def spec_l10Folds_x : Cx := ⟨tab, spec_l4Without_e, fun _ _ => 0, fun _ => false, [(13, 0), (13, 1), (13, 2), (13, 3), (4, 0), (16, 0), (16, 1), (16, 2), (16, 3), (25, 0), (30, 0), (30, 1), (30, 2), (30, 3), (22, 0), (22, 1), (22, 2), (22, 3)], [(1, 0)]⟩
noncomputable def c66 : Code := bodyOf Try.f66
noncomputable def spec_l10Folds_A : Ann := .seq .nil (.seq (.draws [(1, .flo), (2, .flo), (3, .flo), (4, .flo), (5, .flo), (6, .flo)] spec_l10Folds_J2 spec_l10Folds_T0) (.seq (.seq .nil (.loop spec_l10Folds_J0 spec_l10Folds_O0 spec_l10Folds_B0 .nil)) .nil))
theorem spec_l10Folds_D0b0 (p : spec_l10Folds_J3.P) : runDrawn spec_l10Folds_x (opsOf (subc [1, 0] c66)) [(0, .sole), (7, .sole), (8, .flo), (9, .flo)] (spec_l10Folds_J3.S p) (endT spec_l10Folds_x (.fin : DT spec_l10Folds_J2)) = spec_l10Folds_D0 p := by kernel_rfl
theorem spec_l10Folds_D0b1 (p : spec_l10Folds_J3.P) : runDrawn spec_l10Folds_x (opsOf (subc [1, 0] c66)) [(7, .sole), (0, .sole), (8, .flo), (9, .flo)] (spec_l10Folds_J3.S p) (endT spec_l10Folds_x (.fin : DT spec_l10Folds_J2)) = spec_l10Folds_D0 p := by kernel_rfl
theorem spec_l10Folds_r1 (p : spec_l10Folds_J0.P) : run spec_l10Folds_x (subc [1, 1, 0, 1, 0, 0] c66) .nil (spec_l10Folds_J0.S p) (leaf spec_l10Folds_J0 spec_l10Folds_O0) = spec_l10Folds_B0 p := by kernel_rfl
noncomputable def spec_l10Folds_D : Ve.Fn := ⟨66, spec_l10Folds_a, spec_l10Folds_o, spec_l10Folds_E, spec_l10Folds⟩
theorem spec_l10Folds_w : Walk Try.prog spec_l10Folds_x spec_l10Folds_D Try.f66 c66 33 spec_l10Folds_A :=
  ⟨⟨Try.func66, by kernel_rfl, by kernel_rfl, by kernel_rfl, by decide, by kernel_rfl, Nat.le_of_ble_eq_true (by kernel_rfl)⟩, by kernel_rfl, by kernel_rfl, by kernel_rfl, kcast (by kernel_rfl) (⟨spec_l10Folds_D0b0, spec_l10Folds_D0b1, spec_l10Folds_r1, trivial⟩ : (∀ p, runDrawn spec_l10Folds_x (opsOf (subc [1, 0] c66)) [(0, .sole), (7, .sole), (8, .flo), (9, .flo)] (spec_l10Folds_J3.S p) (endT spec_l10Folds_x (.fin : DT spec_l10Folds_J2)) = spec_l10Folds_D0 p) ∧ (∀ p, runDrawn spec_l10Folds_x (opsOf (subc [1, 0] c66)) [(7, .sole), (0, .sole), (8, .flo), (9, .flo)] (spec_l10Folds_J3.S p) (endT spec_l10Folds_x (.fin : DT spec_l10Folds_J2)) = spec_l10Folds_D0 p) ∧ (∀ p, run spec_l10Folds_x (subc [1, 1, 0, 1, 0, 0] c66) .nil (spec_l10Folds_J0.S p) (leaf spec_l10Folds_J0 spec_l10Folds_O0) = spec_l10Folds_B0 p) ∧ True), by kernel_rfl, fun x y => by kernel_rfl⟩
theorem spec_l10Folds_s : spec_l10Folds_D.Says Try.prog := spec_l10Folds_w.says follows tabOk spec_l4Without_e_ok
noncomputable def spec_l10Folds_e : Env := more spec_l4Without_e spec_l10Folds_D
theorem spec_l10Folds_e_ok : EnvOk Try.prog spec_l10Folds_e := more_ok spec_l4Without_e_ok spec_l10Folds_s
/-! loop.example/g01128/spec.FoldOrder -/
abbrev spec_FoldOrder_E : Ve.End := ⟨[⟨2, (.own .shr), (.list (.prod I I)), none⟩, ⟨3, .shr, .bool, none⟩], []⟩
abbrev spec_FoldOrder_a : List ASh := [.val (.prod I (.list (.prod I I)))]
abbrev spec_FoldOrder_o : List OSh := []
noncomputable def spec_FoldOrder : argP spec_FoldOrder_a → obP (extObs 0 spec_FoldOrder_o) → Option spec_FoldOrder_E.P
  | (h, ()), () => match spec_l2Good (h, ()) () with | some ((r, ()), ()) => (bif (!r) then (some ((([] : (List (Int × Int))), false, ()), ())) else (bif (h.1 == (0 : Int)) then (some ((([] : (List (Int × Int))), false, ()), ())) else (match spec_l10Folds (h, ()) () with | some ((r2, ()), ()) => some ((r2, true, ()), ()) | none => none))) | none => none
noncomputable def spec_FoldOrder_x : Cx := ⟨tab, spec_l10Folds_e, fun _ _ => 0, fun _ => false, [(5, 0), (5, 1), (5, 2), (5, 3), (12, 0), (14, 0), (14, 1), (14, 2), (14, 3)], [(1, 0)]⟩
noncomputable def c31 : Code := bodyOf Try.f31
noncomputable def spec_FoldOrder_A : Ann := .nil
noncomputable def spec_FoldOrder_D : Ve.Fn := ⟨31, spec_FoldOrder_a, spec_FoldOrder_o, spec_FoldOrder_E, spec_FoldOrder⟩
theorem spec_FoldOrder_w : Walk Try.prog spec_FoldOrder_x spec_FoldOrder_D Try.f31 c31 15 spec_FoldOrder_A :=
  ⟨⟨Try.func31, by kernel_rfl, by kernel_rfl, by kernel_rfl, by decide, by kernel_rfl, Nat.le_of_ble_eq_true (by kernel_rfl)⟩, by kernel_rfl, by kernel_rfl, by kernel_rfl, kcast (by kernel_rfl) trivial, by kernel_rfl, fun x y => by kernel_rfl⟩
theorem spec_FoldOrder_s : spec_FoldOrder_D.Says Try.prog := spec_FoldOrder_w.says follows tabOk spec_l10Folds_e_ok
noncomputable def spec_FoldOrder_e : Env := more spec_l10Folds_e spec_FoldOrder_D
theorem spec_FoldOrder_e_ok : EnvOk Try.prog spec_FoldOrder_e := more_ok spec_l10Folds_e_ok spec_FoldOrder_s
/-! loop.example/g01128/impl.between -/
abbrev impl_between_E : Ve.End := ⟨[⟨6, .shr, .bool, none⟩], []⟩
abbrev impl_between_a : List ASh := [.val I, .val I, .val I]
abbrev impl_between_o : List OSh := []
noncomputable def impl_between : argP impl_between_a → obP (extObs 0 impl_between_o) → Option impl_between_E.P
  | (n, low, high, ()), () => bif (decide (low ≤ n)) then (some (((decide (n ≤ high)), ()), ())) else (some ((false, ()), ()))
noncomputable def impl_between_x : Cx := ⟨tab, spec_FoldOrder_e, fun _ _ => 0, fun _ => false, [], []⟩
noncomputable def c92 : Code := bodyOf Try.f92
noncomputable def impl_between_A : Ann := .nil
noncomputable def impl_between_D : Ve.Fn := ⟨92, impl_between_a, impl_between_o, impl_between_E, impl_between⟩
theorem impl_between_w : Walk Try.prog impl_between_x impl_between_D Try.f92 c92 15 impl_between_A :=
  ⟨⟨Try.func92, by kernel_rfl, by kernel_rfl, by kernel_rfl, by decide, by kernel_rfl, Nat.le_of_ble_eq_true (by kernel_rfl)⟩, by kernel_rfl, by kernel_rfl, by kernel_rfl, kcast (by kernel_rfl) trivial, by kernel_rfl, fun x y => by kernel_rfl⟩
theorem impl_between_s : impl_between_D.Says Try.prog := impl_between_w.says follows tabOk spec_FoldOrder_e_ok
noncomputable def impl_between_e : Env := more spec_FoldOrder_e impl_between_D
theorem impl_between_e_ok : EnvOk Try.prog impl_between_e := more_ok spec_FoldOrder_e_ok impl_between_s
/-! cmp.isNaN[int] -/
abbrev cmp_isNaN_int_E : Ve.End := ⟨[⟨2, .shr, .bool, none⟩], []⟩
abbrev cmp_isNaN_int_a : List ASh := [.val I]
abbrev cmp_isNaN_int_o : List OSh := []
noncomputable def cmp_isNaN_int : argP cmp_isNaN_int_a → obP (extObs 0 cmp_isNaN_int_o) → Option cmp_isNaN_int_E.P
  | (x, ()), () => some (((x != x), ()), ())
noncomputable def cmp_isNaN_int_x : Cx := ⟨tab, impl_between_e, fun _ _ => 0, fun _ => false, [], []⟩
noncomputable def c163 : Code := bodyOf Try.f163
noncomputable def cmp_isNaN_int_A : Ann := .nil
noncomputable def cmp_isNaN_int_D : Ve.Fn := ⟨163, cmp_isNaN_int_a, cmp_isNaN_int_o, cmp_isNaN_int_E, cmp_isNaN_int⟩
theorem cmp_isNaN_int_w : Walk Try.prog cmp_isNaN_int_x cmp_isNaN_int_D Try.f163 c163 6 cmp_isNaN_int_A :=
  ⟨⟨Try.func163, by kernel_rfl, by kernel_rfl, by kernel_rfl, by decide, by kernel_rfl, Nat.le_of_ble_eq_true (by kernel_rfl)⟩, by kernel_rfl, by kernel_rfl, by kernel_rfl, kcast (by kernel_rfl) trivial, by kernel_rfl, fun x y => by kernel_rfl⟩
theorem cmp_isNaN_int_s : cmp_isNaN_int_D.Says Try.prog := cmp_isNaN_int_w.says follows tabOk impl_between_e_ok
noncomputable def cmp_isNaN_int_e : Env := more impl_between_e cmp_isNaN_int_D
theorem cmp_isNaN_int_e_ok : EnvOk Try.prog cmp_isNaN_int_e := more_ok impl_between_e_ok cmp_isNaN_int_s
/-! cmp.Compare[int] -/
abbrev cmp_Compare_int_E : Ve.End := ⟨[⟨4, .shr, I, none⟩], []⟩
abbrev cmp_Compare_int_a : List ASh := [.val I, .val I]
abbrev cmp_Compare_int_o : List OSh := []
noncomputable def cmp_Compare_int : argP cmp_Compare_int_a → obP (extObs 0 cmp_Compare_int_o) → Option cmp_Compare_int_E.P
  | (x, y, ()), () => match cmp_isNaN_int (x, ()) () with | some ((r, ()), ()) => (match cmp_isNaN_int (y, ()) () with | some ((r2, ()), ()) => (bif r then (bif r2 then (some (((0 : Int), ()), ())) else (some (((-1 : Int), ()), ()))) else (bif r2 then (some (((1 : Int), ()), ())) else (bif (decide (x < y)) then (some (((-1 : Int), ()), ())) else (bif (decide (y < x)) then (some (((1 : Int), ()), ())) else (some (((0 : Int), ()), ())))))) | none => none) | none => none
noncomputable def cmp_Compare_int_x : Cx := ⟨tab, cmp_isNaN_int_e, fun _ _ => 0, fun _ => false, [(8, 0), (8, 1), (8, 2), (8, 3), (10, 0), (10, 1), (10, 2), (10, 3)], []⟩
noncomputable def c160 : Code := bodyOf Try.f160
noncomputable def cmp_Compare_int_A : Ann := .nil
noncomputable def cmp_Compare_int_D : Ve.Fn := ⟨160, cmp_Compare_int_a, cmp_Compare_int_o, cmp_Compare_int_E, cmp_Compare_int⟩
theorem cmp_Compare_int_w : Walk Try.prog cmp_Compare_int_x cmp_Compare_int_D Try.f160 c160 20 cmp_Compare_int_A :=
  ⟨⟨Try.func160, by kernel_rfl, by kernel_rfl, by kernel_rfl, by decide, by kernel_rfl, Nat.le_of_ble_eq_true (by kernel_rfl)⟩, by kernel_rfl, by kernel_rfl, by kernel_rfl, kcast (by kernel_rfl) trivial, by kernel_rfl, fun x y => by kernel_rfl⟩
theorem cmp_Compare_int_s : cmp_Compare_int_D.Says Try.prog := cmp_Compare_int_w.says follows tabOk cmp_isNaN_int_e_ok
noncomputable def cmp_Compare_int_e : Env := more cmp_isNaN_int_e cmp_Compare_int_D
theorem cmp_Compare_int_e_ok : EnvOk Try.prog cmp_Compare_int_e := more_ok cmp_isNaN_int_e_ok cmp_Compare_int_s
/-! cmp.Or[int] -/
abbrev cmp_Or_int_J0 : Tpl := ⟨[(3, .val I), (6, .val (.list I)), (7, .val I), (8, .val I)], [], []⟩
abbrev cmp_Or_int_J1 : Tpl := ⟨[(2, .val I)], [], []⟩
abbrev cmp_Or_int_J2 : Tpl := ⟨[(3, .val I)], [], []⟩
abbrev cmp_Or_int_E : Ve.End := ⟨[⟨2, .shr, I, none⟩], []⟩
abbrev cmp_Or_int_a : List ASh := [.val (.list I)]
abbrev cmp_Or_int_o : List OSh := []
abbrev cmp_Or_int_O0 : Out := .or .ret cmp_Or_int_J1 (.one (.ex 0) cmp_Or_int_J2)
noncomputable def cmp_Or_int_B0 : cmp_Or_int_J0.P → Option (cmp_Or_int_J0.P ⊕ cmp_Or_int_O0.P)
  | ((zero_, t6, t7, t8, ()), ()) => bif (decide (t8 < t7)) then (guardB (inb t8 (List.length t6)) (bif ((List.getD t6 (Int.toNat t8) (0 : Int)) != zero_) then (some (.inr (.inl (((List.getD t6 (Int.toNat t8) (0 : Int)), ()), ())))) else (some (.inl ((zero_, t6, t7, (w64 (t8 + (1 : Int))), ()), ()))))) else (some (.inr (.inr ((zero_, ()), ()))))
noncomputable def cmp_Or_int : argP cmp_Or_int_a → obP (extObs 0 cmp_Or_int_o) → Option cmp_Or_int_E.P
  | (vals, ()), () => match loopO cmp_Or_int_B0 (((0 : Int), vals, (List.length vals : Int), (0 : Int), ()), ()) with | some (.inl ((t2, ()), ())) => some ((t2, ()), ()) | some (.inr ((zero_, ()), ())) => some ((zero_, ()), ()) | none => none
noncomputable def cmp_Or_int_x : Cx := ⟨tab, cmp_Compare_int_e, fun _ _ => 0, fun _ => false, [], []⟩
noncomputable def c159 : Code := bodyOf Try.f159
noncomputable def cmp_Or_int_A : Ann := .seq .nil (.seq .nil (.seq (.seq .nil (.loop cmp_Or_int_J0 cmp_Or_int_O0 cmp_Or_int_B0 .nil)) .nil))
theorem cmp_Or_int_r0 (p : cmp_Or_int_J0.P) : run cmp_Or_int_x (subc [1, 1, 0, 1, 0, 0] c159) .nil (cmp_Or_int_J0.S p) (leaf cmp_Or_int_J0 cmp_Or_int_O0) = cmp_Or_int_B0 p := by kernel_rfl
noncomputable def cmp_Or_int_D : Ve.Fn := ⟨159, cmp_Or_int_a, cmp_Or_int_o, cmp_Or_int_E, cmp_Or_int⟩
theorem cmp_Or_int_w : Walk Try.prog cmp_Or_int_x cmp_Or_int_D Try.f159 c159 18 cmp_Or_int_A :=
  ⟨⟨Try.func159, by kernel_rfl, by kernel_rfl, by kernel_rfl, by decide, by kernel_rfl, Nat.le_of_ble_eq_true (by kernel_rfl)⟩, by kernel_rfl, by kernel_rfl, by kernel_rfl, kcast (by kernel_rfl) (⟨cmp_Or_int_r0, trivial⟩ : (∀ p, run cmp_Or_int_x (subc [1, 1, 0, 1, 0, 0] c159) .nil (cmp_Or_int_J0.S p) (leaf cmp_Or_int_J0 cmp_Or_int_O0) = cmp_Or_int_B0 p) ∧ True), by kernel_rfl, fun x y => by kernel_rfl⟩
theorem cmp_Or_int_s : cmp_Or_int_D.Says Try.prog := cmp_Or_int_w.says follows tabOk cmp_Compare_int_e_ok
noncomputable def cmp_Or_int_e : Env := more cmp_Compare_int_e cmp_Or_int_D
theorem cmp_Or_int_e_ok : EnvOk Try.prog cmp_Or_int_e := more_ok cmp_Compare_int_e_ok cmp_Or_int_s
/-! loop.example/g01128/impl.comparePairs -/
abbrev impl_comparePairs_E : Ve.End := ⟨[⟨4, .shr, I, none⟩], []⟩
abbrev impl_comparePairs_a : List ASh := [.val (.prod I I), .val (.prod I I)]
abbrev impl_comparePairs_o : List OSh := []
noncomputable def impl_comparePairs : argP impl_comparePairs_a → obP (extObs 0 impl_comparePairs_o) → Option impl_comparePairs_E.P
  | (a, b, ()), () => match cmp_Compare_int (a.1, b.1, ()) () with | some ((r, ()), ()) => (match cmp_Compare_int (a.2, b.2, ()) () with | some ((r2, ()), ()) => (match cmp_Or_int ([r, r2], ()) () with | some ((r3, ()), ()) => some ((r3, ()), ()) | none => none) | none => none) | none => none
noncomputable def impl_comparePairs_x : Cx := ⟨tab, cmp_Or_int_e, fun _ _ => 0, fun _ => false, [(9, 0), (9, 1), (9, 2), (9, 3), (14, 0), (14, 1), (14, 2), (14, 3), (15, 0), (16, 0), (16, 1), (16, 2), (16, 3)], [(2, 0), (3, 0)]⟩
noncomputable def c137 : Code := bodyOf Try.f137
noncomputable def impl_comparePairs_A : Ann := .seq .nil (.seq (.draw [(0, .flo), (1, .flo), (2, .flo), (3, .flo), (5, .flo), (6, .flo), (7, .flo), (8, .flo), (4, .sole), (9, .sole), (10, .sole), (11, .sole), (12, .flo)]) .nil)
noncomputable def impl_comparePairs_D : Ve.Fn := ⟨137, impl_comparePairs_a, impl_comparePairs_o, impl_comparePairs_E, impl_comparePairs⟩
theorem impl_comparePairs_w : Walk Try.prog impl_comparePairs_x impl_comparePairs_D Try.f137 c137 17 impl_comparePairs_A :=
  ⟨⟨Try.func137, by kernel_rfl, by kernel_rfl, by kernel_rfl, by decide, by kernel_rfl, Nat.le_of_ble_eq_true (by kernel_rfl)⟩, by kernel_rfl, by kernel_rfl, by kernel_rfl, kcast (by kernel_rfl) trivial, by kernel_rfl, fun x y => by kernel_rfl⟩
theorem impl_comparePairs_s : impl_comparePairs_D.Says Try.prog := impl_comparePairs_w.says follows tabOk cmp_Or_int_e_ok
noncomputable def impl_comparePairs_e : Env := more cmp_Or_int_e impl_comparePairs_D
theorem impl_comparePairs_e_ok : EnvOk Try.prog impl_comparePairs_e := more_ok cmp_Or_int_e_ok impl_comparePairs_s
/-! loop.example/g01128/impl.isPairs -/
abbrev impl_isPairs_J0 : Tpl := ⟨[(0, .val (.list (.prod I I))), (1, .val I), (7, .val (.list (.prod I I))), (8, .val I), (9, .val I)], [], []⟩
abbrev impl_isPairs_J1 : Tpl := ⟨[(4, .val .bool)], [], []⟩
abbrev impl_isPairs_J2 : Tpl := ⟨[], [], []⟩
abbrev impl_isPairs_E : Ve.End := ⟨[⟨4, .shr, .bool, none⟩], []⟩
abbrev impl_isPairs_a : List ASh := [.val (.list (.prod I I)), .val I]
abbrev impl_isPairs_o : List OSh := []
abbrev impl_isPairs_O0 : Out := .or .ret impl_isPairs_J1 (.one (.ex 0) impl_isPairs_J2)
noncomputable def impl_isPairs_B0 : impl_isPairs_J0.P → Option (impl_isPairs_J0.P ⊕ impl_isPairs_O0.P)
  | ((list, below, t7, t8, t9, ()), ()) => bif (decide (t9 < t8)) then (guardB (inb t9 (List.length t7)) (bif (decide (((List.getD t7 (Int.toNat t9) ((0 : Int), (0 : Int))).1) < (0 : Int))) then (some (.inr (.inl ((false, ()), ())))) else (bif (decide (((List.getD t7 (Int.toNat t9) ((0 : Int), (0 : Int))).2) ≤ ((List.getD t7 (Int.toNat t9) ((0 : Int), (0 : Int))).1))) then (some (.inr (.inl ((false, ()), ())))) else (bif (decide (below ≤ ((List.getD t7 (Int.toNat t9) ((0 : Int), (0 : Int))).2))) then (some (.inr (.inl ((false, ()), ())))) else (bif (decide ((0 : Int) < t9)) then (guardB (inb (w64 (t9 - (1 : Int))) (List.length list)) (match impl_comparePairs ((List.getD list (Int.toNat (w64 (t9 - (1 : Int)))) ((0 : Int), (0 : Int))), (List.getD t7 (Int.toNat t9) ((0 : Int), (0 : Int))), ()) () with | some ((r, ()), ()) => (bif (decide ((0 : Int) ≤ r)) then (some (.inr (.inl ((false, ()), ())))) else (some (.inl ((list, below, t7, t8, (w64 (t9 + (1 : Int))), ()), ())))) | none => none)) else (some (.inl ((list, below, t7, t8, (w64 (t9 + (1 : Int))), ()), ())))))))) else (some (.inr (.inr ((), ()))))
noncomputable def impl_isPairs : argP impl_isPairs_a → obP (extObs 0 impl_isPairs_o) → Option impl_isPairs_E.P
  | (list, below, ()), () => match loopO impl_isPairs_B0 ((list, below, list, (List.length list : Int), (0 : Int), ()), ()) with | some (.inl ((t4, ()), ())) => some ((t4, ()), ()) | some (.inr ((), ())) => some ((true, ()), ()) | none => none
noncomputable def impl_isPairs_x : Cx := ⟨tab, impl_comparePairs_e, fun _ _ => 0, fun _ => false, [(40, 0), (40, 1), (40, 2), (40, 3)], [(6, 0)]⟩
noncomputable def c117 : Code := bodyOf Try.f117
noncomputable def impl_isPairs_A : Ann := .seq .nil (.seq (.seq .nil (.loop impl_isPairs_J0 impl_isPairs_O0 impl_isPairs_B0 (.seq .nil (.seq .nil (.seq (.seq .nil (.seq (.draw [(0, .flo), (1, .flo), (2, .flo), (3, .flo), (4, .flo), (6, .flo), (5, .qui), (7, .qui), (8, .flo), (9, .flo), (10, .flo), (11, .flo), (13, .flo), (12, .qui), (14, .flo), (15, .flo), (16, .flo), (17, .flo), (18, .flo), (19, .flo), (20, .flo), (21, .flo), (22, .flo), (23, .flo), (24, .qui), (25, .qui), (26, .sole), (27, .flo), (28, .flo), (29, .flo)]) .nil)) .nil))))) .nil)
theorem impl_isPairs_r0 (p : impl_isPairs_J0.P) : run impl_isPairs_x (subc [1, 0, 1, 0, 0] c117) (.seq .nil (.seq .nil (.seq (.seq .nil (.seq (.draw [(0, .flo), (1, .flo), (2, .flo), (3, .flo), (4, .flo), (6, .flo), (5, .qui), (7, .qui), (8, .flo), (9, .flo), (10, .flo), (11, .flo), (13, .flo), (12, .qui), (14, .flo), (15, .flo), (16, .flo), (17, .flo), (18, .flo), (19, .flo), (20, .flo), (21, .flo), (22, .flo), (23, .flo), (24, .qui), (25, .qui), (26, .sole), (27, .flo), (28, .flo), (29, .flo)]) .nil)) .nil))) (impl_isPairs_J0.S p) (leaf impl_isPairs_J0 impl_isPairs_O0) = impl_isPairs_B0 p := by kernel_rfl
noncomputable def impl_isPairs_D : Ve.Fn := ⟨117, impl_isPairs_a, impl_isPairs_o, impl_isPairs_E, impl_isPairs⟩
theorem impl_isPairs_w : Walk Try.prog impl_isPairs_x impl_isPairs_D Try.f117 c117 45 impl_isPairs_A :=
  ⟨⟨Try.func117, by kernel_rfl, by kernel_rfl, by kernel_rfl, by decide, by kernel_rfl, Nat.le_of_ble_eq_true (by kernel_rfl)⟩, by kernel_rfl, by kernel_rfl, by kernel_rfl, kcast (by kernel_rfl) (⟨impl_isPairs_r0, trivial⟩ : (∀ p, run impl_isPairs_x (subc [1, 0, 1, 0, 0] c117) (.seq .nil (.seq .nil (.seq (.seq .nil (.seq (.draw [(0, .flo), (1, .flo), (2, .flo), (3, .flo), (4, .flo), (6, .flo), (5, .qui), (7, .qui), (8, .flo), (9, .flo), (10, .flo), (11, .flo), (13, .flo), (12, .qui), (14, .flo), (15, .flo), (16, .flo), (17, .flo), (18, .flo), (19, .flo), (20, .flo), (21, .flo), (22, .flo), (23, .flo), (24, .qui), (25, .qui), (26, .sole), (27, .flo), (28, .flo), (29, .flo)]) .nil)) .nil))) (impl_isPairs_J0.S p) (leaf impl_isPairs_J0 impl_isPairs_O0) = impl_isPairs_B0 p) ∧ True), by kernel_rfl, fun x y => by kernel_rfl⟩
theorem impl_isPairs_s : impl_isPairs_D.Says Try.prog := impl_isPairs_w.says follows tabOk impl_comparePairs_e_ok
noncomputable def impl_isPairs_e : Env := more impl_comparePairs_e impl_isPairs_D
theorem impl_isPairs_e_ok : EnvOk Try.prog impl_isPairs_e := more_ok impl_comparePairs_e_ok impl_isPairs_s
/-! loop.example/g01128/impl.IsGraph -/
abbrev impl_IsGraph_E : Ve.End := ⟨[⟨2, .shr, .bool, none⟩], []⟩
abbrev impl_IsGraph_a : List ASh := [.val (.prod I (.list (.prod I I)))]
abbrev impl_IsGraph_o : List OSh := []
noncomputable def impl_IsGraph : argP impl_IsGraph_a → obP (extObs 0 impl_IsGraph_o) → Option impl_IsGraph_E.P
  | (g, ()), () => match impl_between (g.1, (0 : Int), (8 : Int), ()) () with | some ((r, ()), ()) => (bif r then (match impl_isPairs (g.2, g.1, ()) () with | some ((r2, ()), ()) => some ((r2, ()), ()) | none => none) else (some ((false, ()), ()))) | none => none
noncomputable def impl_IsGraph_x : Cx := ⟨tab, impl_isPairs_e, fun _ _ => 0, fun _ => false, [(5, 0), (5, 1), (5, 2), (5, 3), (11, 0), (11, 1), (11, 2), (11, 3)], [(1, 0)]⟩
noncomputable def c67 : Code := bodyOf Try.f67
noncomputable def impl_IsGraph_A : Ann := .nil
noncomputable def impl_IsGraph_D : Ve.Fn := ⟨67, impl_IsGraph_a, impl_IsGraph_o, impl_IsGraph_E, impl_IsGraph⟩
theorem impl_IsGraph_w : Walk Try.prog impl_IsGraph_x impl_IsGraph_D Try.f67 c67 13 impl_IsGraph_A :=
  ⟨⟨Try.func67, by kernel_rfl, by kernel_rfl, by kernel_rfl, by decide, by kernel_rfl, Nat.le_of_ble_eq_true (by kernel_rfl)⟩, by kernel_rfl, by kernel_rfl, by kernel_rfl, kcast (by kernel_rfl) trivial, by kernel_rfl, fun x y => by kernel_rfl⟩
theorem impl_IsGraph_s : impl_IsGraph_D.Says Try.prog := impl_IsGraph_w.says follows tabOk impl_isPairs_e_ok
noncomputable def impl_IsGraph_e : Env := more impl_isPairs_e impl_IsGraph_D
theorem impl_IsGraph_e_ok : EnvOk Try.prog impl_IsGraph_e := more_ok impl_isPairs_e_ok impl_IsGraph_s
/-! (loop.example/g01128/impl.Graph).all -/
abbrev impl_Graph_all_E : Ve.End := ⟨[⟨2, .shr, (.int .u64), none⟩], []⟩
abbrev impl_Graph_all_a : List ASh := [.val (.prod I (.list (.prod I I)))]
abbrev impl_Graph_all_o : List OSh := []
noncomputable def impl_Graph_all : argP impl_Graph_all_a → obP (extObs 0 impl_Graph_all_o) → Option impl_Graph_all_E.P
  | (g, ()), () => guardB (decide (0 ≤ g.1)) (some (((IntKind.wrap .u64 ((IntKind.wrap .u64 ((1 : Int) * 2 ^ (min (Int.toNat g.1) 64))) - (1 : Int))), ()), ()))
noncomputable def impl_Graph_all_x : Cx := ⟨tab, impl_IsGraph_e, fun _ _ => 0, fun _ => false, [], [(1, 0)]⟩
noncomputable def c118 : Code := bodyOf Try.f118
noncomputable def impl_Graph_all_A : Ann := .nil
noncomputable def impl_Graph_all_D : Ve.Fn := ⟨118, impl_Graph_all_a, impl_Graph_all_o, impl_Graph_all_E, impl_Graph_all⟩
theorem impl_Graph_all_w : Walk Try.prog impl_Graph_all_x impl_Graph_all_D Try.f118 c118 7 impl_Graph_all_A :=
  ⟨⟨Try.func118, by kernel_rfl, by kernel_rfl, by kernel_rfl, by decide, by kernel_rfl, Nat.le_of_ble_eq_true (by kernel_rfl)⟩, by kernel_rfl, by kernel_rfl, by kernel_rfl, kcast (by kernel_rfl) trivial, by kernel_rfl, fun x y => by kernel_rfl⟩
theorem impl_Graph_all_s : impl_Graph_all_D.Says Try.prog := impl_Graph_all_w.says follows tabOk impl_IsGraph_e_ok
noncomputable def impl_Graph_all_e : Env := more impl_IsGraph_e impl_Graph_all_D
theorem impl_Graph_all_e_ok : EnvOk Try.prog impl_Graph_all_e := more_ok impl_IsGraph_e_ok impl_Graph_all_s
/-! (loop.example/g01128/impl.bag).list -/
abbrev impl_bag_list_J0 : Tpl := ⟨[(0, .val (.int .u64)), (3, .own .shr I), (6, .val I)], [], []⟩
abbrev impl_bag_list_J1 : Tpl := ⟨[(3, .own .shr I)], [], []⟩
abbrev impl_bag_list_E : Ve.End := ⟨[⟨2, (.own .shr), (.list I), none⟩], []⟩
abbrev impl_bag_list_a : List ASh := [.val (.int .u64)]
abbrev impl_bag_list_o : List OSh := []
abbrev impl_bag_list_O0 : Out := .one (.ex 0) impl_bag_list_J1
noncomputable def impl_bag_list_B0 : impl_bag_list_J0.P → Option (impl_bag_list_J0.P ⊕ impl_bag_list_O0.P)
  | ((b, out, t6, ()), ()) => bif (decide (t6 < (8 : Int))) then (guardB (decide (0 ≤ t6)) (bif ((IntKind.wrap .u64 (BitVec.ofInt 64 (Int.fdiv b (2 ^ (min (Int.toNat t6) 64))) &&& BitVec.ofInt 64 (1 : Int)).toNat) == (1 : Int)) then (guardB (decide ((List.length out + List.length [t6]) * 8 ≤ 70368744177664)) (some (.inl ((b, (out ++ [t6]), (w64 (t6 + (1 : Int))), ()), ())))) else (some (.inl ((b, out, (w64 (t6 + (1 : Int))), ()), ()))))) else (some (.inr ((out, ()), ())))
noncomputable def impl_bag_list : argP impl_bag_list_a → obP (extObs 0 impl_bag_list_o) → Option impl_bag_list_E.P
  | (b, ()), () => match loopO impl_bag_list_B0 ((b, ([] : (List Int)), (0 : Int), ()), ()) with | some ((out, ()), ()) => some ((out, ()), ()) | none => none
noncomputable def impl_bag_list_x : Cx := ⟨tab, impl_Graph_all_e, fun _ _ => 0, fun _ => false, [(16, 0)], []⟩
noncomputable def c120 : Code := bodyOf Try.f120
noncomputable def impl_bag_list_A : Ann := .seq .nil (.seq .nil (.seq (.seq .nil (.loop impl_bag_list_J0 impl_bag_list_O0 impl_bag_list_B0 .nil)) .nil))
theorem impl_bag_list_r0 (p : impl_bag_list_J0.P) : run impl_bag_list_x (subc [1, 1, 0, 1, 0, 0] c120) .nil (impl_bag_list_J0.S p) (leaf impl_bag_list_J0 impl_bag_list_O0) = impl_bag_list_B0 p := by kernel_rfl
noncomputable def impl_bag_list_D : Ve.Fn := ⟨120, impl_bag_list_a, impl_bag_list_o, impl_bag_list_E, impl_bag_list⟩
theorem impl_bag_list_w : Walk Try.prog impl_bag_list_x impl_bag_list_D Try.f120 c120 20 impl_bag_list_A :=
  ⟨⟨Try.func120, by kernel_rfl, by kernel_rfl, by kernel_rfl, by decide, by kernel_rfl, Nat.le_of_ble_eq_true (by kernel_rfl)⟩, by kernel_rfl, by kernel_rfl, by kernel_rfl, kcast (by kernel_rfl) (⟨impl_bag_list_r0, trivial⟩ : (∀ p, run impl_bag_list_x (subc [1, 1, 0, 1, 0, 0] c120) .nil (impl_bag_list_J0.S p) (leaf impl_bag_list_J0 impl_bag_list_O0) = impl_bag_list_B0 p) ∧ True), by kernel_rfl, fun x y => by kernel_rfl⟩
theorem impl_bag_list_s : impl_bag_list_D.Says Try.prog := impl_bag_list_w.says follows tabOk impl_Graph_all_e_ok
noncomputable def impl_bag_list_e : Env := more impl_Graph_all_e impl_bag_list_D
theorem impl_bag_list_e_ok : EnvOk Try.prog impl_bag_list_e := more_ok impl_Graph_all_e_ok impl_bag_list_s
/-! loop.example/g01128/impl.pair -/
abbrev impl_pair_E : Ve.End := ⟨[⟨4, .shr, (.prod I I), some 78⟩], []⟩
abbrev impl_pair_a : List ASh := [.val I, .val I]
abbrev impl_pair_o : List OSh := []
noncomputable def impl_pair : argP impl_pair_a → obP (extObs 0 impl_pair_o) → Option impl_pair_E.P
  | (a, b, ()), () => some ((((bif decide (b < a) then b else a), (bif decide (a < b) then b else a)), ()), ())
noncomputable def impl_pair_x : Cx := ⟨tab, impl_bag_list_e, fun _ _ => 0, fun _ => false, [], []⟩
noncomputable def c135 : Code := bodyOf Try.f135
noncomputable def impl_pair_A : Ann := .nil
noncomputable def impl_pair_D : Ve.Fn := ⟨135, impl_pair_a, impl_pair_o, impl_pair_E, impl_pair⟩
theorem impl_pair_w : Walk Try.prog impl_pair_x impl_pair_D Try.f135 c135 12 impl_pair_A :=
  ⟨⟨Try.func135, by kernel_rfl, by kernel_rfl, by kernel_rfl, by decide, by kernel_rfl, Nat.le_of_ble_eq_true (by kernel_rfl)⟩, by kernel_rfl, by kernel_rfl, by kernel_rfl, kcast (by kernel_rfl) trivial, by kernel_rfl, fun x y => by kernel_rfl⟩
theorem impl_pair_s : impl_pair_D.Says Try.prog := impl_pair_w.says follows tabOk impl_bag_list_e_ok
noncomputable def impl_pair_e : Env := more impl_bag_list_e impl_pair_D
theorem impl_pair_e_ok : EnvOk Try.prog impl_pair_e := more_ok impl_bag_list_e_ok impl_pair_s
/-! slices.Index[[][2]int,[2]int] -/
abbrev slices_Index_2_int_2_int_J0 : Tpl := ⟨[(0, .val (.list (.prod I I))), (3, .cst (.prod I I)), (7, .val I), (8, .val I)], [], []⟩
abbrev slices_Index_2_int_2_int_J1 : Tpl := ⟨[(4, .val I)], [], []⟩
abbrev slices_Index_2_int_2_int_J2 : Tpl := ⟨[], [], []⟩
abbrev slices_Index_2_int_2_int_E : Ve.End := ⟨[⟨4, .shr, I, none⟩], []⟩
abbrev slices_Index_2_int_2_int_a : List ASh := [.val (.list (.prod I I)), .val (.prod I I)]
abbrev slices_Index_2_int_2_int_o : List OSh := []
abbrev slices_Index_2_int_2_int_O0 : Out := .or .ret slices_Index_2_int_2_int_J1 (.one (.ex 0) slices_Index_2_int_2_int_J2)
noncomputable def slices_Index_2_int_2_int_B0 : slices_Index_2_int_2_int_J0.P → Option (slices_Index_2_int_2_int_J0.P ⊕ slices_Index_2_int_2_int_O0.P)
  | ((s, v, t7, t8, ()), ()) => bif (decide (t8 < t7)) then (guardB (inb t8 (List.length s)) (bif ((v.1 == ((List.getD s (Int.toNat t8) ((0 : Int), (0 : Int))).1)) && (v.2 == ((List.getD s (Int.toNat t8) ((0 : Int), (0 : Int))).2))) then (some (.inr (.inl ((t8, ()), ())))) else (some (.inl ((s, v, t7, (w64 (t8 + (1 : Int))), ()), ()))))) else (some (.inr (.inr ((), ()))))
noncomputable def slices_Index_2_int_2_int : argP slices_Index_2_int_2_int_a → obP (extObs 0 slices_Index_2_int_2_int_o) → Option slices_Index_2_int_2_int_E.P
  | (s, v, ()), () => match loopO slices_Index_2_int_2_int_B0 ((s, v, (List.length s : Int), (0 : Int), ()), ()) with | some (.inl ((t4, ()), ())) => some ((t4, ()), ()) | some (.inr ((), ())) => some (((-1 : Int), ()), ()) | none => none
noncomputable def slices_Index_2_int_2_int_x : Cx := ⟨tab, impl_pair_e, fun _ _ => 0, fun _ => false, [], [(3, 0)]⟩
noncomputable def c174 : Code := bodyOf Try.f174
noncomputable def slices_Index_2_int_2_int_A : Ann := .seq .nil (.seq (.seq .nil (.loop slices_Index_2_int_2_int_J0 slices_Index_2_int_2_int_O0 slices_Index_2_int_2_int_B0 (.seq .nil (.seq .nil (.seq (.seq .nil (.seq (.draw [(0, .flo), (1, .flo), (2, .flo), (3, .flo), (4, .flo), (5, .flo)]) .nil)) .nil))))) .nil)
theorem slices_Index_2_int_2_int_r0 (p : slices_Index_2_int_2_int_J0.P) : run slices_Index_2_int_2_int_x (subc [1, 0, 1, 0, 0] c174) (.seq .nil (.seq .nil (.seq (.seq .nil (.seq (.draw [(0, .flo), (1, .flo), (2, .flo), (3, .flo), (4, .flo), (5, .flo)]) .nil)) .nil))) (slices_Index_2_int_2_int_J0.S p) (leaf slices_Index_2_int_2_int_J0 slices_Index_2_int_2_int_O0) = slices_Index_2_int_2_int_B0 p := by kernel_rfl
noncomputable def slices_Index_2_int_2_int_D : Ve.Fn := ⟨174, slices_Index_2_int_2_int_a, slices_Index_2_int_2_int_o, slices_Index_2_int_2_int_E, slices_Index_2_int_2_int⟩
theorem slices_Index_2_int_2_int_w : Walk Try.prog slices_Index_2_int_2_int_x slices_Index_2_int_2_int_D Try.f174 c174 19 slices_Index_2_int_2_int_A :=
  ⟨⟨Try.func174, by kernel_rfl, by kernel_rfl, by kernel_rfl, by decide, by kernel_rfl, Nat.le_of_ble_eq_true (by kernel_rfl)⟩, by kernel_rfl, by kernel_rfl, by kernel_rfl, kcast (by kernel_rfl) (⟨slices_Index_2_int_2_int_r0, trivial⟩ : (∀ p, run slices_Index_2_int_2_int_x (subc [1, 0, 1, 0, 0] c174) (.seq .nil (.seq .nil (.seq (.seq .nil (.seq (.draw [(0, .flo), (1, .flo), (2, .flo), (3, .flo), (4, .flo), (5, .flo)]) .nil)) .nil))) (slices_Index_2_int_2_int_J0.S p) (leaf slices_Index_2_int_2_int_J0 slices_Index_2_int_2_int_O0) = slices_Index_2_int_2_int_B0 p) ∧ True), by kernel_rfl, fun x y => by kernel_rfl⟩
theorem slices_Index_2_int_2_int_s : slices_Index_2_int_2_int_D.Says Try.prog := slices_Index_2_int_2_int_w.says follows tabOk impl_pair_e_ok
noncomputable def slices_Index_2_int_2_int_e : Env := more impl_pair_e slices_Index_2_int_2_int_D
theorem slices_Index_2_int_2_int_e_ok : EnvOk Try.prog slices_Index_2_int_2_int_e := more_ok impl_pair_e_ok slices_Index_2_int_2_int_s
/-! slices.Contains[[][2]int,[2]int] -/
abbrev slices_Contains_2_int_2_int_E : Ve.End := ⟨[⟨4, .shr, .bool, none⟩], []⟩
abbrev slices_Contains_2_int_2_int_a : List ASh := [.val (.list (.prod I I)), .val (.prod I I)]
abbrev slices_Contains_2_int_2_int_o : List OSh := []
noncomputable def slices_Contains_2_int_2_int : argP slices_Contains_2_int_2_int_a → obP (extObs 0 slices_Contains_2_int_2_int_o) → Option slices_Contains_2_int_2_int_E.P
  | (s, v, ()), () => match slices_Index_2_int_2_int (s, v, ()) () with | some ((r, ()), ()) => some (((decide ((0 : Int) ≤ r)), ()), ()) | none => none
noncomputable def slices_Contains_2_int_2_int_x : Cx := ⟨tab, slices_Index_2_int_2_int_e, fun _ _ => 0, fun _ => false, [(7, 0), (7, 1), (7, 2), (7, 3)], [(3, 0)]⟩
noncomputable def c161 : Code := bodyOf Try.f161
noncomputable def slices_Contains_2_int_2_int_A : Ann := .nil
noncomputable def slices_Contains_2_int_2_int_D : Ve.Fn := ⟨161, slices_Contains_2_int_2_int_a, slices_Contains_2_int_2_int_o, slices_Contains_2_int_2_int_E, slices_Contains_2_int_2_int⟩
theorem slices_Contains_2_int_2_int_w : Walk Try.prog slices_Contains_2_int_2_int_x slices_Contains_2_int_2_int_D Try.f161 c161 9 slices_Contains_2_int_2_int_A :=
  ⟨⟨Try.func161, by kernel_rfl, by kernel_rfl, by kernel_rfl, by decide, by kernel_rfl, Nat.le_of_ble_eq_true (by kernel_rfl)⟩, by kernel_rfl, by kernel_rfl, by kernel_rfl, kcast (by kernel_rfl) trivial, by kernel_rfl, fun x y => by kernel_rfl⟩
theorem slices_Contains_2_int_2_int_s : slices_Contains_2_int_2_int_D.Says Try.prog := slices_Contains_2_int_2_int_w.says follows tabOk slices_Index_2_int_2_int_e_ok
noncomputable def slices_Contains_2_int_2_int_e : Env := more slices_Index_2_int_2_int_e slices_Contains_2_int_2_int_D
theorem slices_Contains_2_int_2_int_e_ok : EnvOk Try.prog slices_Contains_2_int_2_int_e := more_ok slices_Index_2_int_2_int_e_ok slices_Contains_2_int_2_int_s
/-! (loop.example/g01128/impl.Graph).has -/
abbrev impl_Graph_has_E : Ve.End := ⟨[⟨6, .shr, .bool, none⟩], []⟩
abbrev impl_Graph_has_a : List ASh := [.val (.prod I (.list (.prod I I))), .val I, .val I]
abbrev impl_Graph_has_o : List OSh := []
noncomputable def impl_Graph_has : argP impl_Graph_has_a → obP (extObs 0 impl_Graph_has_o) → Option impl_Graph_has_E.P
  | (g, a, b, ()), () => match impl_pair (a, b, ()) () with | some ((r, ()), ()) => (match slices_Contains_2_int_2_int (g.2, r, ()) () with | some ((r2, ()), ()) => some ((r2, ()), ()) | none => none) | none => none
noncomputable def impl_Graph_has_x : Cx := ⟨tab, slices_Contains_2_int_2_int_e, fun _ _ => 0, fun _ => false, [(11, 0), (11, 1), (11, 2), (11, 3), (12, 0), (12, 1), (12, 2), (12, 3)], [(3, 0)]⟩
noncomputable def c140 : Code := bodyOf Try.f140
noncomputable def impl_Graph_has_A : Ann := .seq .nil (.seq (.draw [(0, .flo), (1, .flo), (2, .flo), (3, .flo), (4, .sole), (5, .sole), (6, .flo)]) .nil)
noncomputable def impl_Graph_has_D : Ve.Fn := ⟨140, impl_Graph_has_a, impl_Graph_has_o, impl_Graph_has_E, impl_Graph_has⟩
theorem impl_Graph_has_w : Walk Try.prog impl_Graph_has_x impl_Graph_has_D Try.f140 c140 13 impl_Graph_has_A :=
  ⟨⟨Try.func140, by kernel_rfl, by kernel_rfl, by kernel_rfl, by decide, by kernel_rfl, Nat.le_of_ble_eq_true (by kernel_rfl)⟩, by kernel_rfl, by kernel_rfl, by kernel_rfl, kcast (by kernel_rfl) trivial, by kernel_rfl, fun x y => by kernel_rfl⟩
theorem impl_Graph_has_s : impl_Graph_has_D.Says Try.prog := impl_Graph_has_w.says follows tabOk slices_Contains_2_int_2_int_e_ok
noncomputable def impl_Graph_has_e : Env := more slices_Contains_2_int_2_int_e impl_Graph_has_D
theorem impl_Graph_has_e_ok : EnvOk Try.prog impl_Graph_has_e := more_ok slices_Contains_2_int_2_int_e_ok impl_Graph_has_s
/-! (loop.example/g01128/impl.Graph).neighbors -/
abbrev impl_Graph_neighbors_J0 : Tpl := ⟨[(1, .val I), (2, .cst (.prod I (.list (.prod I I)))), (5, .own .shr I), (9, .val I), (10, .val I)], [], []⟩
abbrev impl_Graph_neighbors_J1 : Tpl := ⟨[(5, .own .shr I)], [], []⟩
abbrev impl_Graph_neighbors_E : Ve.End := ⟨[⟨4, (.own .shr), (.list I), none⟩], []⟩
abbrev impl_Graph_neighbors_a : List ASh := [.val (.prod I (.list (.prod I I))), .val I]
abbrev impl_Graph_neighbors_o : List OSh := []
abbrev impl_Graph_neighbors_O0 : Out := .one (.ex 0) impl_Graph_neighbors_J1
noncomputable def impl_Graph_neighbors_B0 : impl_Graph_neighbors_J0.P → Option (impl_Graph_neighbors_J0.P ⊕ impl_Graph_neighbors_O0.P)
  | ((x, g, out, t9, t10, ()), ()) => bif (decide (t10 < t9)) then (bif (t10 != x) then (match impl_Graph_has (g, x, t10, ()) () with | some ((r, ()), ()) => (bif r then (guardB (decide ((List.length out + List.length [t10]) * 8 ≤ 70368744177664)) (some (.inl ((x, g, (out ++ [t10]), t9, (w64 (t10 + (1 : Int))), ()), ())))) else (some (.inl ((x, g, out, t9, (w64 (t10 + (1 : Int))), ()), ())))) | none => none) else (some (.inl ((x, g, out, t9, (w64 (t10 + (1 : Int))), ()), ())))) else (some (.inr ((out, ()), ())))
noncomputable def impl_Graph_neighbors : argP impl_Graph_neighbors_a → obP (extObs 0 impl_Graph_neighbors_o) → Option impl_Graph_neighbors_E.P
  | (g, x, ()), () => match loopO impl_Graph_neighbors_B0 ((x, g, ([] : (List Int)), g.1, (0 : Int), ()), ()) with | some ((out, ()), ()) => some ((out, ()), ()) | none => none
noncomputable def impl_Graph_neighbors_x : Cx := ⟨tab, impl_Graph_has_e, fun _ _ => 0, fun _ => false, [(20, 0), (20, 1), (20, 2), (20, 3), (24, 0)], [(2, 0)]⟩
noncomputable def c111 : Code := bodyOf Try.f111
noncomputable def impl_Graph_neighbors_A : Ann := .seq .nil (.seq .nil (.seq (.seq .nil (.loop impl_Graph_neighbors_J0 impl_Graph_neighbors_O0 impl_Graph_neighbors_B0 .nil)) .nil))
theorem impl_Graph_neighbors_r0 (p : impl_Graph_neighbors_J0.P) : run impl_Graph_neighbors_x (subc [1, 1, 0, 1, 0, 0] c111) .nil (impl_Graph_neighbors_J0.S p) (leaf impl_Graph_neighbors_J0 impl_Graph_neighbors_O0) = impl_Graph_neighbors_B0 p := by kernel_rfl
noncomputable def impl_Graph_neighbors_D : Ve.Fn := ⟨111, impl_Graph_neighbors_a, impl_Graph_neighbors_o, impl_Graph_neighbors_E, impl_Graph_neighbors⟩
theorem impl_Graph_neighbors_w : Walk Try.prog impl_Graph_neighbors_x impl_Graph_neighbors_D Try.f111 c111 28 impl_Graph_neighbors_A :=
  ⟨⟨Try.func111, by kernel_rfl, by kernel_rfl, by kernel_rfl, by decide, by kernel_rfl, Nat.le_of_ble_eq_true (by kernel_rfl)⟩, by kernel_rfl, by kernel_rfl, by kernel_rfl, kcast (by kernel_rfl) (⟨impl_Graph_neighbors_r0, trivial⟩ : (∀ p, run impl_Graph_neighbors_x (subc [1, 1, 0, 1, 0, 0] c111) .nil (impl_Graph_neighbors_J0.S p) (leaf impl_Graph_neighbors_J0 impl_Graph_neighbors_O0) = impl_Graph_neighbors_B0 p) ∧ True), by kernel_rfl, fun x y => by kernel_rfl⟩
theorem impl_Graph_neighbors_s : impl_Graph_neighbors_D.Says Try.prog := impl_Graph_neighbors_w.says follows tabOk impl_Graph_has_e_ok
noncomputable def impl_Graph_neighbors_e : Env := more impl_Graph_has_e impl_Graph_neighbors_D
theorem impl_Graph_neighbors_e_ok : EnvOk Try.prog impl_Graph_neighbors_e := more_ok impl_Graph_has_e_ok impl_Graph_neighbors_s
/-! loop.example/g01128/impl.bagOf -/
abbrev impl_bagOf_J0 : Tpl := ⟨[(3, .val (.int .u64)), (6, .val (.list I)), (7, .val I), (8, .val I)], [], []⟩
abbrev impl_bagOf_J1 : Tpl := ⟨[(3, .val (.int .u64))], [], []⟩
abbrev impl_bagOf_E : Ve.End := ⟨[⟨2, .shr, (.int .u64), none⟩], []⟩
abbrev impl_bagOf_a : List ASh := [.val (.list I)]
abbrev impl_bagOf_o : List OSh := []
abbrev impl_bagOf_O0 : Out := .one (.ex 0) impl_bagOf_J1
noncomputable def impl_bagOf_B0 : impl_bagOf_J0.P → Option (impl_bagOf_J0.P ⊕ impl_bagOf_O0.P)
  | ((out, t6, t7, t8, ()), ()) => bif (decide (t8 < t7)) then (guardB (inb t8 (List.length t6)) (guardB (decide (0 ≤ (List.getD t6 (Int.toNat t8) (0 : Int)))) (some (.inl (((IntKind.wrap .u64 (BitVec.ofInt 64 out ||| BitVec.ofInt 64 (IntKind.wrap .u64 ((1 : Int) * 2 ^ (min (Int.toNat (List.getD t6 (Int.toNat t8) (0 : Int))) 64)))).toNat), t6, t7, (w64 (t8 + (1 : Int))), ()), ()))))) else (some (.inr ((out, ()), ())))
noncomputable def impl_bagOf : argP impl_bagOf_a → obP (extObs 0 impl_bagOf_o) → Option impl_bagOf_E.P
  | (list, ()), () => match loopO impl_bagOf_B0 (((0 : Int), list, (List.length list : Int), (0 : Int), ()), ()) with | some ((out, ()), ()) => some ((out, ()), ()) | none => none
noncomputable def impl_bagOf_x : Cx := ⟨tab, impl_Graph_neighbors_e, fun _ _ => 0, fun _ => false, [], []⟩
noncomputable def c143 : Code := bodyOf Try.f143
noncomputable def impl_bagOf_A : Ann := .seq .nil (.seq .nil (.seq (.seq .nil (.loop impl_bagOf_J0 impl_bagOf_O0 impl_bagOf_B0 .nil)) .nil))
theorem impl_bagOf_r0 (p : impl_bagOf_J0.P) : run impl_bagOf_x (subc [1, 1, 0, 1, 0, 0] c143) .nil (impl_bagOf_J0.S p) (leaf impl_bagOf_J0 impl_bagOf_O0) = impl_bagOf_B0 p := by kernel_rfl
noncomputable def impl_bagOf_D : Ve.Fn := ⟨143, impl_bagOf_a, impl_bagOf_o, impl_bagOf_E, impl_bagOf⟩
theorem impl_bagOf_w : Walk Try.prog impl_bagOf_x impl_bagOf_D Try.f143 c143 18 impl_bagOf_A :=
  ⟨⟨Try.func143, by kernel_rfl, by kernel_rfl, by kernel_rfl, by decide, by kernel_rfl, Nat.le_of_ble_eq_true (by kernel_rfl)⟩, by kernel_rfl, by kernel_rfl, by kernel_rfl, kcast (by kernel_rfl) (⟨impl_bagOf_r0, trivial⟩ : (∀ p, run impl_bagOf_x (subc [1, 1, 0, 1, 0, 0] c143) .nil (impl_bagOf_J0.S p) (leaf impl_bagOf_J0 impl_bagOf_O0) = impl_bagOf_B0 p) ∧ True), by kernel_rfl, fun x y => by kernel_rfl⟩
theorem impl_bagOf_s : impl_bagOf_D.Says Try.prog := impl_bagOf_w.says follows tabOk impl_Graph_neighbors_e_ok
noncomputable def impl_bagOf_e : Env := more impl_Graph_neighbors_e impl_bagOf_D
theorem impl_bagOf_e_ok : EnvOk Try.prog impl_bagOf_e := more_ok impl_Graph_neighbors_e_ok impl_bagOf_s
/-! (loop.example/g01128/impl.bag).has -/
abbrev impl_bag_has_E : Ve.End := ⟨[⟨4, .shr, .bool, none⟩], []⟩
abbrev impl_bag_has_a : List ASh := [.val (.int .u64), .val I]
abbrev impl_bag_has_o : List OSh := []
noncomputable def impl_bag_has : argP impl_bag_has_a → obP (extObs 0 impl_bag_has_o) → Option impl_bag_has_E.P
  | (b, x, ()), () => guardB (decide (0 ≤ x)) (some ((((IntKind.wrap .u64 (BitVec.ofInt 64 (Int.fdiv b (2 ^ (min (Int.toNat x) 64))) &&& BitVec.ofInt 64 (1 : Int)).toNat) == (1 : Int)), ()), ()))
noncomputable def impl_bag_has_x : Cx := ⟨tab, impl_bagOf_e, fun _ _ => 0, fun _ => false, [], []⟩
noncomputable def c144 : Code := bodyOf Try.f144
noncomputable def impl_bag_has_A : Ann := .nil
noncomputable def impl_bag_has_D : Ve.Fn := ⟨144, impl_bag_has_a, impl_bag_has_o, impl_bag_has_E, impl_bag_has⟩
theorem impl_bag_has_w : Walk Try.prog impl_bag_has_x impl_bag_has_D Try.f144 c144 10 impl_bag_has_A :=
  ⟨⟨Try.func144, by kernel_rfl, by kernel_rfl, by kernel_rfl, by decide, by kernel_rfl, Nat.le_of_ble_eq_true (by kernel_rfl)⟩, by kernel_rfl, by kernel_rfl, by kernel_rfl, kcast (by kernel_rfl) trivial, by kernel_rfl, fun x y => by kernel_rfl⟩
theorem impl_bag_has_s : impl_bag_has_D.Says Try.prog := impl_bag_has_w.says follows tabOk impl_bagOf_e_ok
noncomputable def impl_bag_has_e : Env := more impl_bagOf_e impl_bag_has_D
theorem impl_bag_has_e_ok : EnvOk Try.prog impl_bag_has_e := more_ok impl_bagOf_e_ok impl_bag_has_s
/-! (loop.example/g01128/impl.Graph).covers -/
abbrev impl_Graph_covers_E : Ve.End := ⟨[⟨8, .shr, .bool, none⟩], []⟩
abbrev impl_Graph_covers_a : List ASh := [.val (.prod I (.list (.prod I I))), .val (.int .u64), .val I, .val I]
abbrev impl_Graph_covers_o : List OSh := []
noncomputable def impl_Graph_covers : argP impl_Graph_covers_a → obP (extObs 0 impl_Graph_covers_o) → Option impl_Graph_covers_E.P
  | (g, set, x, y, ()), () => match impl_Graph_neighbors (g, x, ()) () with | some ((r, ()), ()) => (match impl_bagOf (r, ()) () with | some ((r2, ()), ()) => (match impl_bag_has ((IntKind.wrap .u64 (BitVec.ofInt 64 r2 &&& BitVec.ofInt 64 set).toNat), y, ()) () with | some ((r3, ()), ()) => (bif r3 then (guardB (decide (0 ≤ y)) (match impl_Graph_neighbors (g, y, ()) () with | some ((r4, ()), ()) => (match impl_bagOf (r4, ()) () with | some ((r5, ()), ()) => some ((((IntKind.wrap .u64 (BitVec.ofInt 64 (IntKind.wrap .u64 (BitVec.ofInt 64 r5 ||| BitVec.ofInt 64 (IntKind.wrap .u64 ((1 : Int) * 2 ^ (min (Int.toNat y) 64)))).toNat) &&& BitVec.ofInt 64 (IntKind.wrap .u64 (BitVec.ofInt 64 r2 &&& BitVec.ofInt 64 set).toNat)).toNat) == (IntKind.wrap .u64 (BitVec.ofInt 64 r2 &&& BitVec.ofInt 64 set).toNat)), ()), ()) | none => none) | none => none)) else (some ((false, ()), ()))) | none => none) | none => none) | none => none
noncomputable def impl_Graph_covers_x : Cx := ⟨tab, impl_bag_has_e, fun _ _ => 0, fun _ => false, [(12, 0), (12, 1), (12, 2), (12, 3), (13, 0), (13, 1), (13, 2), (13, 3), (18, 0), (18, 1), (18, 2), (18, 3), (22, 0), (22, 1), (22, 2), (22, 3), (23, 0), (23, 1), (23, 2), (23, 3)], [(4, 0)]⟩
noncomputable def c121 : Code := bodyOf Try.f121
noncomputable def impl_Graph_covers_A : Ann := .seq .nil (.seq .nil (.seq (.draw [(0, .flo), (1, .flo), (2, .sole), (3, .flo), (4, .flo), (5, .flo), (8, .flo), (9, .flo), (11, .flo), (13, .flo), (6, .sole), (7, .sole), (10, .flo), (12, .flo), (14, .flo), (15, .flo), (16, .flo)]) .nil))
noncomputable def impl_Graph_covers_D : Ve.Fn := ⟨121, impl_Graph_covers_a, impl_Graph_covers_o, impl_Graph_covers_E, impl_Graph_covers⟩
theorem impl_Graph_covers_w : Walk Try.prog impl_Graph_covers_x impl_Graph_covers_D Try.f121 c121 32 impl_Graph_covers_A :=
  ⟨⟨Try.func121, by kernel_rfl, by kernel_rfl, by kernel_rfl, by decide, by kernel_rfl, Nat.le_of_ble_eq_true (by kernel_rfl)⟩, by kernel_rfl, by kernel_rfl, by kernel_rfl, kcast (by kernel_rfl) trivial, by kernel_rfl, fun x y => by kernel_rfl⟩
theorem impl_Graph_covers_s : impl_Graph_covers_D.Says Try.prog := impl_Graph_covers_w.says follows tabOk impl_bag_has_e_ok
noncomputable def impl_Graph_covers_e : Env := more impl_bag_has_e impl_Graph_covers_D
theorem impl_Graph_covers_e_ok : EnvOk Try.prog impl_Graph_covers_e := more_ok impl_bag_has_e_ok impl_Graph_covers_s
/-! (loop.example/g01128/impl.Graph).folds$1 -/
abbrev impl_Graph_folds_1_a0ca1_bsb1_J0 : Tpl := ⟨[(0, .ptr (1000000, 0)), (1, .cst (.prod I (.list (.prod I I)))), (2, .ptr (1000001, 0)), (5, .val I), (9, .val (.list I)), (10, .val I), (11, .val I), (16, .val (.list I)), (17, .val I), (18, .val I)], [((1000000, 0), .box .shr (.int .u64)), ((1000001, 0), .box (.own .shr) (.list (.prod I I)))], []⟩
abbrev impl_Graph_folds_1_a0ca1_bsb1_J1 : Tpl := ⟨[(3, .val .bool)], [((1000000, 0), .box .shr (.int .u64)), ((1000001, 0), .box (.own .shr) (.list (.prod I I)))], []⟩
abbrev impl_Graph_folds_1_a0ca1_bsb1_J2 : Tpl := ⟨[(0, .ptr (1000000, 0)), (1, .cst (.prod I (.list (.prod I I)))), (2, .ptr (1000001, 0)), (9, .val (.list I)), (10, .val I), (11, .val I)], [((1000000, 0), .box .shr (.int .u64)), ((1000001, 0), .box (.own .shr) (.list (.prod I I)))], []⟩
abbrev impl_Graph_folds_1_a0ca1_bsb1_J3 : Tpl := ⟨[], [((1000000, 0), .box .shr (.int .u64)), ((1000001, 0), .box (.own .shr) (.list (.prod I I)))], []⟩
abbrev impl_Graph_folds_1_a0ca1_bsb1_E : Ve.End := ⟨[⟨3, .shr, .bool, none⟩], [.box .shr (.int .u64), .box (.own .shr) (.list (.prod I I))]⟩
abbrev impl_Graph_folds_1_a0ca1_bsb1_a : List ASh := [.adr 0, .cst (.prod I (.list (.prod I I))), .adr 1]
abbrev impl_Graph_folds_1_a0ca1_bsb1_o : List OSh := [.box .shr (.int .u64), .box (.own .shr) (.list (.prod I I))]
abbrev impl_Graph_folds_1_a0ca1_bsb1_O0 : Out := .or .ret impl_Graph_folds_1_a0ca1_bsb1_J1 (.one (.ex 2) impl_Graph_folds_1_a0ca1_bsb1_J2)
noncomputable def impl_Graph_folds_1_a0ca1_bsb1_B0 : impl_Graph_folds_1_a0ca1_bsb1_J0.P → Option (impl_Graph_folds_1_a0ca1_bsb1_J0.P ⊕ impl_Graph_folds_1_a0ca1_bsb1_O0.P)
  | ((t1, x, t9, t10, t11, t16, t17, t18, ()), (o0, o1, ())) => bif (decide (t18 < t17)) then (guardB (inb t18 (List.length t16)) (match impl_Graph_covers (t1, o0, x, (List.getD t16 (Int.toNat t18) (0 : Int)), ()) () with | some ((r, ()), ()) => (bif r then (guardB (decide ((List.length o1 + List.length [(x, (List.getD t16 (Int.toNat t18) (0 : Int)))]) * 16 ≤ 70368744177664)) (guardB (decide (0 ≤ x)) (some (.inr (.inl ((true, ()), ((IntKind.wrap .u64 (BitVec.ofInt 64 o0 &&& ~~~ BitVec.ofInt 64 (IntKind.wrap .u64 ((1 : Int) * 2 ^ (min (Int.toNat x) 64)))).toNat), (o1 ++ [(x, (List.getD t16 (Int.toNat t18) (0 : Int)))]), ()))))))) else (some (.inl ((t1, x, t9, t10, t11, t16, t17, (w64 (t18 + (1 : Int))), ()), (o0, o1, ()))))) | none => none)) else (some (.inr (.inr ((t1, t9, t10, t11, ()), (o0, o1, ())))))
abbrev impl_Graph_folds_1_a0ca1_bsb1_O1 : Out := .or .ret impl_Graph_folds_1_a0ca1_bsb1_J1 (.one (.ex 0) impl_Graph_folds_1_a0ca1_bsb1_J3)
noncomputable def impl_Graph_folds_1_a0ca1_bsb1_B1 : impl_Graph_folds_1_a0ca1_bsb1_J2.P → Option (impl_Graph_folds_1_a0ca1_bsb1_J2.P ⊕ impl_Graph_folds_1_a0ca1_bsb1_O1.P)
  | ((t1, t9, t10, t11, ()), (o0, o1, ())) => bif (decide (t11 < t10)) then (guardB (inb t11 (List.length t9)) (match impl_bag_list (o0, ()) () with | some ((r, ()), ()) => (match loopO impl_Graph_folds_1_a0ca1_bsb1_B0 ((t1, (List.getD t9 (Int.toNat t11) (0 : Int)), t9, t10, t11, r, (List.length r : Int), (0 : Int), ()), (o0, o1, ())) with | some (.inl ((t3, ()), (o0_2, o1_2, ()))) => some (.inr (.inl ((t3, ()), (o0_2, o1_2, ())))) | some (.inr ((t1_2, t9_2, t10_2, t11_2, ()), (o0_3, o1_3, ()))) => some (.inl ((t1_2, t9_2, t10_2, (w64 (t11_2 + (1 : Int))), ()), (o0_3, o1_3, ()))) | none => none) | none => none)) else (some (.inr (.inr ((), (o0, o1, ())))))
noncomputable def impl_Graph_folds_1_a0ca1_bsb1 : argP impl_Graph_folds_1_a0ca1_bsb1_a → obP (extObs 0 impl_Graph_folds_1_a0ca1_bsb1_o) → Option impl_Graph_folds_1_a0ca1_bsb1_E.P
  | (t1, ()), (o0, o1, ()) => match impl_bag_list (o0, ()) () with | some ((r, ()), ()) => (match loopO impl_Graph_folds_1_a0ca1_bsb1_B1 ((t1, r, (List.length r : Int), (0 : Int), ()), (o0, o1, ())) with | some (.inl ((t3, ()), (o0_2, o1_2, ()))) => some ((t3, ()), (o0_2, o1_2, ())) | some (.inr ((), (o0_3, o1_3, ()))) => some ((false, ()), (o0_3, o1_3, ())) | none => none) | none => none
noncomputable def impl_Graph_folds_1_a0ca1_bsb1_x : Cx := ⟨tab, impl_Graph_covers_e, fun _ _ => 0, fun _ => false, [(9, 0), (9, 1), (9, 2), (9, 3), (16, 0), (16, 1), (16, 2), (16, 3), (26, 0), (26, 1), (26, 2), (26, 3), (31, 0)], []⟩
noncomputable def c119 : Code := bodyOf Try.f119
noncomputable def impl_Graph_folds_1_a0ca1_bsb1_A : Ann := .seq .nil (.seq (.seq .nil (.loop impl_Graph_folds_1_a0ca1_bsb1_J2 impl_Graph_folds_1_a0ca1_bsb1_O1 impl_Graph_folds_1_a0ca1_bsb1_B1 (.seq .nil (.seq .nil (.seq (.seq .nil (.seq .nil (.loop impl_Graph_folds_1_a0ca1_bsb1_J0 impl_Graph_folds_1_a0ca1_bsb1_O0 impl_Graph_folds_1_a0ca1_bsb1_B0 (.seq .nil (.seq .nil (.seq (.seq .nil (.seq .nil (.seq (.seq .nil (.seq (.draw [(1, .flo), (2, .flo), (0, .qui), (3, .flo), (4, .sole)]) .nil)) .nil))) .nil)))))) .nil))))) .nil)
theorem impl_Graph_folds_1_a0ca1_bsb1_r0 (p : impl_Graph_folds_1_a0ca1_bsb1_J2.P) : run impl_Graph_folds_1_a0ca1_bsb1_x (subc [1, 0, 1, 0, 0] c119) (.seq .nil (.seq .nil (.seq (.seq .nil (.seq .nil (.loop impl_Graph_folds_1_a0ca1_bsb1_J0 impl_Graph_folds_1_a0ca1_bsb1_O0 impl_Graph_folds_1_a0ca1_bsb1_B0 (.seq .nil (.seq .nil (.seq (.seq .nil (.seq .nil (.seq (.seq .nil (.seq (.draw [(1, .flo), (2, .flo), (0, .qui), (3, .flo), (4, .sole)]) .nil)) .nil))) .nil)))))) .nil))) (impl_Graph_folds_1_a0ca1_bsb1_J2.S p) (leaf impl_Graph_folds_1_a0ca1_bsb1_J2 impl_Graph_folds_1_a0ca1_bsb1_O1) = impl_Graph_folds_1_a0ca1_bsb1_B1 p := by kernel_rfl
theorem impl_Graph_folds_1_a0ca1_bsb1_r1 (p : impl_Graph_folds_1_a0ca1_bsb1_J0.P) : run impl_Graph_folds_1_a0ca1_bsb1_x (subc [1, 0, 1, 0, 0, 1, 1, 0, 0, 1, 1, 0, 0] c119) (.seq .nil (.seq .nil (.seq (.seq .nil (.seq .nil (.seq (.seq .nil (.seq (.draw [(1, .flo), (2, .flo), (0, .qui), (3, .flo), (4, .sole)]) .nil)) .nil))) .nil))) (impl_Graph_folds_1_a0ca1_bsb1_J0.S p) (leaf impl_Graph_folds_1_a0ca1_bsb1_J0 impl_Graph_folds_1_a0ca1_bsb1_O0) = impl_Graph_folds_1_a0ca1_bsb1_B0 p := by kernel_rfl
noncomputable def impl_Graph_folds_1_a0ca1_bsb1_D : Ve.Fn := ⟨119, impl_Graph_folds_1_a0ca1_bsb1_a, impl_Graph_folds_1_a0ca1_bsb1_o, impl_Graph_folds_1_a0ca1_bsb1_E, impl_Graph_folds_1_a0ca1_bsb1⟩
theorem impl_Graph_folds_1_a0ca1_bsb1_w : Walk Try.prog impl_Graph_folds_1_a0ca1_bsb1_x impl_Graph_folds_1_a0ca1_bsb1_D Try.f119 c119 39 impl_Graph_folds_1_a0ca1_bsb1_A :=
  ⟨⟨Try.func119, by kernel_rfl, by kernel_rfl, by kernel_rfl, by decide, by kernel_rfl, Nat.le_of_ble_eq_true (by kernel_rfl)⟩, by kernel_rfl, by kernel_rfl, by kernel_rfl, kcast (by kernel_rfl) (⟨impl_Graph_folds_1_a0ca1_bsb1_r0, impl_Graph_folds_1_a0ca1_bsb1_r1, trivial⟩ : (∀ p, run impl_Graph_folds_1_a0ca1_bsb1_x (subc [1, 0, 1, 0, 0] c119) (.seq .nil (.seq .nil (.seq (.seq .nil (.seq .nil (.loop impl_Graph_folds_1_a0ca1_bsb1_J0 impl_Graph_folds_1_a0ca1_bsb1_O0 impl_Graph_folds_1_a0ca1_bsb1_B0 (.seq .nil (.seq .nil (.seq (.seq .nil (.seq .nil (.seq (.seq .nil (.seq (.draw [(1, .flo), (2, .flo), (0, .qui), (3, .flo), (4, .sole)]) .nil)) .nil))) .nil)))))) .nil))) (impl_Graph_folds_1_a0ca1_bsb1_J2.S p) (leaf impl_Graph_folds_1_a0ca1_bsb1_J2 impl_Graph_folds_1_a0ca1_bsb1_O1) = impl_Graph_folds_1_a0ca1_bsb1_B1 p) ∧ (∀ p, run impl_Graph_folds_1_a0ca1_bsb1_x (subc [1, 0, 1, 0, 0, 1, 1, 0, 0, 1, 1, 0, 0] c119) (.seq .nil (.seq .nil (.seq (.seq .nil (.seq .nil (.seq (.seq .nil (.seq (.draw [(1, .flo), (2, .flo), (0, .qui), (3, .flo), (4, .sole)]) .nil)) .nil))) .nil))) (impl_Graph_folds_1_a0ca1_bsb1_J0.S p) (leaf impl_Graph_folds_1_a0ca1_bsb1_J0 impl_Graph_folds_1_a0ca1_bsb1_O0) = impl_Graph_folds_1_a0ca1_bsb1_B0 p) ∧ True), by kernel_rfl, fun x y => by kernel_rfl⟩
theorem impl_Graph_folds_1_a0ca1_bsb1_s : impl_Graph_folds_1_a0ca1_bsb1_D.Says Try.prog := impl_Graph_folds_1_a0ca1_bsb1_w.says follows tabOk impl_Graph_covers_e_ok
noncomputable def impl_Graph_folds_1_a0ca1_bsb1_e : Env := more impl_Graph_covers_e impl_Graph_folds_1_a0ca1_bsb1_D
theorem impl_Graph_folds_1_a0ca1_bsb1_e_ok : EnvOk Try.prog impl_Graph_folds_1_a0ca1_bsb1_e := more_ok impl_Graph_covers_e_ok impl_Graph_folds_1_a0ca1_bsb1_s
/-! (loop.example/g01128/impl.Graph).folds -/
abbrev impl_Graph_folds_J0 : Tpl := ⟨[(3, .ptr (3, 0)), (5, .fn ⟨119, [(4, 0), (1, 0), (3, 0)]⟩)], [((3, 0), .box (.own .shr) (.list (.prod I I))), ((4, 0), .box .shr (.int .u64)), ((1, 0), .box .shr (.prod I (.list (.prod I I))))], []⟩
abbrev impl_Graph_folds_J1 : Tpl := ⟨[(3, .ptr (3, 0))], [((3, 0), .box (.own .shr) (.list (.prod I I)))], []⟩
abbrev impl_Graph_folds_E : Ve.End := ⟨[⟨2, (.own .shr), (.list (.prod I I)), none⟩], []⟩
abbrev impl_Graph_folds_a : List ASh := [.val (.prod I (.list (.prod I I)))]
abbrev impl_Graph_folds_o : List OSh := []
abbrev impl_Graph_folds_O0 : Out := .one (.ex 0) impl_Graph_folds_J1
noncomputable def impl_Graph_folds_B0 : impl_Graph_folds_J0.P → Option (impl_Graph_folds_J0.P ⊕ impl_Graph_folds_O0.P)
  | ((), (out, set, g, ())) => match impl_Graph_folds_1_a0ca1_bsb1 (g, ()) (set, out, ()) with | some ((r, ()), (o, o2, ())) => (bif r then (some (.inl ((), (o2, o, g, ())))) else (some (.inr ((), (o2, ()))))) | none => none
noncomputable def impl_Graph_folds : argP impl_Graph_folds_a → obP (extObs 0 impl_Graph_folds_o) → Option impl_Graph_folds_E.P
  | (g, ()), () => match impl_Graph_all (g, ()) () with | some ((r, ()), ()) => (match loopO impl_Graph_folds_B0 ((), (([] : (List (Int × Int))), r, g, ())) with | some ((), (out, ())) => some ((out, ()), ()) | none => none) | none => none
noncomputable def impl_Graph_folds_x : Cx := ⟨tab, impl_Graph_folds_1_a0ca1_bsb1_e, fun f n => bif Nat.beq f 119 && Nat.beq n 0 then 1 else bif Nat.beq f 119 && Nat.beq n 2 then 1 else 0, fun _ => false, [(8, 0), (8, 1), (8, 2), (8, 3), (11, 0), (11, 1), (11, 2), (11, 3)], []⟩
noncomputable def c68 : Code := bodyOf Try.f68
noncomputable def impl_Graph_folds_A : Ann := .seq .nil (.seq .nil (.seq .nil (.seq (.loop impl_Graph_folds_J0 impl_Graph_folds_O0 impl_Graph_folds_B0 .nil) .nil)))
theorem impl_Graph_folds_r0 (p : impl_Graph_folds_J0.P) : run impl_Graph_folds_x (subc [1, 1, 1, 0, 0, 0] c68) .nil (impl_Graph_folds_J0.S p) (leaf impl_Graph_folds_J0 impl_Graph_folds_O0) = impl_Graph_folds_B0 p := by kernel_rfl
noncomputable def impl_Graph_folds_D : Ve.Fn := ⟨68, impl_Graph_folds_a, impl_Graph_folds_o, impl_Graph_folds_E, impl_Graph_folds⟩
theorem impl_Graph_folds_w : Walk Try.prog impl_Graph_folds_x impl_Graph_folds_D Try.f68 c68 13 impl_Graph_folds_A :=
  ⟨⟨Try.func68, by kernel_rfl, by kernel_rfl, by kernel_rfl, by decide, by kernel_rfl, Nat.le_of_ble_eq_true (by kernel_rfl)⟩, by kernel_rfl, by kernel_rfl, by kernel_rfl, kcast (by kernel_rfl) (⟨impl_Graph_folds_r0, trivial⟩ : (∀ p, run impl_Graph_folds_x (subc [1, 1, 1, 0, 0, 0] c68) .nil (impl_Graph_folds_J0.S p) (leaf impl_Graph_folds_J0 impl_Graph_folds_O0) = impl_Graph_folds_B0 p) ∧ True), by kernel_rfl, fun x y => by kernel_rfl⟩
theorem impl_Graph_folds_s : impl_Graph_folds_D.Says Try.prog := impl_Graph_folds_w.says follows tabOk impl_Graph_folds_1_a0ca1_bsb1_e_ok
noncomputable def impl_Graph_folds_e : Env := more impl_Graph_folds_1_a0ca1_bsb1_e impl_Graph_folds_D
theorem impl_Graph_folds_e_ok : EnvOk Try.prog impl_Graph_folds_e := more_ok impl_Graph_folds_1_a0ca1_bsb1_e_ok impl_Graph_folds_s
/-! loop.example/g01128/impl.FoldOrder -/
abbrev impl_FoldOrder_E : Ve.End := ⟨[⟨2, (.own .shr), (.list (.prod I I)), none⟩, ⟨3, .shr, .bool, none⟩], []⟩
abbrev impl_FoldOrder_a : List ASh := [.val (.prod I (.list (.prod I I)))]
abbrev impl_FoldOrder_o : List OSh := []
noncomputable def impl_FoldOrder : argP impl_FoldOrder_a → obP (extObs 0 impl_FoldOrder_o) → Option impl_FoldOrder_E.P
  | (h, ()), () => match impl_IsGraph (h, ()) () with | some ((r, ()), ()) => (bif (!r) then (some ((([] : (List (Int × Int))), false, ()), ())) else (bif (h.1 == (0 : Int)) then (some ((([] : (List (Int × Int))), false, ()), ())) else (match impl_Graph_folds (h, ()) () with | some ((r2, ()), ()) => some ((r2, true, ()), ()) | none => none))) | none => none
noncomputable def impl_FoldOrder_x : Cx := ⟨tab, impl_Graph_folds_e, fun _ _ => 0, fun _ => false, [(5, 0), (5, 1), (5, 2), (5, 3)], [(1, 0)]⟩
noncomputable def c32 : Code := bodyOf Try.f32
noncomputable def impl_FoldOrder_A : Ann := .nil
noncomputable def impl_FoldOrder_D : Ve.Fn := ⟨32, impl_FoldOrder_a, impl_FoldOrder_o, impl_FoldOrder_E, impl_FoldOrder⟩
theorem impl_FoldOrder_w : Walk Try.prog impl_FoldOrder_x impl_FoldOrder_D Try.f32 c32 14 impl_FoldOrder_A :=
  ⟨⟨Try.func32, by kernel_rfl, by kernel_rfl, by kernel_rfl, by decide, by kernel_rfl, Nat.le_of_ble_eq_true (by kernel_rfl)⟩, by kernel_rfl, by kernel_rfl, by kernel_rfl, kcast (by kernel_rfl) trivial, by kernel_rfl, fun x y => by kernel_rfl⟩
theorem impl_FoldOrder_s : impl_FoldOrder_D.Says Try.prog := impl_FoldOrder_w.says follows tabOk impl_Graph_folds_e_ok
noncomputable def impl_FoldOrder_e : Env := more impl_Graph_folds_e impl_FoldOrder_D
theorem impl_FoldOrder_e_ok : EnvOk Try.prog impl_FoldOrder_e := more_ok impl_Graph_folds_e_ok impl_FoldOrder_s
/-! loop.example/g01128/laws.eqIntA2 -/
abbrev laws_eqIntA2_J0 : Tpl := ⟨[(2, .cst (.prod I I)), (3, .cst (.prod I I)), (5, .val I)], [], []⟩
abbrev laws_eqIntA2_J1 : Tpl := ⟨[(4, .val .bool)], [], []⟩
abbrev laws_eqIntA2_J2 : Tpl := ⟨[], [], []⟩
abbrev laws_eqIntA2_E : Ve.End := ⟨[⟨4, .shr, .bool, none⟩], []⟩
abbrev laws_eqIntA2_a : List ASh := [.val (.prod I I), .val (.prod I I)]
abbrev laws_eqIntA2_o : List OSh := []
abbrev laws_eqIntA2_O0 : Out := .or .ret laws_eqIntA2_J1 (.one (.ex 0) laws_eqIntA2_J2)
noncomputable def laws_eqIntA2_B0 : laws_eqIntA2_J0.P → Option (laws_eqIntA2_J0.P ⊕ laws_eqIntA2_O0.P)
  | ((a, b, i, ()), ()) => bif (decide (i < (2 : Int))) then (guardB (decide (0 ≤ i) && decide (i < 2)) (guardB (decide (0 ≤ i) && decide (i < 2)) (bif ((bif Nat.beq (Int.toNat i) 0 then a.1 else a.2) != (bif Nat.beq (Int.toNat i) 0 then b.1 else b.2)) then (some (.inr (.inl ((false, ()), ())))) else (some (.inl ((a, b, (w64 (i + (1 : Int))), ()), ())))))) else (some (.inr (.inr ((), ()))))
noncomputable def laws_eqIntA2 : argP laws_eqIntA2_a → obP (extObs 0 laws_eqIntA2_o) → Option laws_eqIntA2_E.P
  | (a, b, ()), () => match loopO laws_eqIntA2_B0 ((a, b, (0 : Int), ()), ()) with | some (.inl ((t4, ()), ())) => some ((t4, ()), ()) | some (.inr ((), ())) => some ((true, ()), ()) | none => none
noncomputable def laws_eqIntA2_x : Cx := ⟨tab, impl_FoldOrder_e, fun _ _ => 0, fun _ => false, [], [(2, 0), (3, 0)]⟩
noncomputable def c69 : Code := bodyOf Try.f69
noncomputable def laws_eqIntA2_A : Ann := .seq .nil (.seq (.seq .nil (.loop laws_eqIntA2_J0 laws_eqIntA2_O0 laws_eqIntA2_B0 (.seq .nil (.seq (.seq (.draw [(0, .flo), (1, .flo), (2, .flo), (3, .flo), (4, .flo), (5, .flo), (6, .flo)]) .nil) .nil)))) .nil)
theorem laws_eqIntA2_r0 (p : laws_eqIntA2_J0.P) : run laws_eqIntA2_x (subc [1, 0, 1, 0, 0] c69) (.seq .nil (.seq (.seq (.draw [(0, .flo), (1, .flo), (2, .flo), (3, .flo), (4, .flo), (5, .flo), (6, .flo)]) .nil) .nil)) (laws_eqIntA2_J0.S p) (leaf laws_eqIntA2_J0 laws_eqIntA2_O0) = laws_eqIntA2_B0 p := by kernel_rfl
noncomputable def laws_eqIntA2_D : Ve.Fn := ⟨69, laws_eqIntA2_a, laws_eqIntA2_o, laws_eqIntA2_E, laws_eqIntA2⟩
theorem laws_eqIntA2_w : Walk Try.prog laws_eqIntA2_x laws_eqIntA2_D Try.f69 c69 17 laws_eqIntA2_A :=
  ⟨⟨Try.func69, by kernel_rfl, by kernel_rfl, by kernel_rfl, by decide, by kernel_rfl, Nat.le_of_ble_eq_true (by kernel_rfl)⟩, by kernel_rfl, by kernel_rfl, by kernel_rfl, kcast (by kernel_rfl) (⟨laws_eqIntA2_r0, trivial⟩ : (∀ p, run laws_eqIntA2_x (subc [1, 0, 1, 0, 0] c69) (.seq .nil (.seq (.seq (.draw [(0, .flo), (1, .flo), (2, .flo), (3, .flo), (4, .flo), (5, .flo), (6, .flo)]) .nil) .nil)) (laws_eqIntA2_J0.S p) (leaf laws_eqIntA2_J0 laws_eqIntA2_O0) = laws_eqIntA2_B0 p) ∧ True), by kernel_rfl, fun x y => by kernel_rfl⟩
theorem laws_eqIntA2_s : laws_eqIntA2_D.Says Try.prog := laws_eqIntA2_w.says follows tabOk impl_FoldOrder_e_ok
noncomputable def laws_eqIntA2_e : Env := more impl_FoldOrder_e laws_eqIntA2_D
theorem laws_eqIntA2_e_ok : EnvOk Try.prog laws_eqIntA2_e := more_ok impl_FoldOrder_e_ok laws_eqIntA2_s
/-! loop.example/g01128/laws.eqIntA2S -/
abbrev laws_eqIntA2S_J0 : Tpl := ⟨[(0, .val (.list (.prod I I))), (1, .val (.list (.prod I I))), (5, .val I)], [], []⟩
abbrev laws_eqIntA2S_J1 : Tpl := ⟨[(4, .val .bool)], [], []⟩
abbrev laws_eqIntA2S_J2 : Tpl := ⟨[], [], []⟩
abbrev laws_eqIntA2S_E : Ve.End := ⟨[⟨4, .shr, .bool, none⟩], []⟩
abbrev laws_eqIntA2S_a : List ASh := [.val (.list (.prod I I)), .val (.list (.prod I I))]
abbrev laws_eqIntA2S_o : List OSh := []
abbrev laws_eqIntA2S_O0 : Out := .or .ret laws_eqIntA2S_J1 (.one (.ex 0) laws_eqIntA2S_J2)
noncomputable def laws_eqIntA2S_B0 : laws_eqIntA2S_J0.P → Option (laws_eqIntA2S_J0.P ⊕ laws_eqIntA2S_O0.P)
  | ((a, b, i, ()), ()) => bif (decide (i < (List.length a : Int))) then (guardB (inb i (List.length a)) (guardB (inb i (List.length b)) (match laws_eqIntA2 ((List.getD a (Int.toNat i) ((0 : Int), (0 : Int))), (List.getD b (Int.toNat i) ((0 : Int), (0 : Int))), ()) () with | some ((r, ()), ()) => (bif (!r) then (some (.inr (.inl ((false, ()), ())))) else (some (.inl ((a, b, (w64 (i + (1 : Int))), ()), ())))) | none => none))) else (some (.inr (.inr ((), ()))))
noncomputable def laws_eqIntA2S : argP laws_eqIntA2S_a → obP (extObs 0 laws_eqIntA2S_o) → Option laws_eqIntA2S_E.P
  | (a, b, ()), () => bif ((List.length a : Int) != (List.length b : Int)) then (some ((false, ()), ())) else (match loopO laws_eqIntA2S_B0 ((a, b, (0 : Int), ()), ()) with | some (.inl ((t4, ()), ())) => some ((t4, ()), ()) | some (.inr ((), ())) => some ((true, ()), ()) | none => none)
noncomputable def laws_eqIntA2S_x : Cx := ⟨tab, laws_eqIntA2_e, fun _ _ => 0, fun _ => false, [(25, 0), (25, 1), (25, 2), (25, 3)], []⟩
noncomputable def c33 : Code := bodyOf Try.f33
noncomputable def laws_eqIntA2S_A : Ann := .seq .nil (.seq .nil (.seq (.seq .nil (.loop laws_eqIntA2S_J0 laws_eqIntA2S_O0 laws_eqIntA2S_B0 (.seq .nil (.seq (.seq (.draw [(0, .flo), (1, .flo), (2, .flo), (3, .flo), (4, .flo), (5, .flo), (6, .flo), (7, .flo), (8, .sole), (9, .flo)]) .nil) .nil)))) .nil))
theorem laws_eqIntA2S_r0 (p : laws_eqIntA2S_J0.P) : run laws_eqIntA2S_x (subc [1, 1, 0, 1, 0, 0] c33) (.seq .nil (.seq (.seq (.draw [(0, .flo), (1, .flo), (2, .flo), (3, .flo), (4, .flo), (5, .flo), (6, .flo), (7, .flo), (8, .sole), (9, .flo)]) .nil) .nil)) (laws_eqIntA2S_J0.S p) (leaf laws_eqIntA2S_J0 laws_eqIntA2S_O0) = laws_eqIntA2S_B0 p := by kernel_rfl
noncomputable def laws_eqIntA2S_D : Ve.Fn := ⟨33, laws_eqIntA2S_a, laws_eqIntA2S_o, laws_eqIntA2S_E, laws_eqIntA2S⟩
theorem laws_eqIntA2S_w : Walk Try.prog laws_eqIntA2S_x laws_eqIntA2S_D Try.f33 c33 27 laws_eqIntA2S_A :=
  ⟨⟨Try.func33, by kernel_rfl, by kernel_rfl, by kernel_rfl, by decide, by kernel_rfl, Nat.le_of_ble_eq_true (by kernel_rfl)⟩, by kernel_rfl, by kernel_rfl, by kernel_rfl, kcast (by kernel_rfl) (⟨laws_eqIntA2S_r0, trivial⟩ : (∀ p, run laws_eqIntA2S_x (subc [1, 1, 0, 1, 0, 0] c33) (.seq .nil (.seq (.seq (.draw [(0, .flo), (1, .flo), (2, .flo), (3, .flo), (4, .flo), (5, .flo), (6, .flo), (7, .flo), (8, .sole), (9, .flo)]) .nil) .nil)) (laws_eqIntA2S_J0.S p) (leaf laws_eqIntA2S_J0 laws_eqIntA2S_O0) = laws_eqIntA2S_B0 p) ∧ True), by kernel_rfl, fun x y => by kernel_rfl⟩
theorem laws_eqIntA2S_s : laws_eqIntA2S_D.Says Try.prog := laws_eqIntA2S_w.says follows tabOk laws_eqIntA2_e_ok
noncomputable def laws_eqIntA2S_e : Env := more laws_eqIntA2_e laws_eqIntA2S_D
theorem laws_eqIntA2S_e_ok : EnvOk Try.prog laws_eqIntA2S_e := more_ok laws_eqIntA2_e_ok laws_eqIntA2S_s
/-! loop.example/g01128/laws.eqGraph -/
abbrev laws_eqGraph_E : Ve.End := ⟨[⟨4, .shr, .bool, none⟩], []⟩
abbrev laws_eqGraph_a : List ASh := [.val (.prod I (.list (.prod I I))), .val (.prod I (.list (.prod I I)))]
abbrev laws_eqGraph_o : List OSh := []
noncomputable def laws_eqGraph : argP laws_eqGraph_a → obP (extObs 0 laws_eqGraph_o) → Option laws_eqGraph_E.P
  | (a, b, ()), () => bif (a.1 != b.1) then (some ((false, ()), ())) else (match laws_eqIntA2S (a.2, b.2, ()) () with | some ((r, ()), ()) => (bif (!r) then (some ((false, ()), ())) else (some ((true, ()), ()))) | none => none)
noncomputable def laws_eqGraph_x : Cx := ⟨tab, laws_eqIntA2S_e, fun _ _ => 0, fun _ => false, [(14, 0), (14, 1), (14, 2), (14, 3)], [(2, 0), (3, 0)]⟩
noncomputable def c20 : Code := bodyOf Try.f20
noncomputable def laws_eqGraph_A : Ann := .nil
noncomputable def laws_eqGraph_D : Ve.Fn := ⟨20, laws_eqGraph_a, laws_eqGraph_o, laws_eqGraph_E, laws_eqGraph⟩
theorem laws_eqGraph_w : Walk Try.prog laws_eqGraph_x laws_eqGraph_D Try.f20 c20 16 laws_eqGraph_A :=
  ⟨⟨Try.func20, by kernel_rfl, by kernel_rfl, by kernel_rfl, by decide, by kernel_rfl, Nat.le_of_ble_eq_true (by kernel_rfl)⟩, by kernel_rfl, by kernel_rfl, by kernel_rfl, kcast (by kernel_rfl) trivial, by kernel_rfl, fun x y => by kernel_rfl⟩
theorem laws_eqGraph_s : laws_eqGraph_D.Says Try.prog := laws_eqGraph_w.says follows tabOk laws_eqIntA2S_e_ok
noncomputable def laws_eqGraph_e : Env := more laws_eqIntA2S_e laws_eqGraph_D
theorem laws_eqGraph_e_ok : EnvOk Try.prog laws_eqGraph_e := more_ok laws_eqIntA2S_e_ok laws_eqGraph_s
/-! loop.example/g01128/laws.markIntA2S -/
abbrev laws_markIntA2S_e0v_ls_J0 : Tpl := ⟨[(0, .same (1000000, 0) []), (1, .val I), (5, .val I), (6, .val I)], [((1000000, 0), .vec .shr (.prod I I))], []⟩
abbrev laws_markIntA2S_e0v_ls_J1 : Tpl := ⟨[(0, .same (1000000, 0) []), (1, .val I), (5, .val I)], [((1000000, 0), .vec .shr (.prod I I))], []⟩
abbrev laws_markIntA2S_e0v_ls_J2 : Tpl := ⟨[(1, .val I)], [((1000000, 0), .vec .shr (.prod I I))], []⟩
abbrev laws_markIntA2S_e0v_ls_E : Ve.End := ⟨[⟨4, .shr, I, none⟩], [.vec .shr (.prod I I)]⟩
abbrev laws_markIntA2S_e0v_ls_a : List ASh := [.ext 0, .val I]
abbrev laws_markIntA2S_e0v_ls_o : List OSh := [.vec .shr (.prod I I)]
abbrev laws_markIntA2S_e0v_ls_O0 : Out := .one (.ex 2) laws_markIntA2S_e0v_ls_J1
noncomputable def laws_markIntA2S_e0v_ls_B0 : laws_markIntA2S_e0v_ls_J0.P → Option (laws_markIntA2S_e0v_ls_J0.P ⊕ laws_markIntA2S_e0v_ls_O0.P)
  | ((k, i, j, ()), (o0, ())) => bif (decide (j < (2 : Int))) then (guardB (inb i (List.length o0)) (guardB (decide (0 ≤ j) && decide (j < 2)) (some (.inl (((w64 (k + (1 : Int))), i, (w64 (j + (1 : Int))), ()), ((List.set o0 (Int.toNat i) (bif Nat.beq (Int.toNat j) 0 then (k, (List.getD o0 (Int.toNat i) ((0 : Int), (0 : Int))).2) else ((List.getD o0 (Int.toNat i) ((0 : Int), (0 : Int))).1, k))), ())))))) else (some (.inr ((k, i, ()), (o0, ()))))
abbrev laws_markIntA2S_e0v_ls_O1 : Out := .one (.ex 0) laws_markIntA2S_e0v_ls_J2
noncomputable def laws_markIntA2S_e0v_ls_B1 : laws_markIntA2S_e0v_ls_J1.P → Option (laws_markIntA2S_e0v_ls_J1.P ⊕ laws_markIntA2S_e0v_ls_O1.P)
  | ((k, i, ()), (o0, ())) => bif (decide (i < (List.length o0 : Int))) then (match loopO laws_markIntA2S_e0v_ls_B0 ((k, i, (0 : Int), ()), (o0, ())) with | some ((k2, i2, ()), (o0_2, ())) => some (.inl ((k2, (w64 (i2 + (1 : Int))), ()), (o0_2, ()))) | none => none) else (some (.inr ((k, ()), (o0, ()))))
noncomputable def laws_markIntA2S_e0v_ls : argP laws_markIntA2S_e0v_ls_a → obP (extObs 0 laws_markIntA2S_e0v_ls_o) → Option laws_markIntA2S_e0v_ls_E.P
  | (k, ()), (o0, ()) => match loopO laws_markIntA2S_e0v_ls_B1 ((k, (0 : Int), ()), (o0, ())) with | some ((k2, ()), (o0_2, ())) => some ((k2, ()), (o0_2, ())) | none => none
noncomputable def laws_markIntA2S_e0v_ls_x : Cx := ⟨tab, laws_eqGraph_e, fun _ _ => 0, fun _ => false, [], []⟩
noncomputable def c34 : Code := bodyOf Try.f34
noncomputable def laws_markIntA2S_e0v_ls_A : Ann := .seq .nil (.seq (.seq .nil (.loop laws_markIntA2S_e0v_ls_J1 laws_markIntA2S_e0v_ls_O1 laws_markIntA2S_e0v_ls_B1 (.seq .nil (.seq (.seq .nil (.loop laws_markIntA2S_e0v_ls_J0 laws_markIntA2S_e0v_ls_O0 laws_markIntA2S_e0v_ls_B0 .nil)) .nil)))) .nil)
theorem laws_markIntA2S_e0v_ls_r0 (p : laws_markIntA2S_e0v_ls_J1.P) : run laws_markIntA2S_e0v_ls_x (subc [1, 0, 1, 0, 0] c34) (.seq .nil (.seq (.seq .nil (.loop laws_markIntA2S_e0v_ls_J0 laws_markIntA2S_e0v_ls_O0 laws_markIntA2S_e0v_ls_B0 .nil)) .nil)) (laws_markIntA2S_e0v_ls_J1.S p) (leaf laws_markIntA2S_e0v_ls_J1 laws_markIntA2S_e0v_ls_O1) = laws_markIntA2S_e0v_ls_B1 p := by kernel_rfl
theorem laws_markIntA2S_e0v_ls_r1 (p : laws_markIntA2S_e0v_ls_J0.P) : run laws_markIntA2S_e0v_ls_x (subc [1, 0, 1, 0, 0, 1, 0, 0, 1, 0, 0] c34) .nil (laws_markIntA2S_e0v_ls_J0.S p) (leaf laws_markIntA2S_e0v_ls_J0 laws_markIntA2S_e0v_ls_O0) = laws_markIntA2S_e0v_ls_B0 p := by kernel_rfl
noncomputable def laws_markIntA2S_e0v_ls_D : Ve.Fn := ⟨34, laws_markIntA2S_e0v_ls_a, laws_markIntA2S_e0v_ls_o, laws_markIntA2S_e0v_ls_E, laws_markIntA2S_e0v_ls⟩
theorem laws_markIntA2S_e0v_ls_w : Walk Try.prog laws_markIntA2S_e0v_ls_x laws_markIntA2S_e0v_ls_D Try.f34 c34 26 laws_markIntA2S_e0v_ls_A :=
  ⟨⟨Try.func34, by kernel_rfl, by kernel_rfl, by kernel_rfl, by decide, by kernel_rfl, Nat.le_of_ble_eq_true (by kernel_rfl)⟩, by kernel_rfl, by kernel_rfl, by kernel_rfl, kcast (by kernel_rfl) (⟨laws_markIntA2S_e0v_ls_r0, laws_markIntA2S_e0v_ls_r1, trivial⟩ : (∀ p, run laws_markIntA2S_e0v_ls_x (subc [1, 0, 1, 0, 0] c34) (.seq .nil (.seq (.seq .nil (.loop laws_markIntA2S_e0v_ls_J0 laws_markIntA2S_e0v_ls_O0 laws_markIntA2S_e0v_ls_B0 .nil)) .nil)) (laws_markIntA2S_e0v_ls_J1.S p) (leaf laws_markIntA2S_e0v_ls_J1 laws_markIntA2S_e0v_ls_O1) = laws_markIntA2S_e0v_ls_B1 p) ∧ (∀ p, run laws_markIntA2S_e0v_ls_x (subc [1, 0, 1, 0, 0, 1, 0, 0, 1, 0, 0] c34) .nil (laws_markIntA2S_e0v_ls_J0.S p) (leaf laws_markIntA2S_e0v_ls_J0 laws_markIntA2S_e0v_ls_O0) = laws_markIntA2S_e0v_ls_B0 p) ∧ True), by kernel_rfl, fun x y => by kernel_rfl⟩
theorem laws_markIntA2S_e0v_ls_s : laws_markIntA2S_e0v_ls_D.Says Try.prog := laws_markIntA2S_e0v_ls_w.says follows tabOk laws_eqGraph_e_ok
noncomputable def laws_markIntA2S_e0v_ls_e : Env := more laws_eqGraph_e laws_markIntA2S_e0v_ls_D
theorem laws_markIntA2S_e0v_ls_e_ok : EnvOk Try.prog laws_markIntA2S_e0v_ls_e := more_ok laws_eqGraph_e_ok laws_markIntA2S_e0v_ls_s
/-! loop.example/g01128/laws.markGraph -/
abbrev laws_markGraph_ops1v_E : Ve.End := ⟨[⟨4, .shr, I, none⟩], []⟩
abbrev laws_markGraph_ops1v_a : List ASh := [.own (.prod .shr (.own .shr)) (.prod I (.list (.prod I I))), .val I]
abbrev laws_markGraph_ops1v_o : List OSh := []
noncomputable def laws_markGraph_ops1v : argP laws_markGraph_ops1v_a → obP (extObs 0 laws_markGraph_ops1v_o) → Option laws_markGraph_ops1v_E.P
  | (a, k, ()), () => match laws_markIntA2S_e0v_ls (k, ()) (a.2, ()) with | some ((r, ()), (o, ())) => some ((r, ()), ()) | none => none
noncomputable def laws_markGraph_ops1v_x : Cx := ⟨tab, laws_markIntA2S_e0v_ls_e, fun f n => bif Nat.beq f 34 && Nat.beq n 0 then 1 else 0, fun _ => false, [(8, 0), (8, 1), (8, 2), (8, 3)], []⟩
noncomputable def c26 : Code := bodyOf Try.f26
noncomputable def laws_markGraph_ops1v_A : Ann := .nil
noncomputable def laws_markGraph_ops1v_D : Ve.Fn := ⟨26, laws_markGraph_ops1v_a, laws_markGraph_ops1v_o, laws_markGraph_ops1v_E, laws_markGraph_ops1v⟩
theorem laws_markGraph_ops1v_w : Walk Try.prog laws_markGraph_ops1v_x laws_markGraph_ops1v_D Try.f26 c26 10 laws_markGraph_ops1v_A :=
  ⟨⟨Try.func26, by kernel_rfl, by kernel_rfl, by kernel_rfl, by decide, by kernel_rfl, Nat.le_of_ble_eq_true (by kernel_rfl)⟩, by kernel_rfl, by kernel_rfl, by kernel_rfl, kcast (by kernel_rfl) trivial, by kernel_rfl, fun x y => by kernel_rfl⟩
theorem laws_markGraph_ops1v_s : laws_markGraph_ops1v_D.Says Try.prog := laws_markGraph_ops1v_w.says follows tabOk laws_markIntA2S_e0v_ls_e_ok
noncomputable def laws_markGraph_ops1v_e : Env := more laws_markIntA2S_e0v_ls_e laws_markGraph_ops1v_D
theorem laws_markGraph_ops1v_e_ok : EnvOk Try.prog laws_markGraph_ops1v_e := more_ok laws_markIntA2S_e0v_ls_e_ok laws_markGraph_ops1v_s
/-! loop.example/g01128/laws.heldIntA2S -/
abbrev laws_heldIntA2S_J0 : Tpl := ⟨[(0, .val (.list (.prod I I))), (1, .val I), (5, .val I), (6, .val I)], [], []⟩
abbrev laws_heldIntA2S_J1 : Tpl := ⟨[(4, .val I)], [], []⟩
abbrev laws_heldIntA2S_J2 : Tpl := ⟨[(0, .val (.list (.prod I I))), (1, .val I), (5, .val I)], [], []⟩
abbrev laws_heldIntA2S_J3 : Tpl := ⟨[(1, .val I)], [], []⟩
abbrev laws_heldIntA2S_E : Ve.End := ⟨[⟨4, .shr, I, none⟩], []⟩
abbrev laws_heldIntA2S_a : List ASh := [.val (.list (.prod I I)), .val I]
abbrev laws_heldIntA2S_o : List OSh := []
abbrev laws_heldIntA2S_O0 : Out := .or .ret laws_heldIntA2S_J1 (.one (.ex 2) laws_heldIntA2S_J2)
noncomputable def laws_heldIntA2S_B0 : laws_heldIntA2S_J0.P → Option (laws_heldIntA2S_J0.P ⊕ laws_heldIntA2S_O0.P)
  | ((a, k, i, j, ()), ()) => bif (decide (j < (2 : Int))) then (guardB (inb i (List.length a)) (guardB (decide (0 ≤ j) && decide (j < 2)) (bif ((bif Nat.beq (Int.toNat j) 0 then (List.getD a (Int.toNat i) ((0 : Int), (0 : Int))).1 else (List.getD a (Int.toNat i) ((0 : Int), (0 : Int))).2) != k) then (some (.inr (.inl (((-1 : Int), ()), ())))) else (some (.inl ((a, (w64 (k + (1 : Int))), i, (w64 (j + (1 : Int))), ()), ())))))) else (some (.inr (.inr ((a, k, i, ()), ()))))
abbrev laws_heldIntA2S_O1 : Out := .or .ret laws_heldIntA2S_J1 (.one (.ex 0) laws_heldIntA2S_J3)
noncomputable def laws_heldIntA2S_B1 : laws_heldIntA2S_J2.P → Option (laws_heldIntA2S_J2.P ⊕ laws_heldIntA2S_O1.P)
  | ((a, k, i, ()), ()) => bif (decide (i < (List.length a : Int))) then (match loopO laws_heldIntA2S_B0 ((a, k, i, (0 : Int), ()), ()) with | some (.inl ((t4, ()), ())) => some (.inr (.inl ((t4, ()), ()))) | some (.inr ((a2, k2, i2, ()), ())) => some (.inl ((a2, k2, (w64 (i2 + (1 : Int))), ()), ())) | none => none) else (some (.inr (.inr ((k, ()), ()))))
noncomputable def laws_heldIntA2S : argP laws_heldIntA2S_a → obP (extObs 0 laws_heldIntA2S_o) → Option laws_heldIntA2S_E.P
  | (a, k, ()), () => match loopO laws_heldIntA2S_B1 ((a, k, (0 : Int), ()), ()) with | some (.inl ((t4, ()), ())) => some ((t4, ()), ()) | some (.inr ((k2, ()), ())) => some ((k2, ()), ()) | none => none
noncomputable def laws_heldIntA2S_x : Cx := ⟨tab, laws_markGraph_ops1v_e, fun _ _ => 0, fun _ => false, [], []⟩
noncomputable def c35 : Code := bodyOf Try.f35
noncomputable def laws_heldIntA2S_A : Ann := .seq .nil (.seq (.seq .nil (.loop laws_heldIntA2S_J2 laws_heldIntA2S_O1 laws_heldIntA2S_B1 (.seq .nil (.seq (.seq .nil (.loop laws_heldIntA2S_J0 laws_heldIntA2S_O0 laws_heldIntA2S_B0 .nil)) .nil)))) .nil)
theorem laws_heldIntA2S_r0 (p : laws_heldIntA2S_J2.P) : run laws_heldIntA2S_x (subc [1, 0, 1, 0, 0] c35) (.seq .nil (.seq (.seq .nil (.loop laws_heldIntA2S_J0 laws_heldIntA2S_O0 laws_heldIntA2S_B0 .nil)) .nil)) (laws_heldIntA2S_J2.S p) (leaf laws_heldIntA2S_J2 laws_heldIntA2S_O1) = laws_heldIntA2S_B1 p := by kernel_rfl
theorem laws_heldIntA2S_r1 (p : laws_heldIntA2S_J0.P) : run laws_heldIntA2S_x (subc [1, 0, 1, 0, 0, 1, 0, 0, 1, 0, 0] c35) .nil (laws_heldIntA2S_J0.S p) (leaf laws_heldIntA2S_J0 laws_heldIntA2S_O0) = laws_heldIntA2S_B0 p := by kernel_rfl
noncomputable def laws_heldIntA2S_D : Ve.Fn := ⟨35, laws_heldIntA2S_a, laws_heldIntA2S_o, laws_heldIntA2S_E, laws_heldIntA2S⟩
theorem laws_heldIntA2S_w : Walk Try.prog laws_heldIntA2S_x laws_heldIntA2S_D Try.f35 c35 28 laws_heldIntA2S_A :=
  ⟨⟨Try.func35, by kernel_rfl, by kernel_rfl, by kernel_rfl, by decide, by kernel_rfl, Nat.le_of_ble_eq_true (by kernel_rfl)⟩, by kernel_rfl, by kernel_rfl, by kernel_rfl, kcast (by kernel_rfl) (⟨laws_heldIntA2S_r0, laws_heldIntA2S_r1, trivial⟩ : (∀ p, run laws_heldIntA2S_x (subc [1, 0, 1, 0, 0] c35) (.seq .nil (.seq (.seq .nil (.loop laws_heldIntA2S_J0 laws_heldIntA2S_O0 laws_heldIntA2S_B0 .nil)) .nil)) (laws_heldIntA2S_J2.S p) (leaf laws_heldIntA2S_J2 laws_heldIntA2S_O1) = laws_heldIntA2S_B1 p) ∧ (∀ p, run laws_heldIntA2S_x (subc [1, 0, 1, 0, 0, 1, 0, 0, 1, 0, 0] c35) .nil (laws_heldIntA2S_J0.S p) (leaf laws_heldIntA2S_J0 laws_heldIntA2S_O0) = laws_heldIntA2S_B0 p) ∧ True), by kernel_rfl, fun x y => by kernel_rfl⟩
theorem laws_heldIntA2S_s : laws_heldIntA2S_D.Says Try.prog := laws_heldIntA2S_w.says follows tabOk laws_markGraph_ops1v_e_ok
noncomputable def laws_heldIntA2S_e : Env := more laws_markGraph_ops1v_e laws_heldIntA2S_D
theorem laws_heldIntA2S_e_ok : EnvOk Try.prog laws_heldIntA2S_e := more_ok laws_markGraph_ops1v_e_ok laws_heldIntA2S_s
/-! loop.example/g01128/laws.FnExactFoldOrder -/
abbrev laws_FnExactFoldOrder_J0 : Tpl := ⟨[(1, .cst (.prod I (.list (.prod I I)))), (4, .val (.list (.prod I I))), (5, .val .bool), (6, .ptr (6, 0)), (7, .own .shr (.prod I I)), (8, .val .bool), (45, .val .bool)], [((6, 0), .box (.prod .shr (.own .shr)) (.prod I (.list (.prod I I))))], []⟩
abbrev laws_FnExactFoldOrder_J1 : Tpl := ⟨[(1, .cst (.prod I (.list (.prod I I)))), (4, .val (.list (.prod I I))), (5, .val .bool), (6, .ptr (6, 0)), (7, .own .shr (.prod I I)), (8, .val .bool), (42, .val (.prod I (.list (.prod I I))))], [((6, 0), .box (.prod .shr (.own .shr)) (.prod I (.list (.prod I I))))], []⟩
abbrev laws_FnExactFoldOrder_E : Ve.End := ⟨[⟨2, .shr, .bool, none⟩], []⟩
abbrev laws_FnExactFoldOrder_a : List ASh := [.val (.prod I (.list (.prod I I)))]
abbrev laws_FnExactFoldOrder_o : List OSh := []
noncomputable def laws_FnExactFoldOrder_D0 : laws_FnExactFoldOrder_J1.P → Option laws_FnExactFoldOrder_J0.P
  | ((t1, t4, t5, t7, t8, t42, ()), (t6, ())) => match laws_toGraph (t42, ()) () with | some ((r, ()), ()) => (match laws_eqGraph ((t6.1, t6.2), (r.1, r.2), ()) () with | some ((r2, ()), ()) => some ((t1, t4, t5, t7, t8, (!r2), ()), (t6, ())) | none => none) | none => none
noncomputable def laws_FnExactFoldOrder_T0 : DT laws_FnExactFoldOrder_J0 := .node laws_FnExactFoldOrder_J1 laws_FnExactFoldOrder_D0 (.br [(0, .sole), (2, .sole), (3, .sole), (4, .flo)] .fin (.br [(2, .sole), (0, .qui), (3, .sole), (4, .flo)] .fin .nobr))
noncomputable def laws_FnExactFoldOrder : argP laws_FnExactFoldOrder_a → obP (extObs 0 laws_FnExactFoldOrder_o) → Option laws_FnExactFoldOrder_E.P
  | (t0, ()), () => match laws_szGraph (t0, (1048576 : Int), ()) () with | some ((r, ()), ()) => (bif (decide (r < (0 : Int))) then (some ((true, ()), ())) else (match laws_toGraph (t0, ()) () with | some ((r2, ()), ()) => (match spec_FoldOrder ((r2.1, r2.2), ()) () with | some ((r3, r4, ()), ()) => (match laws_toGraph (t0, ()) () with | some ((r5, ()), ()) => (match impl_FoldOrder ((r5.1, r5.2), ()) () with | some ((r6, r7, ()), ()) => (match laws_eqIntA2S (r6, r3, ()) () with | some ((r8, ()), ()) => (bif (!r8) then (some ((false, ()), ())) else (bif (!(r7 == r4)) then (some ((false, ()), ())) else (match laws_FnExactFoldOrder_D0 ((t0, r3, r4, r6, r7, t0, ()), ((r5.1, r5.2), ())) with | some ((t1, t4, t5, t7, t8, t45, ()), (t6, ())) => (bif t45 then (some ((false, ()), ())) else (match laws_markGraph_ops1v ((t6.1, t6.2), (1 : Int), ()) () with | some ((r9, ()), ()) => (bif (decide (r9 < (0 : Int))) then (some ((false, ()), ())) else (match laws_eqIntA2S (t7, t4, ()) () with | some ((r10, ()), ()) => (bif (!r10) then (some ((false, ()), ())) else (bif (!(t8 == t5)) then (some ((false, ()), ())) else (match laws_markIntA2S_e0v_ls ((1 : Int), ()) (t7, ()) with | some ((r11, ()), (o, ())) => (match laws_heldIntA2S (o, (1 : Int), ()) () with | some ((r12, ()), ()) => (bif (decide (r12 < (0 : Int))) then (some ((false, ()), ())) else (bif (r12 != r11) then (some ((false, ()), ())) else (match laws_toGraph (t1, ()) () with | some ((r13, ()), ()) => (match impl_FoldOrder ((r13.1, r13.2), ()) () with | some ((r14, r15, ()), ()) => (match laws_eqIntA2S (r14, t4, ()) () with | some ((r16, ()), ()) => (bif (!r16) then (some ((false, ()), ())) else (bif (!(r15 == t5)) then (some ((false, ()), ())) else (match laws_heldIntA2S (o, (1 : Int), ()) () with | some ((r17, ()), ()) => (bif (decide (r17 < (0 : Int))) then (some ((false, ()), ())) else (bif (r17 != r11) then (some ((false, ()), ())) else (some ((true, ()), ())))) | none => none))) | none => none) | none => none) | none => none))) | none => none) | none => none))) | none => none)) | none => none)) | none => none))) | none => none) | none => none) | none => none) | none => none) | none => none)) | none => none
noncomputable def laws_FnExactFoldOrder_x : Cx := ⟨tab, laws_heldIntA2S_e, fun f n => bif Nat.beq f 26 && Nat.beq n 0 then 2 else bif Nat.beq f 34 && Nat.beq n 0 then 1 else 0, fun _ => false, [(16, 0), (16, 1), (16, 2), (16, 3), (21, 0), (21, 1), (21, 2), (21, 3), (22, 0), (22, 1), (22, 2), (22, 3), (4, 0), (34, 0), (34, 1), (34, 2), (34, 3), (43, 0), (43, 1), (43, 2), (43, 3), (44, 0), (44, 1), (44, 2), (44, 3), (48, 0), (48, 1), (48, 2), (48, 3), (54, 0), (54, 1), (54, 2), (54, 3), (64, 0), (64, 1), (64, 2), (64, 3), (67, 0), (67, 1), (67, 2), (67, 3), (75, 0), (75, 1), (75, 2), (75, 3), (76, 0), (76, 1), (76, 2), (76, 3), (12, 0), (81, 0), (81, 1), (81, 2), (81, 3), (90, 0), (90, 1), (90, 2), (90, 3)], [(1, 0)]⟩
noncomputable def c7 : Code := bodyOf Try.f7
noncomputable def laws_FnExactFoldOrder_A : Ann := .seq .nil (.seq .nil (.seq .nil (.seq .nil (.seq .nil (.seq .nil (.seq .nil (.seq .nil (.seq (.seq (.draws [(1, .flo)] laws_FnExactFoldOrder_J0 laws_FnExactFoldOrder_T0) .nil) .nil))))))))
theorem laws_FnExactFoldOrder_D0b0 (p : laws_FnExactFoldOrder_J1.P) : runDrawn laws_FnExactFoldOrder_x (opsOf (subc [1, 1, 1, 1, 1, 1, 1, 1, 0, 0] c7)) [(0, .sole), (2, .sole), (3, .sole), (4, .flo)] (laws_FnExactFoldOrder_J1.S p) (endT laws_FnExactFoldOrder_x (.fin : DT laws_FnExactFoldOrder_J0)) = laws_FnExactFoldOrder_D0 p := by kernel_rfl
theorem laws_FnExactFoldOrder_D0b1 (p : laws_FnExactFoldOrder_J1.P) : runDrawn laws_FnExactFoldOrder_x (opsOf (subc [1, 1, 1, 1, 1, 1, 1, 1, 0, 0] c7)) [(2, .sole), (0, .qui), (3, .sole), (4, .flo)] (laws_FnExactFoldOrder_J1.S p) (endT laws_FnExactFoldOrder_x (.fin : DT laws_FnExactFoldOrder_J0)) = laws_FnExactFoldOrder_D0 p := by kernel_rfl
noncomputable def laws_FnExactFoldOrder_D : Ve.Fn := ⟨7, laws_FnExactFoldOrder_a, laws_FnExactFoldOrder_o, laws_FnExactFoldOrder_E, laws_FnExactFoldOrder⟩
theorem laws_FnExactFoldOrder_w : Walk Try.prog laws_FnExactFoldOrder_x laws_FnExactFoldOrder_D Try.f7 c7 96 laws_FnExactFoldOrder_A :=
  ⟨⟨Try.func7, by kernel_rfl, by kernel_rfl, by kernel_rfl, by decide, by kernel_rfl, Nat.le_of_ble_eq_true (by kernel_rfl)⟩, by kernel_rfl, by kernel_rfl, by kernel_rfl, kcast (by kernel_rfl) (⟨laws_FnExactFoldOrder_D0b0, laws_FnExactFoldOrder_D0b1, trivial⟩ : (∀ p, runDrawn laws_FnExactFoldOrder_x (opsOf (subc [1, 1, 1, 1, 1, 1, 1, 1, 0, 0] c7)) [(0, .sole), (2, .sole), (3, .sole), (4, .flo)] (laws_FnExactFoldOrder_J1.S p) (endT laws_FnExactFoldOrder_x (.fin : DT laws_FnExactFoldOrder_J0)) = laws_FnExactFoldOrder_D0 p) ∧ (∀ p, runDrawn laws_FnExactFoldOrder_x (opsOf (subc [1, 1, 1, 1, 1, 1, 1, 1, 0, 0] c7)) [(2, .sole), (0, .qui), (3, .sole), (4, .flo)] (laws_FnExactFoldOrder_J1.S p) (endT laws_FnExactFoldOrder_x (.fin : DT laws_FnExactFoldOrder_J0)) = laws_FnExactFoldOrder_D0 p) ∧ True), by kernel_rfl, fun x y => by kernel_rfl⟩
theorem laws_FnExactFoldOrder_s : laws_FnExactFoldOrder_D.Says Try.prog := laws_FnExactFoldOrder_w.says follows tabOk laws_heldIntA2S_e_ok
noncomputable def laws_FnExactFoldOrder_e : Env := more laws_heldIntA2S_e laws_FnExactFoldOrder_D
theorem laws_FnExactFoldOrder_e_ok : EnvOk Try.prog laws_FnExactFoldOrder_e := more_ok laws_heldIntA2S_e_ok laws_FnExactFoldOrder_s
end Go.Proofs.Ytiiaadgibkpaaaa.V
