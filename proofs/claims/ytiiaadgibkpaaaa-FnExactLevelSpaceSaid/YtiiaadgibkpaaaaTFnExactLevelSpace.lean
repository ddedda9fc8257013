/-
  What the functions that the law reaches compute: typed pure functions, checked against the code.
-/
import Derived.Test.YtiiaadgibkpaaaaProg
import Derived.Test.YtiiaadgibkpaaaaE3
import Derived.Test.YtiiaadgibkpaaaaS
namespace Go.Proofs.Ytiiaadgibkpaaaa.V
open Go.Ve Go.Proofs
set_option linter.unusedVariables false
set_option linter.unusedSimpArgs false
set_option maxRecDepth 100000
def tab : Tab := [(3, .data ⟨I, 0, 8, false⟩), (4, .data ⟨.bool, 0, 1, false⟩), (22, .data ⟨(.list (.prod I I)), 0, 16, false⟩), (25, .data ⟨(.list I), 0, 8, false⟩), (50, .data ⟨(.list (.list I)), 0, 24, false⟩), (52, .data ⟨(.prod (.list (.list I)) (.list (.prod I I))), 2, 48, false⟩), (55, .data ⟨(.prod (.list (.list I)) (.list (.prod I I))), 2, 48, false⟩), (68, .fn), (78, .data ⟨(.prod I I), 2, 16, true⟩), (104, .data ⟨(.int .u64), 0, 8, false⟩)]
theorem follows : Try.prog.follows .mixedOrders = true := by kernel_rfl
theorem ti3 : TiOk Try.prog tab 3 ⟨I, 0, 8, false⟩ := ti_int (by kernel_rfl) Try.underlying3
theorem ti4 : TiOk Try.prog tab 4 ⟨.bool, 0, 1, false⟩ := ti_bool (by kernel_rfl) Try.underlying4
theorem ti22 : TiOk Try.prog tab 22 ⟨(.list (.prod I I)), 0, 16, false⟩ := ti_list (ie := ⟨(.prod I I), 2, 16, true⟩) (by kernel_rfl) Try.underlying22 (by kernel_rfl) rfl (by kernel_rfl) (by kernel_rfl)
theorem ti25 : TiOk Try.prog tab 25 ⟨(.list I), 0, 8, false⟩ := ti_list (ie := ⟨I, 0, 8, false⟩) (by kernel_rfl) Try.underlying25 (by kernel_rfl) rfl (by kernel_rfl) (by kernel_rfl)
theorem ti50 : TiOk Try.prog tab 50 ⟨(.list (.list I)), 0, 24, false⟩ := ti_list (ie := ⟨(.list I), 0, 8, false⟩) (by kernel_rfl) Try.underlying50 (by kernel_rfl) rfl (by kernel_rfl) (by kernel_rfl)
theorem ti52 : TiOk Try.prog tab 52 ⟨(.prod (.list (.list I)) (.list (.prod I I))), 2, 48, false⟩ := ti_struct (by kernel_rfl) Try.underlying52 (by kernel_rfl) (by kernel_rfl) (by kernel_rfl) (by kernel_rfl)
theorem ti55 : TiOk Try.prog tab 55 ⟨(.prod (.list (.list I)) (.list (.prod I I))), 2, 48, false⟩ := ti_struct (by kernel_rfl) Try.underlying55 (by kernel_rfl) (by kernel_rfl) (by kernel_rfl) (by kernel_rfl)
theorem ti68 : FnOk Try.prog 68 := ti_fn (by kernel_rfl) (Try.underlying68)
theorem ti78 : TiOk Try.prog tab 78 ⟨(.prod I I), 2, 16, true⟩ := ti_arr (ie := ⟨I, 0, 8, false⟩) (by kernel_rfl) Try.underlying78 (by kernel_rfl) rfl (by kernel_rfl) (by kernel_rfl)
theorem ti104 : TiOk Try.prog tab 104 ⟨(.int .u64), 0, 8, false⟩ := ti_int (by kernel_rfl) Try.underlying104
theorem tabOk : TabOk' Try.prog tab := tabOk_of ⟨ti3, ti4, ti22, ti25, ti50, ti52, ti55, ti68, ti78, ti104, trivial⟩
/-! loop.example/g01128/laws.szIntS -/
abbrev laws_szIntS_E : Ve.End := ⟨[⟨4, .shr, I, none⟩], []⟩
abbrev laws_szIntS_a : List ASh := [.val (.list I), .val I]
abbrev laws_szIntS_o : List OSh := []
noncomputable def laws_szIntS : argP laws_szIntS_a → obP (extObs 0 laws_szIntS_o) → Option laws_szIntS_E.P
  | (a, left, ()), () => bif (decide ((w64 (left - (List.length a : Int))) < (0 : Int))) then (some (((-1 : Int), ()), ())) else (some (((w64 (left - (List.length a : Int))), ()), ()))
noncomputable def laws_szIntS_x : Cx := ⟨tab, noEnv, fun _ _ => 0, fun _ => false, [], []⟩
noncomputable def c122 : Code := bodyOf Try.f122
noncomputable def laws_szIntS_A : Ann := .nil
noncomputable def laws_szIntS_D : Ve.Fn := ⟨122, laws_szIntS_a, laws_szIntS_o, laws_szIntS_E, laws_szIntS⟩
theorem laws_szIntS_w : Walk Try.prog laws_szIntS_x laws_szIntS_D Try.f122 c122 12 laws_szIntS_A :=
  ⟨⟨Try.func122, by kernel_rfl, by kernel_rfl, by kernel_rfl, by decide, by kernel_rfl, Nat.le_of_ble_eq_true (by kernel_rfl)⟩, by kernel_rfl, by kernel_rfl, by kernel_rfl, kcast (by kernel_rfl) trivial, by kernel_rfl, fun x y => by kernel_rfl⟩
theorem laws_szIntS_s : laws_szIntS_D.Says Try.prog := laws_szIntS_w.says follows tabOk noEnv_ok
noncomputable def laws_szIntS_e : Env := more noEnv laws_szIntS_D
theorem laws_szIntS_e_ok : EnvOk Try.prog laws_szIntS_e := more_ok noEnv_ok laws_szIntS_s
/-! loop.example/g01128/laws.szIntSS -/
abbrev laws_szIntSS_J0 : Tpl := ⟨[(0, .val (.list (.list I))), (1, .val I), (5, .val I)], [], []⟩
abbrev laws_szIntSS_J1 : Tpl := ⟨[(4, .val I)], [], []⟩
abbrev laws_szIntSS_J2 : Tpl := ⟨[(1, .val I)], [], []⟩
abbrev laws_szIntSS_E : Ve.End := ⟨[⟨4, .shr, I, none⟩], []⟩
abbrev laws_szIntSS_a : List ASh := [.val (.list (.list I)), .val I]
abbrev laws_szIntSS_o : List OSh := []
abbrev laws_szIntSS_O0 : Out := .or .ret laws_szIntSS_J1 (.one (.ex 0) laws_szIntSS_J2)
noncomputable def laws_szIntSS_B0 : laws_szIntSS_J0.P → Option (laws_szIntSS_J0.P ⊕ laws_szIntSS_O0.P)
  | ((a, left, i, ()), ()) => bif (decide (i < (List.length a : Int))) then (guardB (inb i (List.length a)) (match laws_szIntS ((List.getD a (Int.toNat i) ([] : (List Int))), left, ()) () with | some ((r, ()), ()) => (bif (decide (r < (0 : Int))) then (some (.inr (.inl (((-1 : Int), ()), ())))) else (some (.inl ((a, r, (w64 (i + (1 : Int))), ()), ())))) | none => none)) else (some (.inr (.inr ((left, ()), ()))))
noncomputable def laws_szIntSS : argP laws_szIntSS_a → obP (extObs 0 laws_szIntSS_o) → Option laws_szIntSS_E.P
  | (a, left, ()), () => bif (decide ((w64 (left - (List.length a : Int))) < (0 : Int))) then (some (((-1 : Int), ()), ())) else (match loopO laws_szIntSS_B0 ((a, (w64 (left - (List.length a : Int))), (0 : Int), ()), ()) with | some (.inl ((t4, ()), ())) => some ((t4, ()), ()) | some (.inr ((left2, ()), ())) => some ((left2, ()), ()) | none => none)
noncomputable def laws_szIntSS_x : Cx := ⟨tab, laws_szIntS_e, fun _ _ => 0, fun _ => false, [(23, 0), (23, 1), (23, 2), (23, 3)], []⟩
noncomputable def c73 : Code := bodyOf Try.f73
noncomputable def laws_szIntSS_A : Ann := .seq .nil (.seq .nil (.seq .nil (.seq (.seq .nil (.loop laws_szIntSS_J0 laws_szIntSS_O0 laws_szIntSS_B0 .nil)) .nil)))
theorem laws_szIntSS_r0 (p : laws_szIntSS_J0.P) : run laws_szIntSS_x (subc [1, 1, 1, 0, 1, 0, 0] c73) .nil (laws_szIntSS_J0.S p) (leaf laws_szIntSS_J0 laws_szIntSS_O0) = laws_szIntSS_B0 p := by kernel_rfl
noncomputable def laws_szIntSS_D : Ve.Fn := ⟨73, laws_szIntSS_a, laws_szIntSS_o, laws_szIntSS_E, laws_szIntSS⟩
theorem laws_szIntSS_w : Walk Try.prog laws_szIntSS_x laws_szIntSS_D Try.f73 c73 27 laws_szIntSS_A :=
  ⟨⟨Try.func73, by kernel_rfl, by kernel_rfl, by kernel_rfl, by decide, by kernel_rfl, Nat.le_of_ble_eq_true (by kernel_rfl)⟩, by kernel_rfl, by kernel_rfl, by kernel_rfl, kcast (by kernel_rfl) (⟨laws_szIntSS_r0, trivial⟩ : (∀ p, run laws_szIntSS_x (subc [1, 1, 1, 0, 1, 0, 0] c73) .nil (laws_szIntSS_J0.S p) (leaf laws_szIntSS_J0 laws_szIntSS_O0) = laws_szIntSS_B0 p) ∧ True), by kernel_rfl, fun x y => by kernel_rfl⟩
theorem laws_szIntSS_s : laws_szIntSS_D.Says Try.prog := laws_szIntSS_w.says follows tabOk laws_szIntS_e_ok
noncomputable def laws_szIntSS_e : Env := more laws_szIntS_e laws_szIntSS_D
theorem laws_szIntSS_e_ok : EnvOk Try.prog laws_szIntSS_e := more_ok laws_szIntS_e_ok laws_szIntSS_s
/-! loop.example/g01128/laws.szIntA2S -/
abbrev laws_szIntA2S_E : Ve.End := ⟨[⟨4, .shr, I, none⟩], []⟩
abbrev laws_szIntA2S_a : List ASh := [.val (.list (.prod I I)), .val I]
abbrev laws_szIntA2S_o : List OSh := []
noncomputable def laws_szIntA2S : argP laws_szIntA2S_a → obP (extObs 0 laws_szIntA2S_o) → Option laws_szIntA2S_E.P
  | (a, left, ()), () => bif (decide ((w64 (left - (List.length a : Int))) < (0 : Int))) then (some (((-1 : Int), ()), ())) else (some (((w64 (left - (List.length a : Int))), ()), ()))
noncomputable def laws_szIntA2S_x : Cx := ⟨tab, laws_szIntSS_e, fun _ _ => 0, fun _ => false, [], []⟩
noncomputable def c56 : Code := bodyOf Try.f56
noncomputable def laws_szIntA2S_A : Ann := .nil
noncomputable def laws_szIntA2S_D : Ve.Fn := ⟨56, laws_szIntA2S_a, laws_szIntA2S_o, laws_szIntA2S_E, laws_szIntA2S⟩
theorem laws_szIntA2S_w : Walk Try.prog laws_szIntA2S_x laws_szIntA2S_D Try.f56 c56 12 laws_szIntA2S_A :=
  ⟨⟨Try.func56, by kernel_rfl, by kernel_rfl, by kernel_rfl, by decide, by kernel_rfl, Nat.le_of_ble_eq_true (by kernel_rfl)⟩, by kernel_rfl, by kernel_rfl, by kernel_rfl, kcast (by kernel_rfl) trivial, by kernel_rfl, fun x y => by kernel_rfl⟩
theorem laws_szIntA2S_s : laws_szIntA2S_D.Says Try.prog := laws_szIntA2S_w.says follows tabOk laws_szIntSS_e_ok
noncomputable def laws_szIntA2S_e : Env := more laws_szIntSS_e laws_szIntA2S_D
theorem laws_szIntA2S_e_ok : EnvOk Try.prog laws_szIntA2S_e := more_ok laws_szIntSS_e_ok laws_szIntA2S_s
/-! loop.example/g01128/laws.szSpace -/
abbrev laws_szSpace_E : Ve.End := ⟨[⟨4, .shr, I, none⟩], []⟩
abbrev laws_szSpace_a : List ASh := [.val (.prod (.list (.list I)) (.list (.prod I I))), .val I]
abbrev laws_szSpace_o : List OSh := []
noncomputable def laws_szSpace : argP laws_szSpace_a → obP (extObs 0 laws_szSpace_o) → Option laws_szSpace_E.P
  | (a, left, ()), () => match laws_szIntSS (a.1, left, ()) () with | some ((r, ()), ()) => (bif (decide (r < (0 : Int))) then (some (((-1 : Int), ()), ())) else (match laws_szIntA2S (a.2, r, ()) () with | some ((r2, ()), ()) => (bif (decide (r2 < (0 : Int))) then (some (((-1 : Int), ()), ())) else (some ((r2, ()), ()))) | none => none)) | none => none
noncomputable def laws_szSpace_x : Cx := ⟨tab, laws_szIntA2S_e, fun _ _ => 0, fun _ => false, [(8, 0), (8, 1), (8, 2), (8, 3), (14, 0), (14, 1), (14, 2), (14, 3)], [(2, 0)]⟩
noncomputable def c38 : Code := bodyOf Try.f38
noncomputable def laws_szSpace_A : Ann := .nil
noncomputable def laws_szSpace_D : Ve.Fn := ⟨38, laws_szSpace_a, laws_szSpace_o, laws_szSpace_E, laws_szSpace⟩
theorem laws_szSpace_w : Walk Try.prog laws_szSpace_x laws_szSpace_D Try.f38 c38 18 laws_szSpace_A :=
  ⟨⟨Try.func38, by kernel_rfl, by kernel_rfl, by kernel_rfl, by decide, by kernel_rfl, Nat.le_of_ble_eq_true (by kernel_rfl)⟩, by kernel_rfl, by kernel_rfl, by kernel_rfl, kcast (by kernel_rfl) trivial, by kernel_rfl, fun x y => by kernel_rfl⟩
theorem laws_szSpace_s : laws_szSpace_D.Says Try.prog := laws_szSpace_w.says follows tabOk laws_szIntA2S_e_ok
noncomputable def laws_szSpace_e : Env := more laws_szIntA2S_e laws_szSpace_D
theorem laws_szSpace_e_ok : EnvOk Try.prog laws_szSpace_e := more_ok laws_szIntA2S_e_ok laws_szSpace_s
/-! loop.example/g01128/laws.toIntS -/
abbrev laws_toIntS_J0 : Tpl := ⟨[(0, .val (.list I)), (3, .own .shr I), (4, .val I)], [], []⟩
abbrev laws_toIntS_J1 : Tpl := ⟨[(3, .own .shr I)], [], []⟩
abbrev laws_toIntS_E : Ve.End := ⟨[⟨2, (.own .shr), (.list I), none⟩], []⟩
abbrev laws_toIntS_a : List ASh := [.val (.list I)]
abbrev laws_toIntS_o : List OSh := []
abbrev laws_toIntS_O0 : Out := .one (.ex 0) laws_toIntS_J1
noncomputable def laws_toIntS_B0 : laws_toIntS_J0.P → Option (laws_toIntS_J0.P ⊕ laws_toIntS_O0.P)
  | ((a, out, i, ()), ()) => bif (decide (i < (List.length a : Int))) then (guardB (inb i (List.length a)) (guardB (inb i (List.length out)) (some (.inl ((a, (List.set out (Int.toNat i) (List.getD a (Int.toNat i) (0 : Int))), (w64 (i + (1 : Int))), ()), ()))))) else (some (.inr ((out, ()), ())))
noncomputable def laws_toIntS : argP laws_toIntS_a → obP (extObs 0 laws_toIntS_o) → Option laws_toIntS_E.P
  | (a, ()), () => guardB (decide (0 ≤ (List.length a : Int)) && decide ((List.length a : Int) ≤ (List.length a : Int)) && decide ((List.length a : Int) * 8 ≤ 140737488355328)) (match loopO laws_toIntS_B0 ((a, (List.replicate (Int.toNat (List.length a : Int)) (0 : Int)), (0 : Int), ()), ()) with | some ((out, ()), ()) => some ((out, ()), ()) | none => none)
noncomputable def laws_toIntS_x : Cx := ⟨tab, laws_szSpace_e, fun _ _ => 0, fun _ => false, [], []⟩
noncomputable def c18 : Code := bodyOf Try.f18
noncomputable def laws_toIntS_A : Ann := .seq .nil (.seq .nil (.seq (.seq .nil (.loop laws_toIntS_J0 laws_toIntS_O0 laws_toIntS_B0 .nil)) .nil))
theorem laws_toIntS_r0 (p : laws_toIntS_J0.P) : run laws_toIntS_x (subc [1, 1, 0, 1, 0, 0] c18) .nil (laws_toIntS_J0.S p) (leaf laws_toIntS_J0 laws_toIntS_O0) = laws_toIntS_B0 p := by kernel_rfl
noncomputable def laws_toIntS_D : Ve.Fn := ⟨18, laws_toIntS_a, laws_toIntS_o, laws_toIntS_E, laws_toIntS⟩
theorem laws_toIntS_w : Walk Try.prog laws_toIntS_x laws_toIntS_D Try.f18 c18 22 laws_toIntS_A :=
  ⟨⟨Try.func18, by kernel_rfl, by kernel_rfl, by kernel_rfl, by decide, by kernel_rfl, Nat.le_of_ble_eq_true (by kernel_rfl)⟩, by kernel_rfl, by kernel_rfl, by kernel_rfl, kcast (by kernel_rfl) (⟨laws_toIntS_r0, trivial⟩ : (∀ p, run laws_toIntS_x (subc [1, 1, 0, 1, 0, 0] c18) .nil (laws_toIntS_J0.S p) (leaf laws_toIntS_J0 laws_toIntS_O0) = laws_toIntS_B0 p) ∧ True), by kernel_rfl, fun x y => by kernel_rfl⟩
theorem laws_toIntS_s : laws_toIntS_D.Says Try.prog := laws_toIntS_w.says follows tabOk laws_szSpace_e_ok
noncomputable def laws_toIntS_e : Env := more laws_szSpace_e laws_toIntS_D
theorem laws_toIntS_e_ok : EnvOk Try.prog laws_toIntS_e := more_ok laws_szSpace_e_ok laws_toIntS_s
/-! loop.example/g01128/laws.toIntSS -/
abbrev laws_toIntSS_J0 : Tpl := ⟨[(0, .val (.list (.list I))), (3, .own (.own .shr) (.list I)), (4, .val I)], [], []⟩
abbrev laws_toIntSS_J1 : Tpl := ⟨[(3, .own (.own .shr) (.list I))], [], []⟩
abbrev laws_toIntSS_E : Ve.End := ⟨[⟨2, (.own (.own .shr)), (.list (.list I)), none⟩], []⟩
abbrev laws_toIntSS_a : List ASh := [.val (.list (.list I))]
abbrev laws_toIntSS_o : List OSh := []
abbrev laws_toIntSS_O0 : Out := .one (.ex 0) laws_toIntSS_J1
noncomputable def laws_toIntSS_B0 : laws_toIntSS_J0.P → Option (laws_toIntSS_J0.P ⊕ laws_toIntSS_O0.P)
  | ((a, out, i, ()), ()) => bif (decide (i < (List.length a : Int))) then (guardB (inb i (List.length a)) (match laws_toIntS ((List.getD a (Int.toNat i) ([] : (List Int))), ()) () with | some ((r, ()), ()) => guardB (inb i (List.length out)) (some (.inl ((a, (List.set out (Int.toNat i) r), (w64 (i + (1 : Int))), ()), ()))) | none => none)) else (some (.inr ((out, ()), ())))
noncomputable def laws_toIntSS : argP laws_toIntSS_a → obP (extObs 0 laws_toIntSS_o) → Option laws_toIntSS_E.P
  | (a, ()), () => guardB (decide (0 ≤ (List.length a : Int)) && decide ((List.length a : Int) ≤ (List.length a : Int)) && decide ((List.length a : Int) * 24 ≤ 140737488355328)) (match loopO laws_toIntSS_B0 ((a, (List.replicate (Int.toNat (List.length a : Int)) ([] : (List Int))), (0 : Int), ()), ()) with | some ((out, ()), ()) => some ((out, ()), ()) | none => none)
noncomputable def laws_toIntSS_x : Cx := ⟨tab, laws_toIntS_e, fun _ _ => 0, fun _ => false, [], []⟩
noncomputable def c77 : Code := bodyOf Try.f77
noncomputable def laws_toIntSS_A : Ann := .seq .nil (.seq .nil (.seq (.seq .nil (.loop laws_toIntSS_J0 laws_toIntSS_O0 laws_toIntSS_B0 .nil)) .nil))
theorem laws_toIntSS_r0 (p : laws_toIntSS_J0.P) : run laws_toIntSS_x (subc [1, 1, 0, 1, 0, 0] c77) .nil (laws_toIntSS_J0.S p) (leaf laws_toIntSS_J0 laws_toIntSS_O0) = laws_toIntSS_B0 p := by kernel_rfl
noncomputable def laws_toIntSS_D : Ve.Fn := ⟨77, laws_toIntSS_a, laws_toIntSS_o, laws_toIntSS_E, laws_toIntSS⟩
theorem laws_toIntSS_w : Walk Try.prog laws_toIntSS_x laws_toIntSS_D Try.f77 c77 23 laws_toIntSS_A :=
  ⟨⟨Try.func77, by kernel_rfl, by kernel_rfl, by kernel_rfl, by decide, by kernel_rfl, Nat.le_of_ble_eq_true (by kernel_rfl)⟩, by kernel_rfl, by kernel_rfl, by kernel_rfl, kcast (by kernel_rfl) (⟨laws_toIntSS_r0, trivial⟩ : (∀ p, run laws_toIntSS_x (subc [1, 1, 0, 1, 0, 0] c77) .nil (laws_toIntSS_J0.S p) (leaf laws_toIntSS_J0 laws_toIntSS_O0) = laws_toIntSS_B0 p) ∧ True), by kernel_rfl, fun x y => by kernel_rfl⟩
theorem laws_toIntSS_s : laws_toIntSS_D.Says Try.prog := laws_toIntSS_w.says follows tabOk laws_toIntS_e_ok
noncomputable def laws_toIntSS_e : Env := more laws_toIntS_e laws_toIntSS_D
theorem laws_toIntSS_e_ok : EnvOk Try.prog laws_toIntSS_e := more_ok laws_toIntS_e_ok laws_toIntSS_s
/-! loop.example/g01128/laws.toIntA2 -/
abbrev laws_toIntA2_J0 : Tpl := ⟨[(1, .cst (.prod I I)), (2, .ptr (2, 0)), (3, .ptr (3, 0)), (4, .val I)], [((2, 0), .box .shr (.prod I I)), ((3, 0), .box .shr (.prod I I))], []⟩
abbrev laws_toIntA2_J1 : Tpl := ⟨[(2, .ptr (2, 0)), (3, .ptr (3, 0))], [((2, 0), .box .shr (.prod I I)), ((3, 0), .box .shr (.prod I I))], []⟩
abbrev laws_toIntA2_E : Ve.End := ⟨[⟨2, .shr, (.prod I I), some 78⟩], []⟩
abbrev laws_toIntA2_a : List ASh := [.val (.prod I I)]
abbrev laws_toIntA2_o : List OSh := []
abbrev laws_toIntA2_O0 : Out := .one (.ex 0) laws_toIntA2_J1
noncomputable def laws_toIntA2_B0 : laws_toIntA2_J0.P → Option (laws_toIntA2_J0.P ⊕ laws_toIntA2_O0.P)
  | ((a, i, ()), (t2, out, ())) => bif (decide (i < (2 : Int))) then (guardB (decide (0 ≤ i) && decide (i < 2)) (guardB (decide (0 ≤ i) && decide (i < 2)) (some (.inl ((a, (w64 (i + (1 : Int))), ()), (t2, (bif Nat.beq (Int.toNat i) 0 then ((bif Nat.beq (Int.toNat i) 0 then a.1 else a.2), out.2) else (out.1, (bif Nat.beq (Int.toNat i) 0 then a.1 else a.2))), ())))))) else (some (.inr ((), (t2, out, ()))))
noncomputable def laws_toIntA2 : argP laws_toIntA2_a → obP (extObs 0 laws_toIntA2_o) → Option laws_toIntA2_E.P
  | (a, ()), () => match loopO laws_toIntA2_B0 ((a, (0 : Int), ()), (((0 : Int), (0 : Int)), ((0 : Int), (0 : Int)), ())) with | some ((), (t2, out, ())) => some ((out, ()), ()) | none => none
noncomputable def laws_toIntA2_x : Cx := ⟨tab, laws_toIntSS_e, fun _ _ => 0, fun _ => false, [], [(1, 0)]⟩
noncomputable def c102 : Code := bodyOf Try.f102
noncomputable def laws_toIntA2_A : Ann := .seq .nil (.seq .nil (.seq (.seq .nil (.loop laws_toIntA2_J0 laws_toIntA2_O0 laws_toIntA2_B0 .nil)) .nil))
theorem laws_toIntA2_r0 (p : laws_toIntA2_J0.P) : run laws_toIntA2_x (subc [1, 1, 0, 1, 0, 0] c102) .nil (laws_toIntA2_J0.S p) (leaf laws_toIntA2_J0 laws_toIntA2_O0) = laws_toIntA2_B0 p := by kernel_rfl
noncomputable def laws_toIntA2_D : Ve.Fn := ⟨102, laws_toIntA2_a, laws_toIntA2_o, laws_toIntA2_E, laws_toIntA2⟩
theorem laws_toIntA2_w : Walk Try.prog laws_toIntA2_x laws_toIntA2_D Try.f102 c102 15 laws_toIntA2_A :=
  ⟨⟨Try.func102, by kernel_rfl, by kernel_rfl, by kernel_rfl, by decide, by kernel_rfl, Nat.le_of_ble_eq_true (by kernel_rfl)⟩, by kernel_rfl, by kernel_rfl, by kernel_rfl, kcast (by kernel_rfl) (⟨laws_toIntA2_r0, trivial⟩ : (∀ p, run laws_toIntA2_x (subc [1, 1, 0, 1, 0, 0] c102) .nil (laws_toIntA2_J0.S p) (leaf laws_toIntA2_J0 laws_toIntA2_O0) = laws_toIntA2_B0 p) ∧ True), by kernel_rfl, fun x y => by kernel_rfl⟩
theorem laws_toIntA2_s : laws_toIntA2_D.Says Try.prog := laws_toIntA2_w.says follows tabOk laws_toIntSS_e_ok
noncomputable def laws_toIntA2_e : Env := more laws_toIntSS_e laws_toIntA2_D
theorem laws_toIntA2_e_ok : EnvOk Try.prog laws_toIntA2_e := more_ok laws_toIntSS_e_ok laws_toIntA2_s
/-! loop.example/g01128/laws.toIntA2S -/
abbrev laws_toIntA2S_J0 : Tpl := ⟨[(0, .val (.list (.prod I I))), (3, .own .shr (.prod I I)), (4, .val I)], [], []⟩
abbrev laws_toIntA2S_J1 : Tpl := ⟨[(3, .own .shr (.prod I I))], [], []⟩
abbrev laws_toIntA2S_E : Ve.End := ⟨[⟨2, (.own .shr), (.list (.prod I I)), none⟩], []⟩
abbrev laws_toIntA2S_a : List ASh := [.val (.list (.prod I I))]
abbrev laws_toIntA2S_o : List OSh := []
abbrev laws_toIntA2S_O0 : Out := .one (.ex 0) laws_toIntA2S_J1
noncomputable def laws_toIntA2S_B0 : laws_toIntA2S_J0.P → Option (laws_toIntA2S_J0.P ⊕ laws_toIntA2S_O0.P)
  | ((a, out, i, ()), ()) => bif (decide (i < (List.length a : Int))) then (guardB (inb i (List.length a)) (match laws_toIntA2 ((List.getD a (Int.toNat i) ((0 : Int), (0 : Int))), ()) () with | some ((r, ()), ()) => guardB (inb i (List.length out)) (some (.inl ((a, (List.set out (Int.toNat i) r), (w64 (i + (1 : Int))), ()), ()))) | none => none)) else (some (.inr ((out, ()), ())))
noncomputable def laws_toIntA2S : argP laws_toIntA2S_a → obP (extObs 0 laws_toIntA2S_o) → Option laws_toIntA2S_E.P
  | (a, ()), () => guardB (decide (0 ≤ (List.length a : Int)) && decide ((List.length a : Int) ≤ (List.length a : Int)) && decide ((List.length a : Int) * 16 ≤ 140737488355328)) (match loopO laws_toIntA2S_B0 ((a, (List.replicate (Int.toNat (List.length a : Int)) ((0 : Int), (0 : Int))), (0 : Int), ()), ()) with | some ((out, ()), ()) => some ((out, ()), ()) | none => none)
noncomputable def laws_toIntA2S_x : Cx := ⟨tab, laws_toIntA2_e, fun _ _ => 0, fun _ => false, [(20, 0), (20, 1), (20, 2), (20, 3)], []⟩
noncomputable def c59 : Code := bodyOf Try.f59
noncomputable def laws_toIntA2S_A : Ann := .seq .nil (.seq .nil (.seq (.seq .nil (.loop laws_toIntA2S_J0 laws_toIntA2S_O0 laws_toIntA2S_B0 .nil)) .nil))
theorem laws_toIntA2S_r0 (p : laws_toIntA2S_J0.P) : run laws_toIntA2S_x (subc [1, 1, 0, 1, 0, 0] c59) .nil (laws_toIntA2S_J0.S p) (leaf laws_toIntA2S_J0 laws_toIntA2S_O0) = laws_toIntA2S_B0 p := by kernel_rfl
noncomputable def laws_toIntA2S_D : Ve.Fn := ⟨59, laws_toIntA2S_a, laws_toIntA2S_o, laws_toIntA2S_E, laws_toIntA2S⟩
theorem laws_toIntA2S_w : Walk Try.prog laws_toIntA2S_x laws_toIntA2S_D Try.f59 c59 23 laws_toIntA2S_A :=
  ⟨⟨Try.func59, by kernel_rfl, by kernel_rfl, by kernel_rfl, by decide, by kernel_rfl, Nat.le_of_ble_eq_true (by kernel_rfl)⟩, by kernel_rfl, by kernel_rfl, by kernel_rfl, kcast (by kernel_rfl) (⟨laws_toIntA2S_r0, trivial⟩ : (∀ p, run laws_toIntA2S_x (subc [1, 1, 0, 1, 0, 0] c59) .nil (laws_toIntA2S_J0.S p) (leaf laws_toIntA2S_J0 laws_toIntA2S_O0) = laws_toIntA2S_B0 p) ∧ True), by kernel_rfl, fun x y => by kernel_rfl⟩
theorem laws_toIntA2S_s : laws_toIntA2S_D.Says Try.prog := laws_toIntA2S_w.says follows tabOk laws_toIntA2_e_ok
noncomputable def laws_toIntA2S_e : Env := more laws_toIntA2_e laws_toIntA2S_D
theorem laws_toIntA2S_e_ok : EnvOk Try.prog laws_toIntA2S_e := more_ok laws_toIntA2_e_ok laws_toIntA2S_s
/-! loop.example/g01128/laws.toSpace -/
abbrev laws_toSpace_E : Ve.End := ⟨[⟨2, (.prod (.own (.own .shr)) (.own .shr)), (.prod (.list (.list I)) (.list (.prod I I))), some 55⟩], []⟩
abbrev laws_toSpace_a : List ASh := [.val (.prod (.list (.list I)) (.list (.prod I I)))]
abbrev laws_toSpace_o : List OSh := []
noncomputable def laws_toSpace : argP laws_toSpace_a → obP (extObs 0 laws_toSpace_o) → Option laws_toSpace_E.P
  | (a, ()), () => match laws_toIntSS (a.1, ()) () with | some ((r, ()), ()) => (match laws_toIntA2S (a.2, ()) () with | some ((r2, ()), ()) => some (((r, r2), ()), ()) | none => none) | none => none
noncomputable def laws_toSpace_x : Cx := ⟨tab, laws_toIntA2S_e, fun _ _ => 0, fun _ => false, [], [(1, 0)]⟩
noncomputable def c40 : Code := bodyOf Try.f40
noncomputable def laws_toSpace_A : Ann := .nil
noncomputable def laws_toSpace_D : Ve.Fn := ⟨40, laws_toSpace_a, laws_toSpace_o, laws_toSpace_E, laws_toSpace⟩
theorem laws_toSpace_w : Walk Try.prog laws_toSpace_x laws_toSpace_D Try.f40 c40 13 laws_toSpace_A :=
  ⟨⟨Try.func40, by kernel_rfl, by kernel_rfl, by kernel_rfl, by decide, by kernel_rfl, Nat.le_of_ble_eq_true (by kernel_rfl)⟩, by kernel_rfl, by kernel_rfl, by kernel_rfl, kcast (by kernel_rfl) trivial, by kernel_rfl, fun x y => by kernel_rfl⟩
theorem laws_toSpace_s : laws_toSpace_D.Says Try.prog := laws_toSpace_w.says follows tabOk laws_toIntA2S_e_ok
noncomputable def laws_toSpace_e : Env := more laws_toIntA2S_e laws_toSpace_D
theorem laws_toSpace_e_ok : EnvOk Try.prog laws_toSpace_e := more_ok laws_toIntA2S_e_ok laws_toSpace_s
/-! loop.example/g01128/spec.l1In -/
abbrev spec_l1In_E : Ve.End := ⟨[⟨6, .shr, .bool, none⟩], []⟩
abbrev spec_l1In_a : List ASh := [.val I, .val I, .val I]
abbrev spec_l1In_o : List OSh := []
noncomputable def spec_l1In : argP spec_l1In_a → obP (extObs 0 spec_l1In_o) → Option spec_l1In_E.P
  | (x, a, b, ()), () => bif (decide (a ≤ x)) then (some (((decide (x ≤ b)), ()), ())) else (some ((false, ()), ()))
noncomputable def spec_l1In_x : Cx := ⟨tab, laws_toSpace_e, fun _ _ => 0, fun _ => false, [], []⟩
noncomputable def c89 : Code := bodyOf Try.f89
noncomputable def spec_l1In_A : Ann := .nil
noncomputable def spec_l1In_D : Ve.Fn := ⟨89, spec_l1In_a, spec_l1In_o, spec_l1In_E, spec_l1In⟩
theorem spec_l1In_w : Walk Try.prog spec_l1In_x spec_l1In_D Try.f89 c89 15 spec_l1In_A :=
  ⟨⟨Try.func89, by kernel_rfl, by kernel_rfl, by kernel_rfl, by decide, by kernel_rfl, Nat.le_of_ble_eq_true (by kernel_rfl)⟩, by kernel_rfl, by kernel_rfl, by kernel_rfl, kcast (by kernel_rfl) trivial, by kernel_rfl, fun x y => by kernel_rfl⟩
theorem spec_l1In_s : spec_l1In_D.Says Try.prog := spec_l1In_w.says follows tabOk laws_toSpace_e_ok
noncomputable def spec_l1In_e : Env := more laws_toSpace_e spec_l1In_D
theorem spec_l1In_e_ok : EnvOk Try.prog spec_l1In_e := more_ok laws_toSpace_e_ok spec_l1In_s
/-! loop.example/g01128/spec.l2State -/
abbrev spec_l2State_J0 : Tpl := ⟨[(0, .val (.list I)), (3, .val I)], [], []⟩
abbrev spec_l2State_J1 : Tpl := ⟨[(2, .val .bool)], [], []⟩
abbrev spec_l2State_J2 : Tpl := ⟨[(0, .val (.list I))], [], []⟩
abbrev spec_l2State_E : Ve.End := ⟨[⟨2, .shr, .bool, none⟩], []⟩
abbrev spec_l2State_a : List ASh := [.val (.list I)]
abbrev spec_l2State_o : List OSh := []
abbrev spec_l2State_O0 : Out := .or .ret spec_l2State_J1 (.one (.ex 0) spec_l2State_J2)
noncomputable def spec_l2State_B0 : spec_l2State_J0.P → Option (spec_l2State_J0.P ⊕ spec_l2State_O0.P)
  | ((state, i, ()), ()) => bif (decide (i < (List.length state : Int))) then (guardB (inb i (List.length state)) (match spec_l1In ((List.getD state (Int.toNat i) (0 : Int)), (-99 : Int), (99 : Int), ()) () with | some ((r, ()), ()) => (bif (!r) then (some (.inr (.inl ((false, ()), ())))) else (some (.inl ((state, (w64 (i + (1 : Int))), ()), ())))) | none => none)) else (some (.inr (.inr ((state, ()), ()))))
noncomputable def spec_l2State : argP spec_l2State_a → obP (extObs 0 spec_l2State_o) → Option spec_l2State_E.P
  | (state, ()), () => match loopO spec_l2State_B0 ((state, (0 : Int), ()), ()) with | some (.inl ((t2, ()), ())) => some ((t2, ()), ()) | some (.inr ((state2, ()), ())) => some (((decide ((List.length state2 : Int) ≤ (24 : Int))), ()), ()) | none => none
noncomputable def spec_l2State_x : Cx := ⟨tab, spec_l1In_e, fun _ _ => 0, fun _ => false, [(14, 0), (14, 1), (14, 2), (14, 3)], []⟩
noncomputable def c145 : Code := bodyOf Try.f145
noncomputable def spec_l2State_A : Ann := .seq .nil (.seq (.seq .nil (.loop spec_l2State_J0 spec_l2State_O0 spec_l2State_B0 .nil)) .nil)
theorem spec_l2State_r0 (p : spec_l2State_J0.P) : run spec_l2State_x (subc [1, 0, 1, 0, 0] c145) .nil (spec_l2State_J0.S p) (leaf spec_l2State_J0 spec_l2State_O0) = spec_l2State_B0 p := by kernel_rfl
noncomputable def spec_l2State_D : Ve.Fn := ⟨145, spec_l2State_a, spec_l2State_o, spec_l2State_E, spec_l2State⟩
theorem spec_l2State_w : Walk Try.prog spec_l2State_x spec_l2State_D Try.f145 c145 19 spec_l2State_A :=
  ⟨⟨Try.func145, by kernel_rfl, by kernel_rfl, by kernel_rfl, by decide, by kernel_rfl, Nat.le_of_ble_eq_true (by kernel_rfl)⟩, by kernel_rfl, by kernel_rfl, by kernel_rfl, kcast (by kernel_rfl) (⟨spec_l2State_r0, trivial⟩ : (∀ p, run spec_l2State_x (subc [1, 0, 1, 0, 0] c145) .nil (spec_l2State_J0.S p) (leaf spec_l2State_J0 spec_l2State_O0) = spec_l2State_B0 p) ∧ True), by kernel_rfl, fun x y => by kernel_rfl⟩
theorem spec_l2State_s : spec_l2State_D.Says Try.prog := spec_l2State_w.says follows tabOk spec_l1In_e_ok
noncomputable def spec_l2State_e : Env := more spec_l1In_e spec_l2State_D
theorem spec_l2State_e_ok : EnvOk Try.prog spec_l2State_e := more_ok spec_l1In_e_ok spec_l2State_s
/-! loop.example/g01128/spec.l2Before -/
abbrev spec_l2Before_J0 : Tpl := ⟨[(0, .val (.list I)), (1, .val (.list I)), (5, .val I)], [], []⟩
abbrev spec_l2Before_J1 : Tpl := ⟨[(4, .val .bool)], [], []⟩
abbrev spec_l2Before_J2 : Tpl := ⟨[(0, .val (.list I)), (1, .val (.list I))], [], []⟩
abbrev spec_l2Before_E : Ve.End := ⟨[⟨4, .shr, .bool, none⟩], []⟩
abbrev spec_l2Before_a : List ASh := [.val (.list I), .val (.list I)]
abbrev spec_l2Before_o : List OSh := []
abbrev spec_l2Before_O0 : Out := .or .ret spec_l2Before_J1 (.one (.ex 0) spec_l2Before_J2)
noncomputable def spec_l2Before_B0 : spec_l2Before_J0.P → Option (spec_l2Before_J0.P ⊕ spec_l2Before_O0.P)
  | ((a, b, i, ()), ()) => bif (decide (i < (List.length a : Int))) then (bif (decide (i < (List.length b : Int))) then (guardB (inb i (List.length a)) (guardB (inb i (List.length b)) (bif ((List.getD a (Int.toNat i) (0 : Int)) != (List.getD b (Int.toNat i) (0 : Int))) then (guardB (inb i (List.length a)) (guardB (inb i (List.length b)) (some (.inr (.inl (((decide ((List.getD a (Int.toNat i) (0 : Int)) < (List.getD b (Int.toNat i) (0 : Int)))), ()), ())))))) else (some (.inl ((a, b, (w64 (i + (1 : Int))), ()), ())))))) else (some (.inr (.inr ((a, b, ()), ()))))) else (some (.inr (.inr ((a, b, ()), ()))))
noncomputable def spec_l2Before : argP spec_l2Before_a → obP (extObs 0 spec_l2Before_o) → Option spec_l2Before_E.P
  | (a, b, ()), () => match loopO spec_l2Before_B0 ((a, b, (0 : Int), ()), ()) with | some (.inl ((t4, ()), ())) => some ((t4, ()), ()) | some (.inr ((a2, b2, ()), ())) => some (((decide ((List.length a2 : Int) < (List.length b2 : Int))), ()), ()) | none => none
noncomputable def spec_l2Before_x : Cx := ⟨tab, spec_l2State_e, fun _ _ => 0, fun _ => false, [], []⟩
noncomputable def c146 : Code := bodyOf Try.f146
noncomputable def spec_l2Before_A : Ann := .seq .nil (.seq (.seq .nil (.loop spec_l2Before_J0 spec_l2Before_O0 spec_l2Before_B0 (.seq .nil (.seq (.seq (.draw [(0, .flo), (1, .flo), (2, .flo), (3, .flo), (4, .flo), (5, .flo), (6, .flo), (7, .flo), (8, .flo)]) (.seq (.seq (.draw [(0, .flo), (1, .flo), (2, .flo), (3, .flo), (4, .flo), (5, .flo), (6, .flo), (7, .flo), (8, .flo), (9, .flo)]) .nil) .nil)) .nil)))) .nil)
theorem spec_l2Before_r0 (p : spec_l2Before_J0.P) : run spec_l2Before_x (subc [1, 0, 1, 0, 0] c146) (.seq .nil (.seq (.seq (.draw [(0, .flo), (1, .flo), (2, .flo), (3, .flo), (4, .flo), (5, .flo), (6, .flo), (7, .flo), (8, .flo)]) (.seq (.seq (.draw [(0, .flo), (1, .flo), (2, .flo), (3, .flo), (4, .flo), (5, .flo), (6, .flo), (7, .flo), (8, .flo), (9, .flo)]) .nil) .nil)) .nil)) (spec_l2Before_J0.S p) (leaf spec_l2Before_J0 spec_l2Before_O0) = spec_l2Before_B0 p := by kernel_rfl
noncomputable def spec_l2Before_D : Ve.Fn := ⟨146, spec_l2Before_a, spec_l2Before_o, spec_l2Before_E, spec_l2Before⟩
theorem spec_l2Before_w : Walk Try.prog spec_l2Before_x spec_l2Before_D Try.f146 c146 41 spec_l2Before_A :=
  ⟨⟨Try.func146, by kernel_rfl, by kernel_rfl, by kernel_rfl, by decide, by kernel_rfl, Nat.le_of_ble_eq_true (by kernel_rfl)⟩, by kernel_rfl, by kernel_rfl, by kernel_rfl, kcast (by kernel_rfl) (⟨spec_l2Before_r0, trivial⟩ : (∀ p, run spec_l2Before_x (subc [1, 0, 1, 0, 0] c146) (.seq .nil (.seq (.seq (.draw [(0, .flo), (1, .flo), (2, .flo), (3, .flo), (4, .flo), (5, .flo), (6, .flo), (7, .flo), (8, .flo)]) (.seq (.seq (.draw [(0, .flo), (1, .flo), (2, .flo), (3, .flo), (4, .flo), (5, .flo), (6, .flo), (7, .flo), (8, .flo), (9, .flo)]) .nil) .nil)) .nil)) (spec_l2Before_J0.S p) (leaf spec_l2Before_J0 spec_l2Before_O0) = spec_l2Before_B0 p) ∧ True), by kernel_rfl, fun x y => by kernel_rfl⟩
theorem spec_l2Before_s : spec_l2Before_D.Says Try.prog := spec_l2Before_w.says follows tabOk spec_l2State_e_ok
noncomputable def spec_l2Before_e : Env := more spec_l2State_e spec_l2Before_D
theorem spec_l2Before_e_ok : EnvOk Try.prog spec_l2Before_e := more_ok spec_l2State_e_ok spec_l2Before_s
/-! loop.example/g01128/spec.l2Edge -/
abbrev spec_l2Edge_E : Ve.End := ⟨[⟨4, .shr, .bool, none⟩], []⟩
abbrev spec_l2Edge_a : List ASh := [.val (.prod I I), .val (.prod I I)]
abbrev spec_l2Edge_o : List OSh := []
noncomputable def spec_l2Edge : argP spec_l2Edge_a → obP (extObs 0 spec_l2Edge_o) → Option spec_l2Edge_E.P
  | (a, b, ()), () => bif (decide (a.1 < b.1)) then (some ((true, ()), ())) else (bif (a.1 == b.1) then (some (((decide (a.2 < b.2)), ()), ())) else (some ((false, ()), ())))
noncomputable def spec_l2Edge_x : Cx := ⟨tab, spec_l2Before_e, fun _ _ => 0, fun _ => false, [], [(2, 0), (3, 0)]⟩
noncomputable def c141 : Code := bodyOf Try.f141
noncomputable def spec_l2Edge_A : Ann := .nil
noncomputable def spec_l2Edge_D : Ve.Fn := ⟨141, spec_l2Edge_a, spec_l2Edge_o, spec_l2Edge_E, spec_l2Edge⟩
theorem spec_l2Edge_w : Walk Try.prog spec_l2Edge_x spec_l2Edge_D Try.f141 c141 24 spec_l2Edge_A :=
  ⟨⟨Try.func141, by kernel_rfl, by kernel_rfl, by kernel_rfl, by decide, by kernel_rfl, Nat.le_of_ble_eq_true (by kernel_rfl)⟩, by kernel_rfl, by kernel_rfl, by kernel_rfl, kcast (by kernel_rfl) trivial, by kernel_rfl, fun x y => by kernel_rfl⟩
theorem spec_l2Edge_s : spec_l2Edge_D.Says Try.prog := spec_l2Edge_w.says follows tabOk spec_l2Before_e_ok
noncomputable def spec_l2Edge_e : Env := more spec_l2Before_e spec_l2Edge_D
theorem spec_l2Edge_e_ok : EnvOk Try.prog spec_l2Edge_e := more_ok spec_l2Before_e_ok spec_l2Edge_s
/-! loop.example/g01128/spec.l2Pairs -/
abbrev spec_l2Pairs_J0 : Tpl := ⟨[(0, .val (.list (.prod I I))), (1, .val I), (5, .val I)], [], []⟩
abbrev spec_l2Pairs_J1 : Tpl := ⟨[(4, .val .bool)], [], []⟩
abbrev spec_l2Pairs_J2 : Tpl := ⟨[], [], []⟩
abbrev spec_l2Pairs_E : Ve.End := ⟨[⟨4, .shr, .bool, none⟩], []⟩
abbrev spec_l2Pairs_a : List ASh := [.val (.list (.prod I I)), .val I]
abbrev spec_l2Pairs_o : List OSh := []
abbrev spec_l2Pairs_O0 : Out := .or .ret spec_l2Pairs_J1 (.one (.ex 0) spec_l2Pairs_J2)
noncomputable def spec_l2Pairs_B0 : spec_l2Pairs_J0.P → Option (spec_l2Pairs_J0.P ⊕ spec_l2Pairs_O0.P)
  | ((pairs, n, i, ()), ()) => bif (decide (i < (List.length pairs : Int))) then (guardB (inb i (List.length pairs)) (match spec_l1In ((List.getD pairs (Int.toNat i) ((0 : Int), (0 : Int))).1, (0 : Int), (w64 (n - (1 : Int))), ()) () with | some ((r, ()), ()) => (bif (!r) then (some (.inr (.inl ((false, ()), ())))) else (match spec_l1In ((List.getD pairs (Int.toNat i) ((0 : Int), (0 : Int))).2, (0 : Int), (w64 (n - (1 : Int))), ()) () with | some ((r2, ()), ()) => (bif (!r2) then (some (.inr (.inl ((false, ()), ())))) else (bif (decide (((List.getD pairs (Int.toNat i) ((0 : Int), (0 : Int))).2) ≤ ((List.getD pairs (Int.toNat i) ((0 : Int), (0 : Int))).1))) then (some (.inr (.inl ((false, ()), ())))) else (bif (decide ((0 : Int) < i)) then (guardB (inb (w64 (i - (1 : Int))) (List.length pairs)) (match spec_l2Edge ((List.getD pairs (Int.toNat (w64 (i - (1 : Int)))) ((0 : Int), (0 : Int))), (List.getD pairs (Int.toNat i) ((0 : Int), (0 : Int))), ()) () with | some ((r3, ()), ()) => (bif (!r3) then (some (.inr (.inl ((false, ()), ())))) else (some (.inl ((pairs, n, (w64 (i + (1 : Int))), ()), ())))) | none => none)) else (some (.inl ((pairs, n, (w64 (i + (1 : Int))), ()), ())))))) | none => none)) | none => none)) else (some (.inr (.inr ((), ()))))
noncomputable def spec_l2Pairs : argP spec_l2Pairs_a → obP (extObs 0 spec_l2Pairs_o) → Option spec_l2Pairs_E.P
  | (pairs, n, ()), () => match loopO spec_l2Pairs_B0 ((pairs, n, (0 : Int), ()), ()) with | some (.inl ((t4, ()), ())) => some ((t4, ()), ()) | some (.inr ((), ())) => some ((true, ()), ()) | none => none
noncomputable def spec_l2Pairs_x : Cx := ⟨tab, spec_l2Edge_e, fun _ _ => 0, fun _ => false, [(21, 0), (21, 1), (21, 2), (21, 3), (28, 0), (28, 1), (28, 2), (28, 3), (48, 0), (48, 1), (48, 2), (48, 3)], [(6, 0)]⟩
noncomputable def c113 : Code := bodyOf Try.f113
noncomputable def spec_l2Pairs_A : Ann := .seq .nil (.seq (.seq .nil (.loop spec_l2Pairs_J0 spec_l2Pairs_O0 spec_l2Pairs_B0 (.seq .nil (.seq (.seq .nil (.seq (.draw [(0, .flo), (1, .flo), (2, .flo), (3, .flo), (4, .sole), (5, .flo), (6, .flo), (7, .flo), (9, .flo), (10, .flo), (8, .qui), (11, .sole), (12, .flo), (13, .flo), (14, .flo), (15, .flo), (17, .flo), (16, .qui), (18, .qui), (19, .flo), (20, .flo), (21, .flo), (22, .flo), (23, .flo), (24, .flo), (25, .flo), (26, .flo), (27, .flo), (28, .flo), (29, .qui), (30, .qui), (31, .sole), (32, .flo), (33, .flo), (34, .flo)]) .nil)) .nil)))) .nil)
theorem spec_l2Pairs_r0 (p : spec_l2Pairs_J0.P) : run spec_l2Pairs_x (subc [1, 0, 1, 0, 0] c113) (.seq .nil (.seq (.seq .nil (.seq (.draw [(0, .flo), (1, .flo), (2, .flo), (3, .flo), (4, .sole), (5, .flo), (6, .flo), (7, .flo), (9, .flo), (10, .flo), (8, .qui), (11, .sole), (12, .flo), (13, .flo), (14, .flo), (15, .flo), (17, .flo), (16, .qui), (18, .qui), (19, .flo), (20, .flo), (21, .flo), (22, .flo), (23, .flo), (24, .flo), (25, .flo), (26, .flo), (27, .flo), (28, .flo), (29, .qui), (30, .qui), (31, .sole), (32, .flo), (33, .flo), (34, .flo)]) .nil)) .nil)) (spec_l2Pairs_J0.S p) (leaf spec_l2Pairs_J0 spec_l2Pairs_O0) = spec_l2Pairs_B0 p := by kernel_rfl
noncomputable def spec_l2Pairs_D : Ve.Fn := ⟨113, spec_l2Pairs_a, spec_l2Pairs_o, spec_l2Pairs_E, spec_l2Pairs⟩
theorem spec_l2Pairs_w : Walk Try.prog spec_l2Pairs_x spec_l2Pairs_D Try.f113 c113 52 spec_l2Pairs_A :=
  ⟨⟨Try.func113, by kernel_rfl, by kernel_rfl, by kernel_rfl, by decide, by kernel_rfl, Nat.le_of_ble_eq_true (by kernel_rfl)⟩, by kernel_rfl, by kernel_rfl, by kernel_rfl, kcast (by kernel_rfl) (⟨spec_l2Pairs_r0, trivial⟩ : (∀ p, run spec_l2Pairs_x (subc [1, 0, 1, 0, 0] c113) (.seq .nil (.seq (.seq .nil (.seq (.draw [(0, .flo), (1, .flo), (2, .flo), (3, .flo), (4, .sole), (5, .flo), (6, .flo), (7, .flo), (9, .flo), (10, .flo), (8, .qui), (11, .sole), (12, .flo), (13, .flo), (14, .flo), (15, .flo), (17, .flo), (16, .qui), (18, .qui), (19, .flo), (20, .flo), (21, .flo), (22, .flo), (23, .flo), (24, .flo), (25, .flo), (26, .flo), (27, .flo), (28, .flo), (29, .qui), (30, .qui), (31, .sole), (32, .flo), (33, .flo), (34, .flo)]) .nil)) .nil)) (spec_l2Pairs_J0.S p) (leaf spec_l2Pairs_J0 spec_l2Pairs_O0) = spec_l2Pairs_B0 p) ∧ True), by kernel_rfl, fun x y => by kernel_rfl⟩
theorem spec_l2Pairs_s : spec_l2Pairs_D.Says Try.prog := spec_l2Pairs_w.says follows tabOk spec_l2Edge_e_ok
noncomputable def spec_l2Pairs_e : Env := more spec_l2Edge_e spec_l2Pairs_D
theorem spec_l2Pairs_e_ok : EnvOk Try.prog spec_l2Pairs_e := more_ok spec_l2Edge_e_ok spec_l2Pairs_s
/-! loop.example/g01128/spec.l2Space -/
abbrev spec_l2Space_J0 : Tpl := ⟨[(1, .cst (.prod (.list (.list I)) (.list (.prod I I)))), (3, .val I)], [], []⟩
abbrev spec_l2Space_J1 : Tpl := ⟨[(2, .val .bool)], [], []⟩
abbrev spec_l2Space_J2 : Tpl := ⟨[(1, .cst (.prod (.list (.list I)) (.list (.prod I I))))], [], []⟩
abbrev spec_l2Space_E : Ve.End := ⟨[⟨2, .shr, .bool, none⟩], []⟩
abbrev spec_l2Space_a : List ASh := [.val (.prod (.list (.list I)) (.list (.prod I I)))]
abbrev spec_l2Space_o : List OSh := []
abbrev spec_l2Space_O0 : Out := .or .ret spec_l2Space_J1 (.one (.ex 0) spec_l2Space_J2)
noncomputable def spec_l2Space_B0 : spec_l2Space_J0.P → Option (spec_l2Space_J0.P ⊕ spec_l2Space_O0.P)
  | ((x, i, ()), ()) => bif (decide (i < (List.length x.1 : Int))) then (guardB (inb i (List.length x.1)) (match spec_l2State ((List.getD x.1 (Int.toNat i) ([] : (List Int))), ()) () with | some ((r, ()), ()) => (bif (!r) then (some (.inr (.inl ((false, ()), ())))) else (bif (decide ((0 : Int) < i)) then (guardB (inb (w64 (i - (1 : Int))) (List.length x.1)) (guardB (inb i (List.length x.1)) (match spec_l2Before ((List.getD x.1 (Int.toNat (w64 (i - (1 : Int)))) ([] : (List Int))), (List.getD x.1 (Int.toNat i) ([] : (List Int))), ()) () with | some ((r2, ()), ()) => (bif (!r2) then (some (.inr (.inl ((false, ()), ())))) else (some (.inl ((x, (w64 (i + (1 : Int))), ()), ())))) | none => none))) else (some (.inl ((x, (w64 (i + (1 : Int))), ()), ()))))) | none => none)) else (some (.inr (.inr ((x, ()), ()))))
noncomputable def spec_l2Space : argP spec_l2Space_a → obP (extObs 0 spec_l2Space_o) → Option spec_l2Space_E.P
  | (x, ()), () => bif (decide ((300 : Int) < (List.length x.1 : Int))) then (some ((false, ()), ())) else (bif (decide ((6000 : Int) < (List.length x.2 : Int))) then (some ((false, ()), ())) else (match loopO spec_l2Space_B0 ((x, (0 : Int), ()), ()) with | some (.inl ((t2, ()), ())) => some ((t2, ()), ()) | some (.inr ((x2, ()), ())) => (match spec_l2Pairs (x2.2, (List.length x2.1 : Int), ()) () with | some ((r, ()), ()) => some ((r, ()), ()) | none => none) | none => none))
noncomputable def spec_l2Space_x : Cx := ⟨tab, spec_l2Pairs_e, fun _ _ => 0, fun _ => false, [(26, 0), (26, 1), (26, 2), (26, 3), (43, 0), (43, 1), (43, 2), (43, 3), (52, 0), (52, 1), (52, 2), (52, 3)], [(1, 0)]⟩
noncomputable def c123 : Code := bodyOf Try.f123
noncomputable def spec_l2Space_A : Ann := .seq .nil (.seq .nil (.seq (.seq .nil (.loop spec_l2Space_J0 spec_l2Space_O0 spec_l2Space_B0 (.seq .nil (.seq (.seq (.draw [(0, .flo), (1, .flo), (2, .flo), (3, .flo), (4, .flo), (5, .sole), (6, .flo), (7, .flo), (8, .flo), (9, .flo), (10, .flo), (11, .flo), (13, .flo), (14, .flo), (17, .flo), (19, .flo), (12, .qui), (15, .flo), (16, .qui), (18, .qui), (20, .flo), (21, .qui), (22, .sole), (23, .flo), (24, .flo), (25, .flo)]) .nil) .nil)))) .nil))
theorem spec_l2Space_r0 (p : spec_l2Space_J0.P) : run spec_l2Space_x (subc [1, 1, 0, 1, 0, 0] c123) (.seq .nil (.seq (.seq (.draw [(0, .flo), (1, .flo), (2, .flo), (3, .flo), (4, .flo), (5, .sole), (6, .flo), (7, .flo), (8, .flo), (9, .flo), (10, .flo), (11, .flo), (13, .flo), (14, .flo), (17, .flo), (19, .flo), (12, .qui), (15, .flo), (16, .qui), (18, .qui), (20, .flo), (21, .qui), (22, .sole), (23, .flo), (24, .flo), (25, .flo)]) .nil) .nil)) (spec_l2Space_J0.S p) (leaf spec_l2Space_J0 spec_l2Space_O0) = spec_l2Space_B0 p := by kernel_rfl
noncomputable def spec_l2Space_D : Ve.Fn := ⟨123, spec_l2Space_a, spec_l2Space_o, spec_l2Space_E, spec_l2Space⟩
theorem spec_l2Space_w : Walk Try.prog spec_l2Space_x spec_l2Space_D Try.f123 c123 53 spec_l2Space_A :=
  ⟨⟨Try.func123, by kernel_rfl, by kernel_rfl, by kernel_rfl, by decide, by kernel_rfl, Nat.le_of_ble_eq_true (by kernel_rfl)⟩, by kernel_rfl, by kernel_rfl, by kernel_rfl, kcast (by kernel_rfl) (⟨spec_l2Space_r0, trivial⟩ : (∀ p, run spec_l2Space_x (subc [1, 1, 0, 1, 0, 0] c123) (.seq .nil (.seq (.seq (.draw [(0, .flo), (1, .flo), (2, .flo), (3, .flo), (4, .flo), (5, .sole), (6, .flo), (7, .flo), (8, .flo), (9, .flo), (10, .flo), (11, .flo), (13, .flo), (14, .flo), (17, .flo), (19, .flo), (12, .qui), (15, .flo), (16, .qui), (18, .qui), (20, .flo), (21, .qui), (22, .sole), (23, .flo), (24, .flo), (25, .flo)]) .nil) .nil)) (spec_l2Space_J0.S p) (leaf spec_l2Space_J0 spec_l2Space_O0) = spec_l2Space_B0 p) ∧ True), by kernel_rfl, fun x y => by kernel_rfl⟩
theorem spec_l2Space_s : spec_l2Space_D.Says Try.prog := spec_l2Space_w.says follows tabOk spec_l2Pairs_e_ok
noncomputable def spec_l2Space_e : Env := more spec_l2Pairs_e spec_l2Space_D
theorem spec_l2Space_e_ok : EnvOk Try.prog spec_l2Space_e := more_ok spec_l2Pairs_e_ok spec_l2Space_s
/-! loop.example/g01128/spec.l11Numbers -/
abbrev spec_l11Numbers_J0 : Tpl := ⟨[(0, .val (.list I)), (1, .val I), (5, .val I)], [], []⟩
abbrev spec_l11Numbers_J1 : Tpl := ⟨[(4, .val .bool)], [], []⟩
abbrev spec_l11Numbers_J2 : Tpl := ⟨[(0, .val (.list I)), (1, .val I)], [], []⟩
abbrev spec_l11Numbers_E : Ve.End := ⟨[⟨4, .shr, .bool, none⟩], []⟩
abbrev spec_l11Numbers_a : List ASh := [.val (.list I), .val I]
abbrev spec_l11Numbers_o : List OSh := []
abbrev spec_l11Numbers_O0 : Out := .or .ret spec_l11Numbers_J1 (.one (.ex 0) spec_l11Numbers_J2)
noncomputable def spec_l11Numbers_B0 : spec_l11Numbers_J0.P → Option (spec_l11Numbers_J0.P ⊕ spec_l11Numbers_O0.P)
  | ((list, n, i, ()), ()) => bif (decide (i < (List.length list : Int))) then (guardB (inb i (List.length list)) (match spec_l1In ((List.getD list (Int.toNat i) (0 : Int)), (0 : Int), (999 : Int), ()) () with | some ((r, ()), ()) => (bif (!r) then (some (.inr (.inl ((false, ()), ())))) else (some (.inl ((list, n, (w64 (i + (1 : Int))), ()), ())))) | none => none)) else (some (.inr (.inr ((list, n, ()), ()))))
noncomputable def spec_l11Numbers : argP spec_l11Numbers_a → obP (extObs 0 spec_l11Numbers_o) → Option spec_l11Numbers_E.P
  | (list, n, ()), () => match loopO spec_l11Numbers_B0 ((list, n, (0 : Int), ()), ()) with | some (.inl ((t4, ()), ())) => some ((t4, ()), ()) | some (.inr ((list2, n2, ()), ())) => some ((((List.length list2 : Int) == n2), ()), ()) | none => none
noncomputable def spec_l11Numbers_x : Cx := ⟨tab, spec_l2Space_e, fun _ _ => 0, fun _ => false, [(16, 0), (16, 1), (16, 2), (16, 3)], []⟩
noncomputable def c124 : Code := bodyOf Try.f124
noncomputable def spec_l11Numbers_A : Ann := .seq .nil (.seq (.seq .nil (.loop spec_l11Numbers_J0 spec_l11Numbers_O0 spec_l11Numbers_B0 .nil)) .nil)
theorem spec_l11Numbers_r0 (p : spec_l11Numbers_J0.P) : run spec_l11Numbers_x (subc [1, 0, 1, 0, 0] c124) .nil (spec_l11Numbers_J0.S p) (leaf spec_l11Numbers_J0 spec_l11Numbers_O0) = spec_l11Numbers_B0 p := by kernel_rfl
noncomputable def spec_l11Numbers_D : Ve.Fn := ⟨124, spec_l11Numbers_a, spec_l11Numbers_o, spec_l11Numbers_E, spec_l11Numbers⟩
theorem spec_l11Numbers_w : Walk Try.prog spec_l11Numbers_x spec_l11Numbers_D Try.f124 c124 22 spec_l11Numbers_A :=
  ⟨⟨Try.func124, by kernel_rfl, by kernel_rfl, by kernel_rfl, by decide, by kernel_rfl, Nat.le_of_ble_eq_true (by kernel_rfl)⟩, by kernel_rfl, by kernel_rfl, by kernel_rfl, kcast (by kernel_rfl) (⟨spec_l11Numbers_r0, trivial⟩ : (∀ p, run spec_l11Numbers_x (subc [1, 0, 1, 0, 0] c124) .nil (spec_l11Numbers_J0.S p) (leaf spec_l11Numbers_J0 spec_l11Numbers_O0) = spec_l11Numbers_B0 p) ∧ True), by kernel_rfl, fun x y => by kernel_rfl⟩
theorem spec_l11Numbers_s : spec_l11Numbers_D.Says Try.prog := spec_l11Numbers_w.says follows tabOk spec_l2Space_e_ok
noncomputable def spec_l11Numbers_e : Env := more spec_l2Space_e spec_l11Numbers_D
theorem spec_l11Numbers_e_ok : EnvOk Try.prog spec_l11Numbers_e := more_ok spec_l2Space_e_ok spec_l11Numbers_s
/-! loop.example/g01128/spec.l11Heights -/
abbrev spec_l11Heights_E : Ve.End := ⟨[⟨4, .shr, .bool, none⟩], []⟩
abbrev spec_l11Heights_a : List ASh := [.val (.prod (.list (.list I)) (.list (.prod I I))), .val (.list I)]
abbrev spec_l11Heights_o : List OSh := []
noncomputable def spec_l11Heights : argP spec_l11Heights_a → obP (extObs 0 spec_l11Heights_o) → Option spec_l11Heights_E.P
  | (x, heights, ()), () => match spec_l2Space (x, ()) () with | some ((r, ()), ()) => (bif r then (match spec_l11Numbers (heights, (List.length x.1 : Int), ()) () with | some ((r2, ()), ()) => some ((r2, ()), ()) | none => none) else (some ((false, ()), ()))) | none => none
noncomputable def spec_l11Heights_x : Cx := ⟨tab, spec_l11Numbers_e, fun _ _ => 0, fun _ => false, [(6, 0), (6, 1), (6, 2), (6, 3), (12, 0), (12, 1), (12, 2), (12, 3)], [(2, 0)]⟩
noncomputable def c82 : Code := bodyOf Try.f82
noncomputable def spec_l11Heights_A : Ann := .nil
noncomputable def spec_l11Heights_D : Ve.Fn := ⟨82, spec_l11Heights_a, spec_l11Heights_o, spec_l11Heights_E, spec_l11Heights⟩
theorem spec_l11Heights_w : Walk Try.prog spec_l11Heights_x spec_l11Heights_D Try.f82 c82 14 spec_l11Heights_A :=
  ⟨⟨Try.func82, by kernel_rfl, by kernel_rfl, by kernel_rfl, by decide, by kernel_rfl, Nat.le_of_ble_eq_true (by kernel_rfl)⟩, by kernel_rfl, by kernel_rfl, by kernel_rfl, kcast (by kernel_rfl) trivial, by kernel_rfl, fun x y => by kernel_rfl⟩
theorem spec_l11Heights_s : spec_l11Heights_D.Says Try.prog := spec_l11Heights_w.says follows tabOk spec_l11Numbers_e_ok
noncomputable def spec_l11Heights_e : Env := more spec_l11Numbers_e spec_l11Heights_D
theorem spec_l11Heights_e_ok : EnvOk Try.prog spec_l11Heights_e := more_ok spec_l11Numbers_e_ok spec_l11Heights_s
/-! loop.example/g01128/spec.l11Under -/
abbrev spec_l11Under_J0 : Tpl := ⟨[(0, .val (.list I)), (1, .val I), (5, .own .shr I), (6, .val I)], [], []⟩
abbrev spec_l11Under_J1 : Tpl := ⟨[(5, .own .shr I)], [], []⟩
abbrev spec_l11Under_E : Ve.End := ⟨[⟨4, (.own .shr), (.list I), none⟩], []⟩
abbrev spec_l11Under_a : List ASh := [.val (.list I), .val I]
abbrev spec_l11Under_o : List OSh := []
abbrev spec_l11Under_O0 : Out := .one (.ex 0) spec_l11Under_J1
noncomputable def spec_l11Under_B0 : spec_l11Under_J0.P → Option (spec_l11Under_J0.P ⊕ spec_l11Under_O0.P)
  | ((heights, level, out, i, ()), ()) => bif (decide (i < (List.length heights : Int))) then (guardB (inb i (List.length heights)) (bif (decide ((List.getD heights (Int.toNat i) (0 : Int)) ≤ level)) then (guardB (decide ((List.length out + List.length [i]) * 8 ≤ 70368744177664)) (some (.inl ((heights, level, (out ++ [i]), (w64 (i + (1 : Int))), ()), ())))) else (some (.inl ((heights, level, out, (w64 (i + (1 : Int))), ()), ()))))) else (some (.inr ((out, ()), ())))
noncomputable def spec_l11Under : argP spec_l11Under_a → obP (extObs 0 spec_l11Under_o) → Option spec_l11Under_E.P
  | (heights, level, ()), () => match loopO spec_l11Under_B0 ((heights, level, ([] : (List Int)), (0 : Int), ()), ()) with | some ((out, ()), ()) => some ((out, ()), ()) | none => none
noncomputable def spec_l11Under_x : Cx := ⟨tab, spec_l11Heights_e, fun _ _ => 0, fun _ => false, [(22, 0)], []⟩
noncomputable def c91 : Code := bodyOf Try.f91
noncomputable def spec_l11Under_A : Ann := .seq .nil (.seq .nil (.seq (.seq .nil (.loop spec_l11Under_J0 spec_l11Under_O0 spec_l11Under_B0 .nil)) .nil))
theorem spec_l11Under_r0 (p : spec_l11Under_J0.P) : run spec_l11Under_x (subc [1, 1, 0, 1, 0, 0] c91) .nil (spec_l11Under_J0.S p) (leaf spec_l11Under_J0 spec_l11Under_O0) = spec_l11Under_B0 p := by kernel_rfl
noncomputable def spec_l11Under_D : Ve.Fn := ⟨91, spec_l11Under_a, spec_l11Under_o, spec_l11Under_E, spec_l11Under⟩
theorem spec_l11Under_w : Walk Try.prog spec_l11Under_x spec_l11Under_D Try.f91 c91 25 spec_l11Under_A :=
  ⟨⟨Try.func91, by kernel_rfl, by kernel_rfl, by kernel_rfl, by decide, by kernel_rfl, Nat.le_of_ble_eq_true (by kernel_rfl)⟩, by kernel_rfl, by kernel_rfl, by kernel_rfl, kcast (by kernel_rfl) (⟨spec_l11Under_r0, trivial⟩ : (∀ p, run spec_l11Under_x (subc [1, 1, 0, 1, 0, 0] c91) .nil (spec_l11Under_J0.S p) (leaf spec_l11Under_J0 spec_l11Under_O0) = spec_l11Under_B0 p) ∧ True), by kernel_rfl, fun x y => by kernel_rfl⟩
theorem spec_l11Under_s : spec_l11Under_D.Says Try.prog := spec_l11Under_w.says follows tabOk spec_l11Heights_e_ok
noncomputable def spec_l11Under_e : Env := more spec_l11Heights_e spec_l11Under_D
theorem spec_l11Under_e_ok : EnvOk Try.prog spec_l11Under_e := more_ok spec_l11Heights_e_ok spec_l11Under_s
/-! loop.example/g01128/spec.l1Own -/
abbrev spec_l1Own_E : Ve.End := ⟨[⟨2, (.own .shr), (.list I), none⟩], []⟩
abbrev spec_l1Own_a : List ASh := [.val (.list I)]
abbrev spec_l1Own_o : List OSh := []
noncomputable def spec_l1Own : argP spec_l1Own_a → obP (extObs 0 spec_l1Own_o) → Option spec_l1Own_E.P
  | (l, ()), () => guardB (decide ((List.length ([] : (List Int)) + List.length l) * 8 ≤ 70368744177664)) (some (((([] : (List Int)) ++ l), ()), ()))
noncomputable def spec_l1Own_x : Cx := ⟨tab, spec_l11Under_e, fun _ _ => 0, fun _ => false, [], []⟩
noncomputable def c109 : Code := bodyOf Try.f109
noncomputable def spec_l1Own_A : Ann := .nil
noncomputable def spec_l1Own_D : Ve.Fn := ⟨109, spec_l1Own_a, spec_l1Own_o, spec_l1Own_E, spec_l1Own⟩
theorem spec_l1Own_w : Walk Try.prog spec_l1Own_x spec_l1Own_D Try.f109 c109 6 spec_l1Own_A :=
  ⟨⟨Try.func109, by kernel_rfl, by kernel_rfl, by kernel_rfl, by decide, by kernel_rfl, Nat.le_of_ble_eq_true (by kernel_rfl)⟩, by kernel_rfl, by kernel_rfl, by kernel_rfl, kcast (by kernel_rfl) trivial, by kernel_rfl, fun x y => by kernel_rfl⟩
theorem spec_l1Own_s : spec_l1Own_D.Says Try.prog := spec_l1Own_w.says follows tabOk spec_l11Under_e_ok
noncomputable def spec_l1Own_e : Env := more spec_l11Under_e spec_l1Own_D
theorem spec_l1Own_e_ok : EnvOk Try.prog spec_l1Own_e := more_ok spec_l11Under_e_ok spec_l1Own_s
/-! loop.example/g01128/spec.l2Induced -/
abbrev spec_l2Induced_J0 : Tpl := ⟨[(1, .val (.list I)), (2, .cst (.prod (.list (.list I)) (.list (.prod I I)))), (4, .ptr (4, 0)), (5, .ptr (5, 0)), (6, .own .shr I), (7, .val I)], [((4, 0), .box (.prod (.own (.own .shr)) (.own .shr)) (.prod (.list (.list I)) (.list (.prod I I)))), ((5, 0), .box (.prod (.own (.own .shr)) (.own .shr)) (.prod (.list (.list I)) (.list (.prod I I))))], []⟩
abbrev spec_l2Induced_J1 : Tpl := ⟨[(1, .val (.list I)), (2, .cst (.prod (.list (.list I)) (.list (.prod I I)))), (4, .ptr (4, 0)), (5, .ptr (5, 0)), (6, .own .shr I)], [((4, 0), .box (.prod (.own (.own .shr)) (.own .shr)) (.prod (.list (.list I)) (.list (.prod I I)))), ((5, 0), .box (.prod (.own (.own .shr)) (.own .shr)) (.prod (.list (.list I)) (.list (.prod I I))))], []⟩
abbrev spec_l2Induced_J2 : Tpl := ⟨[(1, .val (.list I)), (2, .cst (.prod (.list (.list I)) (.list (.prod I I)))), (4, .ptr (4, 0)), (5, .ptr (5, 0)), (6, .own .shr I), (8, .val I)], [((4, 0), .box (.prod (.own (.own .shr)) (.own .shr)) (.prod (.list (.list I)) (.list (.prod I I)))), ((5, 0), .box (.prod (.own (.own .shr)) (.own .shr)) (.prod (.list (.list I)) (.list (.prod I I))))], []⟩
abbrev spec_l2Induced_J3 : Tpl := ⟨[(2, .cst (.prod (.list (.list I)) (.list (.prod I I)))), (4, .ptr (4, 0)), (5, .ptr (5, 0)), (6, .own .shr I)], [((4, 0), .box (.prod (.own (.own .shr)) (.own .shr)) (.prod (.list (.list I)) (.list (.prod I I)))), ((5, 0), .box (.prod (.own (.own .shr)) (.own .shr)) (.prod (.list (.list I)) (.list (.prod I I))))], []⟩
abbrev spec_l2Induced_J4 : Tpl := ⟨[(2, .cst (.prod (.list (.list I)) (.list (.prod I I)))), (4, .ptr (4, 0)), (5, .ptr (5, 0)), (6, .own .shr I), (9, .val I)], [((4, 0), .box (.prod (.own (.own .shr)) (.own .shr)) (.prod (.list (.list I)) (.list (.prod I I)))), ((5, 0), .box (.prod (.own (.own .shr)) (.own .shr)) (.prod (.list (.list I)) (.list (.prod I I))))], []⟩
abbrev spec_l2Induced_J5 : Tpl := ⟨[(4, .ptr (4, 0)), (5, .ptr (5, 0))], [((4, 0), .box (.prod (.own (.own .shr)) (.own .shr)) (.prod (.list (.list I)) (.list (.prod I I)))), ((5, 0), .box (.prod (.own (.own .shr)) (.own .shr)) (.prod (.list (.list I)) (.list (.prod I I))))], []⟩
abbrev spec_l2Induced_J6 : Tpl := ⟨[(1, .val (.list I)), (2, .cst (.prod (.list (.list I)) (.list (.prod I I)))), (4, .ptr (4, 0)), (17, .val I)], [((4, 0), .box (.prod (.own (.own .shr)) (.own .shr)) (.prod (.list (.list I)) (.list (.prod I I))))], []⟩
abbrev spec_l2Induced_J7 : Tpl := ⟨[(1, .val (.list I)), (2, .cst (.prod (.list (.list I)) (.list (.prod I I)))), (4, .ptr (4, 0)), (12, .own (.own .shr) (.list I)), (17, .val I)], [((4, 0), .box (.prod (.own (.own .shr)) (.own .shr)) (.prod (.list (.list I)) (.list (.prod I I))))], []⟩
abbrev spec_l2Induced_J8 : Tpl := ⟨[(1, .val (.list I)), (2, .cst (.prod (.list (.list I)) (.list (.prod I I)))), (4, .ptr (4, 0)), (12, .own (.own .shr) (.list I)), (13, .own .shr (.prod I I)), (14, .str (.pr (.ref (12, 0) []) (.ref (13, 0) []))), (17, .val I)], [((4, 0), .box (.prod (.own (.own .shr)) (.own .shr)) (.prod (.list (.list I)) (.list (.prod I I))))], []⟩
abbrev spec_l2Induced_J9 : Tpl := ⟨[(1, .val (.list I)), (2, .cst (.prod (.list (.list I)) (.list (.prod I I)))), (4, .ptr (4, 0)), (5, .ptr (5, 0)), (12, .own (.own .shr) (.list I)), (13, .own .shr (.prod I I)), (14, .str (.pr (.ref (12, 0) []) (.ref (13, 0) []))), (17, .val I)], [((4, 0), .box (.prod (.own (.own .shr)) (.own .shr)) (.prod (.list (.list I)) (.list (.prod I I)))), ((5, 0), .box (.prod (.own (.own .shr)) (.own .shr)) (.prod (.list (.list I)) (.list (.prod I I))))], []⟩
abbrev spec_l2Induced_J10 : Tpl := ⟨[(1, .val (.list I)), (2, .cst (.prod (.list (.list I)) (.list (.prod I I)))), (4, .ptr (4, 0)), (12, .own (.own .shr) (.list I)), (18, .own .shr I)], [((4, 0), .box (.prod (.own (.own .shr)) (.own .shr)) (.prod (.list (.list I)) (.list (.prod I I))))], []⟩
abbrev spec_l2Induced_J11 : Tpl := ⟨[(1, .val (.list I)), (2, .cst (.prod (.list (.list I)) (.list (.prod I I)))), (4, .ptr (4, 0)), (5, .ptr (5, 0)), (12, .own (.own .shr) (.list I)), (17, .val I)], [((4, 0), .box (.prod (.own (.own .shr)) (.own .shr)) (.prod (.list (.list I)) (.list (.prod I I)))), ((5, 0), .box (.prod (.own (.own .shr)) (.own .shr)) (.prod (.list (.list I)) (.list (.prod I I))))], []⟩
abbrev spec_l2Induced_J12 : Tpl := ⟨[(1, .val (.list I)), (2, .cst (.prod (.list (.list I)) (.list (.prod I I)))), (4, .ptr (4, 0)), (13, .own .shr (.prod I I)), (17, .val I)], [((4, 0), .box (.prod (.own (.own .shr)) (.own .shr)) (.prod (.list (.list I)) (.list (.prod I I))))], []⟩
abbrev spec_l2Induced_J13 : Tpl := ⟨[(1, .val (.list I)), (2, .cst (.prod (.list (.list I)) (.list (.prod I I)))), (4, .ptr (4, 0)), (13, .own .shr (.prod I I)), (18, .own .shr I)], [((4, 0), .box (.prod (.own (.own .shr)) (.own .shr)) (.prod (.list (.list I)) (.list (.prod I I))))], []⟩
abbrev spec_l2Induced_J14 : Tpl := ⟨[(1, .val (.list I)), (2, .cst (.prod (.list (.list I)) (.list (.prod I I)))), (4, .ptr (4, 0)), (5, .ptr (5, 0)), (13, .own .shr (.prod I I)), (17, .val I)], [((4, 0), .box (.prod (.own (.own .shr)) (.own .shr)) (.prod (.list (.list I)) (.list (.prod I I)))), ((5, 0), .box (.prod (.own (.own .shr)) (.own .shr)) (.prod (.list (.list I)) (.list (.prod I I))))], []⟩
abbrev spec_l2Induced_J15 : Tpl := ⟨[(1, .val (.list I)), (2, .cst (.prod (.list (.list I)) (.list (.prod I I)))), (4, .ptr (4, 0)), (18, .own .shr I)], [((4, 0), .box (.prod (.own (.own .shr)) (.own .shr)) (.prod (.list (.list I)) (.list (.prod I I))))], []⟩
abbrev spec_l2Induced_J16 : Tpl := ⟨[(1, .val (.list I)), (2, .cst (.prod (.list (.list I)) (.list (.prod I I)))), (4, .ptr (4, 0)), (5, .ptr (5, 0)), (18, .own .shr I)], [((4, 0), .box (.prod (.own (.own .shr)) (.own .shr)) (.prod (.list (.list I)) (.list (.prod I I)))), ((5, 0), .box (.prod (.own (.own .shr)) (.own .shr)) (.prod (.list (.list I)) (.list (.prod I I))))], []⟩
abbrev spec_l2Induced_J17 : Tpl := ⟨[(1, .val (.list I)), (2, .cst (.prod (.list (.list I)) (.list (.prod I I)))), (4, .ptr (4, 0)), (5, .ptr (5, 0)), (17, .val I)], [((4, 0), .box (.prod (.own (.own .shr)) (.own .shr)) (.prod (.list (.list I)) (.list (.prod I I)))), ((5, 0), .box (.prod (.own (.own .shr)) (.own .shr)) (.prod (.list (.list I)) (.list (.prod I I))))], []⟩
abbrev spec_l2Induced_J18 : Tpl := ⟨[(1, .val (.list I)), (2, .cst (.prod (.list (.list I)) (.list (.prod I I)))), (4, .ptr (4, 0)), (5, .ptr (5, 0)), (6, .own .shr I), (8, .val I), (41, .adp (5, 0) [.fst]), (50, .val (.list I))], [((4, 0), .box (.prod (.own (.own .shr)) (.own .shr)) (.prod (.list (.list I)) (.list (.prod I I)))), ((5, 0), .box (.prod (.own (.own .shr)) (.own .shr)) (.prod (.list (.list I)) (.list (.prod I I))))], []⟩
abbrev spec_l2Induced_E : Ve.End := ⟨[⟨4, (.prod (.own (.own .shr)) (.own .shr)), (.prod (.list (.list I)) (.list (.prod I I))), some 55⟩], []⟩
abbrev spec_l2Induced_a : List ASh := [.val (.prod (.list (.list I)) (.list (.prod I I))), .val (.list I)]
abbrev spec_l2Induced_o : List OSh := []
noncomputable def spec_l2Induced_D3 : spec_l2Induced_J9.P → Option spec_l2Induced_J1.P
  | ((t1, t2, t12, t13, ((), ()), t17, ()), (t4, t5, ())) => guardB (decide (0 ≤ t17) && decide (t17 ≤ t17) && decide (t17 * 8 ≤ 140737488355328)) (some ((t1, t2, (List.replicate (Int.toNat t17) (0 : Int)), ()), (t4, (t12, t13), ())))
noncomputable def spec_l2Induced_T3 : DT spec_l2Induced_J1 := .node spec_l2Induced_J9 spec_l2Induced_D3 (.br [(6, .sole), (8, .sole), (9, .flo)] .fin (.br [(8, .sole), (6, .sole), (9, .flo)] .fin .nobr))
noncomputable def spec_l2Induced_D2 : spec_l2Induced_J8.P → Option spec_l2Induced_J1.P
  | ((t1, t2, t12, t13, ((), ()), t17, ()), (t4, ())) => guardB (decide (0 ≤ t17) && decide (t17 ≤ t17) && decide (t17 * 8 ≤ 140737488355328)) (some ((t1, t2, (List.replicate (Int.toNat t17) (0 : Int)), ()), (t4, (t12, t13), ())))
noncomputable def spec_l2Induced_T2 : DT spec_l2Induced_J1 := .node spec_l2Induced_J8 spec_l2Induced_D2 (.br [(6, .sole), (7, .sole), (8, .sole), (9, .flo)] .fin (.br [(7, .sole)] spec_l2Induced_T3 .nobr))
noncomputable def spec_l2Induced_D4 : spec_l2Induced_J10.P → Option spec_l2Induced_J1.P
  | ((t1, t2, t12, t18, ()), (t4, ())) => some ((t1, t2, t18, ()), (t4, (t12, ([] : (List (Int × Int)))), ()))
noncomputable def spec_l2Induced_T4 : DT spec_l2Induced_J1 := .node spec_l2Induced_J10 spec_l2Induced_D4 (.br [(1, .sole), (2, .flo), (7, .sole), (8, .sole), (9, .flo)] .fin (.br [(7, .sole), (1, .sole), (2, .flo), (8, .sole), (9, .flo)] .fin .nobr))
noncomputable def spec_l2Induced_D5 : spec_l2Induced_J11.P → Option spec_l2Induced_J1.P
  | ((t1, t2, t12, t17, ()), (t4, t5, ())) => spec_l2Induced_D3 ((t1, t2, t12, ([] : (List (Int × Int))), ((), ()), t17, ()), (t4, t5, ()))
noncomputable def spec_l2Induced_T5 : DT spec_l2Induced_J1 := .node spec_l2Induced_J11 spec_l2Induced_D5 (.br [(1, .sole), (2, .flo)] spec_l2Induced_T3 (.br [(6, .sole), (1, .sole), (2, .flo), (8, .sole), (9, .flo)] .fin .nobr))
noncomputable def spec_l2Induced_D1 : spec_l2Induced_J7.P → Option spec_l2Induced_J1.P
  | ((t1, t2, t12, t17, ()), (t4, ())) => spec_l2Induced_D2 ((t1, t2, t12, ([] : (List (Int × Int))), ((), ()), t17, ()), (t4, ()))
noncomputable def spec_l2Induced_T1 : DT spec_l2Induced_J1 := .node spec_l2Induced_J7 spec_l2Induced_D1 (.br [(1, .sole), (2, .flo)] spec_l2Induced_T2 (.br [(6, .sole)] spec_l2Induced_T4 (.br [(7, .sole)] spec_l2Induced_T5 .nobr)))
noncomputable def spec_l2Induced_D7 : spec_l2Induced_J13.P → Option spec_l2Induced_J1.P
  | ((t1, t2, t13, t18, ()), (t4, ())) => some ((t1, t2, t18, ()), (t4, (([] : (List (List Int))), t13), ()))
noncomputable def spec_l2Induced_T7 : DT spec_l2Induced_J1 := .node spec_l2Induced_J13 spec_l2Induced_D7 (.br [(0, .sole), (2, .flo), (7, .sole), (8, .sole), (9, .flo)] .fin (.br [(7, .sole), (0, .sole), (2, .flo), (8, .sole), (9, .flo)] .fin .nobr))
noncomputable def spec_l2Induced_D8 : spec_l2Induced_J14.P → Option spec_l2Induced_J1.P
  | ((t1, t2, t13, t17, ()), (t4, t5, ())) => spec_l2Induced_D3 ((t1, t2, ([] : (List (List Int))), t13, ((), ()), t17, ()), (t4, t5, ()))
noncomputable def spec_l2Induced_T8 : DT spec_l2Induced_J1 := .node spec_l2Induced_J14 spec_l2Induced_D8 (.br [(0, .sole), (2, .flo)] spec_l2Induced_T3 (.br [(6, .sole), (0, .sole), (2, .flo), (8, .sole), (9, .flo)] .fin .nobr))
noncomputable def spec_l2Induced_D6 : spec_l2Induced_J12.P → Option spec_l2Induced_J1.P
  | ((t1, t2, t13, t17, ()), (t4, ())) => spec_l2Induced_D2 ((t1, t2, ([] : (List (List Int))), t13, ((), ()), t17, ()), (t4, ()))
noncomputable def spec_l2Induced_T6 : DT spec_l2Induced_J1 := .node spec_l2Induced_J12 spec_l2Induced_D6 (.br [(0, .sole), (2, .flo)] spec_l2Induced_T2 (.br [(6, .sole)] spec_l2Induced_T7 (.br [(7, .sole)] spec_l2Induced_T8 .nobr)))
noncomputable def spec_l2Induced_D10 : spec_l2Induced_J16.P → Option spec_l2Induced_J1.P
  | ((t1, t2, t18, ()), (t4, t5, ())) => some ((t1, t2, t18, ()), (t4, (([] : (List (List Int))), ([] : (List (Int × Int)))), ()))
noncomputable def spec_l2Induced_T10 : DT spec_l2Induced_J1 := .node spec_l2Induced_J16 spec_l2Induced_D10 (.br [(0, .sole), (1, .sole), (2, .flo), (8, .sole), (9, .flo)] .fin (.br [(1, .sole), (0, .sole), (2, .flo), (8, .sole), (9, .flo)] .fin .nobr))
noncomputable def spec_l2Induced_D9 : spec_l2Induced_J15.P → Option spec_l2Induced_J1.P
  | ((t1, t2, t18, ()), (t4, ())) => spec_l2Induced_D4 ((t1, t2, ([] : (List (List Int))), t18, ()), (t4, ()))
noncomputable def spec_l2Induced_T9 : DT spec_l2Induced_J1 := .node spec_l2Induced_J15 spec_l2Induced_D9 (.br [(0, .sole)] spec_l2Induced_T4 (.br [(1, .sole)] spec_l2Induced_T7 (.br [(7, .sole)] spec_l2Induced_T10 .nobr)))
noncomputable def spec_l2Induced_D11 : spec_l2Induced_J17.P → Option spec_l2Induced_J1.P
  | ((t1, t2, t17, ()), (t4, t5, ())) => spec_l2Induced_D5 ((t1, t2, ([] : (List (List Int))), t17, ()), (t4, t5, ()))
noncomputable def spec_l2Induced_T11 : DT spec_l2Induced_J1 := .node spec_l2Induced_J17 spec_l2Induced_D11 (.br [(0, .sole)] spec_l2Induced_T5 (.br [(1, .sole)] spec_l2Induced_T8 (.br [(6, .sole)] spec_l2Induced_T10 .nobr)))
noncomputable def spec_l2Induced_D0 : spec_l2Induced_J6.P → Option spec_l2Induced_J1.P
  | ((t1, t2, t17, ()), (t4, ())) => spec_l2Induced_D1 ((t1, t2, ([] : (List (List Int))), t17, ()), (t4, ()))
noncomputable def spec_l2Induced_T0 : DT spec_l2Induced_J1 := .node spec_l2Induced_J6 spec_l2Induced_D0 (.br [(0, .sole)] spec_l2Induced_T1 (.br [(1, .sole)] spec_l2Induced_T6 (.br [(6, .sole)] spec_l2Induced_T9 (.br [(7, .sole)] spec_l2Induced_T11 .nobr))))
noncomputable def spec_l2Induced_D12 : spec_l2Induced_J18.P → Option spec_l2Induced_J2.P
  | ((t1, t2, t6, t8, t50, ()), (t4, t5, ())) => match spec_l1Own (t50, ()) () with | some ((r, ()), ()) => guardB (decide ((List.length t5.1 + List.length [r]) * 24 ≤ 70368744177664)) (some ((t1, t2, t6, t8, ()), (t4, ((t5.1 ++ [r]), t5.2), ()))) | none => none
noncomputable def spec_l2Induced_T12 : DT spec_l2Induced_J2 := .node spec_l2Induced_J18 spec_l2Induced_D12 (.br [(1, .sole), (10, .sole), (11, .sole), (12, .sole), (13, .flo), (14, .sole)] .fin (.br [(10, .sole), (1, .qui), (11, .sole), (12, .sole), (13, .flo), (14, .sole)] .fin .nobr))
abbrev spec_l2Induced_O0 : Out := .one (.ex 0) spec_l2Induced_J1
noncomputable def spec_l2Induced_B0 : spec_l2Induced_J0.P → Option (spec_l2Induced_J0.P ⊕ spec_l2Induced_O0.P)
  | ((t1, t2, t6, t7, ()), (t4, t5, ())) => bif (decide (t7 < (List.length t6 : Int))) then (guardB (inb t7 (List.length t6)) (some (.inl ((t1, t2, (List.set t6 (Int.toNat t7) (-1 : Int)), (w64 (t7 + (1 : Int))), ()), (t4, t5, ()))))) else (some (.inr ((t1, t2, t6, ()), (t4, t5, ()))))
abbrev spec_l2Induced_O1 : Out := .one (.ex 2) spec_l2Induced_J3
noncomputable def spec_l2Induced_B1 : spec_l2Induced_J2.P → Option (spec_l2Induced_J2.P ⊕ spec_l2Induced_O1.P)
  | ((t1, t2, t6, t8, ()), (t4, t5, ())) => bif (decide (t8 < (List.length t1 : Int))) then (guardB (inb t8 (List.length t1)) (guardB (inb (List.getD t1 (Int.toNat t8) (0 : Int)) (List.length t6)) (guardB (inb t8 (List.length t1)) (guardB (inb (List.getD t1 (Int.toNat t8) (0 : Int)) (List.length t2.1)) (match spec_l2Induced_D12 ((t1, t2, (List.set t6 (Int.toNat (List.getD t1 (Int.toNat t8) (0 : Int))) t8), t8, (List.getD t2.1 (Int.toNat (List.getD t1 (Int.toNat t8) (0 : Int))) ([] : (List Int))), ()), (t4, t5, ())) with | some ((t1_2, t2_2, t6_2, t8_2, ()), (t4_2, t5_2, ())) => some (.inl ((t1_2, t2_2, t6_2, (w64 (t8_2 + (1 : Int))), ()), (t4_2, t5_2, ()))) | none => none))))) else (some (.inr ((t2, t6, ()), (t4, t5, ()))))
abbrev spec_l2Induced_O2 : Out := .one (.ex 4) spec_l2Induced_J5
noncomputable def spec_l2Induced_B2 : spec_l2Induced_J4.P → Option (spec_l2Induced_J4.P ⊕ spec_l2Induced_O2.P)
  | ((t2, t6, t9, ()), (t4, t5, ())) => bif (decide (t9 < (List.length t2.2 : Int))) then (guardB (inb t9 (List.length t2.2)) (guardB (inb ((List.getD t2.2 (Int.toNat t9) ((0 : Int), (0 : Int))).1) (List.length t6)) (guardB (inb t9 (List.length t2.2)) (guardB (inb ((List.getD t2.2 (Int.toNat t9) ((0 : Int), (0 : Int))).2) (List.length t6)) (bif (decide ((0 : Int) ≤ (List.getD t6 (Int.toNat ((List.getD t2.2 (Int.toNat t9) ((0 : Int), (0 : Int))).1)) (0 : Int)))) then (bif (decide ((0 : Int) ≤ (List.getD t6 (Int.toNat ((List.getD t2.2 (Int.toNat t9) ((0 : Int), (0 : Int))).2)) (0 : Int)))) then (guardB (decide ((List.length t5.2 + List.length [((List.getD t6 (Int.toNat ((List.getD t2.2 (Int.toNat t9) ((0 : Int), (0 : Int))).1)) (0 : Int)), (List.getD t6 (Int.toNat ((List.getD t2.2 (Int.toNat t9) ((0 : Int), (0 : Int))).2)) (0 : Int)))]) * 16 ≤ 70368744177664)) (some (.inl ((t2, t6, (w64 (t9 + (1 : Int))), ()), (t4, (t5.1, (t5.2 ++ [((List.getD t6 (Int.toNat ((List.getD t2.2 (Int.toNat t9) ((0 : Int), (0 : Int))).1)) (0 : Int)), (List.getD t6 (Int.toNat ((List.getD t2.2 (Int.toNat t9) ((0 : Int), (0 : Int))).2)) (0 : Int)))])), ()))))) else (some (.inl ((t2, t6, (w64 (t9 + (1 : Int))), ()), (t4, t5, ()))))) else (some (.inl ((t2, t6, (w64 (t9 + (1 : Int))), ()), (t4, t5, ()))))))))) else (some (.inr ((), (t4, t5, ()))))
noncomputable def spec_l2Induced : argP spec_l2Induced_a → obP (extObs 0 spec_l2Induced_o) → Option spec_l2Induced_E.P
  | (t0, t1, ()), () => match spec_l2Induced_D0 ((t1, t0, (List.length t0.1 : Int), ()), ((([] : (List (List Int))), ([] : (List (Int × Int)))), ())) with | some ((t1_2, t2, t6, ()), (t4, t5, ())) => (match loopO spec_l2Induced_B0 ((t1_2, t2, t6, (0 : Int), ()), (t4, t5, ())) with | some ((t1_3, t2_2, t6_2, ()), (t4_2, t5_2, ())) => (match loopO spec_l2Induced_B1 ((t1_3, t2_2, t6_2, (0 : Int), ()), (t4_2, t5_2, ())) with | some ((t2_3, t6_3, ()), (t4_3, t5_3, ())) => (match loopO spec_l2Induced_B2 ((t2_3, t6_3, (0 : Int), ()), (t4_3, t5_3, ())) with | some ((), (t4_4, t5_4, ())) => some (((t5_4.1, t5_4.2), ()), ()) | none => none) | none => none) | none => none) | none => none
noncomputable def spec_l2Induced_x : Cx := ⟨tab, spec_l1Own_e, fun _ _ => 0, fun _ => false, [(91, 0)], [(2, 0)]⟩
noncomputable def c90 : Code := bodyOf Try.f90
noncomputable def spec_l2Induced_A : Ann := .seq .nil (.seq (.draws [(3, .flo), (4, .flo), (5, .flo)] spec_l2Induced_J1 spec_l2Induced_T0) (.seq (.seq .nil (.loop spec_l2Induced_J0 spec_l2Induced_O0 spec_l2Induced_B0 .nil)) (.seq (.seq .nil (.loop spec_l2Induced_J2 spec_l2Induced_O1 spec_l2Induced_B1 (.seq .nil (.seq (.seq .nil (.draws [(0, .flo), (2, .flo), (3, .flo), (4, .flo), (5, .flo), (6, .flo), (7, .flo), (8, .flo), (9, .flo)] spec_l2Induced_J2 spec_l2Induced_T12)) .nil)))) (.seq (.seq .nil (.loop spec_l2Induced_J4 spec_l2Induced_O2 spec_l2Induced_B2 (.seq .nil (.seq (.seq (.draw [(0, .flo), (1, .flo), (2, .flo), (3, .flo), (4, .flo), (5, .flo), (6, .flo), (7, .flo), (9, .flo), (10, .flo), (11, .flo), (12, .flo), (13, .flo), (14, .flo), (15, .flo), (16, .flo), (8, .qui), (18, .flo), (17, .qui), (19, .flo)]) .nil) .nil)))) .nil))))
theorem spec_l2Induced_D0b0 (p : spec_l2Induced_J6.P) : runDrawn spec_l2Induced_x (opsOf (subc [1, 0] c90)) [(0, .sole)] (spec_l2Induced_J6.S p) (endT spec_l2Induced_x spec_l2Induced_T1) = spec_l2Induced_D0 p := by kernel_rfl
theorem spec_l2Induced_D1b0 (p : spec_l2Induced_J7.P) : runDrawn spec_l2Induced_x (opsOf (subc [1, 0] c90)) [(1, .sole), (2, .flo)] (spec_l2Induced_J7.S p) (endT spec_l2Induced_x spec_l2Induced_T2) = spec_l2Induced_D1 p := by kernel_rfl
theorem spec_l2Induced_D2b0 (p : spec_l2Induced_J8.P) : runDrawn spec_l2Induced_x (opsOf (subc [1, 0] c90)) [(6, .sole), (7, .sole), (8, .sole), (9, .flo)] (spec_l2Induced_J8.S p) (endT spec_l2Induced_x (.fin : DT spec_l2Induced_J1)) = spec_l2Induced_D2 p := by kernel_rfl
theorem spec_l2Induced_D2b1 (p : spec_l2Induced_J8.P) : runDrawn spec_l2Induced_x (opsOf (subc [1, 0] c90)) [(7, .sole)] (spec_l2Induced_J8.S p) (endT spec_l2Induced_x spec_l2Induced_T3) = spec_l2Induced_D2 p := by kernel_rfl
theorem spec_l2Induced_D3b0 (p : spec_l2Induced_J9.P) : runDrawn spec_l2Induced_x (opsOf (subc [1, 0] c90)) [(6, .sole), (8, .sole), (9, .flo)] (spec_l2Induced_J9.S p) (endT spec_l2Induced_x (.fin : DT spec_l2Induced_J1)) = spec_l2Induced_D3 p := by kernel_rfl
theorem spec_l2Induced_D3b1 (p : spec_l2Induced_J9.P) : runDrawn spec_l2Induced_x (opsOf (subc [1, 0] c90)) [(8, .sole), (6, .sole), (9, .flo)] (spec_l2Induced_J9.S p) (endT spec_l2Induced_x (.fin : DT spec_l2Induced_J1)) = spec_l2Induced_D3 p := by kernel_rfl
theorem spec_l2Induced_D1b1 (p : spec_l2Induced_J7.P) : runDrawn spec_l2Induced_x (opsOf (subc [1, 0] c90)) [(6, .sole)] (spec_l2Induced_J7.S p) (endT spec_l2Induced_x spec_l2Induced_T4) = spec_l2Induced_D1 p := by kernel_rfl
theorem spec_l2Induced_D4b0 (p : spec_l2Induced_J10.P) : runDrawn spec_l2Induced_x (opsOf (subc [1, 0] c90)) [(1, .sole), (2, .flo), (7, .sole), (8, .sole), (9, .flo)] (spec_l2Induced_J10.S p) (endT spec_l2Induced_x (.fin : DT spec_l2Induced_J1)) = spec_l2Induced_D4 p := by kernel_rfl
theorem spec_l2Induced_D4b1 (p : spec_l2Induced_J10.P) : runDrawn spec_l2Induced_x (opsOf (subc [1, 0] c90)) [(7, .sole), (1, .sole), (2, .flo), (8, .sole), (9, .flo)] (spec_l2Induced_J10.S p) (endT spec_l2Induced_x (.fin : DT spec_l2Induced_J1)) = spec_l2Induced_D4 p := by kernel_rfl
theorem spec_l2Induced_D1b2 (p : spec_l2Induced_J7.P) : runDrawn spec_l2Induced_x (opsOf (subc [1, 0] c90)) [(7, .sole)] (spec_l2Induced_J7.S p) (endT spec_l2Induced_x spec_l2Induced_T5) = spec_l2Induced_D1 p := by kernel_rfl
theorem spec_l2Induced_D5b0 (p : spec_l2Induced_J11.P) : runDrawn spec_l2Induced_x (opsOf (subc [1, 0] c90)) [(1, .sole), (2, .flo)] (spec_l2Induced_J11.S p) (endT spec_l2Induced_x spec_l2Induced_T3) = spec_l2Induced_D5 p := by kernel_rfl
theorem spec_l2Induced_D5b1 (p : spec_l2Induced_J11.P) : runDrawn spec_l2Induced_x (opsOf (subc [1, 0] c90)) [(6, .sole), (1, .sole), (2, .flo), (8, .sole), (9, .flo)] (spec_l2Induced_J11.S p) (endT spec_l2Induced_x (.fin : DT spec_l2Induced_J1)) = spec_l2Induced_D5 p := by kernel_rfl
theorem spec_l2Induced_D0b1 (p : spec_l2Induced_J6.P) : runDrawn spec_l2Induced_x (opsOf (subc [1, 0] c90)) [(1, .sole)] (spec_l2Induced_J6.S p) (endT spec_l2Induced_x spec_l2Induced_T6) = spec_l2Induced_D0 p := by kernel_rfl
theorem spec_l2Induced_D6b0 (p : spec_l2Induced_J12.P) : runDrawn spec_l2Induced_x (opsOf (subc [1, 0] c90)) [(0, .sole), (2, .flo)] (spec_l2Induced_J12.S p) (endT spec_l2Induced_x spec_l2Induced_T2) = spec_l2Induced_D6 p := by kernel_rfl
theorem spec_l2Induced_D6b1 (p : spec_l2Induced_J12.P) : runDrawn spec_l2Induced_x (opsOf (subc [1, 0] c90)) [(6, .sole)] (spec_l2Induced_J12.S p) (endT spec_l2Induced_x spec_l2Induced_T7) = spec_l2Induced_D6 p := by kernel_rfl
theorem spec_l2Induced_D7b0 (p : spec_l2Induced_J13.P) : runDrawn spec_l2Induced_x (opsOf (subc [1, 0] c90)) [(0, .sole), (2, .flo), (7, .sole), (8, .sole), (9, .flo)] (spec_l2Induced_J13.S p) (endT spec_l2Induced_x (.fin : DT spec_l2Induced_J1)) = spec_l2Induced_D7 p := by kernel_rfl
theorem spec_l2Induced_D7b1 (p : spec_l2Induced_J13.P) : runDrawn spec_l2Induced_x (opsOf (subc [1, 0] c90)) [(7, .sole), (0, .sole), (2, .flo), (8, .sole), (9, .flo)] (spec_l2Induced_J13.S p) (endT spec_l2Induced_x (.fin : DT spec_l2Induced_J1)) = spec_l2Induced_D7 p := by kernel_rfl
theorem spec_l2Induced_D6b2 (p : spec_l2Induced_J12.P) : runDrawn spec_l2Induced_x (opsOf (subc [1, 0] c90)) [(7, .sole)] (spec_l2Induced_J12.S p) (endT spec_l2Induced_x spec_l2Induced_T8) = spec_l2Induced_D6 p := by kernel_rfl
theorem spec_l2Induced_D8b0 (p : spec_l2Induced_J14.P) : runDrawn spec_l2Induced_x (opsOf (subc [1, 0] c90)) [(0, .sole), (2, .flo)] (spec_l2Induced_J14.S p) (endT spec_l2Induced_x spec_l2Induced_T3) = spec_l2Induced_D8 p := by kernel_rfl
theorem spec_l2Induced_D8b1 (p : spec_l2Induced_J14.P) : runDrawn spec_l2Induced_x (opsOf (subc [1, 0] c90)) [(6, .sole), (0, .sole), (2, .flo), (8, .sole), (9, .flo)] (spec_l2Induced_J14.S p) (endT spec_l2Induced_x (.fin : DT spec_l2Induced_J1)) = spec_l2Induced_D8 p := by kernel_rfl
theorem spec_l2Induced_D0b2 (p : spec_l2Induced_J6.P) : runDrawn spec_l2Induced_x (opsOf (subc [1, 0] c90)) [(6, .sole)] (spec_l2Induced_J6.S p) (endT spec_l2Induced_x spec_l2Induced_T9) = spec_l2Induced_D0 p := by kernel_rfl
theorem spec_l2Induced_D9b0 (p : spec_l2Induced_J15.P) : runDrawn spec_l2Induced_x (opsOf (subc [1, 0] c90)) [(0, .sole)] (spec_l2Induced_J15.S p) (endT spec_l2Induced_x spec_l2Induced_T4) = spec_l2Induced_D9 p := by kernel_rfl
theorem spec_l2Induced_D9b1 (p : spec_l2Induced_J15.P) : runDrawn spec_l2Induced_x (opsOf (subc [1, 0] c90)) [(1, .sole)] (spec_l2Induced_J15.S p) (endT spec_l2Induced_x spec_l2Induced_T7) = spec_l2Induced_D9 p := by kernel_rfl
theorem spec_l2Induced_D9b2 (p : spec_l2Induced_J15.P) : runDrawn spec_l2Induced_x (opsOf (subc [1, 0] c90)) [(7, .sole)] (spec_l2Induced_J15.S p) (endT spec_l2Induced_x spec_l2Induced_T10) = spec_l2Induced_D9 p := by kernel_rfl
theorem spec_l2Induced_D10b0 (p : spec_l2Induced_J16.P) : runDrawn spec_l2Induced_x (opsOf (subc [1, 0] c90)) [(0, .sole), (1, .sole), (2, .flo), (8, .sole), (9, .flo)] (spec_l2Induced_J16.S p) (endT spec_l2Induced_x (.fin : DT spec_l2Induced_J1)) = spec_l2Induced_D10 p := by kernel_rfl
theorem spec_l2Induced_D10b1 (p : spec_l2Induced_J16.P) : runDrawn spec_l2Induced_x (opsOf (subc [1, 0] c90)) [(1, .sole), (0, .sole), (2, .flo), (8, .sole), (9, .flo)] (spec_l2Induced_J16.S p) (endT spec_l2Induced_x (.fin : DT spec_l2Induced_J1)) = spec_l2Induced_D10 p := by kernel_rfl
theorem spec_l2Induced_D0b3 (p : spec_l2Induced_J6.P) : runDrawn spec_l2Induced_x (opsOf (subc [1, 0] c90)) [(7, .sole)] (spec_l2Induced_J6.S p) (endT spec_l2Induced_x spec_l2Induced_T11) = spec_l2Induced_D0 p := by kernel_rfl
theorem spec_l2Induced_D11b0 (p : spec_l2Induced_J17.P) : runDrawn spec_l2Induced_x (opsOf (subc [1, 0] c90)) [(0, .sole)] (spec_l2Induced_J17.S p) (endT spec_l2Induced_x spec_l2Induced_T5) = spec_l2Induced_D11 p := by kernel_rfl
theorem spec_l2Induced_D11b1 (p : spec_l2Induced_J17.P) : runDrawn spec_l2Induced_x (opsOf (subc [1, 0] c90)) [(1, .sole)] (spec_l2Induced_J17.S p) (endT spec_l2Induced_x spec_l2Induced_T8) = spec_l2Induced_D11 p := by kernel_rfl
theorem spec_l2Induced_D11b2 (p : spec_l2Induced_J17.P) : runDrawn spec_l2Induced_x (opsOf (subc [1, 0] c90)) [(6, .sole)] (spec_l2Induced_J17.S p) (endT spec_l2Induced_x spec_l2Induced_T10) = spec_l2Induced_D11 p := by kernel_rfl
theorem spec_l2Induced_r1 (p : spec_l2Induced_J0.P) : run spec_l2Induced_x (subc [1, 1, 0, 1, 0, 0] c90) .nil (spec_l2Induced_J0.S p) (leaf spec_l2Induced_J0 spec_l2Induced_O0) = spec_l2Induced_B0 p := by kernel_rfl
theorem spec_l2Induced_r2 (p : spec_l2Induced_J2.P) : run spec_l2Induced_x (subc [1, 1, 1, 0, 1, 0, 0] c90) (.seq .nil (.seq (.seq .nil (.draws [(0, .flo), (2, .flo), (3, .flo), (4, .flo), (5, .flo), (6, .flo), (7, .flo), (8, .flo), (9, .flo)] spec_l2Induced_J2 spec_l2Induced_T12)) .nil)) (spec_l2Induced_J2.S p) (leaf spec_l2Induced_J2 spec_l2Induced_O1) = spec_l2Induced_B1 p := by kernel_rfl
theorem spec_l2Induced_D12b0 (p : spec_l2Induced_J18.P) : runDrawn spec_l2Induced_x (opsOf (subc [1, 1, 1, 0, 1, 0, 0, 1, 0, 0, 1] c90)) [(1, .sole), (10, .sole), (11, .sole), (12, .sole), (13, .flo), (14, .sole)] (spec_l2Induced_J18.S p) (endT spec_l2Induced_x (.fin : DT spec_l2Induced_J2)) = spec_l2Induced_D12 p := by kernel_rfl
theorem spec_l2Induced_D12b1 (p : spec_l2Induced_J18.P) : runDrawn spec_l2Induced_x (opsOf (subc [1, 1, 1, 0, 1, 0, 0, 1, 0, 0, 1] c90)) [(10, .sole), (1, .qui), (11, .sole), (12, .sole), (13, .flo), (14, .sole)] (spec_l2Induced_J18.S p) (endT spec_l2Induced_x (.fin : DT spec_l2Induced_J2)) = spec_l2Induced_D12 p := by kernel_rfl
theorem spec_l2Induced_r4 (p : spec_l2Induced_J4.P) : run spec_l2Induced_x (subc [1, 1, 1, 1, 0, 1, 0, 0] c90) (.seq .nil (.seq (.seq (.draw [(0, .flo), (1, .flo), (2, .flo), (3, .flo), (4, .flo), (5, .flo), (6, .flo), (7, .flo), (9, .flo), (10, .flo), (11, .flo), (12, .flo), (13, .flo), (14, .flo), (15, .flo), (16, .flo), (8, .qui), (18, .flo), (17, .qui), (19, .flo)]) .nil) .nil)) (spec_l2Induced_J4.S p) (leaf spec_l2Induced_J4 spec_l2Induced_O2) = spec_l2Induced_B2 p := by kernel_rfl
noncomputable def spec_l2Induced_D : Ve.Fn := ⟨90, spec_l2Induced_a, spec_l2Induced_o, spec_l2Induced_E, spec_l2Induced⟩
theorem spec_l2Induced_w : Walk Try.prog spec_l2Induced_x spec_l2Induced_D Try.f90 c90 95 spec_l2Induced_A :=
  ⟨⟨Try.func90, by kernel_rfl, by kernel_rfl, by kernel_rfl, by decide, by kernel_rfl, Nat.le_of_ble_eq_true (by kernel_rfl)⟩, by kernel_rfl, by kernel_rfl, by kernel_rfl, kcast (by kernel_rfl) (⟨spec_l2Induced_D0b0, spec_l2Induced_D1b0, spec_l2Induced_D2b0, spec_l2Induced_D2b1, spec_l2Induced_D3b0, spec_l2Induced_D3b1, spec_l2Induced_D1b1, spec_l2Induced_D4b0, spec_l2Induced_D4b1, spec_l2Induced_D1b2, spec_l2Induced_D5b0, spec_l2Induced_D3b0, spec_l2Induced_D3b1, spec_l2Induced_D5b1, spec_l2Induced_D0b1, spec_l2Induced_D6b0, spec_l2Induced_D2b0, spec_l2Induced_D2b1, spec_l2Induced_D3b0, spec_l2Induced_D3b1, spec_l2Induced_D6b1, spec_l2Induced_D7b0, spec_l2Induced_D7b1, spec_l2Induced_D6b2, spec_l2Induced_D8b0, spec_l2Induced_D3b0, spec_l2Induced_D3b1, spec_l2Induced_D8b1, spec_l2Induced_D0b2, spec_l2Induced_D9b0, spec_l2Induced_D4b0, spec_l2Induced_D4b1, spec_l2Induced_D9b1, spec_l2Induced_D7b0, spec_l2Induced_D7b1, spec_l2Induced_D9b2, spec_l2Induced_D10b0, spec_l2Induced_D10b1, spec_l2Induced_D0b3, spec_l2Induced_D11b0, spec_l2Induced_D5b0, spec_l2Induced_D3b0, spec_l2Induced_D3b1, spec_l2Induced_D5b1, spec_l2Induced_D11b1, spec_l2Induced_D8b0, spec_l2Induced_D3b0, spec_l2Induced_D3b1, spec_l2Induced_D8b1, spec_l2Induced_D11b2, spec_l2Induced_D10b0, spec_l2Induced_D10b1, spec_l2Induced_r1, spec_l2Induced_r2, spec_l2Induced_D12b0, spec_l2Induced_D12b1, spec_l2Induced_r4, trivial⟩ : (∀ p, runDrawn spec_l2Induced_x (opsOf (subc [1, 0] c90)) [(0, .sole)] (spec_l2Induced_J6.S p) (endT spec_l2Induced_x spec_l2Induced_T1) = spec_l2Induced_D0 p) ∧ (∀ p, runDrawn spec_l2Induced_x (opsOf (subc [1, 0] c90)) [(1, .sole), (2, .flo)] (spec_l2Induced_J7.S p) (endT spec_l2Induced_x spec_l2Induced_T2) = spec_l2Induced_D1 p) ∧ (∀ p, runDrawn spec_l2Induced_x (opsOf (subc [1, 0] c90)) [(6, .sole), (7, .sole), (8, .sole), (9, .flo)] (spec_l2Induced_J8.S p) (endT spec_l2Induced_x (.fin : DT spec_l2Induced_J1)) = spec_l2Induced_D2 p) ∧ (∀ p, runDrawn spec_l2Induced_x (opsOf (subc [1, 0] c90)) [(7, .sole)] (spec_l2Induced_J8.S p) (endT spec_l2Induced_x spec_l2Induced_T3) = spec_l2Induced_D2 p) ∧ (∀ p, runDrawn spec_l2Induced_x (opsOf (subc [1, 0] c90)) [(6, .sole), (8, .sole), (9, .flo)] (spec_l2Induced_J9.S p) (endT spec_l2Induced_x (.fin : DT spec_l2Induced_J1)) = spec_l2Induced_D3 p) ∧ (∀ p, runDrawn spec_l2Induced_x (opsOf (subc [1, 0] c90)) [(8, .sole), (6, .sole), (9, .flo)] (spec_l2Induced_J9.S p) (endT spec_l2Induced_x (.fin : DT spec_l2Induced_J1)) = spec_l2Induced_D3 p) ∧ (∀ p, runDrawn spec_l2Induced_x (opsOf (subc [1, 0] c90)) [(6, .sole)] (spec_l2Induced_J7.S p) (endT spec_l2Induced_x spec_l2Induced_T4) = spec_l2Induced_D1 p) ∧ (∀ p, runDrawn spec_l2Induced_x (opsOf (subc [1, 0] c90)) [(1, .sole), (2, .flo), (7, .sole), (8, .sole), (9, .flo)] (spec_l2Induced_J10.S p) (endT spec_l2Induced_x (.fin : DT spec_l2Induced_J1)) = spec_l2Induced_D4 p) ∧ (∀ p, runDrawn spec_l2Induced_x (opsOf (subc [1, 0] c90)) [(7, .sole), (1, .sole), (2, .flo), (8, .sole), (9, .flo)] (spec_l2Induced_J10.S p) (endT spec_l2Induced_x (.fin : DT spec_l2Induced_J1)) = spec_l2Induced_D4 p) ∧ (∀ p, runDrawn spec_l2Induced_x (opsOf (subc [1, 0] c90)) [(7, .sole)] (spec_l2Induced_J7.S p) (endT spec_l2Induced_x spec_l2Induced_T5) = spec_l2Induced_D1 p) ∧ (∀ p, runDrawn spec_l2Induced_x (opsOf (subc [1, 0] c90)) [(1, .sole), (2, .flo)] (spec_l2Induced_J11.S p) (endT spec_l2Induced_x spec_l2Induced_T3) = spec_l2Induced_D5 p) ∧ (∀ p, runDrawn spec_l2Induced_x (opsOf (subc [1, 0] c90)) [(6, .sole), (8, .sole), (9, .flo)] (spec_l2Induced_J9.S p) (endT spec_l2Induced_x (.fin : DT spec_l2Induced_J1)) = spec_l2Induced_D3 p) ∧ (∀ p, runDrawn spec_l2Induced_x (opsOf (subc [1, 0] c90)) [(8, .sole), (6, .sole), (9, .flo)] (spec_l2Induced_J9.S p) (endT spec_l2Induced_x (.fin : DT spec_l2Induced_J1)) = spec_l2Induced_D3 p) ∧ (∀ p, runDrawn spec_l2Induced_x (opsOf (subc [1, 0] c90)) [(6, .sole), (1, .sole), (2, .flo), (8, .sole), (9, .flo)] (spec_l2Induced_J11.S p) (endT spec_l2Induced_x (.fin : DT spec_l2Induced_J1)) = spec_l2Induced_D5 p) ∧ (∀ p, runDrawn spec_l2Induced_x (opsOf (subc [1, 0] c90)) [(1, .sole)] (spec_l2Induced_J6.S p) (endT spec_l2Induced_x spec_l2Induced_T6) = spec_l2Induced_D0 p) ∧ (∀ p, runDrawn spec_l2Induced_x (opsOf (subc [1, 0] c90)) [(0, .sole), (2, .flo)] (spec_l2Induced_J12.S p) (endT spec_l2Induced_x spec_l2Induced_T2) = spec_l2Induced_D6 p) ∧ (∀ p, runDrawn spec_l2Induced_x (opsOf (subc [1, 0] c90)) [(6, .sole), (7, .sole), (8, .sole), (9, .flo)] (spec_l2Induced_J8.S p) (endT spec_l2Induced_x (.fin : DT spec_l2Induced_J1)) = spec_l2Induced_D2 p) ∧ (∀ p, runDrawn spec_l2Induced_x (opsOf (subc [1, 0] c90)) [(7, .sole)] (spec_l2Induced_J8.S p) (endT spec_l2Induced_x spec_l2Induced_T3) = spec_l2Induced_D2 p) ∧ (∀ p, runDrawn spec_l2Induced_x (opsOf (subc [1, 0] c90)) [(6, .sole), (8, .sole), (9, .flo)] (spec_l2Induced_J9.S p) (endT spec_l2Induced_x (.fin : DT spec_l2Induced_J1)) = spec_l2Induced_D3 p) ∧ (∀ p, runDrawn spec_l2Induced_x (opsOf (subc [1, 0] c90)) [(8, .sole), (6, .sole), (9, .flo)] (spec_l2Induced_J9.S p) (endT spec_l2Induced_x (.fin : DT spec_l2Induced_J1)) = spec_l2Induced_D3 p) ∧ (∀ p, runDrawn spec_l2Induced_x (opsOf (subc [1, 0] c90)) [(6, .sole)] (spec_l2Induced_J12.S p) (endT spec_l2Induced_x spec_l2Induced_T7) = spec_l2Induced_D6 p) ∧ (∀ p, runDrawn spec_l2Induced_x (opsOf (subc [1, 0] c90)) [(0, .sole), (2, .flo), (7, .sole), (8, .sole), (9, .flo)] (spec_l2Induced_J13.S p) (endT spec_l2Induced_x (.fin : DT spec_l2Induced_J1)) = spec_l2Induced_D7 p) ∧ (∀ p, runDrawn spec_l2Induced_x (opsOf (subc [1, 0] c90)) [(7, .sole), (0, .sole), (2, .flo), (8, .sole), (9, .flo)] (spec_l2Induced_J13.S p) (endT spec_l2Induced_x (.fin : DT spec_l2Induced_J1)) = spec_l2Induced_D7 p) ∧ (∀ p, runDrawn spec_l2Induced_x (opsOf (subc [1, 0] c90)) [(7, .sole)] (spec_l2Induced_J12.S p) (endT spec_l2Induced_x spec_l2Induced_T8) = spec_l2Induced_D6 p) ∧ (∀ p, runDrawn spec_l2Induced_x (opsOf (subc [1, 0] c90)) [(0, .sole), (2, .flo)] (spec_l2Induced_J14.S p) (endT spec_l2Induced_x spec_l2Induced_T3) = spec_l2Induced_D8 p) ∧ (∀ p, runDrawn spec_l2Induced_x (opsOf (subc [1, 0] c90)) [(6, .sole), (8, .sole), (9, .flo)] (spec_l2Induced_J9.S p) (endT spec_l2Induced_x (.fin : DT spec_l2Induced_J1)) = spec_l2Induced_D3 p) ∧ (∀ p, runDrawn spec_l2Induced_x (opsOf (subc [1, 0] c90)) [(8, .sole), (6, .sole), (9, .flo)] (spec_l2Induced_J9.S p) (endT spec_l2Induced_x (.fin : DT spec_l2Induced_J1)) = spec_l2Induced_D3 p) ∧ (∀ p, runDrawn spec_l2Induced_x (opsOf (subc [1, 0] c90)) [(6, .sole), (0, .sole), (2, .flo), (8, .sole), (9, .flo)] (spec_l2Induced_J14.S p) (endT spec_l2Induced_x (.fin : DT spec_l2Induced_J1)) = spec_l2Induced_D8 p) ∧ (∀ p, runDrawn spec_l2Induced_x (opsOf (subc [1, 0] c90)) [(6, .sole)] (spec_l2Induced_J6.S p) (endT spec_l2Induced_x spec_l2Induced_T9) = spec_l2Induced_D0 p) ∧ (∀ p, runDrawn spec_l2Induced_x (opsOf (subc [1, 0] c90)) [(0, .sole)] (spec_l2Induced_J15.S p) (endT spec_l2Induced_x spec_l2Induced_T4) = spec_l2Induced_D9 p) ∧ (∀ p, runDrawn spec_l2Induced_x (opsOf (subc [1, 0] c90)) [(1, .sole), (2, .flo), (7, .sole), (8, .sole), (9, .flo)] (spec_l2Induced_J10.S p) (endT spec_l2Induced_x (.fin : DT spec_l2Induced_J1)) = spec_l2Induced_D4 p) ∧ (∀ p, runDrawn spec_l2Induced_x (opsOf (subc [1, 0] c90)) [(7, .sole), (1, .sole), (2, .flo), (8, .sole), (9, .flo)] (spec_l2Induced_J10.S p) (endT spec_l2Induced_x (.fin : DT spec_l2Induced_J1)) = spec_l2Induced_D4 p) ∧ (∀ p, runDrawn spec_l2Induced_x (opsOf (subc [1, 0] c90)) [(1, .sole)] (spec_l2Induced_J15.S p) (endT spec_l2Induced_x spec_l2Induced_T7) = spec_l2Induced_D9 p) ∧ (∀ p, runDrawn spec_l2Induced_x (opsOf (subc [1, 0] c90)) [(0, .sole), (2, .flo), (7, .sole), (8, .sole), (9, .flo)] (spec_l2Induced_J13.S p) (endT spec_l2Induced_x (.fin : DT spec_l2Induced_J1)) = spec_l2Induced_D7 p) ∧ (∀ p, runDrawn spec_l2Induced_x (opsOf (subc [1, 0] c90)) [(7, .sole), (0, .sole), (2, .flo), (8, .sole), (9, .flo)] (spec_l2Induced_J13.S p) (endT spec_l2Induced_x (.fin : DT spec_l2Induced_J1)) = spec_l2Induced_D7 p) ∧ (∀ p, runDrawn spec_l2Induced_x (opsOf (subc [1, 0] c90)) [(7, .sole)] (spec_l2Induced_J15.S p) (endT spec_l2Induced_x spec_l2Induced_T10) = spec_l2Induced_D9 p) ∧ (∀ p, runDrawn spec_l2Induced_x (opsOf (subc [1, 0] c90)) [(0, .sole), (1, .sole), (2, .flo), (8, .sole), (9, .flo)] (spec_l2Induced_J16.S p) (endT spec_l2Induced_x (.fin : DT spec_l2Induced_J1)) = spec_l2Induced_D10 p) ∧ (∀ p, runDrawn spec_l2Induced_x (opsOf (subc [1, 0] c90)) [(1, .sole), (0, .sole), (2, .flo), (8, .sole), (9, .flo)] (spec_l2Induced_J16.S p) (endT spec_l2Induced_x (.fin : DT spec_l2Induced_J1)) = spec_l2Induced_D10 p) ∧ (∀ p, runDrawn spec_l2Induced_x (opsOf (subc [1, 0] c90)) [(7, .sole)] (spec_l2Induced_J6.S p) (endT spec_l2Induced_x spec_l2Induced_T11) = spec_l2Induced_D0 p) ∧ (∀ p, runDrawn spec_l2Induced_x (opsOf (subc [1, 0] c90)) [(0, .sole)] (spec_l2Induced_J17.S p) (endT spec_l2Induced_x spec_l2Induced_T5) = spec_l2Induced_D11 p) ∧ (∀ p, runDrawn spec_l2Induced_x (opsOf (subc [1, 0] c90)) [(1, .sole), (2, .flo)] (spec_l2Induced_J11.S p) (endT spec_l2Induced_x spec_l2Induced_T3) = spec_l2Induced_D5 p) ∧ (∀ p, runDrawn spec_l2Induced_x (opsOf (subc [1, 0] c90)) [(6, .sole), (8, .sole), (9, .flo)] (spec_l2Induced_J9.S p) (endT spec_l2Induced_x (.fin : DT spec_l2Induced_J1)) = spec_l2Induced_D3 p) ∧ (∀ p, runDrawn spec_l2Induced_x (opsOf (subc [1, 0] c90)) [(8, .sole), (6, .sole), (9, .flo)] (spec_l2Induced_J9.S p) (endT spec_l2Induced_x (.fin : DT spec_l2Induced_J1)) = spec_l2Induced_D3 p) ∧ (∀ p, runDrawn spec_l2Induced_x (opsOf (subc [1, 0] c90)) [(6, .sole), (1, .sole), (2, .flo), (8, .sole), (9, .flo)] (spec_l2Induced_J11.S p) (endT spec_l2Induced_x (.fin : DT spec_l2Induced_J1)) = spec_l2Induced_D5 p) ∧ (∀ p, runDrawn spec_l2Induced_x (opsOf (subc [1, 0] c90)) [(1, .sole)] (spec_l2Induced_J17.S p) (endT spec_l2Induced_x spec_l2Induced_T8) = spec_l2Induced_D11 p) ∧ (∀ p, runDrawn spec_l2Induced_x (opsOf (subc [1, 0] c90)) [(0, .sole), (2, .flo)] (spec_l2Induced_J14.S p) (endT spec_l2Induced_x spec_l2Induced_T3) = spec_l2Induced_D8 p) ∧ (∀ p, runDrawn spec_l2Induced_x (opsOf (subc [1, 0] c90)) [(6, .sole), (8, .sole), (9, .flo)] (spec_l2Induced_J9.S p) (endT spec_l2Induced_x (.fin : DT spec_l2Induced_J1)) = spec_l2Induced_D3 p) ∧ (∀ p, runDrawn spec_l2Induced_x (opsOf (subc [1, 0] c90)) [(8, .sole), (6, .sole), (9, .flo)] (spec_l2Induced_J9.S p) (endT spec_l2Induced_x (.fin : DT spec_l2Induced_J1)) = spec_l2Induced_D3 p) ∧ (∀ p, runDrawn spec_l2Induced_x (opsOf (subc [1, 0] c90)) [(6, .sole), (0, .sole), (2, .flo), (8, .sole), (9, .flo)] (spec_l2Induced_J14.S p) (endT spec_l2Induced_x (.fin : DT spec_l2Induced_J1)) = spec_l2Induced_D8 p) ∧ (∀ p, runDrawn spec_l2Induced_x (opsOf (subc [1, 0] c90)) [(6, .sole)] (spec_l2Induced_J17.S p) (endT spec_l2Induced_x spec_l2Induced_T10) = spec_l2Induced_D11 p) ∧ (∀ p, runDrawn spec_l2Induced_x (opsOf (subc [1, 0] c90)) [(0, .sole), (1, .sole), (2, .flo), (8, .sole), (9, .flo)] (spec_l2Induced_J16.S p) (endT spec_l2Induced_x (.fin : DT spec_l2Induced_J1)) = spec_l2Induced_D10 p) ∧ (∀ p, runDrawn spec_l2Induced_x (opsOf (subc [1, 0] c90)) [(1, .sole), (0, .sole), (2, .flo), (8, .sole), (9, .flo)] (spec_l2Induced_J16.S p) (endT spec_l2Induced_x (.fin : DT spec_l2Induced_J1)) = spec_l2Induced_D10 p) ∧ (∀ p, run spec_l2Induced_x (subc [1, 1, 0, 1, 0, 0] c90) .nil (spec_l2Induced_J0.S p) (leaf spec_l2Induced_J0 spec_l2Induced_O0) = spec_l2Induced_B0 p) ∧ (∀ p, run spec_l2Induced_x (subc [1, 1, 1, 0, 1, 0, 0] c90) (.seq .nil (.seq (.seq .nil (.draws [(0, .flo), (2, .flo), (3, .flo), (4, .flo), (5, .flo), (6, .flo), (7, .flo), (8, .flo), (9, .flo)] spec_l2Induced_J2 spec_l2Induced_T12)) .nil)) (spec_l2Induced_J2.S p) (leaf spec_l2Induced_J2 spec_l2Induced_O1) = spec_l2Induced_B1 p) ∧ (∀ p, runDrawn spec_l2Induced_x (opsOf (subc [1, 1, 1, 0, 1, 0, 0, 1, 0, 0, 1] c90)) [(1, .sole), (10, .sole), (11, .sole), (12, .sole), (13, .flo), (14, .sole)] (spec_l2Induced_J18.S p) (endT spec_l2Induced_x (.fin : DT spec_l2Induced_J2)) = spec_l2Induced_D12 p) ∧ (∀ p, runDrawn spec_l2Induced_x (opsOf (subc [1, 1, 1, 0, 1, 0, 0, 1, 0, 0, 1] c90)) [(10, .sole), (1, .qui), (11, .sole), (12, .sole), (13, .flo), (14, .sole)] (spec_l2Induced_J18.S p) (endT spec_l2Induced_x (.fin : DT spec_l2Induced_J2)) = spec_l2Induced_D12 p) ∧ (∀ p, run spec_l2Induced_x (subc [1, 1, 1, 1, 0, 1, 0, 0] c90) (.seq .nil (.seq (.seq (.draw [(0, .flo), (1, .flo), (2, .flo), (3, .flo), (4, .flo), (5, .flo), (6, .flo), (7, .flo), (9, .flo), (10, .flo), (11, .flo), (12, .flo), (13, .flo), (14, .flo), (15, .flo), (16, .flo), (8, .qui), (18, .flo), (17, .qui), (19, .flo)]) .nil) .nil)) (spec_l2Induced_J4.S p) (leaf spec_l2Induced_J4 spec_l2Induced_O2) = spec_l2Induced_B2 p) ∧ True), by kernel_rfl, fun x y => by kernel_rfl⟩
theorem spec_l2Induced_s : spec_l2Induced_D.Says Try.prog := spec_l2Induced_w.says follows tabOk spec_l1Own_e_ok
noncomputable def spec_l2Induced_e : Env := more spec_l1Own_e spec_l2Induced_D
theorem spec_l2Induced_e_ok : EnvOk Try.prog spec_l2Induced_e := more_ok spec_l1Own_e_ok spec_l2Induced_s
/-! loop.example/g01128/spec.LevelSpace -/
abbrev spec_LevelSpace_E : Ve.End := ⟨[⟨6, (.prod (.own (.own .shr)) (.own .shr)), (.prod (.list (.list I)) (.list (.prod I I))), some 55⟩, ⟨7, .shr, .bool, none⟩], []⟩
abbrev spec_LevelSpace_a : List ASh := [.val (.prod (.list (.list I)) (.list (.prod I I))), .val (.list I), .val I]
abbrev spec_LevelSpace_o : List OSh := []
noncomputable def spec_LevelSpace : argP spec_LevelSpace_a → obP (extObs 0 spec_LevelSpace_o) → Option spec_LevelSpace_E.P
  | (x, heights, level, ()), () => match spec_l11Heights (x, heights, ()) () with | some ((r, ()), ()) => (bif (!r) then (some (((([] : (List (List Int))), ([] : (List (Int × Int)))), false, ()), ())) else (match spec_l1In (level, (0 : Int), (999 : Int), ()) () with | some ((r2, ()), ()) => (bif (!r2) then (some (((([] : (List (List Int))), ([] : (List (Int × Int)))), false, ()), ())) else (match spec_l11Under (heights, level, ()) () with | some ((r3, ()), ()) => (match spec_l2Induced (x, r3, ()) () with | some ((r4, ()), ()) => some (((r4.1, r4.2), true, ()), ()) | none => none) | none => none)) | none => none)) | none => none
noncomputable def spec_LevelSpace_x : Cx := ⟨tab, spec_l2Induced_e, fun _ _ => 0, fun _ => false, [(10, 0), (10, 1), (10, 2), (10, 3), (14, 0), (14, 1), (14, 2), (14, 3), (21, 0), (21, 1), (21, 2), (21, 3)], [(3, 0)]⟩
noncomputable def c49 : Code := bodyOf Try.f49
noncomputable def spec_LevelSpace_A : Ann := .seq .nil (.seq .nil (.seq (.draw [(0, .flo), (1, .flo), (2, .flo), (3, .sole), (4, .sole), (5, .sole), (6, .flo)]) .nil))
noncomputable def spec_LevelSpace_D : Ve.Fn := ⟨49, spec_LevelSpace_a, spec_LevelSpace_o, spec_LevelSpace_E, spec_LevelSpace⟩
theorem spec_LevelSpace_w : Walk Try.prog spec_LevelSpace_x spec_LevelSpace_D Try.f49 c49 23 spec_LevelSpace_A :=
  ⟨⟨Try.func49, by kernel_rfl, by kernel_rfl, by kernel_rfl, by decide, by kernel_rfl, Nat.le_of_ble_eq_true (by kernel_rfl)⟩, by kernel_rfl, by kernel_rfl, by kernel_rfl, kcast (by kernel_rfl) trivial, by kernel_rfl, fun x y => by kernel_rfl⟩
theorem spec_LevelSpace_s : spec_LevelSpace_D.Says Try.prog := spec_LevelSpace_w.says follows tabOk spec_l2Induced_e_ok
noncomputable def spec_LevelSpace_e : Env := more spec_l2Induced_e spec_LevelSpace_D
theorem spec_LevelSpace_e_ok : EnvOk Try.prog spec_LevelSpace_e := more_ok spec_l2Induced_e_ok spec_LevelSpace_s
/-! loop.example/g01128/impl.between -/
abbrev impl_between_E : Ve.End := ⟨[⟨6, .shr, .bool, none⟩], []⟩
abbrev impl_between_a : List ASh := [.val I, .val I, .val I]
abbrev impl_between_o : List OSh := []
noncomputable def impl_between : argP impl_between_a → obP (extObs 0 impl_between_o) → Option impl_between_E.P
  | (n, low, high, ()), () => bif (decide (low ≤ n)) then (some (((decide (n ≤ high)), ()), ())) else (some ((false, ()), ()))
noncomputable def impl_between_x : Cx := ⟨tab, spec_LevelSpace_e, fun _ _ => 0, fun _ => false, [], []⟩
noncomputable def c92 : Code := bodyOf Try.f92
noncomputable def impl_between_A : Ann := .nil
noncomputable def impl_between_D : Ve.Fn := ⟨92, impl_between_a, impl_between_o, impl_between_E, impl_between⟩
theorem impl_between_w : Walk Try.prog impl_between_x impl_between_D Try.f92 c92 15 impl_between_A :=
  ⟨⟨Try.func92, by kernel_rfl, by kernel_rfl, by kernel_rfl, by decide, by kernel_rfl, Nat.le_of_ble_eq_true (by kernel_rfl)⟩, by kernel_rfl, by kernel_rfl, by kernel_rfl, kcast (by kernel_rfl) trivial, by kernel_rfl, fun x y => by kernel_rfl⟩
theorem impl_between_s : impl_between_D.Says Try.prog := impl_between_w.says follows tabOk spec_LevelSpace_e_ok
noncomputable def impl_between_e : Env := more spec_LevelSpace_e impl_between_D
theorem impl_between_e_ok : EnvOk Try.prog impl_between_e := more_ok spec_LevelSpace_e_ok impl_between_s
/-! loop.example/g01128/impl.isState$1 -/
abbrev impl_isState_1_E : Ve.End := ⟨[⟨2, .shr, .bool, none⟩], []⟩
abbrev impl_isState_1_a : List ASh := [.val I]
abbrev impl_isState_1_o : List OSh := []
noncomputable def impl_isState_1 : argP impl_isState_1_a → obP (extObs 0 impl_isState_1_o) → Option impl_isState_1_E.P
  | (n, ()), () => match impl_between (n, (-99 : Int), (99 : Int), ()) () with | some ((r, ()), ()) => some (((!r), ()), ()) | none => none
noncomputable def impl_isState_1_x : Cx := ⟨tab, impl_between_e, fun _ _ => 0, fun _ => false, [(4, 0), (4, 1), (4, 2), (4, 3)], []⟩
noncomputable def c162 : Code := bodyOf Try.f162
noncomputable def impl_isState_1_A : Ann := .nil
noncomputable def impl_isState_1_D : Ve.Fn := ⟨162, impl_isState_1_a, impl_isState_1_o, impl_isState_1_E, impl_isState_1⟩
theorem impl_isState_1_w : Walk Try.prog impl_isState_1_x impl_isState_1_D Try.f162 c162 6 impl_isState_1_A :=
  ⟨⟨Try.func162, by kernel_rfl, by kernel_rfl, by kernel_rfl, by decide, by kernel_rfl, Nat.le_of_ble_eq_true (by kernel_rfl)⟩, by kernel_rfl, by kernel_rfl, by kernel_rfl, kcast (by kernel_rfl) trivial, by kernel_rfl, fun x y => by kernel_rfl⟩
theorem impl_isState_1_s : impl_isState_1_D.Says Try.prog := impl_isState_1_w.says follows tabOk impl_between_e_ok
noncomputable def impl_isState_1_e : Env := more impl_between_e impl_isState_1_D
theorem impl_isState_1_e_ok : EnvOk Try.prog impl_isState_1_e := more_ok impl_between_e_ok impl_isState_1_s
/-! slices.IndexFunc[[]int,int] -/
abbrev slices_IndexFunc_int_int_vf_impl_isState_1_J0 : Tpl := ⟨[(0, .val (.list I)), (1, .fn ⟨162, []⟩), (7, .val I), (8, .val I)], [], []⟩
abbrev slices_IndexFunc_int_int_vf_impl_isState_1_J1 : Tpl := ⟨[(4, .val I)], [], []⟩
abbrev slices_IndexFunc_int_int_vf_impl_isState_1_J2 : Tpl := ⟨[], [], []⟩
abbrev slices_IndexFunc_int_int_vf_impl_isState_1_E : Ve.End := ⟨[⟨4, .shr, I, none⟩], []⟩
abbrev slices_IndexFunc_int_int_vf_impl_isState_1_a : List ASh := [.val (.list I), .fn 162 []]
abbrev slices_IndexFunc_int_int_vf_impl_isState_1_o : List OSh := []
abbrev slices_IndexFunc_int_int_vf_impl_isState_1_O0 : Out := .or .ret slices_IndexFunc_int_int_vf_impl_isState_1_J1 (.one (.ex 0) slices_IndexFunc_int_int_vf_impl_isState_1_J2)
noncomputable def slices_IndexFunc_int_int_vf_impl_isState_1_B0 : slices_IndexFunc_int_int_vf_impl_isState_1_J0.P → Option (slices_IndexFunc_int_int_vf_impl_isState_1_J0.P ⊕ slices_IndexFunc_int_int_vf_impl_isState_1_O0.P)
  | ((s, t7, t8, ()), ()) => bif (decide (t8 < t7)) then (guardB (inb t8 (List.length s)) (match impl_isState_1 ((List.getD s (Int.toNat t8) (0 : Int)), ()) () with | some ((r, ()), ()) => (bif r then (some (.inr (.inl ((t8, ()), ())))) else (some (.inl ((s, t7, (w64 (t8 + (1 : Int))), ()), ())))) | none => none)) else (some (.inr (.inr ((), ()))))
noncomputable def slices_IndexFunc_int_int_vf_impl_isState_1 : argP slices_IndexFunc_int_int_vf_impl_isState_1_a → obP (extObs 0 slices_IndexFunc_int_int_vf_impl_isState_1_o) → Option slices_IndexFunc_int_int_vf_impl_isState_1_E.P
  | (s, ()), () => match loopO slices_IndexFunc_int_int_vf_impl_isState_1_B0 ((s, (List.length s : Int), (0 : Int), ()), ()) with | some (.inl ((t4, ()), ())) => some ((t4, ()), ()) | some (.inr ((), ())) => some (((-1 : Int), ()), ()) | none => none
noncomputable def slices_IndexFunc_int_int_vf_impl_isState_1_x : Cx := ⟨tab, impl_isState_1_e, fun _ _ => 0, fun _ => false, [(16, 0), (16, 1), (16, 2), (16, 3)], []⟩
noncomputable def c138 : Code := bodyOf Try.f138
noncomputable def slices_IndexFunc_int_int_vf_impl_isState_1_A : Ann := .seq .nil (.seq (.seq .nil (.loop slices_IndexFunc_int_int_vf_impl_isState_1_J0 slices_IndexFunc_int_int_vf_impl_isState_1_O0 slices_IndexFunc_int_int_vf_impl_isState_1_B0 .nil)) .nil)
theorem slices_IndexFunc_int_int_vf_impl_isState_1_r0 (p : slices_IndexFunc_int_int_vf_impl_isState_1_J0.P) : run slices_IndexFunc_int_int_vf_impl_isState_1_x (subc [1, 0, 1, 0, 0] c138) .nil (slices_IndexFunc_int_int_vf_impl_isState_1_J0.S p) (leaf slices_IndexFunc_int_int_vf_impl_isState_1_J0 slices_IndexFunc_int_int_vf_impl_isState_1_O0) = slices_IndexFunc_int_int_vf_impl_isState_1_B0 p := by kernel_rfl
noncomputable def slices_IndexFunc_int_int_vf_impl_isState_1_D : Ve.Fn := ⟨138, slices_IndexFunc_int_int_vf_impl_isState_1_a, slices_IndexFunc_int_int_vf_impl_isState_1_o, slices_IndexFunc_int_int_vf_impl_isState_1_E, slices_IndexFunc_int_int_vf_impl_isState_1⟩
theorem slices_IndexFunc_int_int_vf_impl_isState_1_w : Walk Try.prog slices_IndexFunc_int_int_vf_impl_isState_1_x slices_IndexFunc_int_int_vf_impl_isState_1_D Try.f138 c138 19 slices_IndexFunc_int_int_vf_impl_isState_1_A :=
  ⟨⟨Try.func138, by kernel_rfl, by kernel_rfl, by kernel_rfl, by decide, by kernel_rfl, Nat.le_of_ble_eq_true (by kernel_rfl)⟩, by kernel_rfl, by kernel_rfl, by kernel_rfl, kcast (by kernel_rfl) (⟨slices_IndexFunc_int_int_vf_impl_isState_1_r0, trivial⟩ : (∀ p, run slices_IndexFunc_int_int_vf_impl_isState_1_x (subc [1, 0, 1, 0, 0] c138) .nil (slices_IndexFunc_int_int_vf_impl_isState_1_J0.S p) (leaf slices_IndexFunc_int_int_vf_impl_isState_1_J0 slices_IndexFunc_int_int_vf_impl_isState_1_O0) = slices_IndexFunc_int_int_vf_impl_isState_1_B0 p) ∧ True), by kernel_rfl, fun x y => by kernel_rfl⟩
theorem slices_IndexFunc_int_int_vf_impl_isState_1_s : slices_IndexFunc_int_int_vf_impl_isState_1_D.Says Try.prog := slices_IndexFunc_int_int_vf_impl_isState_1_w.says follows tabOk impl_isState_1_e_ok
noncomputable def slices_IndexFunc_int_int_vf_impl_isState_1_e : Env := more impl_isState_1_e slices_IndexFunc_int_int_vf_impl_isState_1_D
theorem slices_IndexFunc_int_int_vf_impl_isState_1_e_ok : EnvOk Try.prog slices_IndexFunc_int_int_vf_impl_isState_1_e := more_ok impl_isState_1_e_ok slices_IndexFunc_int_int_vf_impl_isState_1_s
/-! slices.ContainsFunc[[]int,int] -/
abbrev slices_ContainsFunc_int_int_vf_impl_isState_1_E : Ve.End := ⟨[⟨4, .shr, .bool, none⟩], []⟩
abbrev slices_ContainsFunc_int_int_vf_impl_isState_1_a : List ASh := [.val (.list I), .fn 162 []]
abbrev slices_ContainsFunc_int_int_vf_impl_isState_1_o : List OSh := []
noncomputable def slices_ContainsFunc_int_int_vf_impl_isState_1 : argP slices_ContainsFunc_int_int_vf_impl_isState_1_a → obP (extObs 0 slices_ContainsFunc_int_int_vf_impl_isState_1_o) → Option slices_ContainsFunc_int_int_vf_impl_isState_1_E.P
  | (s, ()), () => match slices_IndexFunc_int_int_vf_impl_isState_1 (s, ()) () with | some ((r, ()), ()) => some (((decide ((0 : Int) ≤ r)), ()), ()) | none => none
noncomputable def slices_ContainsFunc_int_int_vf_impl_isState_1_x : Cx := ⟨tab, slices_IndexFunc_int_int_vf_impl_isState_1_e, fun _ _ => 0, fun _ => false, [(7, 0), (7, 1), (7, 2), (7, 3)], []⟩
noncomputable def c103 : Code := bodyOf Try.f103
noncomputable def slices_ContainsFunc_int_int_vf_impl_isState_1_A : Ann := .nil
noncomputable def slices_ContainsFunc_int_int_vf_impl_isState_1_D : Ve.Fn := ⟨103, slices_ContainsFunc_int_int_vf_impl_isState_1_a, slices_ContainsFunc_int_int_vf_impl_isState_1_o, slices_ContainsFunc_int_int_vf_impl_isState_1_E, slices_ContainsFunc_int_int_vf_impl_isState_1⟩
theorem slices_ContainsFunc_int_int_vf_impl_isState_1_w : Walk Try.prog slices_ContainsFunc_int_int_vf_impl_isState_1_x slices_ContainsFunc_int_int_vf_impl_isState_1_D Try.f103 c103 9 slices_ContainsFunc_int_int_vf_impl_isState_1_A :=
  ⟨⟨Try.func103, by kernel_rfl, by kernel_rfl, by kernel_rfl, by decide, by kernel_rfl, Nat.le_of_ble_eq_true (by kernel_rfl)⟩, by kernel_rfl, by kernel_rfl, by kernel_rfl, kcast (by kernel_rfl) trivial, by kernel_rfl, fun x y => by kernel_rfl⟩
theorem slices_ContainsFunc_int_int_vf_impl_isState_1_s : slices_ContainsFunc_int_int_vf_impl_isState_1_D.Says Try.prog := slices_ContainsFunc_int_int_vf_impl_isState_1_w.says follows tabOk slices_IndexFunc_int_int_vf_impl_isState_1_e_ok
noncomputable def slices_ContainsFunc_int_int_vf_impl_isState_1_e : Env := more slices_IndexFunc_int_int_vf_impl_isState_1_e slices_ContainsFunc_int_int_vf_impl_isState_1_D
theorem slices_ContainsFunc_int_int_vf_impl_isState_1_e_ok : EnvOk Try.prog slices_ContainsFunc_int_int_vf_impl_isState_1_e := more_ok slices_IndexFunc_int_int_vf_impl_isState_1_e_ok slices_ContainsFunc_int_int_vf_impl_isState_1_s
/-! loop.example/g01128/impl.isState -/
abbrev impl_isState_E : Ve.End := ⟨[⟨2, .shr, .bool, none⟩], []⟩
abbrev impl_isState_a : List ASh := [.val (.list I)]
abbrev impl_isState_o : List OSh := []
noncomputable def impl_isState : argP impl_isState_a → obP (extObs 0 impl_isState_o) → Option impl_isState_E.P
  | (state, ()), () => bif (decide ((List.length state : Int) ≤ (24 : Int))) then (match slices_ContainsFunc_int_int_vf_impl_isState_1 (state, ()) () with | some ((r, ()), ()) => some (((!r), ()), ()) | none => none) else (some ((false, ()), ()))
noncomputable def impl_isState_x : Cx := ⟨tab, slices_ContainsFunc_int_int_vf_impl_isState_1_e, fun _ _ => 0, fun _ => false, [(8, 0), (8, 1), (8, 2), (8, 3)], []⟩
noncomputable def c147 : Code := bodyOf Try.f147
noncomputable def impl_isState_A : Ann := .nil
noncomputable def impl_isState_D : Ve.Fn := ⟨147, impl_isState_a, impl_isState_o, impl_isState_E, impl_isState⟩
theorem impl_isState_w : Walk Try.prog impl_isState_x impl_isState_D Try.f147 c147 11 impl_isState_A :=
  ⟨⟨Try.func147, by kernel_rfl, by kernel_rfl, by kernel_rfl, by decide, by kernel_rfl, Nat.le_of_ble_eq_true (by kernel_rfl)⟩, by kernel_rfl, by kernel_rfl, by kernel_rfl, kcast (by kernel_rfl) trivial, by kernel_rfl, fun x y => by kernel_rfl⟩
theorem impl_isState_s : impl_isState_D.Says Try.prog := impl_isState_w.says follows tabOk slices_ContainsFunc_int_int_vf_impl_isState_1_e_ok
noncomputable def impl_isState_e : Env := more slices_ContainsFunc_int_int_vf_impl_isState_1_e impl_isState_D
theorem impl_isState_e_ok : EnvOk Try.prog impl_isState_e := more_ok slices_ContainsFunc_int_int_vf_impl_isState_1_e_ok impl_isState_s
/-! cmp.isNaN[int] -/
abbrev cmp_isNaN_int_E : Ve.End := ⟨[⟨2, .shr, .bool, none⟩], []⟩
abbrev cmp_isNaN_int_a : List ASh := [.val I]
abbrev cmp_isNaN_int_o : List OSh := []
noncomputable def cmp_isNaN_int : argP cmp_isNaN_int_a → obP (extObs 0 cmp_isNaN_int_o) → Option cmp_isNaN_int_E.P
  | (x, ()), () => some (((x != x), ()), ())
noncomputable def cmp_isNaN_int_x : Cx := ⟨tab, impl_isState_e, fun _ _ => 0, fun _ => false, [], []⟩
noncomputable def c163 : Code := bodyOf Try.f163
noncomputable def cmp_isNaN_int_A : Ann := .nil
noncomputable def cmp_isNaN_int_D : Ve.Fn := ⟨163, cmp_isNaN_int_a, cmp_isNaN_int_o, cmp_isNaN_int_E, cmp_isNaN_int⟩
theorem cmp_isNaN_int_w : Walk Try.prog cmp_isNaN_int_x cmp_isNaN_int_D Try.f163 c163 6 cmp_isNaN_int_A :=
  ⟨⟨Try.func163, by kernel_rfl, by kernel_rfl, by kernel_rfl, by decide, by kernel_rfl, Nat.le_of_ble_eq_true (by kernel_rfl)⟩, by kernel_rfl, by kernel_rfl, by kernel_rfl, kcast (by kernel_rfl) trivial, by kernel_rfl, fun x y => by kernel_rfl⟩
theorem cmp_isNaN_int_s : cmp_isNaN_int_D.Says Try.prog := cmp_isNaN_int_w.says follows tabOk impl_isState_e_ok
noncomputable def cmp_isNaN_int_e : Env := more impl_isState_e cmp_isNaN_int_D
theorem cmp_isNaN_int_e_ok : EnvOk Try.prog cmp_isNaN_int_e := more_ok impl_isState_e_ok cmp_isNaN_int_s
/-! cmp.Compare[int] -/
abbrev cmp_Compare_int_E : Ve.End := ⟨[⟨4, .shr, I, none⟩], []⟩
abbrev cmp_Compare_int_a : List ASh := [.val I, .val I]
abbrev cmp_Compare_int_o : List OSh := []
noncomputable def cmp_Compare_int : argP cmp_Compare_int_a → obP (extObs 0 cmp_Compare_int_o) → Option cmp_Compare_int_E.P
  | (x, y, ()), () => match cmp_isNaN_int (x, ()) () with | some ((r, ()), ()) => (match cmp_isNaN_int (y, ()) () with | some ((r2, ()), ()) => (bif r then (bif r2 then (some (((0 : Int), ()), ())) else (some (((-1 : Int), ()), ()))) else (bif r2 then (some (((1 : Int), ()), ())) else (bif (decide (x < y)) then (some (((-1 : Int), ()), ())) else (bif (decide (y < x)) then (some (((1 : Int), ()), ())) else (some (((0 : Int), ()), ())))))) | none => none) | none => none
noncomputable def cmp_Compare_int_x : Cx := ⟨tab, cmp_isNaN_int_e, fun _ _ => 0, fun _ => false, [(8, 0), (8, 1), (8, 2), (8, 3), (10, 0), (10, 1), (10, 2), (10, 3)], []⟩
noncomputable def c160 : Code := bodyOf Try.f160
noncomputable def cmp_Compare_int_A : Ann := .nil
noncomputable def cmp_Compare_int_D : Ve.Fn := ⟨160, cmp_Compare_int_a, cmp_Compare_int_o, cmp_Compare_int_E, cmp_Compare_int⟩
theorem cmp_Compare_int_w : Walk Try.prog cmp_Compare_int_x cmp_Compare_int_D Try.f160 c160 20 cmp_Compare_int_A :=
  ⟨⟨Try.func160, by kernel_rfl, by kernel_rfl, by kernel_rfl, by decide, by kernel_rfl, Nat.le_of_ble_eq_true (by kernel_rfl)⟩, by kernel_rfl, by kernel_rfl, by kernel_rfl, kcast (by kernel_rfl) trivial, by kernel_rfl, fun x y => by kernel_rfl⟩
theorem cmp_Compare_int_s : cmp_Compare_int_D.Says Try.prog := cmp_Compare_int_w.says follows tabOk cmp_isNaN_int_e_ok
noncomputable def cmp_Compare_int_e : Env := more cmp_isNaN_int_e cmp_Compare_int_D
theorem cmp_Compare_int_e_ok : EnvOk Try.prog cmp_Compare_int_e := more_ok cmp_isNaN_int_e_ok cmp_Compare_int_s
/-! slices.Compare[[]int,int] -/
abbrev slices_Compare_int_int_J0 : Tpl := ⟨[(0, .val (.list I)), (1, .val (.list I)), (9, .val (.list I)), (10, .val I), (11, .val I)], [], []⟩
abbrev slices_Compare_int_int_J1 : Tpl := ⟨[(4, .val I)], [], []⟩
abbrev slices_Compare_int_int_J2 : Tpl := ⟨[(0, .val (.list I)), (1, .val (.list I))], [], []⟩
abbrev slices_Compare_int_int_E : Ve.End := ⟨[⟨4, .shr, I, none⟩], []⟩
abbrev slices_Compare_int_int_a : List ASh := [.val (.list I), .val (.list I)]
abbrev slices_Compare_int_int_o : List OSh := []
abbrev slices_Compare_int_int_O0 : Out := .or .ret slices_Compare_int_int_J1 (.one (.ex 0) slices_Compare_int_int_J2)
noncomputable def slices_Compare_int_int_B0 : slices_Compare_int_int_J0.P → Option (slices_Compare_int_int_J0.P ⊕ slices_Compare_int_int_O0.P)
  | ((s1, s2, t9, t10, t11, ()), ()) => bif (decide (t11 < t10)) then (guardB (inb t11 (List.length t9)) (bif (decide ((List.length s2 : Int) ≤ t11)) then (some (.inr (.inl (((1 : Int), ()), ())))) else (guardB (inb t11 (List.length s2)) (match cmp_Compare_int ((List.getD t9 (Int.toNat t11) (0 : Int)), (List.getD s2 (Int.toNat t11) (0 : Int)), ()) () with | some ((r, ()), ()) => (bif (r != (0 : Int)) then (some (.inr (.inl ((r, ()), ())))) else (some (.inl ((s1, s2, t9, t10, (w64 (t11 + (1 : Int))), ()), ())))) | none => none)))) else (some (.inr (.inr ((s1, s2, ()), ()))))
noncomputable def slices_Compare_int_int : argP slices_Compare_int_int_a → obP (extObs 0 slices_Compare_int_int_o) → Option slices_Compare_int_int_E.P
  | (s1, s2, ()), () => match loopO slices_Compare_int_int_B0 ((s1, s2, s1, (List.length s1 : Int), (0 : Int), ()), ()) with | some (.inl ((t4, ()), ())) => some ((t4, ()), ()) | some (.inr ((s1_2, s2_2, ()), ())) => (bif (decide ((List.length s1_2 : Int) < (List.length s2_2 : Int))) then (some (((-1 : Int), ()), ())) else (some (((0 : Int), ()), ()))) | none => none
noncomputable def slices_Compare_int_int_x : Cx := ⟨tab, cmp_Compare_int_e, fun _ _ => 0, fun _ => false, [(26, 0), (26, 1), (26, 2), (26, 3)], []⟩
noncomputable def c148 : Code := bodyOf Try.f148
noncomputable def slices_Compare_int_int_A : Ann := .seq .nil (.seq (.seq .nil (.loop slices_Compare_int_int_J0 slices_Compare_int_int_O0 slices_Compare_int_int_B0 .nil)) .nil)
theorem slices_Compare_int_int_r0 (p : slices_Compare_int_int_J0.P) : run slices_Compare_int_int_x (subc [1, 0, 1, 0, 0] c148) .nil (slices_Compare_int_int_J0.S p) (leaf slices_Compare_int_int_J0 slices_Compare_int_int_O0) = slices_Compare_int_int_B0 p := by kernel_rfl
noncomputable def slices_Compare_int_int_D : Ve.Fn := ⟨148, slices_Compare_int_int_a, slices_Compare_int_int_o, slices_Compare_int_int_E, slices_Compare_int_int⟩
theorem slices_Compare_int_int_w : Walk Try.prog slices_Compare_int_int_x slices_Compare_int_int_D Try.f148 c148 36 slices_Compare_int_int_A :=
  ⟨⟨Try.func148, by kernel_rfl, by kernel_rfl, by kernel_rfl, by decide, by kernel_rfl, Nat.le_of_ble_eq_true (by kernel_rfl)⟩, by kernel_rfl, by kernel_rfl, by kernel_rfl, kcast (by kernel_rfl) (⟨slices_Compare_int_int_r0, trivial⟩ : (∀ p, run slices_Compare_int_int_x (subc [1, 0, 1, 0, 0] c148) .nil (slices_Compare_int_int_J0.S p) (leaf slices_Compare_int_int_J0 slices_Compare_int_int_O0) = slices_Compare_int_int_B0 p) ∧ True), by kernel_rfl, fun x y => by kernel_rfl⟩
theorem slices_Compare_int_int_s : slices_Compare_int_int_D.Says Try.prog := slices_Compare_int_int_w.says follows tabOk cmp_Compare_int_e_ok
noncomputable def slices_Compare_int_int_e : Env := more cmp_Compare_int_e slices_Compare_int_int_D
theorem slices_Compare_int_int_e_ok : EnvOk Try.prog slices_Compare_int_int_e := more_ok cmp_Compare_int_e_ok slices_Compare_int_int_s
/-! cmp.Or[int] -/
abbrev cmp_Or_int_J0 : Tpl := ⟨[(3, .val I), (6, .val (.list I)), (7, .val I), (8, .val I)], [], []⟩
abbrev cmp_Or_int_J1 : Tpl := ⟨[(2, .val I)], [], []⟩
abbrev cmp_Or_int_J2 : Tpl := ⟨[(3, .val I)], [], []⟩
abbrev cmp_Or_int_E : Ve.End := ⟨[⟨2, .shr, I, none⟩], []⟩
abbrev cmp_Or_int_a : List ASh := [.val (.list I)]
abbrev cmp_Or_int_o : List OSh := []
abbrev cmp_Or_int_O0 : Out := .or .ret cmp_Or_int_J1 (.one (.ex 0) cmp_Or_int_J2)
noncomputable def cmp_Or_int_B0 : cmp_Or_int_J0.P → Option (cmp_Or_int_J0.P ⊕ cmp_Or_int_O0.P)
  | ((zero_, t6, t7, t8, ()), ()) => bif (decide (t8 < t7)) then (guardB (inb t8 (List.length t6)) (bif ((List.getD t6 (Int.toNat t8) (0 : Int)) != zero_) then (some (.inr (.inl (((List.getD t6 (Int.toNat t8) (0 : Int)), ()), ())))) else (some (.inl ((zero_, t6, t7, (w64 (t8 + (1 : Int))), ()), ()))))) else (some (.inr (.inr ((zero_, ()), ()))))
noncomputable def cmp_Or_int : argP cmp_Or_int_a → obP (extObs 0 cmp_Or_int_o) → Option cmp_Or_int_E.P
  | (vals, ()), () => match loopO cmp_Or_int_B0 (((0 : Int), vals, (List.length vals : Int), (0 : Int), ()), ()) with | some (.inl ((t2, ()), ())) => some ((t2, ()), ()) | some (.inr ((zero_, ()), ())) => some ((zero_, ()), ()) | none => none
noncomputable def cmp_Or_int_x : Cx := ⟨tab, slices_Compare_int_int_e, fun _ _ => 0, fun _ => false, [], []⟩
noncomputable def c159 : Code := bodyOf Try.f159
noncomputable def cmp_Or_int_A : Ann := .seq .nil (.seq .nil (.seq (.seq .nil (.loop cmp_Or_int_J0 cmp_Or_int_O0 cmp_Or_int_B0 .nil)) .nil))
theorem cmp_Or_int_r0 (p : cmp_Or_int_J0.P) : run cmp_Or_int_x (subc [1, 1, 0, 1, 0, 0] c159) .nil (cmp_Or_int_J0.S p) (leaf cmp_Or_int_J0 cmp_Or_int_O0) = cmp_Or_int_B0 p := by kernel_rfl
noncomputable def cmp_Or_int_D : Ve.Fn := ⟨159, cmp_Or_int_a, cmp_Or_int_o, cmp_Or_int_E, cmp_Or_int⟩
theorem cmp_Or_int_w : Walk Try.prog cmp_Or_int_x cmp_Or_int_D Try.f159 c159 18 cmp_Or_int_A :=
  ⟨⟨Try.func159, by kernel_rfl, by kernel_rfl, by kernel_rfl, by decide, by kernel_rfl, Nat.le_of_ble_eq_true (by kernel_rfl)⟩, by kernel_rfl, by kernel_rfl, by kernel_rfl, kcast (by kernel_rfl) (⟨cmp_Or_int_r0, trivial⟩ : (∀ p, run cmp_Or_int_x (subc [1, 1, 0, 1, 0, 0] c159) .nil (cmp_Or_int_J0.S p) (leaf cmp_Or_int_J0 cmp_Or_int_O0) = cmp_Or_int_B0 p) ∧ True), by kernel_rfl, fun x y => by kernel_rfl⟩
theorem cmp_Or_int_s : cmp_Or_int_D.Says Try.prog := cmp_Or_int_w.says follows tabOk slices_Compare_int_int_e_ok
noncomputable def cmp_Or_int_e : Env := more slices_Compare_int_int_e cmp_Or_int_D
theorem cmp_Or_int_e_ok : EnvOk Try.prog cmp_Or_int_e := more_ok slices_Compare_int_int_e_ok cmp_Or_int_s
/-! loop.example/g01128/impl.comparePairs -/
abbrev impl_comparePairs_E : Ve.End := ⟨[⟨4, .shr, I, none⟩], []⟩
abbrev impl_comparePairs_a : List ASh := [.val (.prod I I), .val (.prod I I)]
abbrev impl_comparePairs_o : List OSh := []
noncomputable def impl_comparePairs : argP impl_comparePairs_a → obP (extObs 0 impl_comparePairs_o) → Option impl_comparePairs_E.P
  | (a, b, ()), () => match cmp_Compare_int (a.1, b.1, ()) () with | some ((r, ()), ()) => (match cmp_Compare_int (a.2, b.2, ()) () with | some ((r2, ()), ()) => (match cmp_Or_int ([r, r2], ()) () with | some ((r3, ()), ()) => some ((r3, ()), ()) | none => none) | none => none) | none => none
noncomputable def impl_comparePairs_x : Cx := ⟨tab, cmp_Or_int_e, fun _ _ => 0, fun _ => false, [(9, 0), (9, 1), (9, 2), (9, 3), (14, 0), (14, 1), (14, 2), (14, 3), (15, 0), (16, 0), (16, 1), (16, 2), (16, 3)], [(2, 0), (3, 0)]⟩
noncomputable def c137 : Code := bodyOf Try.f137
noncomputable def impl_comparePairs_A : Ann := .seq .nil (.seq (.draw [(0, .flo), (1, .flo), (2, .flo), (3, .flo), (5, .flo), (6, .flo), (7, .flo), (8, .flo), (4, .sole), (9, .sole), (10, .sole), (11, .sole), (12, .flo)]) .nil)
noncomputable def impl_comparePairs_D : Ve.Fn := ⟨137, impl_comparePairs_a, impl_comparePairs_o, impl_comparePairs_E, impl_comparePairs⟩
theorem impl_comparePairs_w : Walk Try.prog impl_comparePairs_x impl_comparePairs_D Try.f137 c137 17 impl_comparePairs_A :=
  ⟨⟨Try.func137, by kernel_rfl, by kernel_rfl, by kernel_rfl, by decide, by kernel_rfl, Nat.le_of_ble_eq_true (by kernel_rfl)⟩, by kernel_rfl, by kernel_rfl, by kernel_rfl, kcast (by kernel_rfl) trivial, by kernel_rfl, fun x y => by kernel_rfl⟩
theorem impl_comparePairs_s : impl_comparePairs_D.Says Try.prog := impl_comparePairs_w.says follows tabOk cmp_Or_int_e_ok
noncomputable def impl_comparePairs_e : Env := more cmp_Or_int_e impl_comparePairs_D
theorem impl_comparePairs_e_ok : EnvOk Try.prog impl_comparePairs_e := more_ok cmp_Or_int_e_ok impl_comparePairs_s
/-! loop.example/g01128/impl.isPairs -/
abbrev impl_isPairs_J0 : Tpl := ⟨[(0, .val (.list (.prod I I))), (1, .val I), (7, .val (.list (.prod I I))), (8, .val I), (9, .val I)], [], []⟩
abbrev impl_isPairs_J1 : Tpl := ⟨[(4, .val .bool)], [], []⟩
abbrev impl_isPairs_J2 : Tpl := ⟨[], [], []⟩
abbrev impl_isPairs_E : Ve.End := ⟨[⟨4, .shr, .bool, none⟩], []⟩
abbrev impl_isPairs_a : List ASh := [.val (.list (.prod I I)), .val I]
abbrev impl_isPairs_o : List OSh := []
abbrev impl_isPairs_O0 : Out := .or .ret impl_isPairs_J1 (.one (.ex 0) impl_isPairs_J2)
noncomputable def impl_isPairs_B0 : impl_isPairs_J0.P → Option (impl_isPairs_J0.P ⊕ impl_isPairs_O0.P)
  | ((list, below, t7, t8, t9, ()), ()) => bif (decide (t9 < t8)) then (guardB (inb t9 (List.length t7)) (bif (decide (((List.getD t7 (Int.toNat t9) ((0 : Int), (0 : Int))).1) < (0 : Int))) then (some (.inr (.inl ((false, ()), ())))) else (bif (decide (((List.getD t7 (Int.toNat t9) ((0 : Int), (0 : Int))).2) ≤ ((List.getD t7 (Int.toNat t9) ((0 : Int), (0 : Int))).1))) then (some (.inr (.inl ((false, ()), ())))) else (bif (decide (below ≤ ((List.getD t7 (Int.toNat t9) ((0 : Int), (0 : Int))).2))) then (some (.inr (.inl ((false, ()), ())))) else (bif (decide ((0 : Int) < t9)) then (guardB (inb (w64 (t9 - (1 : Int))) (List.length list)) (match impl_comparePairs ((List.getD list (Int.toNat (w64 (t9 - (1 : Int)))) ((0 : Int), (0 : Int))), (List.getD t7 (Int.toNat t9) ((0 : Int), (0 : Int))), ()) () with | some ((r, ()), ()) => (bif (decide ((0 : Int) ≤ r)) then (some (.inr (.inl ((false, ()), ())))) else (some (.inl ((list, below, t7, t8, (w64 (t9 + (1 : Int))), ()), ())))) | none => none)) else (some (.inl ((list, below, t7, t8, (w64 (t9 + (1 : Int))), ()), ())))))))) else (some (.inr (.inr ((), ()))))
noncomputable def impl_isPairs : argP impl_isPairs_a → obP (extObs 0 impl_isPairs_o) → Option impl_isPairs_E.P
  | (list, below, ()), () => match loopO impl_isPairs_B0 ((list, below, list, (List.length list : Int), (0 : Int), ()), ()) with | some (.inl ((t4, ()), ())) => some ((t4, ()), ()) | some (.inr ((), ())) => some ((true, ()), ()) | none => none
noncomputable def impl_isPairs_x : Cx := ⟨tab, impl_comparePairs_e, fun _ _ => 0, fun _ => false, [(40, 0), (40, 1), (40, 2), (40, 3)], [(6, 0)]⟩
noncomputable def c117 : Code := bodyOf Try.f117
noncomputable def impl_isPairs_A : Ann := .seq .nil (.seq (.seq .nil (.loop impl_isPairs_J0 impl_isPairs_O0 impl_isPairs_B0 (.seq .nil (.seq .nil (.seq (.seq .nil (.seq (.draw [(0, .flo), (1, .flo), (2, .flo), (3, .flo), (4, .flo), (6, .flo), (5, .qui), (7, .qui), (8, .flo), (9, .flo), (10, .flo), (11, .flo), (13, .flo), (12, .qui), (14, .flo), (15, .flo), (16, .flo), (17, .flo), (18, .flo), (19, .flo), (20, .flo), (21, .flo), (22, .flo), (23, .flo), (24, .qui), (25, .qui), (26, .sole), (27, .flo), (28, .flo), (29, .flo)]) .nil)) .nil))))) .nil)
theorem impl_isPairs_r0 (p : impl_isPairs_J0.P) : run impl_isPairs_x (subc [1, 0, 1, 0, 0] c117) (.seq .nil (.seq .nil (.seq (.seq .nil (.seq (.draw [(0, .flo), (1, .flo), (2, .flo), (3, .flo), (4, .flo), (6, .flo), (5, .qui), (7, .qui), (8, .flo), (9, .flo), (10, .flo), (11, .flo), (13, .flo), (12, .qui), (14, .flo), (15, .flo), (16, .flo), (17, .flo), (18, .flo), (19, .flo), (20, .flo), (21, .flo), (22, .flo), (23, .flo), (24, .qui), (25, .qui), (26, .sole), (27, .flo), (28, .flo), (29, .flo)]) .nil)) .nil))) (impl_isPairs_J0.S p) (leaf impl_isPairs_J0 impl_isPairs_O0) = impl_isPairs_B0 p := by kernel_rfl
noncomputable def impl_isPairs_D : Ve.Fn := ⟨117, impl_isPairs_a, impl_isPairs_o, impl_isPairs_E, impl_isPairs⟩
theorem impl_isPairs_w : Walk Try.prog impl_isPairs_x impl_isPairs_D Try.f117 c117 45 impl_isPairs_A :=
  ⟨⟨Try.func117, by kernel_rfl, by kernel_rfl, by kernel_rfl, by decide, by kernel_rfl, Nat.le_of_ble_eq_true (by kernel_rfl)⟩, by kernel_rfl, by kernel_rfl, by kernel_rfl, kcast (by kernel_rfl) (⟨impl_isPairs_r0, trivial⟩ : (∀ p, run impl_isPairs_x (subc [1, 0, 1, 0, 0] c117) (.seq .nil (.seq .nil (.seq (.seq .nil (.seq (.draw [(0, .flo), (1, .flo), (2, .flo), (3, .flo), (4, .flo), (6, .flo), (5, .qui), (7, .qui), (8, .flo), (9, .flo), (10, .flo), (11, .flo), (13, .flo), (12, .qui), (14, .flo), (15, .flo), (16, .flo), (17, .flo), (18, .flo), (19, .flo), (20, .flo), (21, .flo), (22, .flo), (23, .flo), (24, .qui), (25, .qui), (26, .sole), (27, .flo), (28, .flo), (29, .flo)]) .nil)) .nil))) (impl_isPairs_J0.S p) (leaf impl_isPairs_J0 impl_isPairs_O0) = impl_isPairs_B0 p) ∧ True), by kernel_rfl, fun x y => by kernel_rfl⟩
theorem impl_isPairs_s : impl_isPairs_D.Says Try.prog := impl_isPairs_w.says follows tabOk impl_comparePairs_e_ok
noncomputable def impl_isPairs_e : Env := more impl_comparePairs_e impl_isPairs_D
theorem impl_isPairs_e_ok : EnvOk Try.prog impl_isPairs_e := more_ok impl_comparePairs_e_ok impl_isPairs_s
/-! loop.example/g01128/impl.IsSpace -/
abbrev impl_IsSpace_J0 : Tpl := ⟨[(1, .cst (.prod (.list (.list I)) (.list (.prod I I)))), (16, .val (.list (.list I))), (17, .val I), (18, .val I)], [], []⟩
abbrev impl_IsSpace_J1 : Tpl := ⟨[(2, .val .bool)], [], []⟩
abbrev impl_IsSpace_J2 : Tpl := ⟨[(1, .cst (.prod (.list (.list I)) (.list (.prod I I))))], [], []⟩
abbrev impl_IsSpace_E : Ve.End := ⟨[⟨2, .shr, .bool, none⟩], []⟩
abbrev impl_IsSpace_a : List ASh := [.val (.prod (.list (.list I)) (.list (.prod I I)))]
abbrev impl_IsSpace_o : List OSh := []
abbrev impl_IsSpace_O0 : Out := .or .ret impl_IsSpace_J1 (.one (.ex 0) impl_IsSpace_J2)
noncomputable def impl_IsSpace_B0 : impl_IsSpace_J0.P → Option (impl_IsSpace_J0.P ⊕ impl_IsSpace_O0.P)
  | ((x, t16, t17, t18, ()), ()) => bif (decide (t18 < t17)) then (guardB (inb t18 (List.length t16)) (match impl_isState ((List.getD t16 (Int.toNat t18) ([] : (List Int))), ()) () with | some ((r, ()), ()) => (bif (!r) then (some (.inr (.inl ((false, ()), ())))) else (bif (decide ((0 : Int) < t18)) then (guardB (inb (w64 (t18 - (1 : Int))) (List.length x.1)) (match slices_Compare_int_int ((List.getD x.1 (Int.toNat (w64 (t18 - (1 : Int)))) ([] : (List Int))), (List.getD t16 (Int.toNat t18) ([] : (List Int))), ()) () with | some ((r2, ()), ()) => (bif (decide ((0 : Int) ≤ r2)) then (some (.inr (.inl ((false, ()), ())))) else (some (.inl ((x, t16, t17, (w64 (t18 + (1 : Int))), ()), ())))) | none => none)) else (some (.inl ((x, t16, t17, (w64 (t18 + (1 : Int))), ()), ()))))) | none => none)) else (some (.inr (.inr ((x, ()), ()))))
noncomputable def impl_IsSpace : argP impl_IsSpace_a → obP (extObs 0 impl_IsSpace_o) → Option impl_IsSpace_E.P
  | (x, ()), () => bif (decide ((300 : Int) < (List.length x.1 : Int))) then (some ((false, ()), ())) else (bif (decide ((6000 : Int) < (List.length x.2 : Int))) then (some ((false, ()), ())) else (match loopO impl_IsSpace_B0 ((x, x.1, (List.length x.1 : Int), (0 : Int), ()), ()) with | some (.inl ((t2, ()), ())) => some ((t2, ()), ()) | some (.inr ((x2, ()), ())) => (match impl_isPairs (x2.2, (List.length x2.1 : Int), ()) () with | some ((r, ()), ()) => some ((r, ()), ()) | none => none) | none => none))
noncomputable def impl_IsSpace_x : Cx := ⟨tab, impl_isPairs_e, fun _ _ => 0, fun _ => false, [(4, 0), (24, 0), (24, 1), (24, 2), (24, 3), (37, 0), (37, 1), (37, 2), (37, 3), (47, 0), (47, 1), (47, 2), (47, 3)], [(1, 0)]⟩
noncomputable def c125 : Code := bodyOf Try.f125
noncomputable def impl_IsSpace_A : Ann := .seq .nil (.seq .nil (.seq (.seq .nil (.loop impl_IsSpace_J0 impl_IsSpace_O0 impl_IsSpace_B0 .nil)) .nil))
theorem impl_IsSpace_r0 (p : impl_IsSpace_J0.P) : run impl_IsSpace_x (subc [1, 1, 0, 1, 0, 0] c125) .nil (impl_IsSpace_J0.S p) (leaf impl_IsSpace_J0 impl_IsSpace_O0) = impl_IsSpace_B0 p := by kernel_rfl
noncomputable def impl_IsSpace_D : Ve.Fn := ⟨125, impl_IsSpace_a, impl_IsSpace_o, impl_IsSpace_E, impl_IsSpace⟩
theorem impl_IsSpace_w : Walk Try.prog impl_IsSpace_x impl_IsSpace_D Try.f125 c125 48 impl_IsSpace_A :=
  ⟨⟨Try.func125, by kernel_rfl, by kernel_rfl, by kernel_rfl, by decide, by kernel_rfl, Nat.le_of_ble_eq_true (by kernel_rfl)⟩, by kernel_rfl, by kernel_rfl, by kernel_rfl, kcast (by kernel_rfl) (⟨impl_IsSpace_r0, trivial⟩ : (∀ p, run impl_IsSpace_x (subc [1, 1, 0, 1, 0, 0] c125) .nil (impl_IsSpace_J0.S p) (leaf impl_IsSpace_J0 impl_IsSpace_O0) = impl_IsSpace_B0 p) ∧ True), by kernel_rfl, fun x y => by kernel_rfl⟩
theorem impl_IsSpace_s : impl_IsSpace_D.Says Try.prog := impl_IsSpace_w.says follows tabOk impl_isPairs_e_ok
noncomputable def impl_IsSpace_e : Env := more impl_isPairs_e impl_IsSpace_D
theorem impl_IsSpace_e_ok : EnvOk Try.prog impl_IsSpace_e := more_ok impl_isPairs_e_ok impl_IsSpace_s
/-! loop.example/g01128/impl.areLoads$1 -/
abbrev impl_areLoads_1_E : Ve.End := ⟨[⟨2, .shr, .bool, none⟩], []⟩
abbrev impl_areLoads_1_a : List ASh := [.val I]
abbrev impl_areLoads_1_o : List OSh := []
noncomputable def impl_areLoads_1 : argP impl_areLoads_1_a → obP (extObs 0 impl_areLoads_1_o) → Option impl_areLoads_1_E.P
  | (n, ()), () => match impl_between (n, (0 : Int), (999 : Int), ()) () with | some ((r, ()), ()) => some (((!r), ()), ()) | none => none
noncomputable def impl_areLoads_1_x : Cx := ⟨tab, impl_IsSpace_e, fun _ _ => 0, fun _ => false, [(4, 0), (4, 1), (4, 2), (4, 3)], []⟩
noncomputable def c149 : Code := bodyOf Try.f149
noncomputable def impl_areLoads_1_A : Ann := .nil
noncomputable def impl_areLoads_1_D : Ve.Fn := ⟨149, impl_areLoads_1_a, impl_areLoads_1_o, impl_areLoads_1_E, impl_areLoads_1⟩
theorem impl_areLoads_1_w : Walk Try.prog impl_areLoads_1_x impl_areLoads_1_D Try.f149 c149 6 impl_areLoads_1_A :=
  ⟨⟨Try.func149, by kernel_rfl, by kernel_rfl, by kernel_rfl, by decide, by kernel_rfl, Nat.le_of_ble_eq_true (by kernel_rfl)⟩, by kernel_rfl, by kernel_rfl, by kernel_rfl, kcast (by kernel_rfl) trivial, by kernel_rfl, fun x y => by kernel_rfl⟩
theorem impl_areLoads_1_s : impl_areLoads_1_D.Says Try.prog := impl_areLoads_1_w.says follows tabOk impl_IsSpace_e_ok
noncomputable def impl_areLoads_1_e : Env := more impl_IsSpace_e impl_areLoads_1_D
theorem impl_areLoads_1_e_ok : EnvOk Try.prog impl_areLoads_1_e := more_ok impl_IsSpace_e_ok impl_areLoads_1_s
/-! slices.IndexFunc[[]int,int] -/
abbrev slices_IndexFunc_int_int_vf_impl_areLoads_1_J0 : Tpl := ⟨[(0, .val (.list I)), (1, .fn ⟨149, []⟩), (7, .val I), (8, .val I)], [], []⟩
abbrev slices_IndexFunc_int_int_vf_impl_areLoads_1_J1 : Tpl := ⟨[(4, .val I)], [], []⟩
abbrev slices_IndexFunc_int_int_vf_impl_areLoads_1_J2 : Tpl := ⟨[], [], []⟩
abbrev slices_IndexFunc_int_int_vf_impl_areLoads_1_E : Ve.End := ⟨[⟨4, .shr, I, none⟩], []⟩
abbrev slices_IndexFunc_int_int_vf_impl_areLoads_1_a : List ASh := [.val (.list I), .fn 149 []]
abbrev slices_IndexFunc_int_int_vf_impl_areLoads_1_o : List OSh := []
abbrev slices_IndexFunc_int_int_vf_impl_areLoads_1_O0 : Out := .or .ret slices_IndexFunc_int_int_vf_impl_areLoads_1_J1 (.one (.ex 0) slices_IndexFunc_int_int_vf_impl_areLoads_1_J2)
noncomputable def slices_IndexFunc_int_int_vf_impl_areLoads_1_B0 : slices_IndexFunc_int_int_vf_impl_areLoads_1_J0.P → Option (slices_IndexFunc_int_int_vf_impl_areLoads_1_J0.P ⊕ slices_IndexFunc_int_int_vf_impl_areLoads_1_O0.P)
  | ((s, t7, t8, ()), ()) => bif (decide (t8 < t7)) then (guardB (inb t8 (List.length s)) (match impl_areLoads_1 ((List.getD s (Int.toNat t8) (0 : Int)), ()) () with | some ((r, ()), ()) => (bif r then (some (.inr (.inl ((t8, ()), ())))) else (some (.inl ((s, t7, (w64 (t8 + (1 : Int))), ()), ())))) | none => none)) else (some (.inr (.inr ((), ()))))
noncomputable def slices_IndexFunc_int_int_vf_impl_areLoads_1 : argP slices_IndexFunc_int_int_vf_impl_areLoads_1_a → obP (extObs 0 slices_IndexFunc_int_int_vf_impl_areLoads_1_o) → Option slices_IndexFunc_int_int_vf_impl_areLoads_1_E.P
  | (s, ()), () => match loopO slices_IndexFunc_int_int_vf_impl_areLoads_1_B0 ((s, (List.length s : Int), (0 : Int), ()), ()) with | some (.inl ((t4, ()), ())) => some ((t4, ()), ()) | some (.inr ((), ())) => some (((-1 : Int), ()), ()) | none => none
noncomputable def slices_IndexFunc_int_int_vf_impl_areLoads_1_x : Cx := ⟨tab, impl_areLoads_1_e, fun _ _ => 0, fun _ => false, [(16, 0), (16, 1), (16, 2), (16, 3)], []⟩
noncomputable def slices_IndexFunc_int_int_vf_impl_areLoads_1_A : Ann := .seq .nil (.seq (.seq .nil (.loop slices_IndexFunc_int_int_vf_impl_areLoads_1_J0 slices_IndexFunc_int_int_vf_impl_areLoads_1_O0 slices_IndexFunc_int_int_vf_impl_areLoads_1_B0 .nil)) .nil)
theorem slices_IndexFunc_int_int_vf_impl_areLoads_1_r0 (p : slices_IndexFunc_int_int_vf_impl_areLoads_1_J0.P) : run slices_IndexFunc_int_int_vf_impl_areLoads_1_x (subc [1, 0, 1, 0, 0] c138) .nil (slices_IndexFunc_int_int_vf_impl_areLoads_1_J0.S p) (leaf slices_IndexFunc_int_int_vf_impl_areLoads_1_J0 slices_IndexFunc_int_int_vf_impl_areLoads_1_O0) = slices_IndexFunc_int_int_vf_impl_areLoads_1_B0 p := by kernel_rfl
noncomputable def slices_IndexFunc_int_int_vf_impl_areLoads_1_D : Ve.Fn := ⟨138, slices_IndexFunc_int_int_vf_impl_areLoads_1_a, slices_IndexFunc_int_int_vf_impl_areLoads_1_o, slices_IndexFunc_int_int_vf_impl_areLoads_1_E, slices_IndexFunc_int_int_vf_impl_areLoads_1⟩
theorem slices_IndexFunc_int_int_vf_impl_areLoads_1_w : Walk Try.prog slices_IndexFunc_int_int_vf_impl_areLoads_1_x slices_IndexFunc_int_int_vf_impl_areLoads_1_D Try.f138 c138 19 slices_IndexFunc_int_int_vf_impl_areLoads_1_A :=
  ⟨⟨Try.func138, by kernel_rfl, by kernel_rfl, by kernel_rfl, by decide, by kernel_rfl, Nat.le_of_ble_eq_true (by kernel_rfl)⟩, by kernel_rfl, by kernel_rfl, by kernel_rfl, kcast (by kernel_rfl) (⟨slices_IndexFunc_int_int_vf_impl_areLoads_1_r0, trivial⟩ : (∀ p, run slices_IndexFunc_int_int_vf_impl_areLoads_1_x (subc [1, 0, 1, 0, 0] c138) .nil (slices_IndexFunc_int_int_vf_impl_areLoads_1_J0.S p) (leaf slices_IndexFunc_int_int_vf_impl_areLoads_1_J0 slices_IndexFunc_int_int_vf_impl_areLoads_1_O0) = slices_IndexFunc_int_int_vf_impl_areLoads_1_B0 p) ∧ True), by kernel_rfl, fun x y => by kernel_rfl⟩
theorem slices_IndexFunc_int_int_vf_impl_areLoads_1_s : slices_IndexFunc_int_int_vf_impl_areLoads_1_D.Says Try.prog := slices_IndexFunc_int_int_vf_impl_areLoads_1_w.says follows tabOk impl_areLoads_1_e_ok
noncomputable def slices_IndexFunc_int_int_vf_impl_areLoads_1_e : Env := more impl_areLoads_1_e slices_IndexFunc_int_int_vf_impl_areLoads_1_D
theorem slices_IndexFunc_int_int_vf_impl_areLoads_1_e_ok : EnvOk Try.prog slices_IndexFunc_int_int_vf_impl_areLoads_1_e := more_ok impl_areLoads_1_e_ok slices_IndexFunc_int_int_vf_impl_areLoads_1_s
/-! slices.ContainsFunc[[]int,int] -/
abbrev slices_ContainsFunc_int_int_vf_impl_areLoads_1_E : Ve.End := ⟨[⟨4, .shr, .bool, none⟩], []⟩
abbrev slices_ContainsFunc_int_int_vf_impl_areLoads_1_a : List ASh := [.val (.list I), .fn 149 []]
abbrev slices_ContainsFunc_int_int_vf_impl_areLoads_1_o : List OSh := []
noncomputable def slices_ContainsFunc_int_int_vf_impl_areLoads_1 : argP slices_ContainsFunc_int_int_vf_impl_areLoads_1_a → obP (extObs 0 slices_ContainsFunc_int_int_vf_impl_areLoads_1_o) → Option slices_ContainsFunc_int_int_vf_impl_areLoads_1_E.P
  | (s, ()), () => match slices_IndexFunc_int_int_vf_impl_areLoads_1 (s, ()) () with | some ((r, ()), ()) => some (((decide ((0 : Int) ≤ r)), ()), ()) | none => none
noncomputable def slices_ContainsFunc_int_int_vf_impl_areLoads_1_x : Cx := ⟨tab, slices_IndexFunc_int_int_vf_impl_areLoads_1_e, fun _ _ => 0, fun _ => false, [(7, 0), (7, 1), (7, 2), (7, 3)], []⟩
noncomputable def slices_ContainsFunc_int_int_vf_impl_areLoads_1_A : Ann := .nil
noncomputable def slices_ContainsFunc_int_int_vf_impl_areLoads_1_D : Ve.Fn := ⟨103, slices_ContainsFunc_int_int_vf_impl_areLoads_1_a, slices_ContainsFunc_int_int_vf_impl_areLoads_1_o, slices_ContainsFunc_int_int_vf_impl_areLoads_1_E, slices_ContainsFunc_int_int_vf_impl_areLoads_1⟩
theorem slices_ContainsFunc_int_int_vf_impl_areLoads_1_w : Walk Try.prog slices_ContainsFunc_int_int_vf_impl_areLoads_1_x slices_ContainsFunc_int_int_vf_impl_areLoads_1_D Try.f103 c103 9 slices_ContainsFunc_int_int_vf_impl_areLoads_1_A :=
  ⟨⟨Try.func103, by kernel_rfl, by kernel_rfl, by kernel_rfl, by decide, by kernel_rfl, Nat.le_of_ble_eq_true (by kernel_rfl)⟩, by kernel_rfl, by kernel_rfl, by kernel_rfl, kcast (by kernel_rfl) trivial, by kernel_rfl, fun x y => by kernel_rfl⟩
theorem slices_ContainsFunc_int_int_vf_impl_areLoads_1_s : slices_ContainsFunc_int_int_vf_impl_areLoads_1_D.Says Try.prog := slices_ContainsFunc_int_int_vf_impl_areLoads_1_w.says follows tabOk slices_IndexFunc_int_int_vf_impl_areLoads_1_e_ok
noncomputable def slices_ContainsFunc_int_int_vf_impl_areLoads_1_e : Env := more slices_IndexFunc_int_int_vf_impl_areLoads_1_e slices_ContainsFunc_int_int_vf_impl_areLoads_1_D
theorem slices_ContainsFunc_int_int_vf_impl_areLoads_1_e_ok : EnvOk Try.prog slices_ContainsFunc_int_int_vf_impl_areLoads_1_e := more_ok slices_IndexFunc_int_int_vf_impl_areLoads_1_e_ok slices_ContainsFunc_int_int_vf_impl_areLoads_1_s
/-! loop.example/g01128/impl.areLoads -/
abbrev impl_areLoads_E : Ve.End := ⟨[⟨4, .shr, .bool, none⟩], []⟩
abbrev impl_areLoads_a : List ASh := [.val (.list I), .val I]
abbrev impl_areLoads_o : List OSh := []
noncomputable def impl_areLoads : argP impl_areLoads_a → obP (extObs 0 impl_areLoads_o) → Option impl_areLoads_E.P
  | (list, many, ()), () => bif ((List.length list : Int) == many) then (match slices_ContainsFunc_int_int_vf_impl_areLoads_1 (list, ()) () with | some ((r, ()), ()) => some (((!r), ()), ()) | none => none) else (some ((false, ()), ()))
noncomputable def impl_areLoads_x : Cx := ⟨tab, slices_ContainsFunc_int_int_vf_impl_areLoads_1_e, fun _ _ => 0, fun _ => false, [(11, 0), (11, 1), (11, 2), (11, 3)], []⟩
noncomputable def c126 : Code := bodyOf Try.f126
noncomputable def impl_areLoads_A : Ann := .nil
noncomputable def impl_areLoads_D : Ve.Fn := ⟨126, impl_areLoads_a, impl_areLoads_o, impl_areLoads_E, impl_areLoads⟩
theorem impl_areLoads_w : Walk Try.prog impl_areLoads_x impl_areLoads_D Try.f126 c126 14 impl_areLoads_A :=
  ⟨⟨Try.func126, by kernel_rfl, by kernel_rfl, by kernel_rfl, by decide, by kernel_rfl, Nat.le_of_ble_eq_true (by kernel_rfl)⟩, by kernel_rfl, by kernel_rfl, by kernel_rfl, kcast (by kernel_rfl) trivial, by kernel_rfl, fun x y => by kernel_rfl⟩
theorem impl_areLoads_s : impl_areLoads_D.Says Try.prog := impl_areLoads_w.says follows tabOk slices_ContainsFunc_int_int_vf_impl_areLoads_1_e_ok
noncomputable def impl_areLoads_e : Env := more slices_ContainsFunc_int_int_vf_impl_areLoads_1_e impl_areLoads_D
theorem impl_areLoads_e_ok : EnvOk Try.prog impl_areLoads_e := more_ok slices_ContainsFunc_int_int_vf_impl_areLoads_1_e_ok impl_areLoads_s
/-! loop.example/g01128/impl.isHigh -/
abbrev impl_isHigh_E : Ve.End := ⟨[⟨4, .shr, .bool, none⟩], []⟩
abbrev impl_isHigh_a : List ASh := [.val (.prod (.list (.list I)) (.list (.prod I I))), .val (.list I)]
abbrev impl_isHigh_o : List OSh := []
noncomputable def impl_isHigh : argP impl_isHigh_a → obP (extObs 0 impl_isHigh_o) → Option impl_isHigh_E.P
  | (x, heights, ()), () => match impl_IsSpace (x, ()) () with | some ((r, ()), ()) => (bif r then (match impl_areLoads (heights, (List.length x.1 : Int), ()) () with | some ((r2, ()), ()) => some ((r2, ()), ()) | none => none) else (some ((false, ()), ()))) | none => none
noncomputable def impl_isHigh_x : Cx := ⟨tab, impl_areLoads_e, fun _ _ => 0, fun _ => false, [(6, 0), (6, 1), (6, 2), (6, 3), (12, 0), (12, 1), (12, 2), (12, 3)], [(2, 0)]⟩
noncomputable def c85 : Code := bodyOf Try.f85
noncomputable def impl_isHigh_A : Ann := .nil
noncomputable def impl_isHigh_D : Ve.Fn := ⟨85, impl_isHigh_a, impl_isHigh_o, impl_isHigh_E, impl_isHigh⟩
theorem impl_isHigh_w : Walk Try.prog impl_isHigh_x impl_isHigh_D Try.f85 c85 14 impl_isHigh_A :=
  ⟨⟨Try.func85, by kernel_rfl, by kernel_rfl, by kernel_rfl, by decide, by kernel_rfl, Nat.le_of_ble_eq_true (by kernel_rfl)⟩, by kernel_rfl, by kernel_rfl, by kernel_rfl, kcast (by kernel_rfl) trivial, by kernel_rfl, fun x y => by kernel_rfl⟩
theorem impl_isHigh_s : impl_isHigh_D.Says Try.prog := impl_isHigh_w.says follows tabOk impl_areLoads_e_ok
noncomputable def impl_isHigh_e : Env := more impl_areLoads_e impl_isHigh_D
theorem impl_isHigh_e_ok : EnvOk Try.prog impl_isHigh_e := more_ok impl_areLoads_e_ok impl_isHigh_s
/-! loop.example/g01128/impl.below -/
abbrev impl_below_J0 : Tpl := ⟨[(1, .val I), (5, .own .shr I), (9, .val (.list I)), (10, .val I), (11, .val I)], [], []⟩
abbrev impl_below_J1 : Tpl := ⟨[(5, .own .shr I)], [], []⟩
abbrev impl_below_E : Ve.End := ⟨[⟨4, (.own .shr), (.list I), none⟩], []⟩
abbrev impl_below_a : List ASh := [.val (.list I), .val I]
abbrev impl_below_o : List OSh := []
abbrev impl_below_O0 : Out := .one (.ex 0) impl_below_J1
noncomputable def impl_below_B0 : impl_below_J0.P → Option (impl_below_J0.P ⊕ impl_below_O0.P)
  | ((level, out, t9, t10, t11, ()), ()) => bif (decide (t11 < t10)) then (guardB (inb t11 (List.length t9)) (bif (decide ((List.getD t9 (Int.toNat t11) (0 : Int)) ≤ level)) then (guardB (decide ((List.length out + List.length [t11]) * 8 ≤ 70368744177664)) (some (.inl ((level, (out ++ [t11]), t9, t10, (w64 (t11 + (1 : Int))), ()), ())))) else (some (.inl ((level, out, t9, t10, (w64 (t11 + (1 : Int))), ()), ()))))) else (some (.inr ((out, ()), ())))
noncomputable def impl_below : argP impl_below_a → obP (extObs 0 impl_below_o) → Option impl_below_E.P
  | (heights, level, ()), () => match loopO impl_below_B0 ((level, ([] : (List Int)), heights, (List.length heights : Int), (0 : Int), ()), ()) with | some ((out, ()), ()) => some ((out, ()), ()) | none => none
noncomputable def impl_below_x : Cx := ⟨tab, impl_isHigh_e, fun _ _ => 0, fun _ => false, [(21, 0)], []⟩
noncomputable def c94 : Code := bodyOf Try.f94
noncomputable def impl_below_A : Ann := .seq .nil (.seq .nil (.seq (.seq .nil (.loop impl_below_J0 impl_below_O0 impl_below_B0 .nil)) .nil))
theorem impl_below_r0 (p : impl_below_J0.P) : run impl_below_x (subc [1, 1, 0, 1, 0, 0] c94) .nil (impl_below_J0.S p) (leaf impl_below_J0 impl_below_O0) = impl_below_B0 p := by kernel_rfl
noncomputable def impl_below_D : Ve.Fn := ⟨94, impl_below_a, impl_below_o, impl_below_E, impl_below⟩
theorem impl_below_w : Walk Try.prog impl_below_x impl_below_D Try.f94 c94 25 impl_below_A :=
  ⟨⟨Try.func94, by kernel_rfl, by kernel_rfl, by kernel_rfl, by decide, by kernel_rfl, Nat.le_of_ble_eq_true (by kernel_rfl)⟩, by kernel_rfl, by kernel_rfl, by kernel_rfl, kcast (by kernel_rfl) (⟨impl_below_r0, trivial⟩ : (∀ p, run impl_below_x (subc [1, 1, 0, 1, 0, 0] c94) .nil (impl_below_J0.S p) (leaf impl_below_J0 impl_below_O0) = impl_below_B0 p) ∧ True), by kernel_rfl, fun x y => by kernel_rfl⟩
theorem impl_below_s : impl_below_D.Says Try.prog := impl_below_w.says follows tabOk impl_isHigh_e_ok
noncomputable def impl_below_e : Env := more impl_isHigh_e impl_below_D
theorem impl_below_e_ok : EnvOk Try.prog impl_below_e := more_ok impl_isHigh_e_ok impl_below_s
/-! loop.example/g01128/impl.isRising -/
abbrev impl_isRising_J0 : Tpl := ⟨[(0, .val (.list I)), (1, .val I), (7, .val (.list I)), (8, .val I), (9, .val I)], [], []⟩
abbrev impl_isRising_J1 : Tpl := ⟨[(4, .val .bool)], [], []⟩
abbrev impl_isRising_J2 : Tpl := ⟨[], [], []⟩
abbrev impl_isRising_E : Ve.End := ⟨[⟨4, .shr, .bool, none⟩], []⟩
abbrev impl_isRising_a : List ASh := [.val (.list I), .val I]
abbrev impl_isRising_o : List OSh := []
abbrev impl_isRising_O0 : Out := .or .ret impl_isRising_J1 (.one (.ex 0) impl_isRising_J2)
noncomputable def impl_isRising_B0 : impl_isRising_J0.P → Option (impl_isRising_J0.P ⊕ impl_isRising_O0.P)
  | ((list, below, t7, t8, t9, ()), ()) => bif (decide (t9 < t8)) then (guardB (inb t9 (List.length t7)) (match impl_between ((List.getD t7 (Int.toNat t9) (0 : Int)), (0 : Int), (w64 (below - (1 : Int))), ()) () with | some ((r, ()), ()) => (bif (!r) then (some (.inr (.inl ((false, ()), ())))) else (bif (decide ((0 : Int) < t9)) then (guardB (inb (w64 (t9 - (1 : Int))) (List.length list)) (bif (decide ((List.getD t7 (Int.toNat t9) (0 : Int)) ≤ (List.getD list (Int.toNat (w64 (t9 - (1 : Int)))) (0 : Int)))) then (some (.inr (.inl ((false, ()), ())))) else (some (.inl ((list, below, t7, t8, (w64 (t9 + (1 : Int))), ()), ()))))) else (some (.inl ((list, below, t7, t8, (w64 (t9 + (1 : Int))), ()), ()))))) | none => none)) else (some (.inr (.inr ((), ()))))
noncomputable def impl_isRising : argP impl_isRising_a → obP (extObs 0 impl_isRising_o) → Option impl_isRising_E.P
  | (list, below, ()), () => match loopO impl_isRising_B0 ((list, below, list, (List.length list : Int), (0 : Int), ()), ()) with | some (.inl ((t4, ()), ())) => some ((t4, ()), ()) | some (.inr ((), ())) => some ((true, ()), ()) | none => none
noncomputable def impl_isRising_x : Cx := ⟨tab, impl_below_e, fun _ _ => 0, fun _ => false, [(17, 0), (17, 1), (17, 2), (17, 3)], []⟩
noncomputable def c133 : Code := bodyOf Try.f133
noncomputable def impl_isRising_A : Ann := .seq .nil (.seq (.seq .nil (.loop impl_isRising_J0 impl_isRising_O0 impl_isRising_B0 .nil)) .nil)
theorem impl_isRising_r0 (p : impl_isRising_J0.P) : run impl_isRising_x (subc [1, 0, 1, 0, 0] c133) .nil (impl_isRising_J0.S p) (leaf impl_isRising_J0 impl_isRising_O0) = impl_isRising_B0 p := by kernel_rfl
noncomputable def impl_isRising_D : Ve.Fn := ⟨133, impl_isRising_a, impl_isRising_o, impl_isRising_E, impl_isRising⟩
theorem impl_isRising_w : Walk Try.prog impl_isRising_x impl_isRising_D Try.f133 c133 33 impl_isRising_A :=
  ⟨⟨Try.func133, by kernel_rfl, by kernel_rfl, by kernel_rfl, by decide, by kernel_rfl, Nat.le_of_ble_eq_true (by kernel_rfl)⟩, by kernel_rfl, by kernel_rfl, by kernel_rfl, kcast (by kernel_rfl) (⟨impl_isRising_r0, trivial⟩ : (∀ p, run impl_isRising_x (subc [1, 0, 1, 0, 0] c133) .nil (impl_isRising_J0.S p) (leaf impl_isRising_J0 impl_isRising_O0) = impl_isRising_B0 p) ∧ True), by kernel_rfl, fun x y => by kernel_rfl⟩
theorem impl_isRising_s : impl_isRising_D.Says Try.prog := impl_isRising_w.says follows tabOk impl_below_e_ok
noncomputable def impl_isRising_e : Env := more impl_below_e impl_isRising_D
theorem impl_isRising_e_ok : EnvOk Try.prog impl_isRising_e := more_ok impl_below_e_ok impl_isRising_s
noncomputable def slices_Clone_int_int_e : Env := more impl_isRising_e (cloneFn 72)
theorem slices_Clone_int_int_e_ok : EnvOk Try.prog slices_Clone_int_int_e := more_ok impl_isRising_e_ok clone_s
noncomputable abbrev slices_Clone_int_int := (cloneFn 72).F
/-! cmp.Less[int] -/
abbrev cmp_Less_int_E : Ve.End := ⟨[⟨4, .shr, .bool, none⟩], []⟩
abbrev cmp_Less_int_a : List ASh := [.val I, .val I]
abbrev cmp_Less_int_o : List OSh := []
noncomputable def cmp_Less_int : argP cmp_Less_int_a → obP (extObs 0 cmp_Less_int_o) → Option cmp_Less_int_E.P
  | (x, y, ()), () => match cmp_isNaN_int (x, ()) () with | some ((r, ()), ()) => (bif r then (match cmp_isNaN_int (y, ()) () with | some ((r2, ()), ()) => (bif (!r2) then (some ((true, ()), ())) else (some (((decide (x < y)), ()), ()))) | none => none) else (some (((decide (x < y)), ()), ()))) | none => none
noncomputable def cmp_Less_int_x : Cx := ⟨tab, slices_Clone_int_int_e, fun _ _ => 0, fun _ => false, [(6, 0), (6, 1), (6, 2), (6, 3), (9, 0), (9, 1), (9, 2), (9, 3)], []⟩
noncomputable def c155 : Code := bodyOf Try.f155
noncomputable def cmp_Less_int_A : Ann := .nil
noncomputable def cmp_Less_int_D : Ve.Fn := ⟨155, cmp_Less_int_a, cmp_Less_int_o, cmp_Less_int_E, cmp_Less_int⟩
theorem cmp_Less_int_w : Walk Try.prog cmp_Less_int_x cmp_Less_int_D Try.f155 c155 17 cmp_Less_int_A :=
  ⟨⟨Try.func155, by kernel_rfl, by kernel_rfl, by kernel_rfl, by decide, by kernel_rfl, Nat.le_of_ble_eq_true (by kernel_rfl)⟩, by kernel_rfl, by kernel_rfl, by kernel_rfl, kcast (by kernel_rfl) trivial, by kernel_rfl, fun x y => by kernel_rfl⟩
theorem cmp_Less_int_s : cmp_Less_int_D.Says Try.prog := cmp_Less_int_w.says follows tabOk slices_Clone_int_int_e_ok
noncomputable def cmp_Less_int_e : Env := more slices_Clone_int_int_e cmp_Less_int_D
theorem cmp_Less_int_e_ok : EnvOk Try.prog cmp_Less_int_e := more_ok slices_Clone_int_int_e_ok cmp_Less_int_s
/-! slices.isNaN[int] -/
abbrev slices_isNaN_int_E : Ve.End := ⟨[⟨2, .shr, .bool, none⟩], []⟩
abbrev slices_isNaN_int_a : List ASh := [.val I]
abbrev slices_isNaN_int_o : List OSh := []
noncomputable def slices_isNaN_int : argP slices_isNaN_int_a → obP (extObs 0 slices_isNaN_int_o) → Option slices_isNaN_int_E.P
  | (x, ()), () => some (((x != x), ()), ())
noncomputable def slices_isNaN_int_x : Cx := ⟨tab, cmp_Less_int_e, fun _ _ => 0, fun _ => false, [], []⟩
noncomputable def c156 : Code := bodyOf Try.f156
noncomputable def slices_isNaN_int_A : Ann := .nil
noncomputable def slices_isNaN_int_D : Ve.Fn := ⟨156, slices_isNaN_int_a, slices_isNaN_int_o, slices_isNaN_int_E, slices_isNaN_int⟩
theorem slices_isNaN_int_w : Walk Try.prog slices_isNaN_int_x slices_isNaN_int_D Try.f156 c156 6 slices_isNaN_int_A :=
  ⟨⟨Try.func156, by kernel_rfl, by kernel_rfl, by kernel_rfl, by decide, by kernel_rfl, Nat.le_of_ble_eq_true (by kernel_rfl)⟩, by kernel_rfl, by kernel_rfl, by kernel_rfl, kcast (by kernel_rfl) trivial, by kernel_rfl, fun x y => by kernel_rfl⟩
theorem slices_isNaN_int_s : slices_isNaN_int_D.Says Try.prog := slices_isNaN_int_w.says follows tabOk cmp_Less_int_e_ok
noncomputable def slices_isNaN_int_e : Env := more cmp_Less_int_e slices_isNaN_int_D
theorem slices_isNaN_int_e_ok : EnvOk Try.prog slices_isNaN_int_e := more_ok cmp_Less_int_e_ok slices_isNaN_int_s
/-! slices.BinarySearch[[]int,int] -/
abbrev slices_BinarySearch_int_int_J0 : Tpl := ⟨[(0, .val (.list I)), (1, .val I), (6, .val I), (7, .val I), (8, .val I)], [], []⟩
abbrev slices_BinarySearch_int_int_J1 : Tpl := ⟨[(0, .val (.list I)), (1, .val I), (6, .val I), (7, .val I)], [], []⟩
abbrev slices_BinarySearch_int_int_E : Ve.End := ⟨[⟨4, .shr, I, none⟩, ⟨5, .shr, .bool, none⟩], []⟩
abbrev slices_BinarySearch_int_int_a : List ASh := [.val (.list I), .val I]
abbrev slices_BinarySearch_int_int_o : List OSh := []
abbrev slices_BinarySearch_int_int_O0 : Out := .one (.ex 0) slices_BinarySearch_int_int_J1
noncomputable def slices_BinarySearch_int_int_B0 : slices_BinarySearch_int_int_J0.P → Option (slices_BinarySearch_int_int_J0.P ⊕ slices_BinarySearch_int_int_O0.P)
  | ((x, target, n, i, j, ()), ()) => bif (decide (i < j)) then (guardB (inb (w64 (Int.fdiv (IntKind.wrap .u64 (w64 (i + j))) (2 ^ (min 1 64)))) (List.length x)) (match cmp_Less_int ((List.getD x (Int.toNat (w64 (Int.fdiv (IntKind.wrap .u64 (w64 (i + j))) (2 ^ (min 1 64))))) (0 : Int)), target, ()) () with | some ((r, ()), ()) => (bif r then (some (.inl ((x, target, n, (w64 ((w64 (Int.fdiv (IntKind.wrap .u64 (w64 (i + j))) (2 ^ (min 1 64)))) + (1 : Int))), j, ()), ()))) else (some (.inl ((x, target, n, i, (w64 (Int.fdiv (IntKind.wrap .u64 (w64 (i + j))) (2 ^ (min 1 64)))), ()), ())))) | none => none)) else (some (.inr ((x, target, n, i, ()), ())))
noncomputable def slices_BinarySearch_int_int : argP slices_BinarySearch_int_int_a → obP (extObs 0 slices_BinarySearch_int_int_o) → Option slices_BinarySearch_int_int_E.P
  | (x, target, ()), () => match loopO slices_BinarySearch_int_int_B0 ((x, target, (List.length x : Int), (0 : Int), (List.length x : Int), ()), ()) with | some ((x2, target2, n, i, ()), ()) => (bif (decide (i < n)) then (guardB (inb i (List.length x2)) (bif ((List.getD x2 (Int.toNat i) (0 : Int)) == target2) then (some ((i, true, ()), ())) else (guardB (inb i (List.length x2)) (match slices_isNaN_int ((List.getD x2 (Int.toNat i) (0 : Int)), ()) () with | some ((r, ()), ()) => (bif r then (match slices_isNaN_int (target2, ()) () with | some ((r2, ()), ()) => some ((i, r2, ()), ()) | none => none) else (some ((i, false, ()), ()))) | none => none)))) else (some ((i, false, ()), ()))) | none => none
noncomputable def slices_BinarySearch_int_int_x : Cx := ⟨tab, slices_isNaN_int_e, fun _ _ => 0, fun _ => false, [(27, 0), (27, 1), (27, 2), (27, 3), (47, 0), (47, 1), (47, 2), (47, 3), (50, 0), (50, 1), (50, 2), (50, 3)], []⟩
noncomputable def c134 : Code := bodyOf Try.f134
noncomputable def slices_BinarySearch_int_int_A : Ann := .seq .nil (.seq .nil (.seq .nil (.seq (.loop slices_BinarySearch_int_int_J0 slices_BinarySearch_int_int_O0 slices_BinarySearch_int_int_B0 .nil) .nil)))
theorem slices_BinarySearch_int_int_r0 (p : slices_BinarySearch_int_int_J0.P) : run slices_BinarySearch_int_int_x (subc [1, 1, 1, 0, 0, 0] c134) .nil (slices_BinarySearch_int_int_J0.S p) (leaf slices_BinarySearch_int_int_J0 slices_BinarySearch_int_int_O0) = slices_BinarySearch_int_int_B0 p := by kernel_rfl
noncomputable def slices_BinarySearch_int_int_D : Ve.Fn := ⟨134, slices_BinarySearch_int_int_a, slices_BinarySearch_int_int_o, slices_BinarySearch_int_int_E, slices_BinarySearch_int_int⟩
theorem slices_BinarySearch_int_int_w : Walk Try.prog slices_BinarySearch_int_int_x slices_BinarySearch_int_int_D Try.f134 c134 54 slices_BinarySearch_int_int_A :=
  ⟨⟨Try.func134, by kernel_rfl, by kernel_rfl, by kernel_rfl, by decide, by kernel_rfl, Nat.le_of_ble_eq_true (by kernel_rfl)⟩, by kernel_rfl, by kernel_rfl, by kernel_rfl, kcast (by kernel_rfl) (⟨slices_BinarySearch_int_int_r0, trivial⟩ : (∀ p, run slices_BinarySearch_int_int_x (subc [1, 1, 1, 0, 0, 0] c134) .nil (slices_BinarySearch_int_int_J0.S p) (leaf slices_BinarySearch_int_int_J0 slices_BinarySearch_int_int_O0) = slices_BinarySearch_int_int_B0 p) ∧ True), by kernel_rfl, fun x y => by kernel_rfl⟩
theorem slices_BinarySearch_int_int_s : slices_BinarySearch_int_int_D.Says Try.prog := slices_BinarySearch_int_int_w.says follows tabOk slices_isNaN_int_e_ok
noncomputable def slices_BinarySearch_int_int_e : Env := more slices_isNaN_int_e slices_BinarySearch_int_int_D
theorem slices_BinarySearch_int_int_e_ok : EnvOk Try.prog slices_BinarySearch_int_int_e := more_ok slices_isNaN_int_e_ok slices_BinarySearch_int_int_s
/-! loop.example/g01128/impl.InducedSpace -/
abbrev impl_InducedSpace_J0 : Tpl := ⟨[(1, .val (.list I)), (2, .cst (.prod (.list (.list I)) (.list (.prod I I)))), (4, .ptr (4, 0)), (6, .ptr (6, 0)), (28, .val (.list I)), (29, .val I), (30, .val I)], [((4, 0), .box (.prod (.own (.own .shr)) (.own .shr)) (.prod (.list (.list I)) (.list (.prod I I)))), ((6, 0), .box (.prod (.own (.own .shr)) (.own .shr)) (.prod (.list (.list I)) (.list (.prod I I))))], []⟩
abbrev impl_InducedSpace_J1 : Tpl := ⟨[(1, .val (.list I)), (2, .cst (.prod (.list (.list I)) (.list (.prod I I)))), (4, .ptr (4, 0)), (6, .ptr (6, 0))], [((4, 0), .box (.prod (.own (.own .shr)) (.own .shr)) (.prod (.list (.list I)) (.list (.prod I I)))), ((6, 0), .box (.prod (.own (.own .shr)) (.own .shr)) (.prod (.list (.list I)) (.list (.prod I I))))], []⟩
abbrev impl_InducedSpace_J2 : Tpl := ⟨[(1, .val (.list I)), (4, .ptr (4, 0)), (6, .ptr (6, 0)), (47, .val (.list (.prod I I))), (48, .val I), (49, .val I)], [((4, 0), .box (.prod (.own (.own .shr)) (.own .shr)) (.prod (.list (.list I)) (.list (.prod I I)))), ((6, 0), .box (.prod (.own (.own .shr)) (.own .shr)) (.prod (.list (.list I)) (.list (.prod I I))))], []⟩
abbrev impl_InducedSpace_J3 : Tpl := ⟨[(4, .ptr (4, 0)), (6, .ptr (6, 0))], [((4, 0), .box (.prod (.own (.own .shr)) (.own .shr)) (.prod (.list (.list I)) (.list (.prod I I)))), ((6, 0), .box (.prod (.own (.own .shr)) (.own .shr)) (.prod (.list (.list I)) (.list (.prod I I))))], []⟩
abbrev impl_InducedSpace_J4 : Tpl := ⟨[(1, .val (.list I)), (2, .cst (.prod (.list (.list I)) (.list (.prod I I)))), (4, .ptr (4, 0)), (6, .ptr (6, 0)), (28, .val (.list I)), (29, .val I), (30, .val I), (34, .adp (6, 0) [.fst]), (40, .val (.list I))], [((4, 0), .box (.prod (.own (.own .shr)) (.own .shr)) (.prod (.list (.list I)) (.list (.prod I I)))), ((6, 0), .box (.prod (.own (.own .shr)) (.own .shr)) (.prod (.list (.list I)) (.list (.prod I I))))], []⟩
abbrev impl_InducedSpace_E : Ve.End := ⟨[⟨4, (.prod (.own (.own .shr)) (.own .shr)), (.prod (.list (.list I)) (.list (.prod I I))), some 55⟩, ⟨5, .shr, .bool, none⟩], []⟩
abbrev impl_InducedSpace_a : List ASh := [.val (.prod (.list (.list I)) (.list (.prod I I))), .val (.list I)]
abbrev impl_InducedSpace_o : List OSh := []
noncomputable def impl_InducedSpace_D0 : impl_InducedSpace_J4.P → Option impl_InducedSpace_J0.P
  | ((t1, t2, t28, t29, t30, t40, ()), (t4, t6, ())) => match slices_Clone_int_int (t40, ()) () with | some ((r, ()), ()) => guardB (decide ((List.length t6.1 + List.length [r]) * 24 ≤ 70368744177664)) (some ((t1, t2, t28, t29, t30, ()), (t4, ((t6.1 ++ [r]), t6.2), ()))) | none => none
noncomputable def impl_InducedSpace_T0 : DT impl_InducedSpace_J0 := .node impl_InducedSpace_J4 impl_InducedSpace_D0 (.br [(1, .sole), (7, .sole), (8, .sole), (9, .sole), (10, .flo), (11, .sole)] .fin (.br [(7, .sole), (1, .qui), (8, .sole), (9, .sole), (10, .flo), (11, .sole)] .fin .nobr))
abbrev impl_InducedSpace_O0 : Out := .one (.ex 0) impl_InducedSpace_J1
noncomputable def impl_InducedSpace_B0 : impl_InducedSpace_J0.P → Option (impl_InducedSpace_J0.P ⊕ impl_InducedSpace_O0.P)
  | ((t1, t2, t28, t29, t30, ()), (t4, t6, ())) => bif (decide (t30 < t29)) then (guardB (inb t30 (List.length t28)) (guardB (inb (List.getD t28 (Int.toNat t30) (0 : Int)) (List.length t2.1)) (match impl_InducedSpace_D0 ((t1, t2, t28, t29, t30, (List.getD t2.1 (Int.toNat (List.getD t28 (Int.toNat t30) (0 : Int))) ([] : (List Int))), ()), (t4, t6, ())) with | some ((t1_2, t2_2, t28_2, t29_2, t30_2, ()), (t4_2, t6_2, ())) => some (.inl ((t1_2, t2_2, t28_2, t29_2, (w64 (t30_2 + (1 : Int))), ()), (t4_2, t6_2, ()))) | none => none))) else (some (.inr ((t1, t2, ()), (t4, t6, ()))))
abbrev impl_InducedSpace_O1 : Out := .one (.ex 2) impl_InducedSpace_J3
noncomputable def impl_InducedSpace_B1 : impl_InducedSpace_J2.P → Option (impl_InducedSpace_J2.P ⊕ impl_InducedSpace_O1.P)
  | ((t1, t47, t48, t49, ()), (t4, t6, ())) => bif (decide (t49 < t48)) then (guardB (inb t49 (List.length t47)) (match slices_BinarySearch_int_int (t1, (List.getD t47 (Int.toNat t49) ((0 : Int), (0 : Int))).1, ()) () with | some ((r, r2, ()), ()) => (match slices_BinarySearch_int_int (t1, (List.getD t47 (Int.toNat t49) ((0 : Int), (0 : Int))).2, ()) () with | some ((r3, r4, ()), ()) => (bif r2 then (bif r4 then (guardB (decide ((List.length t6.2 + List.length [(r, r3)]) * 16 ≤ 70368744177664)) (some (.inl ((t1, t47, t48, (w64 (t49 + (1 : Int))), ()), (t4, (t6.1, (t6.2 ++ [(r, r3)])), ()))))) else (some (.inl ((t1, t47, t48, (w64 (t49 + (1 : Int))), ()), (t4, t6, ()))))) else (some (.inl ((t1, t47, t48, (w64 (t49 + (1 : Int))), ()), (t4, t6, ()))))) | none => none) | none => none)) else (some (.inr ((), (t4, t6, ()))))
noncomputable def impl_InducedSpace : argP impl_InducedSpace_a → obP (extObs 0 impl_InducedSpace_o) → Option impl_InducedSpace_E.P
  | (t0, t1, ()), () => match impl_IsSpace (t0, ()) () with | some ((r, ()), ()) => (bif (!r) then (some (((([] : (List (List Int))), ([] : (List (Int × Int)))), false, ()), ())) else (match impl_isRising (t1, (List.length t0.1 : Int), ()) () with | some ((r2, ()), ()) => (bif (!r2) then (some (((([] : (List (List Int))), ([] : (List (Int × Int)))), false, ()), ())) else (match loopO impl_InducedSpace_B0 ((t1, t0, t1, (List.length t1 : Int), (0 : Int), ()), ((([] : (List (List Int))), ([] : (List (Int × Int)))), (([] : (List (List Int))), ([] : (List (Int × Int)))), ())) with | some ((t1_2, t2, ()), (t4, t6, ())) => (match loopO impl_InducedSpace_B1 ((t1_2, t2.2, (List.length t2.2 : Int), (0 : Int), ()), (t4, t6, ())) with | some ((), (t4_2, t6_2, ())) => some (((t6_2.1, t6_2.2), true, ()), ()) | none => none) | none => none)) | none => none)) | none => none
noncomputable def impl_InducedSpace_x : Cx := ⟨tab, slices_BinarySearch_int_int_e, fun _ _ => 0, fun _ => false, [(16, 0), (16, 1), (16, 2), (16, 3), (23, 0), (23, 1), (23, 2), (23, 3), (57, 0), (57, 1), (57, 2), (57, 3), (64, 0), (64, 1), (64, 2), (64, 3), (76, 0)], [(2, 0), (10, 0)]⟩
noncomputable def c93 : Code := bodyOf Try.f93
noncomputable def impl_InducedSpace_A : Ann := .seq .nil (.seq .nil (.seq .nil (.seq (.seq .nil (.loop impl_InducedSpace_J0 impl_InducedSpace_O0 impl_InducedSpace_B0 (.seq .nil (.seq .nil (.seq (.seq .nil (.draws [(0, .flo), (2, .flo), (3, .flo), (4, .flo), (5, .flo), (6, .flo)] impl_InducedSpace_J0 impl_InducedSpace_T0)) .nil))))) (.seq (.seq .nil (.loop impl_InducedSpace_J2 impl_InducedSpace_O1 impl_InducedSpace_B1 .nil)) .nil))))
theorem impl_InducedSpace_r0 (p : impl_InducedSpace_J0.P) : run impl_InducedSpace_x (subc [1, 1, 1, 0, 1, 0, 0] c93) (.seq .nil (.seq .nil (.seq (.seq .nil (.draws [(0, .flo), (2, .flo), (3, .flo), (4, .flo), (5, .flo), (6, .flo)] impl_InducedSpace_J0 impl_InducedSpace_T0)) .nil))) (impl_InducedSpace_J0.S p) (leaf impl_InducedSpace_J0 impl_InducedSpace_O0) = impl_InducedSpace_B0 p := by kernel_rfl
theorem impl_InducedSpace_D0b0 (p : impl_InducedSpace_J4.P) : runDrawn impl_InducedSpace_x (opsOf (subc [1, 1, 1, 0, 1, 0, 0, 1, 1, 0, 0, 1] c93)) [(1, .sole), (7, .sole), (8, .sole), (9, .sole), (10, .flo), (11, .sole)] (impl_InducedSpace_J4.S p) (endT impl_InducedSpace_x (.fin : DT impl_InducedSpace_J0)) = impl_InducedSpace_D0 p := by kernel_rfl
theorem impl_InducedSpace_D0b1 (p : impl_InducedSpace_J4.P) : runDrawn impl_InducedSpace_x (opsOf (subc [1, 1, 1, 0, 1, 0, 0, 1, 1, 0, 0, 1] c93)) [(7, .sole), (1, .qui), (8, .sole), (9, .sole), (10, .flo), (11, .sole)] (impl_InducedSpace_J4.S p) (endT impl_InducedSpace_x (.fin : DT impl_InducedSpace_J0)) = impl_InducedSpace_D0 p := by kernel_rfl
theorem impl_InducedSpace_r2 (p : impl_InducedSpace_J2.P) : run impl_InducedSpace_x (subc [1, 1, 1, 1, 0, 1, 0, 0] c93) .nil (impl_InducedSpace_J2.S p) (leaf impl_InducedSpace_J2 impl_InducedSpace_O1) = impl_InducedSpace_B1 p := by kernel_rfl
noncomputable def impl_InducedSpace_D : Ve.Fn := ⟨93, impl_InducedSpace_a, impl_InducedSpace_o, impl_InducedSpace_E, impl_InducedSpace⟩
theorem impl_InducedSpace_w : Walk Try.prog impl_InducedSpace_x impl_InducedSpace_D Try.f93 c93 81 impl_InducedSpace_A :=
  ⟨⟨Try.func93, by kernel_rfl, by kernel_rfl, by kernel_rfl, by decide, by kernel_rfl, Nat.le_of_ble_eq_true (by kernel_rfl)⟩, by kernel_rfl, by kernel_rfl, by kernel_rfl, kcast (by kernel_rfl) (⟨impl_InducedSpace_r0, impl_InducedSpace_D0b0, impl_InducedSpace_D0b1, impl_InducedSpace_r2, trivial⟩ : (∀ p, run impl_InducedSpace_x (subc [1, 1, 1, 0, 1, 0, 0] c93) (.seq .nil (.seq .nil (.seq (.seq .nil (.draws [(0, .flo), (2, .flo), (3, .flo), (4, .flo), (5, .flo), (6, .flo)] impl_InducedSpace_J0 impl_InducedSpace_T0)) .nil))) (impl_InducedSpace_J0.S p) (leaf impl_InducedSpace_J0 impl_InducedSpace_O0) = impl_InducedSpace_B0 p) ∧ (∀ p, runDrawn impl_InducedSpace_x (opsOf (subc [1, 1, 1, 0, 1, 0, 0, 1, 1, 0, 0, 1] c93)) [(1, .sole), (7, .sole), (8, .sole), (9, .sole), (10, .flo), (11, .sole)] (impl_InducedSpace_J4.S p) (endT impl_InducedSpace_x (.fin : DT impl_InducedSpace_J0)) = impl_InducedSpace_D0 p) ∧ (∀ p, runDrawn impl_InducedSpace_x (opsOf (subc [1, 1, 1, 0, 1, 0, 0, 1, 1, 0, 0, 1] c93)) [(7, .sole), (1, .qui), (8, .sole), (9, .sole), (10, .flo), (11, .sole)] (impl_InducedSpace_J4.S p) (endT impl_InducedSpace_x (.fin : DT impl_InducedSpace_J0)) = impl_InducedSpace_D0 p) ∧ (∀ p, run impl_InducedSpace_x (subc [1, 1, 1, 1, 0, 1, 0, 0] c93) .nil (impl_InducedSpace_J2.S p) (leaf impl_InducedSpace_J2 impl_InducedSpace_O1) = impl_InducedSpace_B1 p) ∧ True), by kernel_rfl, fun x y => by kernel_rfl⟩
theorem impl_InducedSpace_s : impl_InducedSpace_D.Says Try.prog := impl_InducedSpace_w.says follows tabOk slices_BinarySearch_int_int_e_ok
noncomputable def impl_InducedSpace_e : Env := more slices_BinarySearch_int_int_e impl_InducedSpace_D
theorem impl_InducedSpace_e_ok : EnvOk Try.prog impl_InducedSpace_e := more_ok slices_BinarySearch_int_int_e_ok impl_InducedSpace_s
/-! loop.example/g01128/impl.LevelSpace -/
abbrev impl_LevelSpace_E : Ve.End := ⟨[⟨6, (.prod (.own (.own .shr)) (.own .shr)), (.prod (.list (.list I)) (.list (.prod I I))), some 55⟩, ⟨7, .shr, .bool, none⟩], []⟩
abbrev impl_LevelSpace_a : List ASh := [.val (.prod (.list (.list I)) (.list (.prod I I))), .val (.list I), .val I]
abbrev impl_LevelSpace_o : List OSh := []
noncomputable def impl_LevelSpace : argP impl_LevelSpace_a → obP (extObs 0 impl_LevelSpace_o) → Option impl_LevelSpace_E.P
  | (x, heights, level, ()), () => match impl_isHigh (x, heights, ()) () with | some ((r, ()), ()) => (bif (!r) then (some (((([] : (List (List Int))), ([] : (List (Int × Int)))), false, ()), ())) else (match impl_between (level, (0 : Int), (999 : Int), ()) () with | some ((r2, ()), ()) => (bif (!r2) then (some (((([] : (List (List Int))), ([] : (List (Int × Int)))), false, ()), ())) else (match impl_below (heights, level, ()) () with | some ((r3, ()), ()) => (match impl_InducedSpace (x, r3, ()) () with | some ((r4, r5, ()), ()) => some (((r4.1, r4.2), r5, ()), ()) | none => none) | none => none)) | none => none)) | none => none
noncomputable def impl_LevelSpace_x : Cx := ⟨tab, impl_InducedSpace_e, fun _ _ => 0, fun _ => false, [(10, 0), (10, 1), (10, 2), (10, 3), (14, 0), (14, 1), (14, 2), (14, 3), (21, 0), (21, 1), (21, 2), (21, 3)], [(3, 0)]⟩
noncomputable def c50 : Code := bodyOf Try.f50
noncomputable def impl_LevelSpace_A : Ann := .seq .nil (.seq .nil (.seq (.draw [(0, .flo), (1, .flo), (2, .flo), (3, .sole), (4, .sole), (5, .flo), (6, .flo), (7, .sole), (8, .flo)]) .nil))
noncomputable def impl_LevelSpace_D : Ve.Fn := ⟨50, impl_LevelSpace_a, impl_LevelSpace_o, impl_LevelSpace_E, impl_LevelSpace⟩
theorem impl_LevelSpace_w : Walk Try.prog impl_LevelSpace_x impl_LevelSpace_D Try.f50 c50 25 impl_LevelSpace_A :=
  ⟨⟨Try.func50, by kernel_rfl, by kernel_rfl, by kernel_rfl, by decide, by kernel_rfl, Nat.le_of_ble_eq_true (by kernel_rfl)⟩, by kernel_rfl, by kernel_rfl, by kernel_rfl, kcast (by kernel_rfl) trivial, by kernel_rfl, fun x y => by kernel_rfl⟩
theorem impl_LevelSpace_s : impl_LevelSpace_D.Says Try.prog := impl_LevelSpace_w.says follows tabOk impl_InducedSpace_e_ok
noncomputable def impl_LevelSpace_e : Env := more impl_InducedSpace_e impl_LevelSpace_D
theorem impl_LevelSpace_e_ok : EnvOk Try.prog impl_LevelSpace_e := more_ok impl_InducedSpace_e_ok impl_LevelSpace_s
/-! loop.example/g01128/laws.eqIntS -/
abbrev laws_eqIntS_J0 : Tpl := ⟨[(0, .val (.list I)), (1, .val (.list I)), (5, .val I)], [], []⟩
abbrev laws_eqIntS_J1 : Tpl := ⟨[(4, .val .bool)], [], []⟩
abbrev laws_eqIntS_J2 : Tpl := ⟨[], [], []⟩
abbrev laws_eqIntS_E : Ve.End := ⟨[⟨4, .shr, .bool, none⟩], []⟩
abbrev laws_eqIntS_a : List ASh := [.val (.list I), .val (.list I)]
abbrev laws_eqIntS_o : List OSh := []
abbrev laws_eqIntS_O0 : Out := .or .ret laws_eqIntS_J1 (.one (.ex 0) laws_eqIntS_J2)
noncomputable def laws_eqIntS_B0 : laws_eqIntS_J0.P → Option (laws_eqIntS_J0.P ⊕ laws_eqIntS_O0.P)
  | ((a, b, i, ()), ()) => bif (decide (i < (List.length a : Int))) then (guardB (inb i (List.length a)) (guardB (inb i (List.length b)) (bif ((List.getD a (Int.toNat i) (0 : Int)) != (List.getD b (Int.toNat i) (0 : Int))) then (some (.inr (.inl ((false, ()), ())))) else (some (.inl ((a, b, (w64 (i + (1 : Int))), ()), ())))))) else (some (.inr (.inr ((), ()))))
noncomputable def laws_eqIntS : argP laws_eqIntS_a → obP (extObs 0 laws_eqIntS_o) → Option laws_eqIntS_E.P
  | (a, b, ()), () => bif ((List.length a : Int) != (List.length b : Int)) then (some ((false, ()), ())) else (match loopO laws_eqIntS_B0 ((a, b, (0 : Int), ()), ()) with | some (.inl ((t4, ()), ())) => some ((t4, ()), ()) | some (.inr ((), ())) => some ((true, ()), ()) | none => none)
noncomputable def laws_eqIntS_x : Cx := ⟨tab, impl_LevelSpace_e, fun _ _ => 0, fun _ => false, [], []⟩
noncomputable def c21 : Code := bodyOf Try.f21
noncomputable def laws_eqIntS_A : Ann := .seq .nil (.seq .nil (.seq (.seq .nil (.loop laws_eqIntS_J0 laws_eqIntS_O0 laws_eqIntS_B0 (.seq .nil (.seq (.seq (.draw [(0, .flo), (1, .flo), (2, .flo), (3, .flo), (4, .flo), (5, .flo), (6, .flo), (7, .flo), (8, .flo)]) .nil) .nil)))) .nil))
theorem laws_eqIntS_r0 (p : laws_eqIntS_J0.P) : run laws_eqIntS_x (subc [1, 1, 0, 1, 0, 0] c21) (.seq .nil (.seq (.seq (.draw [(0, .flo), (1, .flo), (2, .flo), (3, .flo), (4, .flo), (5, .flo), (6, .flo), (7, .flo), (8, .flo)]) .nil) .nil)) (laws_eqIntS_J0.S p) (leaf laws_eqIntS_J0 laws_eqIntS_O0) = laws_eqIntS_B0 p := by kernel_rfl
noncomputable def laws_eqIntS_D : Ve.Fn := ⟨21, laws_eqIntS_a, laws_eqIntS_o, laws_eqIntS_E, laws_eqIntS⟩
theorem laws_eqIntS_w : Walk Try.prog laws_eqIntS_x laws_eqIntS_D Try.f21 c21 26 laws_eqIntS_A :=
  ⟨⟨Try.func21, by kernel_rfl, by kernel_rfl, by kernel_rfl, by decide, by kernel_rfl, Nat.le_of_ble_eq_true (by kernel_rfl)⟩, by kernel_rfl, by kernel_rfl, by kernel_rfl, kcast (by kernel_rfl) (⟨laws_eqIntS_r0, trivial⟩ : (∀ p, run laws_eqIntS_x (subc [1, 1, 0, 1, 0, 0] c21) (.seq .nil (.seq (.seq (.draw [(0, .flo), (1, .flo), (2, .flo), (3, .flo), (4, .flo), (5, .flo), (6, .flo), (7, .flo), (8, .flo)]) .nil) .nil)) (laws_eqIntS_J0.S p) (leaf laws_eqIntS_J0 laws_eqIntS_O0) = laws_eqIntS_B0 p) ∧ True), by kernel_rfl, fun x y => by kernel_rfl⟩
theorem laws_eqIntS_s : laws_eqIntS_D.Says Try.prog := laws_eqIntS_w.says follows tabOk impl_LevelSpace_e_ok
noncomputable def laws_eqIntS_e : Env := more impl_LevelSpace_e laws_eqIntS_D
theorem laws_eqIntS_e_ok : EnvOk Try.prog laws_eqIntS_e := more_ok impl_LevelSpace_e_ok laws_eqIntS_s
/-! loop.example/g01128/laws.eqIntSS -/
abbrev laws_eqIntSS_J0 : Tpl := ⟨[(0, .val (.list (.list I))), (1, .val (.list (.list I))), (5, .val I)], [], []⟩
abbrev laws_eqIntSS_J1 : Tpl := ⟨[(4, .val .bool)], [], []⟩
abbrev laws_eqIntSS_J2 : Tpl := ⟨[], [], []⟩
abbrev laws_eqIntSS_E : Ve.End := ⟨[⟨4, .shr, .bool, none⟩], []⟩
abbrev laws_eqIntSS_a : List ASh := [.val (.list (.list I)), .val (.list (.list I))]
abbrev laws_eqIntSS_o : List OSh := []
abbrev laws_eqIntSS_O0 : Out := .or .ret laws_eqIntSS_J1 (.one (.ex 0) laws_eqIntSS_J2)
noncomputable def laws_eqIntSS_B0 : laws_eqIntSS_J0.P → Option (laws_eqIntSS_J0.P ⊕ laws_eqIntSS_O0.P)
  | ((a, b, i, ()), ()) => bif (decide (i < (List.length a : Int))) then (guardB (inb i (List.length a)) (guardB (inb i (List.length b)) (match laws_eqIntS ((List.getD a (Int.toNat i) ([] : (List Int))), (List.getD b (Int.toNat i) ([] : (List Int))), ()) () with | some ((r, ()), ()) => (bif (!r) then (some (.inr (.inl ((false, ()), ())))) else (some (.inl ((a, b, (w64 (i + (1 : Int))), ()), ())))) | none => none))) else (some (.inr (.inr ((), ()))))
noncomputable def laws_eqIntSS : argP laws_eqIntSS_a → obP (extObs 0 laws_eqIntSS_o) → Option laws_eqIntSS_E.P
  | (a, b, ()), () => bif ((List.length a : Int) != (List.length b : Int)) then (some ((false, ()), ())) else (match loopO laws_eqIntSS_B0 ((a, b, (0 : Int), ()), ()) with | some (.inl ((t4, ()), ())) => some ((t4, ()), ()) | some (.inr ((), ())) => some ((true, ()), ()) | none => none)
noncomputable def laws_eqIntSS_x : Cx := ⟨tab, laws_eqIntS_e, fun _ _ => 0, fun _ => false, [(25, 0), (25, 1), (25, 2), (25, 3)], []⟩
noncomputable def c81 : Code := bodyOf Try.f81
noncomputable def laws_eqIntSS_A : Ann := .seq .nil (.seq .nil (.seq (.seq .nil (.loop laws_eqIntSS_J0 laws_eqIntSS_O0 laws_eqIntSS_B0 (.seq .nil (.seq (.seq (.draw [(0, .flo), (1, .flo), (2, .flo), (3, .flo), (4, .flo), (5, .flo), (6, .flo), (7, .flo), (8, .sole), (9, .flo)]) .nil) .nil)))) .nil))
theorem laws_eqIntSS_r0 (p : laws_eqIntSS_J0.P) : run laws_eqIntSS_x (subc [1, 1, 0, 1, 0, 0] c81) (.seq .nil (.seq (.seq (.draw [(0, .flo), (1, .flo), (2, .flo), (3, .flo), (4, .flo), (5, .flo), (6, .flo), (7, .flo), (8, .sole), (9, .flo)]) .nil) .nil)) (laws_eqIntSS_J0.S p) (leaf laws_eqIntSS_J0 laws_eqIntSS_O0) = laws_eqIntSS_B0 p := by kernel_rfl
noncomputable def laws_eqIntSS_D : Ve.Fn := ⟨81, laws_eqIntSS_a, laws_eqIntSS_o, laws_eqIntSS_E, laws_eqIntSS⟩
theorem laws_eqIntSS_w : Walk Try.prog laws_eqIntSS_x laws_eqIntSS_D Try.f81 c81 27 laws_eqIntSS_A :=
  ⟨⟨Try.func81, by kernel_rfl, by kernel_rfl, by kernel_rfl, by decide, by kernel_rfl, Nat.le_of_ble_eq_true (by kernel_rfl)⟩, by kernel_rfl, by kernel_rfl, by kernel_rfl, kcast (by kernel_rfl) (⟨laws_eqIntSS_r0, trivial⟩ : (∀ p, run laws_eqIntSS_x (subc [1, 1, 0, 1, 0, 0] c81) (.seq .nil (.seq (.seq (.draw [(0, .flo), (1, .flo), (2, .flo), (3, .flo), (4, .flo), (5, .flo), (6, .flo), (7, .flo), (8, .sole), (9, .flo)]) .nil) .nil)) (laws_eqIntSS_J0.S p) (leaf laws_eqIntSS_J0 laws_eqIntSS_O0) = laws_eqIntSS_B0 p) ∧ True), by kernel_rfl, fun x y => by kernel_rfl⟩
theorem laws_eqIntSS_s : laws_eqIntSS_D.Says Try.prog := laws_eqIntSS_w.says follows tabOk laws_eqIntS_e_ok
noncomputable def laws_eqIntSS_e : Env := more laws_eqIntS_e laws_eqIntSS_D
theorem laws_eqIntSS_e_ok : EnvOk Try.prog laws_eqIntSS_e := more_ok laws_eqIntS_e_ok laws_eqIntSS_s
/-! loop.example/g01128/laws.eqIntA2 -/
abbrev laws_eqIntA2_J0 : Tpl := ⟨[(2, .cst (.prod I I)), (3, .cst (.prod I I)), (5, .val I)], [], []⟩
abbrev laws_eqIntA2_J1 : Tpl := ⟨[(4, .val .bool)], [], []⟩
abbrev laws_eqIntA2_J2 : Tpl := ⟨[], [], []⟩
abbrev laws_eqIntA2_E : Ve.End := ⟨[⟨4, .shr, .bool, none⟩], []⟩
abbrev laws_eqIntA2_a : List ASh := [.val (.prod I I), .val (.prod I I)]
abbrev laws_eqIntA2_o : List OSh := []
abbrev laws_eqIntA2_O0 : Out := .or .ret laws_eqIntA2_J1 (.one (.ex 0) laws_eqIntA2_J2)
noncomputable def laws_eqIntA2_B0 : laws_eqIntA2_J0.P → Option (laws_eqIntA2_J0.P ⊕ laws_eqIntA2_O0.P)
  | ((a, b, i, ()), ()) => bif (decide (i < (2 : Int))) then (guardB (decide (0 ≤ i) && decide (i < 2)) (guardB (decide (0 ≤ i) && decide (i < 2)) (bif ((bif Nat.beq (Int.toNat i) 0 then a.1 else a.2) != (bif Nat.beq (Int.toNat i) 0 then b.1 else b.2)) then (some (.inr (.inl ((false, ()), ())))) else (some (.inl ((a, b, (w64 (i + (1 : Int))), ()), ())))))) else (some (.inr (.inr ((), ()))))
noncomputable def laws_eqIntA2 : argP laws_eqIntA2_a → obP (extObs 0 laws_eqIntA2_o) → Option laws_eqIntA2_E.P
  | (a, b, ()), () => match loopO laws_eqIntA2_B0 ((a, b, (0 : Int), ()), ()) with | some (.inl ((t4, ()), ())) => some ((t4, ()), ()) | some (.inr ((), ())) => some ((true, ()), ()) | none => none
noncomputable def laws_eqIntA2_x : Cx := ⟨tab, laws_eqIntSS_e, fun _ _ => 0, fun _ => false, [], [(2, 0), (3, 0)]⟩
noncomputable def c69 : Code := bodyOf Try.f69
noncomputable def laws_eqIntA2_A : Ann := .seq .nil (.seq (.seq .nil (.loop laws_eqIntA2_J0 laws_eqIntA2_O0 laws_eqIntA2_B0 (.seq .nil (.seq (.seq (.draw [(0, .flo), (1, .flo), (2, .flo), (3, .flo), (4, .flo), (5, .flo), (6, .flo)]) .nil) .nil)))) .nil)
theorem laws_eqIntA2_r0 (p : laws_eqIntA2_J0.P) : run laws_eqIntA2_x (subc [1, 0, 1, 0, 0] c69) (.seq .nil (.seq (.seq (.draw [(0, .flo), (1, .flo), (2, .flo), (3, .flo), (4, .flo), (5, .flo), (6, .flo)]) .nil) .nil)) (laws_eqIntA2_J0.S p) (leaf laws_eqIntA2_J0 laws_eqIntA2_O0) = laws_eqIntA2_B0 p := by kernel_rfl
noncomputable def laws_eqIntA2_D : Ve.Fn := ⟨69, laws_eqIntA2_a, laws_eqIntA2_o, laws_eqIntA2_E, laws_eqIntA2⟩
theorem laws_eqIntA2_w : Walk Try.prog laws_eqIntA2_x laws_eqIntA2_D Try.f69 c69 17 laws_eqIntA2_A :=
  ⟨⟨Try.func69, by kernel_rfl, by kernel_rfl, by kernel_rfl, by decide, by kernel_rfl, Nat.le_of_ble_eq_true (by kernel_rfl)⟩, by kernel_rfl, by kernel_rfl, by kernel_rfl, kcast (by kernel_rfl) (⟨laws_eqIntA2_r0, trivial⟩ : (∀ p, run laws_eqIntA2_x (subc [1, 0, 1, 0, 0] c69) (.seq .nil (.seq (.seq (.draw [(0, .flo), (1, .flo), (2, .flo), (3, .flo), (4, .flo), (5, .flo), (6, .flo)]) .nil) .nil)) (laws_eqIntA2_J0.S p) (leaf laws_eqIntA2_J0 laws_eqIntA2_O0) = laws_eqIntA2_B0 p) ∧ True), by kernel_rfl, fun x y => by kernel_rfl⟩
theorem laws_eqIntA2_s : laws_eqIntA2_D.Says Try.prog := laws_eqIntA2_w.says follows tabOk laws_eqIntSS_e_ok
noncomputable def laws_eqIntA2_e : Env := more laws_eqIntSS_e laws_eqIntA2_D
theorem laws_eqIntA2_e_ok : EnvOk Try.prog laws_eqIntA2_e := more_ok laws_eqIntSS_e_ok laws_eqIntA2_s
/-! loop.example/g01128/laws.eqIntA2S -/
abbrev laws_eqIntA2S_J0 : Tpl := ⟨[(0, .val (.list (.prod I I))), (1, .val (.list (.prod I I))), (5, .val I)], [], []⟩
abbrev laws_eqIntA2S_J1 : Tpl := ⟨[(4, .val .bool)], [], []⟩
abbrev laws_eqIntA2S_J2 : Tpl := ⟨[], [], []⟩
abbrev laws_eqIntA2S_E : Ve.End := ⟨[⟨4, .shr, .bool, none⟩], []⟩
abbrev laws_eqIntA2S_a : List ASh := [.val (.list (.prod I I)), .val (.list (.prod I I))]
abbrev laws_eqIntA2S_o : List OSh := []
abbrev laws_eqIntA2S_O0 : Out := .or .ret laws_eqIntA2S_J1 (.one (.ex 0) laws_eqIntA2S_J2)
noncomputable def laws_eqIntA2S_B0 : laws_eqIntA2S_J0.P → Option (laws_eqIntA2S_J0.P ⊕ laws_eqIntA2S_O0.P)
  | ((a, b, i, ()), ()) => bif (decide (i < (List.length a : Int))) then (guardB (inb i (List.length a)) (guardB (inb i (List.length b)) (match laws_eqIntA2 ((List.getD a (Int.toNat i) ((0 : Int), (0 : Int))), (List.getD b (Int.toNat i) ((0 : Int), (0 : Int))), ()) () with | some ((r, ()), ()) => (bif (!r) then (some (.inr (.inl ((false, ()), ())))) else (some (.inl ((a, b, (w64 (i + (1 : Int))), ()), ())))) | none => none))) else (some (.inr (.inr ((), ()))))
noncomputable def laws_eqIntA2S : argP laws_eqIntA2S_a → obP (extObs 0 laws_eqIntA2S_o) → Option laws_eqIntA2S_E.P
  | (a, b, ()), () => bif ((List.length a : Int) != (List.length b : Int)) then (some ((false, ()), ())) else (match loopO laws_eqIntA2S_B0 ((a, b, (0 : Int), ()), ()) with | some (.inl ((t4, ()), ())) => some ((t4, ()), ()) | some (.inr ((), ())) => some ((true, ()), ()) | none => none)
noncomputable def laws_eqIntA2S_x : Cx := ⟨tab, laws_eqIntA2_e, fun _ _ => 0, fun _ => false, [(25, 0), (25, 1), (25, 2), (25, 3)], []⟩
noncomputable def c33 : Code := bodyOf Try.f33
noncomputable def laws_eqIntA2S_A : Ann := .seq .nil (.seq .nil (.seq (.seq .nil (.loop laws_eqIntA2S_J0 laws_eqIntA2S_O0 laws_eqIntA2S_B0 (.seq .nil (.seq (.seq (.draw [(0, .flo), (1, .flo), (2, .flo), (3, .flo), (4, .flo), (5, .flo), (6, .flo), (7, .flo), (8, .sole), (9, .flo)]) .nil) .nil)))) .nil))
theorem laws_eqIntA2S_r0 (p : laws_eqIntA2S_J0.P) : run laws_eqIntA2S_x (subc [1, 1, 0, 1, 0, 0] c33) (.seq .nil (.seq (.seq (.draw [(0, .flo), (1, .flo), (2, .flo), (3, .flo), (4, .flo), (5, .flo), (6, .flo), (7, .flo), (8, .sole), (9, .flo)]) .nil) .nil)) (laws_eqIntA2S_J0.S p) (leaf laws_eqIntA2S_J0 laws_eqIntA2S_O0) = laws_eqIntA2S_B0 p := by kernel_rfl
noncomputable def laws_eqIntA2S_D : Ve.Fn := ⟨33, laws_eqIntA2S_a, laws_eqIntA2S_o, laws_eqIntA2S_E, laws_eqIntA2S⟩
theorem laws_eqIntA2S_w : Walk Try.prog laws_eqIntA2S_x laws_eqIntA2S_D Try.f33 c33 27 laws_eqIntA2S_A :=
  ⟨⟨Try.func33, by kernel_rfl, by kernel_rfl, by kernel_rfl, by decide, by kernel_rfl, Nat.le_of_ble_eq_true (by kernel_rfl)⟩, by kernel_rfl, by kernel_rfl, by kernel_rfl, kcast (by kernel_rfl) (⟨laws_eqIntA2S_r0, trivial⟩ : (∀ p, run laws_eqIntA2S_x (subc [1, 1, 0, 1, 0, 0] c33) (.seq .nil (.seq (.seq (.draw [(0, .flo), (1, .flo), (2, .flo), (3, .flo), (4, .flo), (5, .flo), (6, .flo), (7, .flo), (8, .sole), (9, .flo)]) .nil) .nil)) (laws_eqIntA2S_J0.S p) (leaf laws_eqIntA2S_J0 laws_eqIntA2S_O0) = laws_eqIntA2S_B0 p) ∧ True), by kernel_rfl, fun x y => by kernel_rfl⟩
theorem laws_eqIntA2S_s : laws_eqIntA2S_D.Says Try.prog := laws_eqIntA2S_w.says follows tabOk laws_eqIntA2_e_ok
noncomputable def laws_eqIntA2S_e : Env := more laws_eqIntA2_e laws_eqIntA2S_D
theorem laws_eqIntA2S_e_ok : EnvOk Try.prog laws_eqIntA2S_e := more_ok laws_eqIntA2_e_ok laws_eqIntA2S_s
/-! loop.example/g01128/laws.eqSpace -/
abbrev laws_eqSpace_E : Ve.End := ⟨[⟨4, .shr, .bool, none⟩], []⟩
abbrev laws_eqSpace_a : List ASh := [.val (.prod (.list (.list I)) (.list (.prod I I))), .val (.prod (.list (.list I)) (.list (.prod I I)))]
abbrev laws_eqSpace_o : List OSh := []
noncomputable def laws_eqSpace : argP laws_eqSpace_a → obP (extObs 0 laws_eqSpace_o) → Option laws_eqSpace_E.P
  | (a, b, ()), () => match laws_eqIntSS (a.1, b.1, ()) () with | some ((r, ()), ()) => (bif (!r) then (some ((false, ()), ())) else (match laws_eqIntA2S (a.2, b.2, ()) () with | some ((r2, ()), ()) => (bif (!r2) then (some ((false, ()), ())) else (some ((true, ()), ()))) | none => none)) | none => none
noncomputable def laws_eqSpace_x : Cx := ⟨tab, laws_eqIntA2S_e, fun _ _ => 0, fun _ => false, [(9, 0), (9, 1), (9, 2), (9, 3), (15, 0), (15, 1), (15, 2), (15, 3)], [(2, 0), (3, 0)]⟩
noncomputable def c42 : Code := bodyOf Try.f42
noncomputable def laws_eqSpace_A : Ann := .nil
noncomputable def laws_eqSpace_D : Ve.Fn := ⟨42, laws_eqSpace_a, laws_eqSpace_o, laws_eqSpace_E, laws_eqSpace⟩
theorem laws_eqSpace_w : Walk Try.prog laws_eqSpace_x laws_eqSpace_D Try.f42 c42 17 laws_eqSpace_A :=
  ⟨⟨Try.func42, by kernel_rfl, by kernel_rfl, by kernel_rfl, by decide, by kernel_rfl, Nat.le_of_ble_eq_true (by kernel_rfl)⟩, by kernel_rfl, by kernel_rfl, by kernel_rfl, kcast (by kernel_rfl) trivial, by kernel_rfl, fun x y => by kernel_rfl⟩
theorem laws_eqSpace_s : laws_eqSpace_D.Says Try.prog := laws_eqSpace_w.says follows tabOk laws_eqIntA2S_e_ok
noncomputable def laws_eqSpace_e : Env := more laws_eqIntA2S_e laws_eqSpace_D
theorem laws_eqSpace_e_ok : EnvOk Try.prog laws_eqSpace_e := more_ok laws_eqIntA2S_e_ok laws_eqSpace_s
/-! loop.example/g01128/laws.markIntS -/
abbrev laws_markIntS_e0v_ls_J0 : Tpl := ⟨[(0, .same (1000000, 0) []), (1, .val I), (5, .val I)], [((1000000, 0), .vec .shr I)], []⟩
abbrev laws_markIntS_e0v_ls_J1 : Tpl := ⟨[(1, .val I)], [((1000000, 0), .vec .shr I)], []⟩
abbrev laws_markIntS_e0v_ls_E : Ve.End := ⟨[⟨4, .shr, I, none⟩], [.vec .shr I]⟩
abbrev laws_markIntS_e0v_ls_a : List ASh := [.ext 0, .val I]
abbrev laws_markIntS_e0v_ls_o : List OSh := [.vec .shr I]
abbrev laws_markIntS_e0v_ls_O0 : Out := .one (.ex 0) laws_markIntS_e0v_ls_J1
noncomputable def laws_markIntS_e0v_ls_B0 : laws_markIntS_e0v_ls_J0.P → Option (laws_markIntS_e0v_ls_J0.P ⊕ laws_markIntS_e0v_ls_O0.P)
  | ((k, i, ()), (o0, ())) => bif (decide (i < (List.length o0 : Int))) then (guardB (inb i (List.length o0)) (some (.inl (((w64 (k + (1 : Int))), (w64 (i + (1 : Int))), ()), ((List.set o0 (Int.toNat i) k), ()))))) else (some (.inr ((k, ()), (o0, ()))))
noncomputable def laws_markIntS_e0v_ls : argP laws_markIntS_e0v_ls_a → obP (extObs 0 laws_markIntS_e0v_ls_o) → Option laws_markIntS_e0v_ls_E.P
  | (k, ()), (o0, ()) => match loopO laws_markIntS_e0v_ls_B0 ((k, (0 : Int), ()), (o0, ())) with | some ((k2, ()), (o0_2, ())) => some ((k2, ()), (o0_2, ())) | none => none
noncomputable def laws_markIntS_e0v_ls_x : Cx := ⟨tab, laws_eqSpace_e, fun _ _ => 0, fun _ => false, [], []⟩
noncomputable def c27 : Code := bodyOf Try.f27
noncomputable def laws_markIntS_e0v_ls_A : Ann := .seq .nil (.seq (.seq .nil (.loop laws_markIntS_e0v_ls_J0 laws_markIntS_e0v_ls_O0 laws_markIntS_e0v_ls_B0 .nil)) .nil)
theorem laws_markIntS_e0v_ls_r0 (p : laws_markIntS_e0v_ls_J0.P) : run laws_markIntS_e0v_ls_x (subc [1, 0, 1, 0, 0] c27) .nil (laws_markIntS_e0v_ls_J0.S p) (leaf laws_markIntS_e0v_ls_J0 laws_markIntS_e0v_ls_O0) = laws_markIntS_e0v_ls_B0 p := by kernel_rfl
noncomputable def laws_markIntS_e0v_ls_D : Ve.Fn := ⟨27, laws_markIntS_e0v_ls_a, laws_markIntS_e0v_ls_o, laws_markIntS_e0v_ls_E, laws_markIntS_e0v_ls⟩
theorem laws_markIntS_e0v_ls_w : Walk Try.prog laws_markIntS_e0v_ls_x laws_markIntS_e0v_ls_D Try.f27 c27 19 laws_markIntS_e0v_ls_A :=
  ⟨⟨Try.func27, by kernel_rfl, by kernel_rfl, by kernel_rfl, by decide, by kernel_rfl, Nat.le_of_ble_eq_true (by kernel_rfl)⟩, by kernel_rfl, by kernel_rfl, by kernel_rfl, kcast (by kernel_rfl) (⟨laws_markIntS_e0v_ls_r0, trivial⟩ : (∀ p, run laws_markIntS_e0v_ls_x (subc [1, 0, 1, 0, 0] c27) .nil (laws_markIntS_e0v_ls_J0.S p) (leaf laws_markIntS_e0v_ls_J0 laws_markIntS_e0v_ls_O0) = laws_markIntS_e0v_ls_B0 p) ∧ True), by kernel_rfl, fun x y => by kernel_rfl⟩
theorem laws_markIntS_e0v_ls_s : laws_markIntS_e0v_ls_D.Says Try.prog := laws_markIntS_e0v_ls_w.says follows tabOk laws_eqSpace_e_ok
noncomputable def laws_markIntS_e0v_ls_e : Env := more laws_eqSpace_e laws_markIntS_e0v_ls_D
theorem laws_markIntS_e0v_ls_e_ok : EnvOk Try.prog laws_markIntS_e0v_ls_e := more_ok laws_eqSpace_e_ok laws_markIntS_e0v_ls_s
/-! loop.example/g01128/laws.markIntSS -/
abbrev laws_markIntSS_e0v_l1_J0 : Tpl := ⟨[(0, .same (1000000, 0) []), (1, .val I), (5, .val I)], [((1000000, 0), .vec (.own .shr) (.list I))], []⟩
abbrev laws_markIntSS_e0v_l1_J1 : Tpl := ⟨[(1, .val I)], [((1000000, 0), .vec (.own .shr) (.list I))], []⟩
abbrev laws_markIntSS_e0v_l1_E : Ve.End := ⟨[⟨4, .shr, I, none⟩], [.vec (.own .shr) (.list I)]⟩
abbrev laws_markIntSS_e0v_l1_a : List ASh := [.ext 0, .val I]
abbrev laws_markIntSS_e0v_l1_o : List OSh := [.vec (.own .shr) (.list I)]
abbrev laws_markIntSS_e0v_l1_O0 : Out := .one (.ex 0) laws_markIntSS_e0v_l1_J1
noncomputable def laws_markIntSS_e0v_l1_B0 : laws_markIntSS_e0v_l1_J0.P → Option (laws_markIntSS_e0v_l1_J0.P ⊕ laws_markIntSS_e0v_l1_O0.P)
  | ((k, i, ()), (o0, ())) => bif (decide (i < (List.length o0 : Int))) then (guardB (inb i (List.length o0)) (match laws_markIntS_e0v_ls (k, ()) ((List.getD o0 (Int.toNat i) ([] : (List Int))), ()) with | some ((r, ()), (o, ())) => some (.inl ((r, (w64 (i + (1 : Int))), ()), ((List.set o0 (Int.toNat i) o), ()))) | none => none)) else (some (.inr ((k, ()), (o0, ()))))
noncomputable def laws_markIntSS_e0v_l1 : argP laws_markIntSS_e0v_l1_a → obP (extObs 0 laws_markIntSS_e0v_l1_o) → Option laws_markIntSS_e0v_l1_E.P
  | (k, ()), (o0, ()) => match loopO laws_markIntSS_e0v_l1_B0 ((k, (0 : Int), ()), (o0, ())) with | some ((k2, ()), (o0_2, ())) => some ((k2, ()), (o0_2, ())) | none => none
noncomputable def laws_markIntSS_e0v_l1_x : Cx := ⟨tab, laws_markIntS_e0v_ls_e, fun f n => bif Nat.beq f 27 && Nat.beq n 0 then 1 else 0, fun _ => false, [(17, 0), (17, 1), (17, 2), (17, 3)], []⟩
noncomputable def c95 : Code := bodyOf Try.f95
noncomputable def laws_markIntSS_e0v_l1_A : Ann := .seq .nil (.seq (.seq .nil (.loop laws_markIntSS_e0v_l1_J0 laws_markIntSS_e0v_l1_O0 laws_markIntSS_e0v_l1_B0 .nil)) .nil)
theorem laws_markIntSS_e0v_l1_r0 (p : laws_markIntSS_e0v_l1_J0.P) : run laws_markIntSS_e0v_l1_x (subc [1, 0, 1, 0, 0] c95) .nil (laws_markIntSS_e0v_l1_J0.S p) (leaf laws_markIntSS_e0v_l1_J0 laws_markIntSS_e0v_l1_O0) = laws_markIntSS_e0v_l1_B0 p := by kernel_rfl
noncomputable def laws_markIntSS_e0v_l1_D : Ve.Fn := ⟨95, laws_markIntSS_e0v_l1_a, laws_markIntSS_e0v_l1_o, laws_markIntSS_e0v_l1_E, laws_markIntSS_e0v_l1⟩
theorem laws_markIntSS_e0v_l1_w : Walk Try.prog laws_markIntSS_e0v_l1_x laws_markIntSS_e0v_l1_D Try.f95 c95 19 laws_markIntSS_e0v_l1_A :=
  ⟨⟨Try.func95, by kernel_rfl, by kernel_rfl, by kernel_rfl, by decide, by kernel_rfl, Nat.le_of_ble_eq_true (by kernel_rfl)⟩, by kernel_rfl, by kernel_rfl, by kernel_rfl, kcast (by kernel_rfl) (⟨laws_markIntSS_e0v_l1_r0, trivial⟩ : (∀ p, run laws_markIntSS_e0v_l1_x (subc [1, 0, 1, 0, 0] c95) .nil (laws_markIntSS_e0v_l1_J0.S p) (leaf laws_markIntSS_e0v_l1_J0 laws_markIntSS_e0v_l1_O0) = laws_markIntSS_e0v_l1_B0 p) ∧ True), by kernel_rfl, fun x y => by kernel_rfl⟩
theorem laws_markIntSS_e0v_l1_s : laws_markIntSS_e0v_l1_D.Says Try.prog := laws_markIntSS_e0v_l1_w.says follows tabOk laws_markIntS_e0v_ls_e_ok
noncomputable def laws_markIntSS_e0v_l1_e : Env := more laws_markIntS_e0v_ls_e laws_markIntSS_e0v_l1_D
theorem laws_markIntSS_e0v_l1_e_ok : EnvOk Try.prog laws_markIntSS_e0v_l1_e := more_ok laws_markIntS_e0v_ls_e_ok laws_markIntSS_e0v_l1_s
/-! loop.example/g01128/laws.markIntA2S -/
abbrev laws_markIntA2S_e0v_ls_J0 : Tpl := ⟨[(0, .same (1000000, 0) []), (1, .val I), (5, .val I), (6, .val I)], [((1000000, 0), .vec .shr (.prod I I))], []⟩
abbrev laws_markIntA2S_e0v_ls_J1 : Tpl := ⟨[(0, .same (1000000, 0) []), (1, .val I), (5, .val I)], [((1000000, 0), .vec .shr (.prod I I))], []⟩
abbrev laws_markIntA2S_e0v_ls_J2 : Tpl := ⟨[(1, .val I)], [((1000000, 0), .vec .shr (.prod I I))], []⟩
abbrev laws_markIntA2S_e0v_ls_E : Ve.End := ⟨[⟨4, .shr, I, none⟩], [.vec .shr (.prod I I)]⟩
abbrev laws_markIntA2S_e0v_ls_a : List ASh := [.ext 0, .val I]
abbrev laws_markIntA2S_e0v_ls_o : List OSh := [.vec .shr (.prod I I)]
abbrev laws_markIntA2S_e0v_ls_O0 : Out := .one (.ex 2) laws_markIntA2S_e0v_ls_J1
noncomputable def laws_markIntA2S_e0v_ls_B0 : laws_markIntA2S_e0v_ls_J0.P → Option (laws_markIntA2S_e0v_ls_J0.P ⊕ laws_markIntA2S_e0v_ls_O0.P)
  | ((k, i, j, ()), (o0, ())) => bif (decide (j < (2 : Int))) then (guardB (inb i (List.length o0)) (guardB (decide (0 ≤ j) && decide (j < 2)) (some (.inl (((w64 (k + (1 : Int))), i, (w64 (j + (1 : Int))), ()), ((List.set o0 (Int.toNat i) (bif Nat.beq (Int.toNat j) 0 then (k, (List.getD o0 (Int.toNat i) ((0 : Int), (0 : Int))).2) else ((List.getD o0 (Int.toNat i) ((0 : Int), (0 : Int))).1, k))), ())))))) else (some (.inr ((k, i, ()), (o0, ()))))
abbrev laws_markIntA2S_e0v_ls_O1 : Out := .one (.ex 0) laws_markIntA2S_e0v_ls_J2
noncomputable def laws_markIntA2S_e0v_ls_B1 : laws_markIntA2S_e0v_ls_J1.P → Option (laws_markIntA2S_e0v_ls_J1.P ⊕ laws_markIntA2S_e0v_ls_O1.P)
  | ((k, i, ()), (o0, ())) => bif (decide (i < (List.length o0 : Int))) then (match loopO laws_markIntA2S_e0v_ls_B0 ((k, i, (0 : Int), ()), (o0, ())) with | some ((k2, i2, ()), (o0_2, ())) => some (.inl ((k2, (w64 (i2 + (1 : Int))), ()), (o0_2, ()))) | none => none) else (some (.inr ((k, ()), (o0, ()))))
noncomputable def laws_markIntA2S_e0v_ls : argP laws_markIntA2S_e0v_ls_a → obP (extObs 0 laws_markIntA2S_e0v_ls_o) → Option laws_markIntA2S_e0v_ls_E.P
  | (k, ()), (o0, ()) => match loopO laws_markIntA2S_e0v_ls_B1 ((k, (0 : Int), ()), (o0, ())) with | some ((k2, ()), (o0_2, ())) => some ((k2, ()), (o0_2, ())) | none => none
noncomputable def laws_markIntA2S_e0v_ls_x : Cx := ⟨tab, laws_markIntSS_e0v_l1_e, fun _ _ => 0, fun _ => false, [], []⟩
noncomputable def c34 : Code := bodyOf Try.f34
noncomputable def laws_markIntA2S_e0v_ls_A : Ann := .seq .nil (.seq (.seq .nil (.loop laws_markIntA2S_e0v_ls_J1 laws_markIntA2S_e0v_ls_O1 laws_markIntA2S_e0v_ls_B1 (.seq .nil (.seq (.seq .nil (.loop laws_markIntA2S_e0v_ls_J0 laws_markIntA2S_e0v_ls_O0 laws_markIntA2S_e0v_ls_B0 .nil)) .nil)))) .nil)
theorem laws_markIntA2S_e0v_ls_r0 (p : laws_markIntA2S_e0v_ls_J1.P) : run laws_markIntA2S_e0v_ls_x (subc [1, 0, 1, 0, 0] c34) (.seq .nil (.seq (.seq .nil (.loop laws_markIntA2S_e0v_ls_J0 laws_markIntA2S_e0v_ls_O0 laws_markIntA2S_e0v_ls_B0 .nil)) .nil)) (laws_markIntA2S_e0v_ls_J1.S p) (leaf laws_markIntA2S_e0v_ls_J1 laws_markIntA2S_e0v_ls_O1) = laws_markIntA2S_e0v_ls_B1 p := by kernel_rfl
theorem laws_markIntA2S_e0v_ls_r1 (p : laws_markIntA2S_e0v_ls_J0.P) : run laws_markIntA2S_e0v_ls_x (subc [1, 0, 1, 0, 0, 1, 0, 0, 1, 0, 0] c34) .nil (laws_markIntA2S_e0v_ls_J0.S p) (leaf laws_markIntA2S_e0v_ls_J0 laws_markIntA2S_e0v_ls_O0) = laws_markIntA2S_e0v_ls_B0 p := by kernel_rfl
noncomputable def laws_markIntA2S_e0v_ls_D : Ve.Fn := ⟨34, laws_markIntA2S_e0v_ls_a, laws_markIntA2S_e0v_ls_o, laws_markIntA2S_e0v_ls_E, laws_markIntA2S_e0v_ls⟩
theorem laws_markIntA2S_e0v_ls_w : Walk Try.prog laws_markIntA2S_e0v_ls_x laws_markIntA2S_e0v_ls_D Try.f34 c34 26 laws_markIntA2S_e0v_ls_A :=
  ⟨⟨Try.func34, by kernel_rfl, by kernel_rfl, by kernel_rfl, by decide, by kernel_rfl, Nat.le_of_ble_eq_true (by kernel_rfl)⟩, by kernel_rfl, by kernel_rfl, by kernel_rfl, kcast (by kernel_rfl) (⟨laws_markIntA2S_e0v_ls_r0, laws_markIntA2S_e0v_ls_r1, trivial⟩ : (∀ p, run laws_markIntA2S_e0v_ls_x (subc [1, 0, 1, 0, 0] c34) (.seq .nil (.seq (.seq .nil (.loop laws_markIntA2S_e0v_ls_J0 laws_markIntA2S_e0v_ls_O0 laws_markIntA2S_e0v_ls_B0 .nil)) .nil)) (laws_markIntA2S_e0v_ls_J1.S p) (leaf laws_markIntA2S_e0v_ls_J1 laws_markIntA2S_e0v_ls_O1) = laws_markIntA2S_e0v_ls_B1 p) ∧ (∀ p, run laws_markIntA2S_e0v_ls_x (subc [1, 0, 1, 0, 0, 1, 0, 0, 1, 0, 0] c34) .nil (laws_markIntA2S_e0v_ls_J0.S p) (leaf laws_markIntA2S_e0v_ls_J0 laws_markIntA2S_e0v_ls_O0) = laws_markIntA2S_e0v_ls_B0 p) ∧ True), by kernel_rfl, fun x y => by kernel_rfl⟩
theorem laws_markIntA2S_e0v_ls_s : laws_markIntA2S_e0v_ls_D.Says Try.prog := laws_markIntA2S_e0v_ls_w.says follows tabOk laws_markIntSS_e0v_l1_e_ok
noncomputable def laws_markIntA2S_e0v_ls_e : Env := more laws_markIntSS_e0v_l1_e laws_markIntA2S_e0v_ls_D
theorem laws_markIntA2S_e0v_ls_e_ok : EnvOk Try.prog laws_markIntA2S_e0v_ls_e := more_ok laws_markIntSS_e0v_l1_e_ok laws_markIntA2S_e0v_ls_s
/-! loop.example/g01128/laws.markSpace -/
abbrev laws_markSpace_tp0f0sv_bp21_E : Ve.End := ⟨[⟨4, .shr, I, none⟩], [.box (.prod (.own (.own .shr)) (.own .shr)) (.prod (.list (.list I)) (.list (.prod I I)))]⟩
abbrev laws_markSpace_tp0f0sv_bp21_a : List ASh := [.str (.pr (.ref (.list I) 0 [.fst]) (.ref (.prod I I) 0 [.snd])), .val I]
abbrev laws_markSpace_tp0f0sv_bp21_o : List OSh := [.box (.prod (.own (.own .shr)) (.own .shr)) (.prod (.list (.list I)) (.list (.prod I I)))]
noncomputable def laws_markSpace_tp0f0sv_bp21 : argP laws_markSpace_tp0f0sv_bp21_a → obP (extObs 0 laws_markSpace_tp0f0sv_bp21_o) → Option laws_markSpace_tp0f0sv_bp21_E.P
  | (((), ()), k, ()), (o0, ()) => match laws_markIntSS_e0v_l1 (k, ()) (o0.1, ()) with | some ((r, ()), (o, ())) => (match laws_markIntA2S_e0v_ls (r, ()) (o0.2, ()) with | some ((r2, ()), (o2, ())) => some ((r2, ()), ((o, o2), ())) | none => none) | none => none
noncomputable def laws_markSpace_tp0f0sv_bp21_x : Cx := ⟨tab, laws_markIntA2S_e0v_ls_e, fun f n => bif Nat.beq f 34 && Nat.beq n 0 then 1 else bif Nat.beq f 95 && Nat.beq n 0 then 1 else 0, fun n => Nat.beq n 2, [(8, 0), (8, 1), (8, 2), (8, 3), (12, 0), (12, 1), (12, 2), (12, 3)], []⟩
noncomputable def c51 : Code := bodyOf Try.f51
noncomputable def laws_markSpace_tp0f0sv_bp21_A : Ann := .nil
noncomputable def laws_markSpace_tp0f0sv_bp21_D : Ve.Fn := ⟨51, laws_markSpace_tp0f0sv_bp21_a, laws_markSpace_tp0f0sv_bp21_o, laws_markSpace_tp0f0sv_bp21_E, laws_markSpace_tp0f0sv_bp21⟩
theorem laws_markSpace_tp0f0sv_bp21_w : Walk Try.prog laws_markSpace_tp0f0sv_bp21_x laws_markSpace_tp0f0sv_bp21_D Try.f51 c51 14 laws_markSpace_tp0f0sv_bp21_A :=
  ⟨⟨Try.func51, by kernel_rfl, by kernel_rfl, by kernel_rfl, by decide, by kernel_rfl, Nat.le_of_ble_eq_true (by kernel_rfl)⟩, by kernel_rfl, by kernel_rfl, by kernel_rfl, kcast (by kernel_rfl) trivial, by kernel_rfl, fun x y => by kernel_rfl⟩
theorem laws_markSpace_tp0f0sv_bp21_s : laws_markSpace_tp0f0sv_bp21_D.Says Try.prog := laws_markSpace_tp0f0sv_bp21_w.says follows tabOk laws_markIntA2S_e0v_ls_e_ok
noncomputable def laws_markSpace_tp0f0sv_bp21_e : Env := more laws_markIntA2S_e0v_ls_e laws_markSpace_tp0f0sv_bp21_D
theorem laws_markSpace_tp0f0sv_bp21_e_ok : EnvOk Try.prog laws_markSpace_tp0f0sv_bp21_e := more_ok laws_markIntA2S_e0v_ls_e_ok laws_markSpace_tp0f0sv_bp21_s
/-! loop.example/g01128/laws.heldIntS -/
abbrev laws_heldIntS_J0 : Tpl := ⟨[(0, .val (.list I)), (1, .val I), (5, .val I)], [], []⟩
abbrev laws_heldIntS_J1 : Tpl := ⟨[(4, .val I)], [], []⟩
abbrev laws_heldIntS_J2 : Tpl := ⟨[(1, .val I)], [], []⟩
abbrev laws_heldIntS_E : Ve.End := ⟨[⟨4, .shr, I, none⟩], []⟩
abbrev laws_heldIntS_a : List ASh := [.val (.list I), .val I]
abbrev laws_heldIntS_o : List OSh := []
abbrev laws_heldIntS_O0 : Out := .or .ret laws_heldIntS_J1 (.one (.ex 0) laws_heldIntS_J2)
noncomputable def laws_heldIntS_B0 : laws_heldIntS_J0.P → Option (laws_heldIntS_J0.P ⊕ laws_heldIntS_O0.P)
  | ((a, k, i, ()), ()) => bif (decide (i < (List.length a : Int))) then (guardB (inb i (List.length a)) (bif ((List.getD a (Int.toNat i) (0 : Int)) != k) then (some (.inr (.inl (((-1 : Int), ()), ())))) else (some (.inl ((a, (w64 (k + (1 : Int))), (w64 (i + (1 : Int))), ()), ()))))) else (some (.inr (.inr ((k, ()), ()))))
noncomputable def laws_heldIntS : argP laws_heldIntS_a → obP (extObs 0 laws_heldIntS_o) → Option laws_heldIntS_E.P
  | (a, k, ()), () => match loopO laws_heldIntS_B0 ((a, k, (0 : Int), ()), ()) with | some (.inl ((t4, ()), ())) => some ((t4, ()), ()) | some (.inr ((k2, ()), ())) => some ((k2, ()), ()) | none => none
noncomputable def laws_heldIntS_x : Cx := ⟨tab, laws_markSpace_tp0f0sv_bp21_e, fun _ _ => 0, fun _ => false, [], []⟩
noncomputable def c28 : Code := bodyOf Try.f28
noncomputable def laws_heldIntS_A : Ann := .seq .nil (.seq (.seq .nil (.loop laws_heldIntS_J0 laws_heldIntS_O0 laws_heldIntS_B0 .nil)) .nil)
theorem laws_heldIntS_r0 (p : laws_heldIntS_J0.P) : run laws_heldIntS_x (subc [1, 0, 1, 0, 0] c28) .nil (laws_heldIntS_J0.S p) (leaf laws_heldIntS_J0 laws_heldIntS_O0) = laws_heldIntS_B0 p := by kernel_rfl
noncomputable def laws_heldIntS_D : Ve.Fn := ⟨28, laws_heldIntS_a, laws_heldIntS_o, laws_heldIntS_E, laws_heldIntS⟩
theorem laws_heldIntS_w : Walk Try.prog laws_heldIntS_x laws_heldIntS_D Try.f28 c28 21 laws_heldIntS_A :=
  ⟨⟨Try.func28, by kernel_rfl, by kernel_rfl, by kernel_rfl, by decide, by kernel_rfl, Nat.le_of_ble_eq_true (by kernel_rfl)⟩, by kernel_rfl, by kernel_rfl, by kernel_rfl, kcast (by kernel_rfl) (⟨laws_heldIntS_r0, trivial⟩ : (∀ p, run laws_heldIntS_x (subc [1, 0, 1, 0, 0] c28) .nil (laws_heldIntS_J0.S p) (leaf laws_heldIntS_J0 laws_heldIntS_O0) = laws_heldIntS_B0 p) ∧ True), by kernel_rfl, fun x y => by kernel_rfl⟩
theorem laws_heldIntS_s : laws_heldIntS_D.Says Try.prog := laws_heldIntS_w.says follows tabOk laws_markSpace_tp0f0sv_bp21_e_ok
noncomputable def laws_heldIntS_e : Env := more laws_markSpace_tp0f0sv_bp21_e laws_heldIntS_D
theorem laws_heldIntS_e_ok : EnvOk Try.prog laws_heldIntS_e := more_ok laws_markSpace_tp0f0sv_bp21_e_ok laws_heldIntS_s
/-! loop.example/g01128/laws.heldIntSS -/
abbrev laws_heldIntSS_J0 : Tpl := ⟨[(0, .val (.list (.list I))), (1, .val I), (5, .val I)], [], []⟩
abbrev laws_heldIntSS_J1 : Tpl := ⟨[(4, .val I)], [], []⟩
abbrev laws_heldIntSS_J2 : Tpl := ⟨[(1, .val I)], [], []⟩
abbrev laws_heldIntSS_E : Ve.End := ⟨[⟨4, .shr, I, none⟩], []⟩
abbrev laws_heldIntSS_a : List ASh := [.val (.list (.list I)), .val I]
abbrev laws_heldIntSS_o : List OSh := []
abbrev laws_heldIntSS_O0 : Out := .or .ret laws_heldIntSS_J1 (.one (.ex 0) laws_heldIntSS_J2)
noncomputable def laws_heldIntSS_B0 : laws_heldIntSS_J0.P → Option (laws_heldIntSS_J0.P ⊕ laws_heldIntSS_O0.P)
  | ((a, k, i, ()), ()) => bif (decide (i < (List.length a : Int))) then (guardB (inb i (List.length a)) (match laws_heldIntS ((List.getD a (Int.toNat i) ([] : (List Int))), k, ()) () with | some ((r, ()), ()) => (bif (decide (r < (0 : Int))) then (some (.inr (.inl (((-1 : Int), ()), ())))) else (some (.inl ((a, r, (w64 (i + (1 : Int))), ()), ())))) | none => none)) else (some (.inr (.inr ((k, ()), ()))))
noncomputable def laws_heldIntSS : argP laws_heldIntSS_a → obP (extObs 0 laws_heldIntSS_o) → Option laws_heldIntSS_E.P
  | (a, k, ()), () => match loopO laws_heldIntSS_B0 ((a, k, (0 : Int), ()), ()) with | some (.inl ((t4, ()), ())) => some ((t4, ()), ()) | some (.inr ((k2, ()), ())) => some ((k2, ()), ()) | none => none
noncomputable def laws_heldIntSS_x : Cx := ⟨tab, laws_heldIntS_e, fun _ _ => 0, fun _ => false, [(17, 0), (17, 1), (17, 2), (17, 3)], []⟩
noncomputable def c96 : Code := bodyOf Try.f96
noncomputable def laws_heldIntSS_A : Ann := .seq .nil (.seq (.seq .nil (.loop laws_heldIntSS_J0 laws_heldIntSS_O0 laws_heldIntSS_B0 .nil)) .nil)
theorem laws_heldIntSS_r0 (p : laws_heldIntSS_J0.P) : run laws_heldIntSS_x (subc [1, 0, 1, 0, 0] c96) .nil (laws_heldIntSS_J0.S p) (leaf laws_heldIntSS_J0 laws_heldIntSS_O0) = laws_heldIntSS_B0 p := by kernel_rfl
noncomputable def laws_heldIntSS_D : Ve.Fn := ⟨96, laws_heldIntSS_a, laws_heldIntSS_o, laws_heldIntSS_E, laws_heldIntSS⟩
theorem laws_heldIntSS_w : Walk Try.prog laws_heldIntSS_x laws_heldIntSS_D Try.f96 c96 21 laws_heldIntSS_A :=
  ⟨⟨Try.func96, by kernel_rfl, by kernel_rfl, by kernel_rfl, by decide, by kernel_rfl, Nat.le_of_ble_eq_true (by kernel_rfl)⟩, by kernel_rfl, by kernel_rfl, by kernel_rfl, kcast (by kernel_rfl) (⟨laws_heldIntSS_r0, trivial⟩ : (∀ p, run laws_heldIntSS_x (subc [1, 0, 1, 0, 0] c96) .nil (laws_heldIntSS_J0.S p) (leaf laws_heldIntSS_J0 laws_heldIntSS_O0) = laws_heldIntSS_B0 p) ∧ True), by kernel_rfl, fun x y => by kernel_rfl⟩
theorem laws_heldIntSS_s : laws_heldIntSS_D.Says Try.prog := laws_heldIntSS_w.says follows tabOk laws_heldIntS_e_ok
noncomputable def laws_heldIntSS_e : Env := more laws_heldIntS_e laws_heldIntSS_D
theorem laws_heldIntSS_e_ok : EnvOk Try.prog laws_heldIntSS_e := more_ok laws_heldIntS_e_ok laws_heldIntSS_s
/-! loop.example/g01128/laws.heldIntA2S -/
abbrev laws_heldIntA2S_J0 : Tpl := ⟨[(0, .val (.list (.prod I I))), (1, .val I), (5, .val I), (6, .val I)], [], []⟩
abbrev laws_heldIntA2S_J1 : Tpl := ⟨[(4, .val I)], [], []⟩
abbrev laws_heldIntA2S_J2 : Tpl := ⟨[(0, .val (.list (.prod I I))), (1, .val I), (5, .val I)], [], []⟩
abbrev laws_heldIntA2S_J3 : Tpl := ⟨[(1, .val I)], [], []⟩
abbrev laws_heldIntA2S_E : Ve.End := ⟨[⟨4, .shr, I, none⟩], []⟩
abbrev laws_heldIntA2S_a : List ASh := [.val (.list (.prod I I)), .val I]
abbrev laws_heldIntA2S_o : List OSh := []
abbrev laws_heldIntA2S_O0 : Out := .or .ret laws_heldIntA2S_J1 (.one (.ex 2) laws_heldIntA2S_J2)
noncomputable def laws_heldIntA2S_B0 : laws_heldIntA2S_J0.P → Option (laws_heldIntA2S_J0.P ⊕ laws_heldIntA2S_O0.P)
  | ((a, k, i, j, ()), ()) => bif (decide (j < (2 : Int))) then (guardB (inb i (List.length a)) (guardB (decide (0 ≤ j) && decide (j < 2)) (bif ((bif Nat.beq (Int.toNat j) 0 then (List.getD a (Int.toNat i) ((0 : Int), (0 : Int))).1 else (List.getD a (Int.toNat i) ((0 : Int), (0 : Int))).2) != k) then (some (.inr (.inl (((-1 : Int), ()), ())))) else (some (.inl ((a, (w64 (k + (1 : Int))), i, (w64 (j + (1 : Int))), ()), ())))))) else (some (.inr (.inr ((a, k, i, ()), ()))))
abbrev laws_heldIntA2S_O1 : Out := .or .ret laws_heldIntA2S_J1 (.one (.ex 0) laws_heldIntA2S_J3)
noncomputable def laws_heldIntA2S_B1 : laws_heldIntA2S_J2.P → Option (laws_heldIntA2S_J2.P ⊕ laws_heldIntA2S_O1.P)
  | ((a, k, i, ()), ()) => bif (decide (i < (List.length a : Int))) then (match loopO laws_heldIntA2S_B0 ((a, k, i, (0 : Int), ()), ()) with | some (.inl ((t4, ()), ())) => some (.inr (.inl ((t4, ()), ()))) | some (.inr ((a2, k2, i2, ()), ())) => some (.inl ((a2, k2, (w64 (i2 + (1 : Int))), ()), ())) | none => none) else (some (.inr (.inr ((k, ()), ()))))
noncomputable def laws_heldIntA2S : argP laws_heldIntA2S_a → obP (extObs 0 laws_heldIntA2S_o) → Option laws_heldIntA2S_E.P
  | (a, k, ()), () => match loopO laws_heldIntA2S_B1 ((a, k, (0 : Int), ()), ()) with | some (.inl ((t4, ()), ())) => some ((t4, ()), ()) | some (.inr ((k2, ()), ())) => some ((k2, ()), ()) | none => none
noncomputable def laws_heldIntA2S_x : Cx := ⟨tab, laws_heldIntSS_e, fun _ _ => 0, fun _ => false, [], []⟩
noncomputable def c35 : Code := bodyOf Try.f35
noncomputable def laws_heldIntA2S_A : Ann := .seq .nil (.seq (.seq .nil (.loop laws_heldIntA2S_J2 laws_heldIntA2S_O1 laws_heldIntA2S_B1 (.seq .nil (.seq (.seq .nil (.loop laws_heldIntA2S_J0 laws_heldIntA2S_O0 laws_heldIntA2S_B0 .nil)) .nil)))) .nil)
theorem laws_heldIntA2S_r0 (p : laws_heldIntA2S_J2.P) : run laws_heldIntA2S_x (subc [1, 0, 1, 0, 0] c35) (.seq .nil (.seq (.seq .nil (.loop laws_heldIntA2S_J0 laws_heldIntA2S_O0 laws_heldIntA2S_B0 .nil)) .nil)) (laws_heldIntA2S_J2.S p) (leaf laws_heldIntA2S_J2 laws_heldIntA2S_O1) = laws_heldIntA2S_B1 p := by kernel_rfl
theorem laws_heldIntA2S_r1 (p : laws_heldIntA2S_J0.P) : run laws_heldIntA2S_x (subc [1, 0, 1, 0, 0, 1, 0, 0, 1, 0, 0] c35) .nil (laws_heldIntA2S_J0.S p) (leaf laws_heldIntA2S_J0 laws_heldIntA2S_O0) = laws_heldIntA2S_B0 p := by kernel_rfl
noncomputable def laws_heldIntA2S_D : Ve.Fn := ⟨35, laws_heldIntA2S_a, laws_heldIntA2S_o, laws_heldIntA2S_E, laws_heldIntA2S⟩
theorem laws_heldIntA2S_w : Walk Try.prog laws_heldIntA2S_x laws_heldIntA2S_D Try.f35 c35 28 laws_heldIntA2S_A :=
  ⟨⟨Try.func35, by kernel_rfl, by kernel_rfl, by kernel_rfl, by decide, by kernel_rfl, Nat.le_of_ble_eq_true (by kernel_rfl)⟩, by kernel_rfl, by kernel_rfl, by kernel_rfl, kcast (by kernel_rfl) (⟨laws_heldIntA2S_r0, laws_heldIntA2S_r1, trivial⟩ : (∀ p, run laws_heldIntA2S_x (subc [1, 0, 1, 0, 0] c35) (.seq .nil (.seq (.seq .nil (.loop laws_heldIntA2S_J0 laws_heldIntA2S_O0 laws_heldIntA2S_B0 .nil)) .nil)) (laws_heldIntA2S_J2.S p) (leaf laws_heldIntA2S_J2 laws_heldIntA2S_O1) = laws_heldIntA2S_B1 p) ∧ (∀ p, run laws_heldIntA2S_x (subc [1, 0, 1, 0, 0, 1, 0, 0, 1, 0, 0] c35) .nil (laws_heldIntA2S_J0.S p) (leaf laws_heldIntA2S_J0 laws_heldIntA2S_O0) = laws_heldIntA2S_B0 p) ∧ True), by kernel_rfl, fun x y => by kernel_rfl⟩
theorem laws_heldIntA2S_s : laws_heldIntA2S_D.Says Try.prog := laws_heldIntA2S_w.says follows tabOk laws_heldIntSS_e_ok
noncomputable def laws_heldIntA2S_e : Env := more laws_heldIntSS_e laws_heldIntA2S_D
theorem laws_heldIntA2S_e_ok : EnvOk Try.prog laws_heldIntA2S_e := more_ok laws_heldIntSS_e_ok laws_heldIntA2S_s
/-! loop.example/g01128/laws.heldSpace -/
abbrev laws_heldSpace_E : Ve.End := ⟨[⟨4, .shr, I, none⟩], []⟩
abbrev laws_heldSpace_a : List ASh := [.val (.prod (.list (.list I)) (.list (.prod I I))), .val I]
abbrev laws_heldSpace_o : List OSh := []
noncomputable def laws_heldSpace : argP laws_heldSpace_a → obP (extObs 0 laws_heldSpace_o) → Option laws_heldSpace_E.P
  | (a, k, ()), () => match laws_heldIntSS (a.1, k, ()) () with | some ((r, ()), ()) => (bif (decide (r < (0 : Int))) then (some (((-1 : Int), ()), ())) else (match laws_heldIntA2S (a.2, r, ()) () with | some ((r2, ()), ()) => (bif (decide (r2 < (0 : Int))) then (some (((-1 : Int), ()), ())) else (some ((r2, ()), ()))) | none => none)) | none => none
noncomputable def laws_heldSpace_x : Cx := ⟨tab, laws_heldIntA2S_e, fun _ _ => 0, fun _ => false, [(8, 0), (8, 1), (8, 2), (8, 3), (14, 0), (14, 1), (14, 2), (14, 3)], [(2, 0)]⟩
noncomputable def c52 : Code := bodyOf Try.f52
noncomputable def laws_heldSpace_A : Ann := .nil
noncomputable def laws_heldSpace_D : Ve.Fn := ⟨52, laws_heldSpace_a, laws_heldSpace_o, laws_heldSpace_E, laws_heldSpace⟩
theorem laws_heldSpace_w : Walk Try.prog laws_heldSpace_x laws_heldSpace_D Try.f52 c52 18 laws_heldSpace_A :=
  ⟨⟨Try.func52, by kernel_rfl, by kernel_rfl, by kernel_rfl, by decide, by kernel_rfl, Nat.le_of_ble_eq_true (by kernel_rfl)⟩, by kernel_rfl, by kernel_rfl, by kernel_rfl, kcast (by kernel_rfl) trivial, by kernel_rfl, fun x y => by kernel_rfl⟩
theorem laws_heldSpace_s : laws_heldSpace_D.Says Try.prog := laws_heldSpace_w.says follows tabOk laws_heldIntA2S_e_ok
noncomputable def laws_heldSpace_e : Env := more laws_heldIntA2S_e laws_heldSpace_D
theorem laws_heldSpace_e_ok : EnvOk Try.prog laws_heldSpace_e := more_ok laws_heldIntA2S_e_ok laws_heldSpace_s
/-! loop.example/g01128/laws.FnExactLevelSpace -/
abbrev laws_FnExactLevelSpace_J0 : Tpl := ⟨[(1, .val (.list I)), (2, .val I), (3, .cst (.prod (.list (.list I)) (.list (.prod I I)))), (8, .cst (.prod (.list (.list I)) (.list (.prod I I)))), (9, .val .bool), (10, .ptr (10, 0)), (11, .own .shr I), (12, .ptr (12, 0)), (13, .val .bool), (60, .val .bool)], [((10, 0), .box (.prod (.own (.own .shr)) (.own .shr)) (.prod (.list (.list I)) (.list (.prod I I)))), ((12, 0), .box (.prod (.own (.own .shr)) (.own .shr)) (.prod (.list (.list I)) (.list (.prod I I))))], []⟩
abbrev laws_FnExactLevelSpace_J1 : Tpl := ⟨[(1, .val (.list I)), (2, .val I), (3, .cst (.prod (.list (.list I)) (.list (.prod I I)))), (8, .cst (.prod (.list (.list I)) (.list (.prod I I)))), (9, .val .bool), (10, .ptr (10, 0)), (11, .own .shr I), (12, .ptr (12, 0)), (13, .val .bool), (57, .val (.prod (.list (.list I)) (.list (.prod I I))))], [((10, 0), .box (.prod (.own (.own .shr)) (.own .shr)) (.prod (.list (.list I)) (.list (.prod I I)))), ((12, 0), .box (.prod (.own (.own .shr)) (.own .shr)) (.prod (.list (.list I)) (.list (.prod I I))))], []⟩
abbrev laws_FnExactLevelSpace_E : Ve.End := ⟨[⟨6, .shr, .bool, none⟩], []⟩
abbrev laws_FnExactLevelSpace_a : List ASh := [.val (.prod (.list (.list I)) (.list (.prod I I))), .val (.list I), .val I]
abbrev laws_FnExactLevelSpace_o : List OSh := []
noncomputable def laws_FnExactLevelSpace_D0 : laws_FnExactLevelSpace_J1.P → Option laws_FnExactLevelSpace_J0.P
  | ((t1, t2, t3, t8, t9, t11, t13, t57, ()), (t10, t12, ())) => match laws_toSpace (t57, ()) () with | some ((r, ()), ()) => (match laws_eqSpace ((t10.1, t10.2), (r.1, r.2), ()) () with | some ((r2, ()), ()) => some ((t1, t2, t3, t8, t9, t11, t13, (!r2), ()), (t10, t12, ())) | none => none) | none => none
noncomputable def laws_FnExactLevelSpace_T0 : DT laws_FnExactLevelSpace_J0 := .node laws_FnExactLevelSpace_J1 laws_FnExactLevelSpace_D0 (.br [(0, .sole), (2, .sole), (3, .sole), (4, .flo)] .fin (.br [(2, .sole), (0, .qui), (3, .sole), (4, .flo)] .fin .nobr))
noncomputable def laws_FnExactLevelSpace : argP laws_FnExactLevelSpace_a → obP (extObs 0 laws_FnExactLevelSpace_o) → Option laws_FnExactLevelSpace_E.P
  | (t0, t1, t2, ()), () => bif (decide ((1048576 : Int) < (List.length t1 : Int))) then (some ((true, ()), ())) else (match laws_szSpace (t0, (1048576 : Int), ()) () with | some ((r, ()), ()) => (bif (decide (r < (0 : Int))) then (some ((true, ()), ())) else (match laws_toSpace (t0, ()) () with | some ((r2, ()), ()) => (match laws_toIntS (t1, ()) () with | some ((r3, ()), ()) => (match spec_LevelSpace ((r2.1, r2.2), r3, t2, ()) () with | some ((r4, r5, ()), ()) => (match laws_toSpace (t0, ()) () with | some ((r6, ()), ()) => (match laws_toIntS (t1, ()) () with | some ((r7, ()), ()) => (match impl_LevelSpace ((r6.1, r6.2), r7, t2, ()) () with | some ((r8, r9, ()), ()) => (match laws_eqSpace ((r8.1, r8.2), (r4.1, r4.2), ()) () with | some ((r10, ()), ()) => (bif (!r10) then (some ((false, ()), ())) else (bif (!(r9 == r5)) then (some ((false, ()), ())) else (match laws_FnExactLevelSpace_D0 ((t1, t2, t0, (r4.1, r4.2), r5, r7, r9, t0, ()), ((r6.1, r6.2), (r8.1, r8.2), ())) with | some ((t1_2, t2_2, t3, t8, t9, t11, t13, t60, ()), (t10, t12, ())) => (bif t60 then (some ((false, ()), ())) else (match laws_toIntS (t1_2, ()) () with | some ((r11, ()), ()) => (match laws_eqIntS (t11, r11, ()) () with | some ((r12, ()), ()) => (bif (!r12) then (some ((false, ()), ())) else (match laws_markSpace_tp0f0sv_bp21 (((), ()), (1 : Int), ()) (t10, ()) with | some ((r13, ()), (o, ())) => (match laws_markIntS_e0v_ls (r13, ()) (t11, ()) with | some ((r14, ()), (o2, ())) => (bif (decide (r14 < (0 : Int))) then (some ((false, ()), ())) else (match laws_eqSpace ((t12.1, t12.2), t8, ()) () with | some ((r15, ()), ()) => (bif (!r15) then (some ((false, ()), ())) else (bif (!(t13 == t9)) then (some ((false, ()), ())) else (match laws_markSpace_tp0f0sv_bp21 (((), ()), (1 : Int), ()) (t12, ()) with | some ((r16, ()), (o3, ())) => (match laws_heldSpace ((o3.1, o3.2), (1 : Int), ()) () with | some ((r17, ()), ()) => (bif (decide (r17 < (0 : Int))) then (some ((false, ()), ())) else (bif (r17 != r16) then (some ((false, ()), ())) else (match laws_toSpace (t3, ()) () with | some ((r18, ()), ()) => (match laws_toIntS (t1_2, ()) () with | some ((r19, ()), ()) => (match impl_LevelSpace ((r18.1, r18.2), r19, t2_2, ()) () with | some ((r20, r21, ()), ()) => (match laws_eqSpace ((r20.1, r20.2), t8, ()) () with | some ((r22, ()), ()) => (bif (!r22) then (some ((false, ()), ())) else (bif (!(r21 == t9)) then (some ((false, ()), ())) else (match laws_heldSpace ((o3.1, o3.2), (1 : Int), ()) () with | some ((r23, ()), ()) => (bif (decide (r23 < (0 : Int))) then (some ((false, ()), ())) else (bif (r23 != r16) then (some ((false, ()), ())) else (some ((true, ()), ())))) | none => none))) | none => none) | none => none) | none => none) | none => none))) | none => none) | none => none))) | none => none)) | none => none) | none => none)) | none => none) | none => none)) | none => none))) | none => none) | none => none) | none => none) | none => none) | none => none) | none => none) | none => none)) | none => none)
noncomputable def laws_FnExactLevelSpace_x : Cx := ⟨tab, laws_heldSpace_e, fun f n => bif Nat.beq f 27 && Nat.beq n 0 then 1 else bif Nat.beq f 51 && Nat.beq n 0 then 1 else 0, fun _ => false, [(24, 0), (24, 1), (24, 2), (24, 3), (29, 0), (29, 1), (29, 2), (29, 3), (31, 0), (31, 1), (31, 2), (31, 3), (49, 0), (49, 1), (49, 2), (49, 3), (58, 0), (58, 1), (58, 2), (58, 3), (59, 0), (59, 1), (59, 2), (59, 3), (63, 0), (63, 1), (63, 2), (63, 3), (64, 0), (64, 1), (64, 2), (64, 3), (68, 0), (68, 1), (68, 2), (68, 3), (71, 0), (71, 1), (71, 2), (71, 3), (77, 0), (77, 1), (77, 2), (77, 3), (87, 0), (87, 1), (87, 2), (87, 3), (90, 0), (90, 1), (90, 2), (90, 3), (98, 0), (98, 1), (98, 2), (98, 3), (100, 0), (100, 1), (100, 2), (100, 3), (107, 0), (107, 1), (107, 2), (107, 3), (116, 0), (116, 1), (116, 2), (116, 3)], [(3, 0), (8, 0), (17, 0)]⟩
noncomputable def c13 : Code := bodyOf Try.f13
noncomputable def laws_FnExactLevelSpace_A : Ann := .seq .nil (.seq .nil (.seq .nil (.seq .nil (.seq .nil (.seq .nil (.seq .nil (.seq .nil (.seq .nil (.seq .nil (.seq (.seq (.draws [(1, .flo)] laws_FnExactLevelSpace_J0 laws_FnExactLevelSpace_T0) .nil) .nil))))))))))
theorem laws_FnExactLevelSpace_D0b0 (p : laws_FnExactLevelSpace_J1.P) : runDrawn laws_FnExactLevelSpace_x (opsOf (subc [1, 1, 1, 1, 1, 1, 1, 1, 1, 1, 0, 0] c13)) [(0, .sole), (2, .sole), (3, .sole), (4, .flo)] (laws_FnExactLevelSpace_J1.S p) (endT laws_FnExactLevelSpace_x (.fin : DT laws_FnExactLevelSpace_J0)) = laws_FnExactLevelSpace_D0 p := by kernel_rfl
theorem laws_FnExactLevelSpace_D0b1 (p : laws_FnExactLevelSpace_J1.P) : runDrawn laws_FnExactLevelSpace_x (opsOf (subc [1, 1, 1, 1, 1, 1, 1, 1, 1, 1, 0, 0] c13)) [(2, .sole), (0, .qui), (3, .sole), (4, .flo)] (laws_FnExactLevelSpace_J1.S p) (endT laws_FnExactLevelSpace_x (.fin : DT laws_FnExactLevelSpace_J0)) = laws_FnExactLevelSpace_D0 p := by kernel_rfl
noncomputable def laws_FnExactLevelSpace_D : Ve.Fn := ⟨13, laws_FnExactLevelSpace_a, laws_FnExactLevelSpace_o, laws_FnExactLevelSpace_E, laws_FnExactLevelSpace⟩
theorem laws_FnExactLevelSpace_w : Walk Try.prog laws_FnExactLevelSpace_x laws_FnExactLevelSpace_D Try.f13 c13 122 laws_FnExactLevelSpace_A :=
  ⟨⟨Try.func13, by kernel_rfl, by kernel_rfl, by kernel_rfl, by decide, by kernel_rfl, Nat.le_of_ble_eq_true (by kernel_rfl)⟩, by kernel_rfl, by kernel_rfl, by kernel_rfl, kcast (by kernel_rfl) (⟨laws_FnExactLevelSpace_D0b0, laws_FnExactLevelSpace_D0b1, trivial⟩ : (∀ p, runDrawn laws_FnExactLevelSpace_x (opsOf (subc [1, 1, 1, 1, 1, 1, 1, 1, 1, 1, 0, 0] c13)) [(0, .sole), (2, .sole), (3, .sole), (4, .flo)] (laws_FnExactLevelSpace_J1.S p) (endT laws_FnExactLevelSpace_x (.fin : DT laws_FnExactLevelSpace_J0)) = laws_FnExactLevelSpace_D0 p) ∧ (∀ p, runDrawn laws_FnExactLevelSpace_x (opsOf (subc [1, 1, 1, 1, 1, 1, 1, 1, 1, 1, 0, 0] c13)) [(2, .sole), (0, .qui), (3, .sole), (4, .flo)] (laws_FnExactLevelSpace_J1.S p) (endT laws_FnExactLevelSpace_x (.fin : DT laws_FnExactLevelSpace_J0)) = laws_FnExactLevelSpace_D0 p) ∧ True), by kernel_rfl, fun x y => by kernel_rfl⟩
theorem laws_FnExactLevelSpace_s : laws_FnExactLevelSpace_D.Says Try.prog := laws_FnExactLevelSpace_w.says follows tabOk laws_heldSpace_e_ok
noncomputable def laws_FnExactLevelSpace_e : Env := more laws_heldSpace_e laws_FnExactLevelSpace_D
theorem laws_FnExactLevelSpace_e_ok : EnvOk Try.prog laws_FnExactLevelSpace_e := more_ok laws_heldSpace_e_ok laws_FnExactLevelSpace_s
end Go.Proofs.Ytiiaadgibkpaaaa.V
